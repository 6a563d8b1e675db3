import PyProof.Rows.All
import Wide.All
import OpenK.AllK
import Wide.FinOn
import HandS.ForMost
import HandS.ForExc
import HandS.Walk
import HandS.HeadHook4
import KE.KDictKeyed
import HandS.Lambda
import HandS.ExcCtx
import HandS.NoneIn
import HandS.Property
import HandS.MakeKwOnly
import HandS.ClsMeth
import HandS.Wide
import HandS.IsInst
import HandS.TupAny
import HandS.TupMul
import HandS.Deep
import HandS.RaiseMore
import KE.KTupSum
import HandS.Zip
import KE.GoesEnum
import KE.GoesMore
import KE.KTurns
import HandS.Style
import KE.KStateDown
import HandS.Head0
import HandS.Head1
import HandS.Head2
import HandS.HeadEnd
import HandS.ExcInit
import HandS.ExcField
import HandS.Words
import HandS.HeadWalk
import KE.KTryMore
import KE.KIsAll
import OpenK.KWalk
import HandS.Strs
import HandS.Conv
import KE.KDictWalk
import KE.DataMinMax
import KE.KDictList
import KE.KDictCopyH
import HandS.SetFor
import HandS.SetBool
import HandS.TupSets
import KE.KDictDisplayH
import KE.SortData
import KE.KCallOwn
import PyProof.InstNe
import HandS.Text
import KE.KIntText
import PyProof.Conv_bool
import PyProof.StrLawsRepr
import HandS.Call
import PyProof.NeKinds
import PyProof.ListStr
import HandS.DictSubView0
import PyProof.Rows.StrOr
import PyProof.ReprRoads
import HandS.ExcIs
import KE.DataFind
import PyProof.ExcBaseAll.LookupError
import PyProof.ExcBaseAll.ArithmeticError
import KE.SortKeyHeap
import OpenK.KMeth
import KE.KOpsOwn
import HandS.ListItems
import HandS.More
import KE.KDictPairs
import KE.KEqDict
import HandS.FStr
import HandS.WideBits
import PyProof.TupleOfStr
import HandS.Hot
import PySem.Challenge.RW_alwaysagree_k04_ways_refused
set_option Elab.async false
set_option linter.all false
set_option maxRecDepth 100000
set_option maxHeartbeats 0
namespace Ag
open PySem PySem.Spec PyProof.Rows L2
/-! ### keys: whole numbers, tuples of them, tuples of such tuples -/
mutual
def hashI : NestedKey → Int
  | .num i => hashInt i
  | .tup ks => reduceHash (Builtin.Tuple.tupleHashOf (hashIs ks))
  | _ => 0
def hashIs : List NestedKey → List Int
  | [] => []
  | k :: ks => hashI k :: hashIs ks
end
mutual
def numK : NestedKey → Bool
  | .num _ => true
  | .tup ks => numKs ks
  | _ => false
def numKs : List NestedKey → Bool
  | [] => true
  | k :: ks => numK k && numKs ks
end
mutual
theorem hash_num (w : World) : ∀ k : NestedKey, numK k = true → k.hash w = hashI k
  | .num i, _ => rfl
  | .tup ks, h => by
    simp only [NestedKey.hash, hashI]
    rw [hash_nums w ks (by simpa only [numK] using h)]
  | .none, h => by simp [numK] at h
  | .text _, h => by simp [numK] at h
theorem hash_nums (w : World) : ∀ ks : List NestedKey, numKs ks = true → NestedKey.hashes w ks = hashIs ks
  | [], _ => rfl
  | k :: ks, h => by
    have h := Bool.and_eq_true_iff.mp (show (numK k && numKs ks) = true from h)
    simp only [NestedKey.hashes, hashIs]
    rw [hash_num w k h.1, hash_nums w ks h.2]
end
mutual
/-- the key k stands at v -/
inductive KeyH (K : PySem.W.Frag) (H : Hp) : NestedKey → V → Prop
  | num (i : Int) : KeyH K H (.num i) (.int i)
  | tup {a : Addr} {vs : List V} {ks : List NestedKey} : SqT K H a vs → KeyHs K H ks vs → KeyH K H (.tup ks) (.ref a)
inductive KeyHs (K : PySem.W.Frag) (H : Hp) : List NestedKey → List V → Prop
  | nil : KeyHs K H [] []
  | cons {k : NestedKey} {v : V} {ks : List NestedKey} {vs : List V} : KeyH K H k v → KeyHs K H ks vs → KeyHs K H (k :: ks) (v :: vs)
end
section
variable {X : Cx} {pins : List (Addr × Obj)} {σ : L2.St} {H : Hp} {s : Shared}
mutual
theorem key_is (I : L2.Inv X pins σ H s) : ∀ {k : NestedKey} {v : V} {u : Value}, KeyH X.K H k v → RelV v u → NestedIs s.heap k u
  | _, _, _, .num i, r => by
    obtain ⟨t, rfl⟩ := r
    exact .int i t
  | _, _, _, .tup (a := a) h g, r => by
    cases r
    obtain ⟨its, rv, ⟨o, ho, hc, n, hd⟩, _⟩ := I.tuple h
    exact .tup ho hc hd (by simpa using keys_are I g rv)
theorem keys_are (I : L2.Inv X pins σ H s) : ∀ {ks : List NestedKey} {vs : List V} {us : List Value}, KeyHs X.K H ks vs → Vals vs us → NestedAll s.heap ks us
  | _, _, _, .nil, .nil => .nil
  | _, _, _, .cons h g, .cons r q => .cons (key_is I h r) (keys_are I g q)
end
/-- the entries of the dict at a -/
def dicP (a : Addr) (o : Obj) (xs : List (NestedKey × Addr × Value)) (h : Heap) : Prop := (a == sysModules) = false ∧ h.get? a = some o ∧ ∃ es ep, o.ExactDict ∧ o.data = .dict es ep ∧ es.toList = xs.map fun x => (⟨hashI x.1, .ref x.2.1, x.2.2⟩ : DictEntry)
def DicO (a : Addr) (o : Obj) (xs : List (NestedKey × Addr × Value)) : HO := .ext (dicP a o xs)
theorem dicO_new {P : Program} {w : World} {h : Heap} {a : Addr} {o : Obj} {xs : List (NestedKey × Addr × Value)} (R : dicP a o xs h) : ObjOk P w H h a (DicO a o xs) := by
  exact ⟨R, ⟨o, R.2.1⟩, fun h1 h2 p k => ⟨p.1, k o p.2.1, p.2.2⟩⟩
/-- a dict is no code object -/
theorem dic_ne_code (a : Addr) (o : Obj) (xs : List (NestedKey × Addr × Value)) (q : Str) : DicO a o xs ≠ LamX.CodeO a q := by
  intro e
  unfold DicO LamX.CodeO at e
  have e1 := HO.ext.inj e
  have o1 : (⟨Array.replicate (a + 1) { cls := .none, data := .fields #[.none, .str q 0] }, {}⟩ : Heap).get? a = some { cls := .none, data := .fields #[.none, .str q 0] } := by
    simp [Heap.get?]
  have e2 := congrFun e1 (⟨Array.replicate (a + 1) { cls := .none, data := .fields #[.none, .str q 0] }, {}⟩ : Heap)
  have h : dicP a o xs (⟨Array.replicate (a + 1) { cls := .none, data := .fields #[.none, .str q 0] }, {}⟩ : Heap) := by
    rw [e2]
    exact ⟨_, _, 0, o1, rfl, rfl⟩
  obtain ⟨_, h1, es, ep, _, h2, _⟩ := h
  rw [o1] at h1
  cases h1
  cases h2
/-- an error's object -/
def ErO (a : Addr) (o : Obj) : HO := .ext fun h => h.get? a = some o
theorem erO_ok {P : Program} {w : World} {H : Hp} {h : Heap} {a : Addr} {o : Obj} (e : h.get? a = some o) : ObjOk P w H h a (ErO a o) := ⟨e, ⟨o, e⟩, fun h1 h2 p k => k o p⟩
/-- a lambda of a maker: its text, the names it holds, their places in the maker -/
structure LSyn where
  pr : Arguments
  bd : Expr
  sc : Scope
  ys : List Str
  cp : List Nat
theorem nfz {H : Hp} {a : Addr} {u : HO} (h : H a = some u) (n : ∀ x y, u ≠ HO.frz x y := by exact fun _ _ => nofun) : ∀ x y, H a ≠ some (HO.frz x y) := fun x y z => by
  rw [h] at z
  exact n x y (Option.some.inj z)
/-- what stands of the keys of a dict -/
structure Keyed (K : PySem.W.Frag) (H : Hp) (xs : List (NestedKey × Addr × Value)) : Prop where
  key : ∀ x ∈ xs, KeyH K H x.1 (.ref x.2.1) ∧ numK x.1 = true ∧ x.1.depth ≤ 8
  nd : (xs.map (·.1)).Nodup
/-- {} -/
def tDNew : TE := fun _ H Q => ∀ p o, H p = none → Q (.ref p) (upd H p (DicO p o []))
theorem pe_dnew {pos : Pos} : PE X (.Dict [] [] pos) tDNew := ⟨fun pins s σ H Q I h => by
  have R : dicP s.heap.objs.size { cls := .type "dict", data := .dict #[] } [] (s.heap.push { cls := .type "dict", data := .dict #[] }) := ⟨beq_eq_false_iff_ne.mpr (Ne.symm (Nat.ne_of_lt I.big)), Heap.get?_push_size _ rfl, #[], 0, ⟨rfl, rfl, rfl⟩, rfl, rfl⟩
  exact wpAny_Dict_empty ⟨.ref s.heap.objs.size, _, I.laid (t' := s.toks) (fun _ _ q => Heap.get?_push_of_some _ q) (Nat.le_refl _) (dicO_new R), rfl, h _ _ (I.hok.fresh (Nat.le_refl _))⟩⟩
end
end Ag

/-! Ag: plain data D, a store of cells, and how they stand in the layer's abstract heap. -/
namespace Ag
open PySem L2

inductive D where
  | non | bl (b : Bool) | int (i : Int) | str (x : Str) | ty (n : String) | gl (x : Str)
  | tup (l : List D) | lst (l : List D) | scr (l : List D) | ref (i : Nat) | obj (c : Str) (ns : List Str) (l : List D) | dct (l : List D)

inductive Ob where
  | lst (l : List D) | ins (c : Str) (ns : List Str) (l : List D) | dic (l : List D) | dik (l : List (Key × D)) | tab (P : Addr) (q : Str) | err (c : Str) (fs : List (Str × D)) | clo (k : Nat) (L : LSyn) (q : Str) (ds : List D) | fz
abbrev Sto := List Ob
abbrev En := List (Option D)

def D.isS : D → Bool
  | .str _ => true
  | _ => false
def D.isN : D → Bool
  | .str _ => true
  | .tup [.str _, .obj _ _ _] => true
  | _ => false
/-- a tuple of texts, or of texts with things, one at least: no dict stands in its object -/
def names : List D → Bool
  | [] => false
  | l => l.all D.isN
def NoD (H : Hp) (a : Addr) : Prop := ∃ o u, H a = some (.frz o u) ∧ o.dict = none
def optK (f : D → Option NestedKey) : List D → Option (List NestedKey)
  | [] => some []
  | d :: l => (f d).bind fun k => (optK f l).map (k :: ·)
/-- a key of a dict -/
def keyF : Nat → D → Option NestedKey
  | _, .int i => some (.num i)
  | f + 1, .tup l => (optK (keyF f) l).map .tup
  | _, _ => none
def keyD (d : D) : Option NestedKey := keyF 4 d
/-- the cells' addresses, and addresses that no value may name -/
structure Mp where
  c : List Addr
  h : List Addr
def Off (m : Mp) (a : Addr) : Prop := a ∉ m.c ∧ a ∉ m.h
section
variable (K : PySem.W.Frag)
mutual
inductive Rep (m : Mp) (H : Hp) : V → D → Prop
  | non : Rep m H .non .non
  | bl (b : Bool) : Rep m H (.bl b) (.bl b)
  | int (i : Int) : Rep m H (.int i) (.int i)
  | str (x : Str) : Rep m H (.str x) (.str x)
  | ty (n : String) : Rep m H (.ty n) (.ty n)
  | gl (x : Str) : Rep m H (.ref (He.ga K x)) (.gl x)
  | tup {a : Addr} {xs : List V} {ds : List D} : SqT K H a xs → (names ds = true → NoD H a) → Reps m H xs ds → Rep m H (.ref a) (.tup ds)
  | lst {a : Addr} {xs : List V} {ds : List D} : H a = some (.lst xs) → Off m a → Reps m H xs ds → Rep m H (.ref a) (.lst ds)
  | scr {a : Addr} {xs : List V} {ds : List D} : ((∃ o, H a = some (.frz o (.lst xs))) ∨ ∀ H', SqL K H' a xs) → Reps m H xs ds → Rep m H (.ref a) (.scr ds)
  | ref {a : Addr} {i : Nat} : m.c[i]? = some a → Rep m H (.ref a) (.ref i)
  | obj {a dx : Addr} {c : Str} {fs : List (Str × V)} {ns : List Str} {ds : List D} : H a = some (.ins (He.ga K c) dx fs) → Off m a → fs.map (·.1) = ns → Reps m H (fs.map (·.2)) ds → Rep m H (.ref a) (.obj c ns ds)
  | dct {a : Addr} {o : Obj} {l : List D} {xs : List (NestedKey × Addr × Value)} : H a = some (DicO a o xs) → Off m a → DicR m H l xs → (xs.map (·.1)).Nodup → Rep m H (.ref a) (.dct l)
/-- keys and values by turns, and the entries of a dict -/
inductive DicR (m : Mp) (H : Hp) : List D → List (NestedKey × Addr × Value) → Prop
  | nil : DicR m H [] []
  | cons {kd vd : D} {k : NestedKey} {b : Addr} {u : Value} {v : V} {l : List D} {xs : List (NestedKey × Addr × Value)} : keyD kd = some k → Rep m H (.ref b) kd → RelV v u → Rep m H v vd → DicR m H l xs → DicR m H (kd :: vd :: l) ((k, b, u) :: xs)
inductive Reps (m : Mp) (H : Hp) : List V → List D → Prop
  | nil : Reps m H [] []
  | cons {v : V} {vs : List V} {d : D} {ds : List D} : Rep m H v d → Reps m H vs ds → Reps m H (v :: vs) (d :: ds)
end

/-- a thing that does not change any more, by its object -/
def frzO (a : Addr) (o : Obj) : HO := .frz o (ErO a o)
/-- a variable's cell: its address, its object, the value in it -/
structure CelV where
  c : Addr
  o : Obj
  v : V
/-- what a function's closure cl holds for the names ys -/
structure CloV (ys : List Str) (cl : List (Str × Addr)) (l : List CelV) : Prop where
  len : l.length = ys.length
  at_ : ∀ (i : Nat) (y : Str), ys[i]? = some y → ∃ p, l[i]? = some p ∧ cl.lookup y = some p.c
  only : ∀ (y : Str) (c : Addr), cl.lookup y = some c → y ∈ ys
  nd : (l.map (·.c)).Nodup
  val : ∀ p ∈ l, ∃ u, p.o.data = .cell (some u) ∧ RelV p.v u
def ExR (m : Mp) (H : Hp) : Option Addr → List (Str × D) → Prop
  | none, fs => fs = []
  | some d, fs => ∃ vs : List (Str × V), H d = some (.xd vs) ∧ Off m d ∧ vs.map (·.1) = fs.map (·.1) ∧ Reps K m H (vs.map (·.2)) (fs.map (·.2))
def ObR (m : Mp) (H : Hp) (a : Addr) : Ob → Prop
  | .dic l => ∃ o xs, H a = some (DicO a o xs) ∧ DicR K m H l xs ∧ (xs.map (·.1)).Nodup
  | .dik l => ∃ kvs : List (Key × V), H a = some (.dK kvs) ∧ kvs.map (·.1) = l.map (·.1) ∧ Reps K m H (kvs.map (·.2)) (l.map (·.2))
  | .lst ds => ∃ vs, H a = some (.lst vs) ∧ Reps K m H vs ds
  | .ins c ns ds => ∃ dx fs, H a = some (.ins (He.ga K c) dx fs) ∧ fs.map (·.1) = ns ∧ Reps K m H (fs.map (·.2)) ds
  | .tab P q => a = P ∧ LamX.TabS H P q
  | .err c fs => ∃ o : Obj, H a = some (.frz o (ErO a o)) ∧ o.cls = .ref (He.ga K c) ∧ (∃ vs, o.data = .fields vs) ∧ PXN.CtxN o ∧ ExR K m H o.dict fs
  | .clo _ L q ds => ∃ (d : Addr) (pm ctv : Value) (cl : List (Str × Addr)) (l : List CelV), H a = some (frzO a (PySem.W.kla_obj "<lambda>" q L.pr L.bd L.sc cl pm d ctv)) ∧ H d = some (LamX.CodeO d q) ∧ CloV L.ys cl l ∧ (∀ p ∈ l, H p.c = some (frzO p.c p.o) ∧ Off m p.c) ∧ Reps K m H (l.map (·.v)) ds
  | .fz => ∃ o : Obj, H a = some (frzO a o) ∧ ∀ v, o.data ≠ .cell v

structure Sim (m : Mp) (S : Sto) (H : Hp) : Prop where
  len : m.c.length = S.length
  nd : m.c.Nodup
  cell : ∀ (i : Nat) (a : Addr) (o : Ob), m.c[i]? = some a → S[i]? = some o → ObR K m H a o
  hid : ∀ a ∈ m.h, ∃ o, H a = some o
  dis : ∀ a ∈ m.c, a ∉ m.h
end

structure Tr (m : Mp) (H : Hp) (m' : Mp) (H' : Hp) : Prop where
  pre : ∃ ex, m'.c = m.c ++ ex ∧ ∀ a ∈ ex, H a = none ∨ a ∈ m.h
  hid : ∀ a ∈ m'.h, a ∈ m.h ∨ H a = none
  keep : ∀ a o, H a = some o → Off m a → H' a = some o
  tup : ∀ a xs, H a = some (.tup xs) → H' a = some (.tup xs)
  frz : ∀ a o u, H a = some (.frz o u) → H' a = some (.frz o u)
  cod : ∀ a q, H a = some (LamX.CodeO a q) → H' a = some (LamX.CodeO a q)
structure Ext (m : Mp) (H : Hp) (m' : Mp) (H' : Hp) : Prop where
  pre : ∃ ex, m'.c = m.c ++ ex ∧ ∀ a ∈ ex, H a = none
  hs : m'.h = m.h
  trk : ∀ a o, H a = some o → ∃ o', H' a = some o'
  keep : ∀ a o, H a = some o → a ∉ m.c → H' a = some o
  tup : ∀ a xs, H a = some (.tup xs) → H' a = some (.tup xs)
  frz : ∀ a o u, H a = some (.frz o u) → H' a = some (.frz o u)
  cod : ∀ a q, H a = some (LamX.CodeO a q) → H' a = some (LamX.CodeO a q)
theorem Ext.tr {m m' : Mp} {H H' : Hp} (e : Ext m H m' H') : Tr m H m' H' := ⟨let ⟨ex, h1, h2⟩ := e.pre; ⟨ex, h1, fun a ha => .inl (h2 a ha)⟩, fun a h => .inl (by rw [← e.hs]; exact h), fun a o h n => e.keep a o h n.1, e.tup, e.frz, e.cod⟩
theorem Ext.refl {m : Mp} {H : Hp} : Ext m H m H := ⟨⟨[], by simp, by simp⟩, rfl, fun _ o h => ⟨o, h⟩, fun _ _ h _ => h, fun _ _ h => h, fun _ _ _ h => h, fun _ _ h => h⟩
theorem Ext.memc {m m' : Mp} {H H' : Hp} (e : Ext m H m' H') {a : Addr} {o : HO} (h : H a = some o) (n : a ∉ m.c) : a ∉ m'.c := by
  obtain ⟨ex, e1, hx⟩ := e.pre
  rw [e1]
  intro hm
  rcases List.mem_append.mp hm with h1 | h1
  · exact n h1
  · rw [hx a h1] at h; cases h
theorem Tr.mem {m m' : Mp} {H H' : Hp} (e : Tr m H m' H') {a : Addr} {o : HO} (h : H a = some o) (n : Off m a) : Off m' a := by
  obtain ⟨ex, e1, hx⟩ := e.pre
  refine ⟨?_, fun hm => ?_⟩
  · rw [e1]
    intro hm
    rcases List.mem_append.mp hm with h1 | h1
    · exact n.1 h1
    · rcases hx a h1 with h2 | h2
      · rw [h2] at h; cases h
      · exact n.2 h2
  · rcases e.hid a hm with h1 | h1
    · exact n.2 h1
    · rw [h1] at h; cases h
theorem pre_at {m m' : Mp} {ex : List Addr} (e : m'.c = m.c ++ ex) {a : Addr} {i : Nat} (h : m.c[i]? = some a) : m'.c[i]? = some a := by
  rw [e, List.getElem?_append_left (List.getElem?_eq_some_iff.mp h).1]
  exact h
theorem Ext.trans {m m1 m2 : Mp} {H H1 H2 : Hp} (a : Ext m H m1 H1) (b : Ext m1 H1 m2 H2) : Ext m H m2 H2 := by
  obtain ⟨ex, e1, hx⟩ := a.pre
  obtain ⟨ey, e2, hy⟩ := b.pre
  refine ⟨⟨ex ++ ey, by rw [e2, e1]; simp, fun c hc => ?_⟩, b.hs.trans a.hs, fun c o h => ?_, fun c o h n => b.keep c o (a.keep c o h n) (a.memc h n), fun c xs h => b.tup c xs (a.tup c xs h), fun c o u h => b.frz c o u (a.frz c o u h), fun c q h => b.cod c q (a.cod c q h)⟩
  · rcases List.mem_append.mp hc with h1 | h1
    · exact hx c h1
    · have h2 := hy c h1
      cases q : H c with
      | none => rfl
      | some o =>
        obtain ⟨o', q'⟩ := a.trk c o q
        rw [q'] at h2; cases h2
  · obtain ⟨o', q'⟩ := a.trk c o h
    exact b.trk c o' q'

section
variable {K : PySem.W.Frag} {m m' : Mp} {H H' : Hp}
theorem SqT.ext (e : Tr m H m' H') {a : Addr} {xs : List V} (h : SqT K H a xs) : SqT K H' a xs := by
  rcases h with (h | ⟨o, h⟩) | h
  · exact .inl (.inl (e.tup _ _ h))
  · exact .inl (.inr ⟨o, e.frz _ _ _ h⟩)
  · exact .inr h
mutual
theorem Rep.ext (e : Tr m H m' H') : ∀ (d : D) (v : V), Rep K m H v d → Rep K m' H' v d
  | .non, v, h => by cases h; exact .non
  | .bl b, v, h => by cases h; exact .bl b
  | .int b, v, h => by cases h; exact .int b
  | .str b, v, h => by cases h; exact .str b
  | .ty b, v, h => by cases h; exact .ty b
  | .gl b, v, h => by cases h; exact .gl b
  | .tup l, v, h => by
    cases h with
    | tup h1 hd h2 => exact .tup (SqT.ext e h1) (fun z => let ⟨o, u, a, b⟩ := hd z; ⟨o, u, e.frz _ _ _ a, b⟩) (Reps.ext e l _ h2)
  | .lst l, v, h => by
    cases h with
    | lst h1 h2 h3 => exact .lst (e.keep _ _ h1 h2) (e.mem h1 h2) (Reps.ext e l _ h3)
  | .scr l, v, h => by
    cases h with
    | scr h1 h2 =>
      refine .scr ?_ (Reps.ext e l _ h2)
      rcases h1 with ⟨o, h1⟩ | h1
      · exact .inl ⟨o, e.frz _ _ _ h1⟩
      · exact .inr h1
  | .ref i, v, h => by
    cases h with
    | ref h1 =>
      obtain ⟨ex, e1, _⟩ := e.pre
      exact .ref (pre_at e1 h1)
  | .obj c ns l, v, h => by
    cases h with
    | obj h1 h2 h3 h4 => exact .obj (e.keep _ _ h1 h2) (e.mem h1 h2) h3 (Reps.ext e l _ h4)
  | .dct l, v, h => by
    cases h with
    | dct h1 h2 h3 h4 => exact .dct (e.keep _ _ h1 h2) (e.mem h1 h2) (DicR.ext e l _ h3) h4
theorem DicR.ext (e : Tr m H m' H') : ∀ (l : List D) (xs : List (NestedKey × Addr × Value)), DicR K m H l xs → DicR K m' H' l xs
  | [], xs, h => by cases h; exact .nil
  | [_], xs, h => by cases h
  | kd :: vd :: l, xs, h => by
    cases h with
    | cons a b c d r => exact .cons a (Rep.ext e kd _ b) c (Rep.ext e vd _ d) (DicR.ext e l _ r)
theorem Reps.ext (e : Tr m H m' H') : ∀ (ds : List D) (vs : List V), Reps K m H vs ds → Reps K m' H' vs ds
  | [], vs, h => by cases h; exact .nil
  | d :: ds, vs, h => by
    cases h with
    | cons h1 h2 => exact .cons (Rep.ext e d _ h1) (Reps.ext e ds _ h2)
end
theorem DicR.tr (e : Tr m H m' H') {l : List D} {xs : List (NestedKey × Addr × Value)} (h : DicR K m H l xs) : DicR K m' H' l xs := DicR.ext e l xs h
theorem Rep.tr (e : Tr m H m' H') {d : D} {v : V} (h : Rep K m H v d) : Rep K m' H' v d := Rep.ext e d v h
theorem Rep.to (e : Ext m H m' H') {d : D} {v : V} (h : Rep K m H v d) : Rep K m' H' v d := Rep.ext e.tr d v h
theorem Reps.tr (e : Tr m H m' H') {ds : List D} {vs : List V} (h : Reps K m H vs ds) : Reps K m' H' vs ds := Reps.ext e ds vs h
theorem Reps.to (e : Ext m H m' H') {ds : List D} {vs : List V} (h : Reps K m H vs ds) : Reps K m' H' vs ds := Reps.ext e.tr ds vs h
theorem Reps.len : ∀ {vs : List V} {ds : List D}, Reps K m H vs ds → vs.length = ds.length
  | [], [], _ => rfl
  | [], _ :: _, h => by cases h
  | _ :: _, [], h => by cases h
  | _ :: vs, _ :: ds, h => by
    cases h with
    | cons _ h2 => simp [Reps.len h2]
theorem Reps.get : ∀ {vs : List V} {ds : List D} {i : Nat} {d : D}, Reps K m H vs ds → ds[i]? = some d → ∃ v, vs[i]? = some v ∧ Rep K m H v d
  | [], [], _, _, _, e => by simp at e
  | [], _ :: _, _, _, h, _ => by cases h
  | _ :: _, [], _, _, h, _ => by cases h
  | v :: vs, c :: ds, 0, d, h, e => by
    cases h with
    | cons h1 _ =>
      have e' : c = d := by simpa using e
      subst e'
      exact ⟨v, rfl, h1⟩
  | v :: vs, c :: ds, i + 1, d, h, e => by
    cases h with
    | cons _ h2 =>
      obtain ⟨w, h3, h4⟩ := Reps.get (i := i) (d := d) h2 (by simpa using e)
      exact ⟨w, by simpa using h3, h4⟩
theorem Reps.app : ∀ {vs us : List V} {ds es : List D}, Reps K m H vs ds → Reps K m H us es → Reps K m H (vs ++ us) (ds ++ es)
  | [], _, [], _, _, h => h
  | [], _, _ :: _, _, h, _ => by cases h
  | _ :: _, _, [], _, h, _ => by cases h
  | v :: vs, us, d :: ds, es, h, g => by
    cases h with
    | cons h1 h2 => exact .cons h1 (Reps.app h2 g)
theorem Reps.drop : ∀ {vs : List V} {ds : List D} (n : Nat), Reps K m H vs ds → Reps K m H (vs.drop n) (ds.drop n)
  | _, _, 0, h => by simpa using h
  | [], [], n + 1, h => by simpa using h
  | [], _ :: _, _ + 1, h => by cases h
  | _ :: _, [], _ + 1, h => by cases h
  | v :: vs, d :: ds, n + 1, h => by
    cases h with
    | cons _ h2 => simpa using Reps.drop n h2
theorem Reps.take : ∀ {vs : List V} {ds : List D} (n : Nat), Reps K m H vs ds → Reps K m H (vs.take n) (ds.take n)
  | _, _, 0, h => by simpa using Reps.nil
  | [], [], n + 1, h => by simpa using h
  | [], _ :: _, _ + 1, h => by cases h
  | _ :: _, [], _ + 1, h => by cases h
  | v :: vs, d :: ds, n + 1, h => by
    cases h with
    | cons h1 h2 => simpa using Reps.cons h1 (Reps.take n h2)
theorem Reps.set : ∀ {vs : List V} {ds : List D} {v : V} {d : D} (n : Nat), Reps K m H vs ds → Rep K m H v d → Reps K m H (vs.set n v) (ds.set n d)
  | [], [], _, _, n, h, _ => by simpa using h
  | [], _ :: _, _, _, _, h, _ => by cases h
  | _ :: _, [], _, _, _, h, _ => by cases h
  | w :: vs, c :: ds, v, d, 0, h, r => by
    cases h with
    | cons _ h2 => exact .cons r h2
  | w :: vs, c :: ds, v, d, n + 1, h, r => by
    cases h with
    | cons h1 h2 => exact .cons h1 (Reps.set n h2 r)
theorem Reps.erase : ∀ {vs : List V} {ds : List D} (n : Nat), Reps K m H vs ds → Reps K m H (vs.eraseIdx n) (ds.eraseIdx n)
  | [], [], n, h => by simpa using h
  | [], _ :: _, _, h => by cases h
  | _ :: _, [], _, h => by cases h
  | w :: vs, c :: ds, 0, h => by
    cases h with
    | cons _ h2 => simpa using h2
  | w :: vs, c :: ds, n + 1, h => by
    cases h with
    | cons h1 h2 => simpa using Reps.cons h1 (Reps.erase n h2)
theorem Reps.flatten {vs : List V} {ds : List D} (h : Reps K m H vs ds) : ∀ k : Nat, Reps K m H (List.replicate k vs).flatten (List.replicate k ds).flatten
  | 0 => by simpa using Reps.nil
  | k + 1 => by
    simp only [List.replicate_succ, List.flatten_cons]
    exact h.app (Reps.flatten h k)

theorem ExR.tr (e : Tr m H m' H') {od : Option Addr} {fs : List (Str × D)} (h : ExR K m H od fs) : ExR K m' H' od fs := by
  cases od with
  | none => exact h
  | some d =>
    obtain ⟨vs, h1, h2, h3, h4⟩ := h
    exact ⟨vs, e.keep _ _ h1 h2, e.mem h1 h2, h3, h4.tr e⟩
theorem ObR.tr (e : Tr m H m' H') {a : Addr} {o : Ob} (h : ObR K m H a o) (same : H' a = H a) : ObR K m' H' a o := by
  cases o with
  | lst ds =>
    obtain ⟨vs, h1, h2⟩ := h
    exact ⟨vs, by rw [same]; exact h1, h2.tr e⟩
  | ins c ns ds =>
    obtain ⟨dx, fs, h1, h2, h3⟩ := h
    exact ⟨dx, fs, by rw [same]; exact h1, h2, h3.tr e⟩
  | dic l =>
    obtain ⟨o, xs, h1, h2, h3⟩ := h
    exact ⟨o, xs, by rw [same]; exact h1, h2.tr e, h3⟩
  | dik l =>
    obtain ⟨kvs, h1, h2, h3⟩ := h
    exact ⟨kvs, by rw [same]; exact h1, h2, h3.tr e⟩
  | tab P q =>
    obtain ⟨rfl, ps, h1, h2, h3⟩ := h
    exact ⟨rfl, ps, by rw [same]; exact h1, h2, fun pos cv hc => let ⟨c, e1, e2⟩ := h3 pos cv hc; ⟨c, e1, e.cod _ _ e2⟩⟩
  | err c fs =>
    obtain ⟨o, h1, h2, h3, h5, h4⟩ := h
    exact ⟨o, by rw [same]; exact h1, h2, h3, h5, h4.tr e⟩
  | clo k L q ds =>
    obtain ⟨d, pm, ctv, cl, l, h1, h2, h3, h4, h5⟩ := h
    exact ⟨d, pm, ctv, cl, l, by rw [same]; exact h1, e.cod _ _ h2, h3, fun p hp => ⟨e.frz _ _ _ (h4 p hp).1, e.mem (h4 p hp).1 (h4 p hp).2⟩, h5.tr e⟩
  | fz =>
    obtain ⟨o, h1, h2⟩ := h
    exact ⟨o, by rw [same]; exact h1, h2⟩
theorem Sim.trk {S : Sto} (s : Sim K m S H) {a : Addr} (h : a ∈ m.c) : ∃ o, H a = some o ∧ (∀ xs, o ≠ .tup xs) ∧ ∀ q, o ≠ LamX.CodeO a q := by
  obtain ⟨i, hi, e⟩ := List.mem_iff_getElem.mp h
  have hi2 : i < S.length := by rw [← s.len]; exact hi
  have := s.cell i a S[i] (by rw [List.getElem?_eq_getElem hi, e]) (List.getElem?_eq_getElem hi2)
  cases q : S[i] with
  | lst ds => rw [q] at this; obtain ⟨vs, h1, _⟩ := this; exact ⟨_, h1, fun _ => nofun, fun _ => nofun⟩
  | ins c ns ds => rw [q] at this; obtain ⟨dx, fs, h1, _⟩ := this; exact ⟨_, h1, fun _ => nofun, fun _ => nofun⟩
  | dic l => rw [q] at this; obtain ⟨o, xs, h1, _⟩ := this; exact ⟨_, h1, fun _ => nofun, fun q => dic_ne_code a o xs q⟩
  | dik l => rw [q] at this; obtain ⟨kvs, h1, _⟩ := this; exact ⟨_, h1, fun _ => nofun, fun _ => nofun⟩
  | tab P q' => rw [q] at this; obtain ⟨rfl, ps, h1, _⟩ := this; exact ⟨_, h1, fun _ => nofun, fun _ => nofun⟩
  | err c fs => rw [q] at this; obtain ⟨o, h1, h2, _⟩ := this; exact ⟨_, h1, fun _ => nofun, fun _ => nofun⟩
  | clo k L q' ds => rw [q] at this; obtain ⟨d, pm, ctv, cl, l, h1, _⟩ := this; exact ⟨_, h1, fun _ => nofun, fun _ => nofun⟩
  | fz => rw [q] at this; obtain ⟨o, h1, _⟩ := this; exact ⟨_, h1, fun _ => nofun, fun _ => nofun⟩
theorem Sim.fresh {S : Sto} (s : Sim K m S H) {p : Addr} (h : H p = none) : p ∉ m.c := fun hm => by
  obtain ⟨o, e, _⟩ := s.trk hm
  rw [h] at e; cases e
theorem Sim.off {S : Sto} (s : Sim K m S H) {p : Addr} (h : H p = none) : Off m p := ⟨s.fresh h, fun hm => by
    obtain ⟨o, e⟩ := s.hid p hm
    rw [h] at e; cases e⟩
/-- a new object, not a cell -/
theorem Ext.new {p : Addr} {o : HO} (h : H p = none) : Ext m H m (upd H p o) := by
  have k : ∀ a u, H a = some u → (upd H p o) a = some u := fun a u q => by rw [upd_ne (ne_of_none q h)]; exact q
  exact ⟨⟨[], by simp, by simp⟩, rfl, fun a u q => ⟨u, k a u q⟩, fun a u q _ => k a u q, fun a xs q => k a _ q, fun a u x q => k a _ q, fun a c q => k a _ q⟩
theorem Sim.same {S : Sto} (s : Sim K m S H) (hc : m'.c = m.c) (e : Tr m H m' H') (h : ∀ a ∈ m.c, H' a = H a) (hh : ∀ a ∈ m'.h, ∃ o, H' a = some o) (hd : ∀ a ∈ m'.c, a ∉ m'.h) : Sim K m' S H' :=
  ⟨by rw [hc]; exact s.len, by rw [hc]; exact s.nd, fun i a o h1 h2 => by
    rw [hc] at h1
    exact (s.cell i a o h1 h2).tr e (h a (List.mem_of_getElem? h1)), hh, hd⟩
theorem Sim.new {S : Sto} (s : Sim K m S H) {p : Addr} {o : HO} (h : H p = none) : Sim K m S (upd H p o) :=
  s.same rfl (Ext.new h).tr (fun a ha => upd_ne (fun z => s.fresh h (z ▸ ha))) (fun a ha => by
    obtain ⟨u, q⟩ := s.hid a ha
    exact (Ext.new (m := m) h).trk a u q) s.dis
/-- a new cell -/
def Mp.add (m : Mp) (p : Addr) : Mp := ⟨m.c ++ [p], m.h⟩
theorem Ext.cell {p : Addr} {o : HO} (h : H p = none) : Ext m H (m.add p) (upd H p o) := by
  have k : ∀ a u, H a = some u → (upd H p o) a = some u := fun a u q => by rw [upd_ne (ne_of_none q h)]; exact q
  exact ⟨⟨[p], rfl, fun a ha => by
    have : a = p := by simpa using ha
    rw [this]; exact h⟩, rfl, fun a u q => ⟨u, k a u q⟩, fun a u q _ => k a u q, fun a xs q => k a _ q, fun a u x q => k a _ q, fun a c q => k a _ q⟩
theorem Sim.grow {S : Sto} {ob : Ob} (s : Sim K m S H) {p : Addr} {o : HO} (h : H p = none) (r : ObR K (m.add p) (upd H p o) p ob) : Sim K (m.add p) (S ++ [ob]) (upd H p o) := by
  refine ⟨by simp [Mp.add, s.len], ?_, fun i a u h1 h2 => ?_, fun a ha => by
    obtain ⟨u, q⟩ := s.hid a ha
    exact (Ext.cell (m := m) h).trk a u q, fun a ha => by
    rcases List.mem_append.mp (show a ∈ m.c ++ [p] from ha) with z | z
    · exact s.dis a z
    · have e : a = p := by simpa using z
      rw [e]; exact (s.off h).2⟩
  · show (m.c ++ [p]).Nodup
    rw [List.nodup_append]
    refine ⟨s.nd, by simp, fun a ha b hb => ?_⟩
    have : b = p := by simpa using hb
    subst this
    intro z; subst z; exact s.fresh h ha
  · have h1 : (m.c ++ [p])[i]? = some a := h1
    by_cases hi : i < m.c.length
    · rw [List.getElem?_append_left hi] at h1
      rw [List.getElem?_append_left (by rw [← s.len]; exact hi)] at h2
      exact (s.cell i a u h1 h2).tr (Ext.cell h).tr (upd_ne fun z => s.fresh h (z ▸ List.mem_of_getElem? h1))
    · have e : i = m.c.length := by
        have := (List.getElem?_eq_some_iff.mp h1).1
        simp at this; omega
      subst e
      have e1 : p = a := by simpa using h1
      have e2 : ob = u := by rw [s.len] at h2; simpa using h2
      subst e1 e2
      exact r
theorem Sim.last {S : Sto} (s : Sim K m S H) (p : Addr) : (m.add p).c[S.length]? = some p := by
  show (m.c ++ [p])[S.length]? = some p
  rw [← s.len]; simp
/-- a cell is written -/
theorem Ext.put {S : Sto} (s : Sim K m S H) {a : Addr} {u : HO} (hm : a ∈ m.c) (nf : ∀ x y, H a ≠ some (.frz x y)) : Ext m H m (upd H a u) := by
  obtain ⟨o, h, h1, h3⟩ := s.trk hm
  refine ⟨⟨[], by simp, by simp⟩, rfl, fun b w q => ?_, fun b w q n => ?_, fun b xs q => ?_, fun b x y q => ?_, fun b c q => ?_⟩
  · by_cases e : b = a
    · subst e; exact ⟨u, upd_same⟩
    · exact ⟨w, by rw [upd_ne e]; exact q⟩
  · rw [upd_ne (fun z => n (by rw [z]; exact hm))]; exact q
  · rw [upd_ne fun z => h1 xs (by rw [z, h] at q; exact Option.some.inj q)]; exact q
  · rw [upd_ne fun z => nf x y (by rw [z] at q; exact q)]; exact q
  · rw [upd_ne fun z => h3 c (by subst z; rw [h] at q; exact Option.some.inj q)]; exact q
theorem Sim.put {S : Sto} {a : Addr} {u : HO} {i : Nat} {ob : Ob} (s : Sim K m S H) (hi : m.c[i]? = some a) (r : ObR K m (upd H a u) a ob) (nf : ∀ x y, H a ≠ some (.frz x y)) : Sim K m (S.set i ob) (upd H a u) := by
  have e : Ext m H m (upd H a u) := Ext.put s (List.mem_of_getElem? hi) nf
  refine ⟨by simp [s.len], s.nd, fun j b w h1 h2 => ?_, fun b hb => by
    obtain ⟨w, q⟩ := s.hid b hb
    exact e.trk b w q, s.dis⟩
  by_cases hj : j = i
  · subst hj
    rw [hi] at h1; cases h1
    have hjl : j < S.length := by
      have := (List.getElem?_eq_some_iff.mp hi).1
      rw [← s.len]; exact this
    rw [List.getElem?_set_self hjl] at h2
    cases h2
    exact r
  · rw [List.getElem?_set_ne (Ne.symm hj)] at h2
    refine (s.cell j b w h1 h2).tr e.tr (upd_ne fun z => hj ?_)
    subst z
    exact (List.getElem?_inj (List.getElem?_eq_some_iff.mp h1).1 s.nd).mp (h1.trans hi.symm)
/-- an address is hidden, and opened again -/
def Mp.hide (m : Mp) (p : Addr) : Mp := ⟨m.c, p :: m.h⟩
theorem Tr.hide {p : Addr} {o : HO} (h : H p = none) : Tr m H (m.hide p) (upd H p o) := by
  have k : ∀ a u, H a = some u → (upd H p o) a = some u := fun a u q => by rw [upd_ne (ne_of_none q h)]; exact q
  refine ⟨⟨[], by simp [Mp.hide], by simp⟩, fun a ha => ?_, fun a u q _ => k a u q, fun a xs q => k a _ q, fun a u x q => k a _ q, fun a c q => k a _ q⟩
  rcases List.mem_cons.mp ha with e | e
  · exact .inr (by rw [e]; exact h)
  · exact .inl e
theorem Sim.hide {S : Sto} (s : Sim K m S H) {p : Addr} {o : HO} (h : H p = none) : Sim K (m.hide p) S (upd H p o) :=
  s.same rfl (Tr.hide h) (fun a ha => upd_ne (fun z => s.fresh h (z ▸ ha))) (fun a ha => by
    rcases List.mem_cons.mp ha with e | e
    · subst e; exact ⟨_, upd_same⟩
    · obtain ⟨u, q⟩ := s.hid a e
      exact (Ext.new (m := m) h).trk a u q) fun a ha hm => by
    rcases List.mem_cons.mp hm with e | e
    · exact s.fresh h (by rw [← e]; exact ha)
    · exact s.dis a ha e
end
/-! ### results -/
inductive Res (α : Type) where
  | ok (a : α) (S : Sto) | exc (c : Str) (fs : List (Str × D)) (S : Sto) | stuck
def Res.bind {α β : Type} (r : Res α) (k : α → Sto → Res β) : Res β := match r with
  | .ok a S => k a S
  | .exc c fs S => .exc c fs S
  | .stuck => .stuck
inductive SRes where
  | next (en : En) (S : Sto) | ret (d : D) (S : Sto) | brk (en : En) (S : Sto) | cnt (en : En) (S : Sto) | exc (c : Str) (fs : List (Str × D)) (en : En) (S : Sto) | stuck

abbrev EM := En → Sto → Res D
abbrev BM := En → Sto → Res Bool
abbrev AM := En → Sto → Res (List D)
abbrev SM := En → Sto → SRes
abbrev GM := D → En → Sto → Res En

section
variable (K : PySem.W.Frag)
structure EnvR (m : Mp) (H : Hp) (σ : St) (en : En) : Prop where
  len : σ.length = en.length
  at_ : ∀ (i : Nat) (d : D), en[i]? = some (some d) → ∃ v, σ[i]? = some (some v) ∧ Rep K m H v d
variable (W : WX)
def PostG {α : Type} {β : Type} (R : Mp → Hp → β → α → Prop) (σ : St) (m : Mp) (H : Hp) (r : Res α) (Q : β → Hp → Prop) : Prop := match r with
  | .ok d S' => ∀ v m' H', Ext m H m' H' → Sim K m' S' H' → R m' H' v d → Q v H'
  | .exc c fs S' => ∀ od m' H', Ext m H m' H' → Sim K m' S' H' → ExR K m' H' od fs → W (.ref (He.ga K c)) od σ H'
  | .stuck => False
abbrev Post (σ : St) (m : Mp) (H : Hp) (r : Res D) (Q : VK) : Prop := PostG K W (Rep K) σ m H r Q
abbrev PostL (σ : St) (m : Mp) (H : Hp) (r : Res (List D)) (Q : List V → Hp → Prop) : Prop := PostG K W (Reps K) σ m H r Q
abbrev PostB (σ : St) (m : Mp) (H : Hp) (r : Res Bool) (Q : Bool → Hp → Prop) : Prop := PostG K W (fun _ _ (b : Bool) c => b = c) σ m H r Q
abbrev PostE (σ : St) (m : Mp) (H : Hp) (r : Res En) (Q : St → Hp → Prop) : Prop := PostG K W (EnvR K) σ m H r Q
def SPost (m : Mp) (H : Hp) (r : SRes) (E : Ends) : Prop := match r with
  | .next en S' => ∀ σ' m' H', Ext m H m' H' → Sim K m' S' H' → EnvR K m' H' σ' en → E.nx σ' H'
  | .brk en S' => ∀ σ' m' H', Ext m H m' H' → Sim K m' S' H' → EnvR K m' H' σ' en → E.bk σ' H'
  | .cnt en S' => ∀ σ' m' H', Ext m H m' H' → Sim K m' S' H' → EnvR K m' H' σ' en → E.ct σ' H'
  | .ret d S' => ∀ v m' H', Ext m H m' H' → Sim K m' S' H' → Rep K m' H' v d → E.rt v H'
  | .exc c fs en S' => ∀ σ' od m' H', Ext m H m' H' → Sim K m' S' H' → EnvR K m' H' σ' en → ExR K m' H' od fs → W (.ref (He.ga K c)) od σ' H'
  | .stuck => False

def tE (e : EM) : TE := fun σ H Q => ∃ en S m, EnvR K m H σ en ∧ Sim K m S H ∧ Post K W σ m H (e en S) Q
def tT (e : BM) : TT := fun σ H Q => ∃ en S m, EnvR K m H σ en ∧ Sim K m S H ∧ PostB K W σ m H (e en S) Q
def tA (e : AM) : TA := fun σ H Q => ∃ en S m, EnvR K m H σ en ∧ Sim K m S H ∧ PostL K W σ m H (e en S) Q
def tS (e : SM) : TS := fun E σ H => ∃ en S m, EnvR K m H σ en ∧ Sim K m S H ∧ SPost K W m H (e en S) E
def tG (g : GM) : TG := fun v σ H Q => ∃ d en S m, EnvR K m H σ en ∧ Sim K m S H ∧ Rep K m H v d ∧ PostE K W σ m H (g d en S) Q
end

section
variable {K : PySem.W.Frag} {W : WX} {m m' : Mp} {H H' : Hp} {σ : St}
theorem EnvR.tr (e : Tr m H m' H') {en : En} (h : EnvR K m H σ en) : EnvR K m' H' σ en :=
  ⟨h.len, fun i d q => by
    obtain ⟨v, h1, h2⟩ := h.at_ i d q
    exact ⟨v, h1, h2.tr e⟩⟩
theorem EnvR.to (e : Ext m H m' H') {en : En} (h : EnvR K m H σ en) : EnvR K m' H' σ en := h.tr e.tr
theorem PostG.to {α β : Type} {R : Mp → Hp → β → α → Prop} {r : Res α} {Q : β → Hp → Prop} (h : PostG K W R σ m H r Q) (e : Ext m H m' H') : PostG K W R σ m' H' r Q := by
  cases r with
  | ok d S => exact fun v m2 H2 e2 => h v m2 H2 (e.trans e2)
  | exc c fs S => exact fun v m2 H2 e2 => h v m2 H2 (e.trans e2)
  | stuck => exact h
theorem SPost.to {r : SRes} {E : Ends} (h : SPost K W m H r E) (e : Ext m H m' H') : SPost K W m' H' r E := by
  cases r with
  | next en S => exact fun v m2 H2 e2 => h v m2 H2 (e.trans e2)
  | brk en S => exact fun v m2 H2 e2 => h v m2 H2 (e.trans e2)
  | cnt en S => exact fun v m2 H2 e2 => h v m2 H2 (e.trans e2)
  | ret d S => exact fun v m2 H2 e2 => h v m2 H2 (e.trans e2)
  | exc c fs en S => exact fun v od m2 H2 e2 => h v od m2 H2 (e.trans e2)
  | stuck => exact h
/-- one thing, then another -/
theorem PostG.bind {α β α' β' : Type} {R : Mp → Hp → β → α → Prop} {R' : Mp → Hp → β' → α' → Prop} {r : Res α} {k : α → Sto → Res α'} {Q : β' → Hp → Prop} (h : PostG K W R' σ m H (r.bind k) Q) :
    PostG K W R σ m H r (fun v H1 => ∃ d S1 m1, Ext m H m1 H1 ∧ Sim K m1 S1 H1 ∧ R m1 H1 v d ∧ PostG K W R' σ m1 H1 (k d S1) Q) := by
  cases r with
  | ok d S => exact fun v m1 H1 e s r1 => ⟨d, S, m1, e, s, r1, h.to e⟩
  | exc c fs S => exact h
  | stuck => exact h
theorem PostG.mono {α β : Type} {R : Mp → Hp → β → α → Prop} {r : Res α} {Q Q' : β → Hp → Prop} (h : PostG K W R σ m H r Q) (hq : ∀ v H1, Q v H1 → Q' v H1) : PostG K W R σ m H r Q' := by
  cases r with
  | ok d S => exact fun v m1 H1 e s r1 => hq _ _ (h v m1 H1 e s r1)
  | exc c fs S => exact h
  | stuck => exact h
end
end Ag

namespace Ag
open PySem L2
section
variable {X : Cx} {W : WX} {e a b c o : Expr} {es : List Expr} {pos p apos : Pos} {ma mb mc : EM}
theorem PE.imp {t t' : TE} (h : PE X e t) (f : ∀ σ H Q, t' σ H Q → t σ H Q) : PE X e t' := ⟨fun pins s σ H Q I hw => h.run pins s σ H Q I (f _ _ _ hw)⟩
theorem PT.imp {t t' : TT} (h : PT X e t) (f : ∀ σ H Q, t' σ H Q → t σ H Q) : PT X e t' := ⟨fun pins s σ H Q I hw => h.run pins s σ H Q I (f _ _ _ hw)⟩
theorem PW.imp {t t' : TT} (h : PW X e t) (f : ∀ σ H Q, t' σ H Q → t σ H Q) : PW X e t' := ⟨fun wh pins s σ H Q I hw => h.run wh pins s σ H Q I (f _ _ _ hw)⟩
theorem PA.imp {t t' : TA} (h : PA X es t) (f : ∀ σ H Q, t' σ H Q → t σ H Q) : PA X es t' := ⟨fun ps pins s σ H Q I hw => h.run ps pins s σ H Q I (f _ _ _ hw)⟩
theorem PS.imp {st : Stmt} {t t' : TS} (h : PS X st t) (f : ∀ E σ H, t' E σ H → t E σ H) : PS X st t' := ⟨fun pins s σ H E I hw => h.run pins s σ H E I (f _ _ _ hw)⟩
theorem PSs.imp {st : List Stmt} {t t' : TS} (h : PSs X st t) (f : ∀ E σ H, t' E σ H → t E σ H) : PSs X st t' := ⟨fun pins s σ H E I hw => h.run pins s σ H E I (f _ _ _ hw)⟩
theorem PG.imp {t t' : TG} (h : PG X e t) (f : ∀ v σ H Q, t' v σ H Q → t v σ H Q) : PG X e t' := ⟨fun pins s σ H v u Q I r hw => h.run pins s σ H v u Q I r (f _ _ _ _ hw)⟩

def ofO {α : Type} (o : Option α) (S : Sto) : Res α := match o with
  | some r => .ok r S
  | none => .stuck
/-- names and constants -/
def mVar (i : Nat) : EM := fun en S => ofO (match en[i]? with | some (some d) => some d | _ => none) S
def mC (d : D) : EM := fun _ S => .ok d S
theorem e_var {i : Nat} {x : Str} (hN : X.N[i]? = some x) (hv : Vis X.env.scope x) (hd : (x == ("__debug__" : Str)) = false := by decide) (hcd : (x == ("__classdict__" : Str)) = false := by decide) : PE X (.Name x pos) (tE X.K W (mVar i)) := by
  refine PE.imp (pe_var hN hv hd hcd) ?_
  rintro σ H Q ⟨en, S, m, er, si, h⟩
  unfold mVar ofO at h
  cases q : en[i]? with
  | none => rw [q] at h; exact h.elim
  | some od =>
    cases od with
    | none => rw [q] at h; exact h.elim
    | some d =>
      rw [q] at h
      obtain ⟨v, h1, h2⟩ := er.at_ i d q
      exact ⟨v, h1, h v m H .refl si h2⟩
theorem e_c {v : V} {d : D} (h : PE X e (tC v)) (r : ∀ m H, Rep X.K m H v d) : PE X e (tE X.K W (mC d)) :=
  PE.imp h fun σ H Q ⟨en, S, m, er, si, k⟩ => k v m H .refl si (r m H)

/-- two values by a rule -/
def rO2 (K : PySem.W.Frag) (f : D → D → Sto → Option D) : R2 := fun x y H Q => ∃ d e S m r, Sim K m S H ∧ Rep K m H x d ∧ Rep K m H y e ∧ f d e S = some r ∧ ∀ v H', Ext m H m H' → Sim K m S H' → Rep K m H' v r → Q v H'
def rO1 (K : PySem.W.Frag) (f : D → Sto → Option D) : V → Hp → VK → Prop := fun x H Q => ∃ d S m r, Sim K m S H ∧ Rep K m H x d ∧ f d S = some r ∧ ∀ v H', Ext m H m H' → Sim K m S H' → Rep K m H' v r → Q v H'
def rOL (K : PySem.W.Frag) (f : List D → Sto → Option D) : List V → Hp → VK → Prop := fun xs H Q => ∃ ds S m r, Sim K m S H ∧ Reps K m H xs ds ∧ f ds S = some r ∧ ∀ v H', Ext m H m H' → Sim K m S H' → Rep K m H' v r → Q v H'
def mOp (f : D → D → Sto → Option D) (ma mb : EM) : EM := fun en S => (ma en S).bind fun d S1 => (mb en S1).bind fun e S2 => ofO (f d e S2) S2
def mUn (f : D → Sto → Option D) (ma : EM) : EM := fun en S => (ma en S).bind fun d S1 => ofO (f d S1) S1
theorem op_to {f : D → D → Sto → Option D} {σ : L2.St} {H : Hp} {Q : VK} (h : tE X.K W (mOp f ma mb) σ H Q) : tOp (rO2 X.K f) (tE X.K W ma) (tE X.K W mb) σ H Q := by
  obtain ⟨en, S, m, er, si, h⟩ := h
  refine ⟨en, S, m, er, si, h.bind.mono ?_⟩
  rintro v H1 ⟨d, S1, m1, e1, s1, r1, h1⟩
  refine ⟨en, S1, m1, er.to e1, s1, h1.bind.mono ?_⟩
  rintro w H2 ⟨c, S2, m2, e2, s2, r2, h2⟩
  cases q : f d c S2 with
  | none => rw [q] at h2; exact h2.elim
  | some r =>
    rw [q] at h2
    exact ⟨d, c, S2, m2, r, s2, r1.to e2, r2, q, fun z H3 e3 s3 r3 => h2 z m2 H3 e3 s3 r3⟩
theorem e_op {op : Operator} {f : D → D → Sto → Option D} (ho : OpR X (binaryOp op) (rO2 X.K f)) (ha : PE X a (tE X.K W ma)) (hb : PE X b (tE X.K W mb)) : PE X (.BinOp a op b pos) (tE X.K W (mOp f ma mb)) :=
  PE.imp (pe_op ho ha hb) fun _ _ _ => op_to
theorem e_cmp {op : CmpOp} {f : D → D → Sto → Option D} (ho : OpR X (compareOp op) (rO2 X.K f)) (ha : PE X a (tE X.K W ma)) (hb : PE X b (tE X.K W mb)) (hm : behindInMarks op b = false) : PE X (.Compare a [op] [b] pos) (tE X.K W (mOp f ma mb)) :=
  PE.imp (pe_cmpR ho ha hb hm) fun _ _ _ => op_to
theorem e_un {op : UnaryOp} {f : D → Sto → Option D} (ho : UnR X (unaryOp op) (rO1 X.K f)) (ha : PE X a (tE X.K W ma)) : PE X (.UnaryOp op a pos) (tE X.K W (mUn f ma)) := by
  refine PE.imp (pe_un ho ha) ?_
  rintro σ H Q ⟨en, S, m, er, si, h⟩
  refine ⟨en, S, m, er, si, h.bind.mono ?_⟩
  rintro v H1 ⟨d, S1, m1, e1, s1, r1, h1⟩
  cases q : f d S1 with
  | none => rw [q] at h1; exact h1.elim
  | some r =>
    rw [q] at h1
    exact ⟨d, S1, m1, r, s1, r1, q, fun z H3 e3 s3 r3 => h1 z m1 H3 e3 s3 r3⟩
theorem e_ix {f : D → D → Sto → Option D} (ho : IxR X (rO2 X.K f)) (ha : PE X a (tE X.K W ma)) (hb : PE X b (tE X.K W mb)) (hs : PlainIx b) : PE X (.Subscript a b pos) (tE X.K W (mOp f ma mb)) :=
  PE.imp (pe_ix ho ha hb hs) fun _ _ _ => op_to

/-! tests -/
def bOf : D → Option Bool
  | .bl b => some b
  | _ => none
def mB (ma : EM) : BM := fun en S => (ma en S).bind fun d S1 => ofO (bOf d) S1
theorem b_to {σ : L2.St} {H : Hp} {Q : Bool → Hp → Prop} (h : tT X.K W (mB ma) σ H Q) : tE X.K W ma σ H fun x H1 => ∃ c, x = .bl c ∧ Q c H1 := by
  obtain ⟨en, S, m, er, si, h⟩ := h
  refine ⟨en, S, m, er, si, h.bind.mono ?_⟩
  rintro v H1 ⟨d, S1, m1, e1, s1, r1, h1⟩
  cases r1 with
  | bl b => exact ⟨b, rfl, h1 b m1 H1 .refl s1 rfl⟩
  | _ => exact h1.elim
theorem t_val (ha : PE X a (tE X.K W ma)) (he : ∀ whole, isTrue a X.env whole = (do let v ← whole; standAt a.pos; holding [v] (truthy v)) := by intro _; rfl) : PT X a (tT X.K W (mB ma)) :=
  PT.imp (pt_val ha he) fun _ _ _ => b_to
theorem t_cmp {op : CmpOp} {f : D → D → Sto → Option D} (ho : OpR X (compareOp op) (rO2 X.K f)) (ha : PE X a (tE X.K W ma)) (hb : PE X b (tE X.K W mb)) (hm : behindInMarks op b = false) : PT X (.Compare a [op] [b] pos) (tT X.K W (mB (mOp f ma mb))) :=
  PT.imp (pt_cmpR ho ha hb hm) fun _ _ _ h => op_to (b_to h)
def mAndB (t u : BM) : BM := fun en S => (t en S).bind fun c S1 => if c = true then u en S1 else .ok false S1
def mOrB (t u : BM) : BM := fun en S => (t en S).bind fun c S1 => if c = true then .ok true S1 else u en S1
def mNotB (t : BM) : BM := fun en S => (t en S).bind fun c S1 => .ok (!c) S1
variable {ta tb : BM} {rest : List Expr}
theorem w_and1 (ha : PT X a (tT X.K W ta)) : PW X (.BoolOp .And [a] pos) (tT X.K W ta) := pw_and1 ha
theorem w_or1 (ha : PT X a (tT X.K W ta)) : PW X (.BoolOp .Or [a] pos) (tT X.K W ta) := pw_or1 ha
theorem w_and (ha : PT X a (tT X.K W ta)) (hb : PW X (.BoolOp .And (b :: rest) pos) (tT X.K W tb)) : PW X (.BoolOp .And (a :: b :: rest) pos) (tT X.K W (mAndB ta tb)) := by
  refine PW.imp (pw_and ha hb) ?_
  rintro σ H Q ⟨en, S, m, er, si, h⟩
  refine ⟨en, S, m, er, si, h.bind.mono ?_⟩
  rintro v H1 ⟨d, S1, m1, e1, s1, rfl, h1⟩
  cases v with
  | true => exact ⟨en, S1, m1, er.to e1, s1, h1⟩
  | false => exact h1 false m1 H1 .refl s1 rfl
theorem w_or (ha : PT X a (tT X.K W ta)) (hb : PW X (.BoolOp .Or (b :: rest) pos) (tT X.K W tb)) : PW X (.BoolOp .Or (a :: b :: rest) pos) (tT X.K W (mOrB ta tb)) := by
  refine PW.imp (pw_or ha hb) ?_
  rintro σ H Q ⟨en, S, m, er, si, h⟩
  refine ⟨en, S, m, er, si, h.bind.mono ?_⟩
  rintro v H1 ⟨d, S1, m1, e1, s1, rfl, h1⟩
  cases v with
  | false => exact ⟨en, S1, m1, er.to e1, s1, h1⟩
  | true => exact h1 true m1 H1 .refl s1 rfl
theorem t_not (ha : PT X a (tT X.K W ta)) : PT X (.UnaryOp .Not a pos) (tT X.K W (mNotB ta)) := by
  refine PT.imp (pt_not ha) ?_
  rintro σ H Q ⟨en, S, m, er, si, h⟩
  refine ⟨en, S, m, er, si, h.bind.mono ?_⟩
  rintro v H1 ⟨d, S1, m1, e1, s1, rfl, h1⟩
  exact h1 (!v) m1 H1 .refl s1 rfl
/-- as values, by bools -/
def mAndV (ma mb : EM) : EM := fun en S => (ma en S).bind fun d S1 => match bOf d with | some true => mb en S1 | some false => .ok (.bl false) S1 | none => .stuck
def mOrV (ma mb : EM) : EM := fun en S => (ma en S).bind fun d S1 => match bOf d with | some false => mb en S1 | some true => .ok (.bl true) S1 | none => .stuck
def mNotV (ma : EM) : EM := mUn (fun d _ => (bOf d).map fun b => .bl (!b)) ma
theorem e_one {op : BoolOp} (h : PE X a (tE X.K W ma)) : PE X (.BoolOp op [a] pos) (tE X.K W ma) := pe_one h
theorem e_and (ha : PE X a (tE X.K W ma)) (hb : PE X (.BoolOp .And (b :: rest) pos) (tE X.K W mb)) : PE X (.BoolOp .And (a :: b :: rest) pos) (tE X.K W (mAndV ma mb)) := by
  refine PE.imp (pe_and ha hb) ?_
  rintro σ H Q ⟨en, S, m, er, si, h⟩
  refine ⟨en, S, m, er, si, h.bind.mono ?_⟩
  rintro v H1 ⟨d, S1, m1, e1, s1, r1, h1⟩
  cases r1 with
  | bl b =>
    cases b with
    | true => exact ⟨true, rfl, en, S1, m1, er.to e1, s1, h1⟩
    | false => exact ⟨false, rfl, h1 _ m1 H1 .refl s1 (.bl false)⟩
  | _ => exact h1.elim
theorem e_or (ha : PE X a (tE X.K W ma)) (hb : PE X (.BoolOp .Or (b :: rest) pos) (tE X.K W mb)) : PE X (.BoolOp .Or (a :: b :: rest) pos) (tE X.K W (mOrV ma mb)) := by
  refine PE.imp (pe_or ha hb) ?_
  rintro σ H Q ⟨en, S, m, er, si, h⟩
  refine ⟨en, S, m, er, si, h.bind.mono ?_⟩
  rintro v H1 ⟨d, S1, m1, e1, s1, r1, h1⟩
  cases r1 with
  | bl b =>
    cases b with
    | false => exact ⟨false, rfl, en, S1, m1, er.to e1, s1, h1⟩
    | true => exact ⟨true, rfl, h1 _ m1 H1 .refl s1 (.bl true)⟩
  | _ => exact h1.elim
theorem e_not (ha : PE X a (tE X.K W ma)) : PE X (.UnaryOp .Not a pos) (tE X.K W (mNotV ma)) := by
  refine PE.imp (pe_not ha) ?_
  rintro σ H Q ⟨en, S, m, er, si, h⟩
  refine ⟨en, S, m, er, si, h.bind.mono ?_⟩
  rintro v H1 ⟨d, S1, m1, e1, s1, r1, h1⟩
  cases r1 with
  | bl b => exact ⟨b, rfl, h1 _ m1 H1 .refl s1 (.bl _)⟩
  | _ => exact h1.elim
def mIf (t : BM) (ma mb : EM) : EM := fun en S => (t en S).bind fun c S1 => if c = true then ma en S1 else mb en S1
theorem e_if (hc : PT X c (tT X.K W ta)) (ha : PE X a (tE X.K W ma)) (hb : PE X b (tE X.K W mb)) : PE X (.IfExp c a b pos) (tE X.K W (mIf ta ma mb)) := by
  refine PE.imp (pe_ifExp hc ha hb) ?_
  rintro σ H Q ⟨en, S, m, er, si, h⟩
  refine ⟨en, S, m, er, si, h.bind.mono ?_⟩
  rintro v H1 ⟨d, S1, m1, e1, s1, rfl, h1⟩
  cases v with
  | true => exact ⟨en, S1, m1, er.to e1, s1, h1⟩
  | false => exact ⟨en, S1, m1, er.to e1, s1, h1⟩
/-- a chain of two -/
def mChain (f g : D → D → Sto → Option D) (ma mb mc : EM) : EM := fun en S => (ma en S).bind fun d S1 => (mb en S1).bind fun e S2 => match (f d e S2).bind bOf with
  | some true => (mc en S2).bind fun h S3 => ofO (g e h S3) S3
  | some false => .ok (.bl false) S2
  | none => .stuck
theorem chain_to {f g : D → D → Sto → Option D} {σ : L2.St} {H : Hp} {Q : VK} (h : tE X.K W (mChain f g ma mb mc) σ H Q) : tChain (rO2 X.K f) (rO2 X.K g) (tE X.K W ma) (tE X.K W mb) (tE X.K W mc) σ H Q := by
  obtain ⟨en, S, m, er, si, h⟩ := h
  refine ⟨en, S, m, er, si, h.bind.mono ?_⟩
  rintro v H1 ⟨d, S1, m1, e1, s1, r1, h1⟩
  refine ⟨en, S1, m1, er.to e1, s1, h1.bind.mono ?_⟩
  rintro w H2 ⟨c, S2, m2, e2, s2, r2, h2⟩
  cases q : f d c S2 with
  | none => rw [q] at h2; exact h2.elim
  | some r =>
    rw [q] at h2
    refine ⟨d, c, S2, m2, r, s2, r1.to e2, r2, q, fun z H3 e3 s3 r3 => ?_⟩
    cases r3 with
    | bl k =>
      cases k with
      | false => exact ⟨false, rfl, h2 _ m2 H3 e3 s3 (.bl false)⟩
      | true =>
        refine ⟨true, rfl, en, S2, m2, ((er.to e1).to e2).to e3, s3, ?_⟩
        have h3 : Post X.K W σ m2 H2 ((mc en S2).bind fun h S3 => ofO (g c h S3) S3) Q := h2
        refine (h3.to e3).bind.mono ?_
        rintro u H4 ⟨x, S4, m4, e4, s4, r4, h4⟩
        cases q2 : g c x S4 with
        | none => rw [q2] at h4; exact h4.elim
        | some r' =>
          rw [q2] at h4
          exact ⟨c, x, S4, m4, r', s4, (r2.to e3).to e4, r4, q2, fun z H5 e5 s5 r5 => h4 z m4 H5 e5 s5 r5⟩
    | _ => exact h2.elim
theorem e_chain {op op' : CmpOp} {f g : D → D → Sto → Option D} (ho : OpR X (compareOp op) (rO2 X.K f)) (ho' : OpR X (compareOp op') (rO2 X.K g)) (ha : PE X a (tE X.K W ma)) (hb : PE X b (tE X.K W mb)) (hc : PE X c (tE X.K W mc))
    (hm : lastMarks [op, op'] [b, c] = false := by with_unfolding_all rfl) : PE X (.Compare a [op, op'] [b, c] pos) (tE X.K W (mChain f g ma mb mc)) :=
  PE.imp (pe_chain ho ho' ha hb hc hm) fun _ _ _ => chain_to
theorem t_chain {op op' : CmpOp} {f g : D → D → Sto → Option D} (ho : OpR X (compareOp op) (rO2 X.K f)) (ho' : OpR X (compareOp op') (rO2 X.K g)) (ha : PE X a (tE X.K W ma)) (hb : PE X b (tE X.K W mb)) (hc : PE X c (tE X.K W mc))
    (hm : lastMarks [op, op'] [b, c] = false := by with_unfolding_all rfl) : PT X (.Compare a [op, op'] [b, c] pos) (tT X.K W (mB (mChain f g ma mb mc))) :=
  PT.imp (pt_chain ho ho' ha hb hc hm) fun _ _ _ h => chain_to (b_to h)

/-! argument lists, displays -/
def mNil : AM := fun _ S => .ok [] S
def mCons (ma : EM) (mr : AM) : AM := fun en S => (ma en S).bind fun d S1 => (mr en S1).bind fun ds S2 => .ok (d :: ds) S2
variable {mr : AM}
theorem a_nil : PA X [] (tA X.K W mNil) := PA.imp pa_nil fun σ H Q ⟨en, S, m, er, si, h⟩ => h [] m H .refl si .nil
theorem a_cons (ha : PE X a (tE X.K W ma)) (hr : PA X es (tA X.K W mr)) (hs : starEach (a :: es) X.env = (false, eval a X.env) :: starEach es X.env := by rfl) : PA X (a :: es) (tA X.K W (mCons ma mr)) := by
  refine PA.imp (pa_cons ha hr hs) ?_
  rintro σ H Q ⟨en, S, m, er, si, h⟩
  refine ⟨en, S, m, er, si, h.bind.mono ?_⟩
  rintro v H1 ⟨d, S1, m1, e1, s1, r1, h1⟩
  refine ⟨en, S1, m1, er.to e1, s1, h1.bind.mono ?_⟩
  rintro vs H2 ⟨ds, S2, m2, e2, s2, r2, h2⟩
  exact h2 (v :: vs) m2 H2 .refl s2 (.cons (r1.to e2) r2)
def lineN : Nat := 16777216
theorem line_eq : lineN = sizeLine := sizeLine_eq.symm
def mTup (mr : AM) : EM := fun en S => (mr en S).bind fun ds S1 => ofO (if ds.length ≤ lineN then some (.tup ds) else none) S1
def mLst (mr : AM) : EM := fun en S => (mr en S).bind fun ds S1 => ofO (if ds.length ≤ lineN then some (.lst ds) else none) S1
/-- a list that is to be changed: a cell -/
def mLstC (mr : AM) : EM := fun en S => (mr en S).bind fun ds S1 => if ds.length ≤ lineN then .ok (.ref S1.length) (S1 ++ [.lst ds]) else .stuck
/-- a tuple that was just laid has no dict -/
theorem newTup {pins : List (Addr × Obj)} {s : Shared} {σ : L2.St} {H : Hp} {Q : VK} {xs : List V} {its : List Value} (I : Inv X pins σ H s) (r : Vals xs its) (hz : xs.length ≤ sizeLine) (q : ∀ p o, H p = none → o.dict = none → Q (.ref p) (upd H p (.frz o (.tup xs)))) :
    EP X pins σ Q (.ref s.heap.objs.size) { s with heap := s.heap.push { cls := .type "tuple", data := .seq its.toArray } } :=
  ⟨.ref _, _, I.laid (t' := s.toks) (o := .frz _ (.tup xs)) (fun _ _ z => Heap.get?_push_of_some _ z) (Nat.le_refl _) ⟨Heap.get?_push_size _ rfl, hz, its, r, ⟨_, Heap.get?_push_size _ rfl, rfl, _, rfl⟩⟩, rfl, q _ _ (I.hok.fresh (Nat.le_refl _)) rfl⟩
theorem pe_tupF {k : Nat} {t : TA} (h : PA X es t) : PE X (.Tuple es k pos) (fun σ H Q => t σ H fun xs H1 => xs.length ≤ sizeLine ∧ ∀ p o, H1 p = none → o.dict = none → Q (.ref p) (upd H1 p (.frz o (.tup xs)))) :=
  ⟨fun pins s σ H Q I hq => wpAny_Tuple_spliced (thn (h.run pos pins s σ H _ I hq) fun us s1 ⟨_, _, J, r, z, q⟩ => ⟨r.length ▸ z, newTup J r z q⟩)⟩
theorem tupF {K : PySem.W.Frag} {m : Mp} {H : Hp} {q : Addr} {o : Obj} {xs : List V} {ds : List D} (ho : o.dict = none) (h : Reps K m (upd H q (.frz o (.tup xs))) xs ds) : Rep K m (upd H q (.frz o (.tup xs))) (.ref q) (.tup ds) := .tup (.inl (.inr ⟨o, upd_same⟩)) (fun _ => ⟨o, _, upd_same, ho⟩) h
theorem e_tup {k : Nat} (h : PA X es (tA X.K W mr)) : PE X (.Tuple es k pos) (tE X.K W (mTup mr)) := by
  refine PE.imp (pe_tupF h) ?_
  rintro σ H Q ⟨en, S, m, er, si, h⟩
  refine ⟨en, S, m, er, si, h.bind.mono ?_⟩
  rintro vs H1 ⟨ds, S1, m1, e1, s1, r1, h1⟩
  by_cases hl : ds.length ≤ lineN
  · rw [if_pos hl] at h1
    refine ⟨by rw [r1.len, ← line_eq]; exact hl, fun q o hq ho => h1 _ m1 _ (.new hq) (s1.new hq) (tupF ho (r1.to (.new hq)))⟩
  · rw [if_neg hl] at h1; exact h1.elim
theorem e_lst (h : PA X es (tA X.K W mr)) : PE X (.List es pos) (tE X.K W (mLst mr)) := by
  refine PE.imp (pe_lst h) ?_
  rintro σ H Q ⟨en, S, m, er, si, h⟩
  refine ⟨en, S, m, er, si, h.bind.mono ?_⟩
  rintro vs H1 ⟨ds, S1, m1, e1, s1, r1, h1⟩
  by_cases hl : ds.length ≤ lineN
  · rw [if_pos hl] at h1
    refine ⟨by rw [r1.len, ← line_eq]; exact hl, fun q hq => h1 _ m1 _ (.new hq) (s1.new hq) (.lst upd_same (s1.off hq) (r1.to (.new hq)))⟩
  · rw [if_neg hl] at h1; exact h1.elim
theorem e_lstC (h : PA X es (tA X.K W mr)) : PE X (.List es pos) (tE X.K W (mLstC mr)) := by
  refine PE.imp (pe_lst h) ?_
  rintro σ H Q ⟨en, S, m, er, si, h⟩
  refine ⟨en, S, m, er, si, h.bind.mono ?_⟩
  rintro vs H1 ⟨ds, S1, m1, e1, s1, r1, h1⟩
  by_cases hl : ds.length ≤ lineN
  · rw [if_pos hl] at h1
    refine ⟨by rw [r1.len, ← line_eq]; exact hl, fun q hq => h1 _ (m1.add q) _ (.cell hq) (s1.grow hq ⟨vs, upd_same, r1.to (.cell hq)⟩) (.ref (s1.last q))⟩
  · rw [if_neg hl] at h1; exact h1.elim

/-! built-in calls -/
def mCB (f : List D → Sto → Option D) (mr : AM) : EM := fun en S => (mr en S).bind fun ds S1 => ofO (f ds S1) S1
theorem cb_to {f : List D → Sto → Option D} {σ : L2.St} {H : Hp} {Q : VK} (h : tE X.K W (mCB f mr) σ H Q) : tCB (rOL X.K f) (tA X.K W mr) σ H Q := by
  obtain ⟨en, S, m, er, si, h⟩ := h
  refine ⟨en, S, m, er, si, h.bind.mono ?_⟩
  rintro vs H1 ⟨ds, S1, m1, e1, s1, r1, h1⟩
  cases q : f ds S1 with
  | none => rw [q] at h1; exact h1.elim
  | some r =>
    rw [q] at h1
    exact ⟨ds, S1, m1, r, s1, r1, q, fun z H3 e3 s3 r3 => h1 z m1 H3 e3 s3 r3⟩
theorem e_cb {x : Str} {id : String} {f : List D → Sto → Option D} (hc : CallR X (.builtin id) (rOL X.K f)) (hg : Gl X x) (hm : X.mg x = none) (hv : bootBuiltins x = some (.builtin id)) (ha : PA X (e :: es) (tA X.K W mr))
    (hn : x ≠ "__name__" := by decide) (hd : (x == ("__debug__" : Str)) = false := by decide) (hs : starEach (e :: es) X.env = (false, eval e X.env) :: starEach es X.env := by rfl) (hb : (backTo pos (starEach es X.env)).any (·.1) = false := by rfl) :
    PE X (.Call (.Name x p) (e :: es) [] pos) (tE X.K W (mCB f mr)) := PE.imp (pe_callB hc hg hm hv ha hn hd hs hb) fun _ _ _ => cb_to
theorem e_cty {x : Str} {T : String} {f : List D → Sto → Option D} (hc : CallR X (.type T) (rOL X.K f)) (hg : Gl X x) (hm : X.mg x = none) (hv : bootBuiltins x = some (.type T)) (ha : PA X (e :: es) (tA X.K W mr))
    (hn : x ≠ "__name__" := by decide) (hd : (x == ("__debug__" : Str)) = false := by decide) (hs : starEach (e :: es) X.env = (false, eval e X.env) :: starEach es X.env := by rfl) (hb : (backTo pos (starEach es X.env)).any (·.1) = false := by rfl) :
    PE X (.Call (.Name x p) (e :: es) [] pos) (tE X.K W (mCB f mr)) := PE.imp (pe_callTy hc hg hm hv ha hn hd hs hb) fun _ _ _ => cb_to
end

/-! ### statements -/
section
variable {X : Cx} {W : WX} {e a b c : Expr} {pos : Pos} {ma : EM} {st : Stmt} {rest sa sb : List Stmt} {s1 s2 : SM} {t : BM} {g : GM}
def eS (r : Res D) (en : En) (k : D → Sto → SRes) : SRes := match r with
  | .ok d S => k d S
  | .exc c fs S => .exc c fs en S
  | .stuck => .stuck
theorem eS_to {m : Mp} {H : Hp} {σ : L2.St} {r : Res D} {en : En} {k : D → Sto → SRes} {E : Ends} (er : EnvR X.K m H σ en) (h : SPost X.K W m H (eS r en k) E) :
    Post X.K W σ m H r (fun v H1 => ∃ d S1 m1, Ext m H m1 H1 ∧ Sim X.K m1 S1 H1 ∧ Rep X.K m1 H1 v d ∧ SPost X.K W m1 H1 (k d S1) E) := by
  cases r with
  | ok d S => exact fun v m1 H1 e s r1 => ⟨d, S, m1, e, s, r1, h.to e⟩
  | exc c fs S => exact fun od m1 H1 e s x => h σ od m1 H1 e s (er.to e) x
  | stuck => exact h
def sNil : SM := fun en S => .next en S
def sSeq (a b : SM) : SM := fun en S => match a en S with
  | .next en1 S1 => b en1 S1
  | r => r
theorem ss_nil : PSs X [] (tS X.K W sNil) := PSs.imp pss_nil fun E σ H ⟨en, S, m, er, si, h⟩ => h σ m H .refl si er
theorem ss_cons (h1 : PS X st (tS X.K W s1)) (h2 : PSs X rest (tS X.K W s2)) : PSs X (st :: rest) (tS X.K W (sSeq s1 s2)) := by
  refine PSs.imp (pss_cons h1 h2) ?_
  rintro E σ H ⟨en, S, m, er, si, h⟩
  refine ⟨en, S, m, er, si, ?_⟩
  unfold sSeq at h
  cases q : s1 en S with
  | next en1 S1 =>
    rw [q] at h
    exact fun σ' m' H' e s r => ⟨en1, S1, m', r, s, SPost.to h e⟩
  | ret d S1 => rw [q] at h; exact h
  | brk en1 S1 => rw [q] at h; exact h
  | cnt en1 S1 => rw [q] at h; exact h
  | exc c fs en1 S1 => rw [q] at h; exact h
  | stuck => rw [q] at h; exact h
theorem ss_one (h1 : PS X st (tS X.K W s1)) : PSs X [st] (tS X.K W s1) := pss_one h1
def sPass : SM := fun en S => .next en S
def sExpr (ma : EM) : SM := fun en S => eS (ma en S) en fun _ S1 => .next en S1
theorem s_expr (he : PE X e (tE X.K W ma)) (hs : swapsWith e none pos.line X.env = pure false := by rfl) : PS X (.Expr e pos) (tS X.K W (sExpr ma)) := by
  refine PS.imp (ps_expr he hs) ?_
  rintro E σ H ⟨en, S, m, er, si, h⟩
  refine ⟨en, S, m, er, si, (eS_to er h).mono ?_⟩
  rintro v H1 ⟨d, S1, m1, e1, s1, r1, h1⟩
  exact h1 σ m1 H1 .refl s1 (er.to e1)
def sRet (ma : EM) : SM := fun en S => eS (ma en S) en fun d S1 => .ret d S1
theorem s_ret (he : PE X e (tE X.K W ma)) : PS X (.Return (some e) pos) (tS X.K W (sRet ma)) := by
  refine PS.imp (ps_ret he) ?_
  rintro E σ H ⟨en, S, m, er, si, h⟩
  refine ⟨en, S, m, er, si, (eS_to er h).mono ?_⟩
  rintro v H1 ⟨d, S1, m1, e1, s1, r1, h1⟩
  exact h1 v m1 H1 .refl s1 r1
def bS (r : Res Bool) (en : En) (k : Bool → Sto → SRes) : SRes := match r with
  | .ok d S => k d S
  | .exc c fs S => .exc c fs en S
  | .stuck => .stuck
theorem bS_to {m : Mp} {H : Hp} {σ : L2.St} {r : Res Bool} {en : En} {k : Bool → Sto → SRes} {E : Ends} (er : EnvR X.K m H σ en) (h : SPost X.K W m H (bS r en k) E) :
    PostB X.K W σ m H r (fun v H1 => ∃ S1 m1, Ext m H m1 H1 ∧ Sim X.K m1 S1 H1 ∧ SPost X.K W m1 H1 (k v S1) E) := by
  cases r with
  | ok d S => exact fun v m1 H1 e s r1 => ⟨S, m1, e, s, by subst r1; exact h.to e⟩
  | exc c fs S => exact fun od m1 H1 e s x => h σ od m1 H1 e s (er.to e) x
  | stuck => exact h
def sIf (t : BM) (a b : SM) : SM := fun en S => bS (t en S) en fun c S1 => if c = true then a en S1 else b en S1
theorem s_if (hc : PT X c (tT X.K W t)) (ha : PSs X sa (tS X.K W s1)) (hb : PSs X sb (tS X.K W s2)) : PS X (.If c sa sb pos) (tS X.K W (sIf t s1 s2)) := by
  refine PS.imp (ps_if hc ha hb) ?_
  rintro E σ H ⟨en, S, m, er, si, h⟩
  refine ⟨en, S, m, er, si, (bS_to er h).mono ?_⟩
  rintro v H1 ⟨S1, m1, e1, s1, h1⟩
  cases v with
  | true => exact ⟨en, S1, m1, er.to e1, s1, h1⟩
  | false => exact ⟨en, S1, m1, er.to e1, s1, h1⟩

/-! targets, assignment -/
def gNm (i : Nat) : GM := fun d en S => .ok (en.set i (some d)) S
theorem EnvR.set {K : PySem.W.Frag} {m : Mp} {H : Hp} {σ : L2.St} {en : En} {i : Nat} {v : V} {d : D} (er : EnvR K m H σ en) (r : Rep K m H v d) : EnvR K m H (σ.set i (some v)) (en.set i (some d)) := by
  refine ⟨by simp [er.len], fun j c q => ?_⟩
  by_cases hj : i = j
  · subst hj
    have hl : i < en.length := by
      by_cases hl : i < en.length
      · exact hl
      · rw [List.getElem?_eq_none (by simpa using hl)] at q; cases q
    rw [List.getElem?_set_self hl] at q
    cases q
    exact ⟨v, by rw [List.getElem?_set_self (by rw [er.len]; exact hl)], r⟩
  · rw [List.getElem?_set_ne hj] at q
    obtain ⟨w, h1, h2⟩ := er.at_ j c q
    exact ⟨w, by rw [List.getElem?_set_ne hj]; exact h1, h2⟩
theorem g_name {i : Nat} {x : Str} (hN : X.N.Nodup) (hi : X.N[i]? = some x) (hx : Loc X.env.scope x) (hf : X.fn x = true ∨ X.env.scope.names.lookup x = some .local := by first | exact Or.inl rfl | exact Or.inr rfl) : PG X (.Name x pos) (tG X.K W (gNm i)) :=
  PG.imp (pg_name hN hi hx hf) fun v σ H Q ⟨d, en, S, m, er, si, r, h⟩ => h _ m H .refl si (er.set r)
def sAsg (ma : EM) (g : GM) : SM := fun en S => eS (ma en S) en fun d S1 => match g d en S1 with
  | .ok en' S2 => .next en' S2
  | .exc c fs S2 => .exc c fs en S2
  | .stuck => .stuck
theorem asg_to {E : Ends} {σ : L2.St} {H : Hp} (h : tS X.K W (sAsg ma g) E σ H) : tAsg (tE X.K W ma) (tG X.K W g) E σ H := by
  obtain ⟨en, S, m, er, si, h⟩ := h
  refine ⟨en, S, m, er, si, (eS_to er h).mono ?_⟩
  rintro v H1 ⟨d, S1, m1, e1, s1, r1, h1⟩
  refine ⟨d, en, S1, m1, er.to e1, s1, r1, ?_⟩
  cases q : g d en S1 with
  | ok en' S2 => rw [q] at h1; exact fun σ' m' H' e s r => h1 σ' m' H' e s r
  | exc c fs S2 => rw [q] at h1; exact fun od m' H' e s x => h1 σ od m' H' e s ((er.to e1).to e) x
  | stuck => rw [q] at h1; exact h1
theorem s_set {i : Nat} {x : Str} {pos' : Pos} (hN : X.N.Nodup) (hi : X.N[i]? = some x) (hx : Loc X.env.scope x) (he : PE X e (tE X.K W ma)) (hs : swapsWith e (some (.Name x pos')) pos.line X.env = pure false := by rfl)
    (hf : X.fn x = true ∨ X.env.scope.names.lookup x = some .local := by first | exact Or.inl rfl | exact Or.inr rfl) : PS X (.Assign [.Name x pos'] e pos) (tS X.K W (sAsg ma (gNm i))) := by
  refine PS.imp (ps_set hN hi hx he hs hf) ?_
  intro E σ H h
  refine (?_ : tAsg (tE X.K W ma) (gName i) E σ H)
  obtain ⟨en, S, m, er, si, h⟩ := h
  refine ⟨en, S, m, er, si, (eS_to er h).mono ?_⟩
  rintro v H1 ⟨d, S1, m1, e1, s1, r1, h1⟩
  exact h1 _ m1 H1 .refl s1 ((er.to e1).set r1)
theorem s_asg {tg : Expr} (he : PE X e (tE X.K W ma)) (hg : PG X tg (tG X.K W g)) (h1 : swapsWithSole [tg] e pos.line X.env = pure false := by rfl) (h2 : swappedStores [tg] e X.env = pure none := by rfl) (h3 : (assignEach [tg] X.env).map (·.2) = [assign tg X.env] := by rfl) :
    PS X (.Assign [tg] e pos) (tS X.K W (sAsg ma g)) := PS.imp (ps_asg he hg h1 h2 h3) fun _ _ _ => asg_to
end
end Ag

namespace Ag
open PySem L2
/-! ### iterables -/
abbrev Nxt := Nat → Sto → Option (Option D)
structure ItD where
  nxt : Nxt
  n : Nat
abbrev IM := En → Sto → Res ItD
def WalkD (K : PySem.W.Frag) (m : Mp) (H : Hp) (J : L2.It) (nxt : Nxt) : Prop := ∀ m' S' H', Tr m H m' H' → Sim K m' S' H' → ∀ k, match nxt k S' with
  | none => True
  | some none => J.stop k H'
  | some (some d) => J.go k H' ∧ ∀ x H'', J.yld k H' x H'' → Ext m' H' m' H'' ∧ Sim K m' S' H'' ∧ Rep K m' H'' x d
def tI (K : PySem.W.Frag) (W : WX) (mi : IM) : TI := fun σ H R => ∃ en S m, EnvR K m H σ en ∧ Sim K m S H ∧ PostG K W (fun m' H' (J : L2.It) (it : ItD) => WalkD K m' H' J it.nxt) σ m H (mi en S) R
theorem PI.imp {X : Cx} {tg it : Expr} {t t' : TI} (h : PI X tg it t) (f : ∀ σ H Q, t' σ H Q → t σ H Q) : PI X tg it t' := ⟨fun pins s σ H R I hw => h.run pins s σ H R I (f _ _ _ hw)⟩

/-! ### for -/
def forM (nxt : Nxt) (g : GM) (b : SM) : Nat → Nat → En → Sto → SRes
  | 0, k, en, S => match nxt k S with
    | some none => .next en S
    | _ => .stuck
  | f + 1, k, en, S => match nxt k S with
    | none => .stuck
    | some none => .next en S
    | some (some d) => match g d en S with
      | .ok en1 S1 => (match b en1 S1 with
        | .next en2 S2 => forM nxt g b f (k + 1) en2 S2
        | .cnt en2 S2 => forM nxt g b f (k + 1) en2 S2
        | .brk en2 S2 => .next en2 S2
        | .ret d S2 => .ret d S2
        | .exc c fs en2 S2 => .exc c fs en2 S2
        | .stuck => .stuck)
      | .exc c fs S1 => .exc c fs en S1
      | .stuck => .stuck
def sFor (mi : IM) (g : GM) (b : SM) : SM := fun en S => match mi en S with
  | .ok it S1 => forM it.nxt g b it.n 0 en S1
  | .exc c fs S1 => .exc c fs en S1
  | .stuck => .stuck
section
variable {X : Cx} {W : WX} {tg iter c : Expr} {body : List Stmt} {pos : Pos} {mi : IM} {g : GM} {b : SM} {t : BM}
theorem s_for (hp : PassesOwn (model X.prog X.w) X.A X.env X.xe) (hc : X.calm = true) (hi : PI X tg iter (tI X.K W mi)) (hg : PG X tg (tG X.K W g)) (hb : PSs X body (tS X.K W b))
    (hs : ∀ x, foldedSetIterable iter X.env x = pure x := by intro _; rfl) : PS X (.For tg iter body [] pos) (tS X.K W (sFor mi g b)) := by
  refine PS.imp (ps_for hp hc hi hg hb hs) ?_
  rintro E σ H ⟨en, S, m, er, si, h⟩
  refine ⟨en, S, m, er, si, ?_⟩
  unfold sFor at h
  cases q : mi en S with
  | stuck => rw [q] at h; exact h
  | exc c fs S1 => rw [q] at h; exact fun od m1 H1 e s x => h σ od m1 H1 e s (er.to e) x
  | ok it S1 =>
    rw [q] at h
    intro J m1 H1 e1 s1 wk
    refine ⟨fun i f σ2 H2 => ∃ en2 S2 m2, Ext m1 H1 m2 H2 ∧ EnvR X.K m2 H2 σ2 en2 ∧ Sim X.K m2 S2 H2 ∧ SPost X.K W m2 H2 (forM it.nxt g b f i en2 S2) E, ⟨it.n, en, S1, m1, .refl, er.to e1, s1, SPost.to h e1⟩, ?_⟩
    rintro i f σ2 H2 ⟨en2, S2, m2, e2, er2, s2, h2⟩
    have wk2 := wk m2 S2 H2 e2.tr s2 i
    cases qn : it.nxt i S2 with
    | none => cases f <;> (simp only [forM, qn] at h2; exact h2.elim)
    | some od =>
      rw [qn] at wk2
      cases od with
      | none =>
        have h3 : SPost X.K W m2 H2 (.next en2 S2) E := by cases f <;> simpa only [forM, qn] using h2
        exact .inl ⟨wk2, h3 σ2 m2 H2 .refl s2 er2⟩
      | some d =>
        cases f with
        | zero => simp only [forM, qn] at h2; exact h2.elim
        | succ f =>
          refine .inr ⟨wk2.1, fun σ' H' => ∃ en2 S2 m2, Ext m1 H1 m2 H' ∧ EnvR X.K m2 H' σ' en2 ∧ Sim X.K m2 S2 H' ∧ SPost X.K W m2 H' (forM it.nxt g b f (i + 1) en2 S2) E, fun σ' H' z => ⟨f, Nat.lt_succ_self f, z⟩, ?_⟩
          intro x H3 y
          obtain ⟨e3, s3, r3⟩ := wk2.2 x H3 y
          refine ⟨d, en2, S2, m2, er2.to e3, s3, r3, ?_⟩
          have h4 := SPost.to h2 e3
          simp only [forM, qn] at h4
          cases qg : g d en2 S2 with
          | stuck => rw [qg] at h4; exact h4
          | exc c fs S4 => rw [qg] at h4; exact fun od m' H' e s z => h4 σ2 od m' H' e s ((er2.to e3).to e) z
          | ok en4 S4 =>
            rw [qg] at h4
            intro σ4 m4 H4 e4 s4 r4
            refine ⟨en4, S4, m4, r4, s4, ?_⟩
            have h5 := SPost.to h4 e4
            have eb : Ext m1 H1 m4 H4 := (e2.trans e3).trans e4
            cases qb : b en4 S4 with
            | next en5 S5 => simp only [qb] at h5; exact fun σ' m' H' e s r => ⟨en5, S5, m', eb.trans e, r, s, SPost.to h5 e⟩
            | cnt en5 S5 => simp only [qb] at h5; exact fun σ' m' H' e s r => ⟨en5, S5, m', eb.trans e, r, s, SPost.to h5 e⟩
            | brk en5 S5 => simp only [qb] at h5; exact h5
            | ret d5 S5 => simp only [qb] at h5; exact h5
            | exc c fs en5 S5 => simp only [qb] at h5; exact h5
            | stuck => simp only [qb] at h5; exact h5

/-! ### while -/
def whF (t : BM) (b : SM) : Nat → En → Sto → SRes
  | 0, _, _ => .stuck
  | n + 1, en, S => bS (t en S) en fun c S1 => if c = true then (match b en S1 with
      | .next en2 S2 => whF t b n en2 S2
      | .cnt en2 S2 => whF t b n en2 S2
      | .brk en2 S2 => .next en2 S2
      | .ret d S2 => .ret d S2
      | .exc c fs en2 S2 => .exc c fs en2 S2
      | .stuck => .stuck) else .next en S1
open Classical in
noncomputable def sWh (t : BM) (b : SM) : SM := fun en S => if h : ∃ n, whF t b n en S ≠ .stuck then whF t b (Classical.choose h) en S else .stuck
end

/-! ### targets of several names -/
section
variable {X : Cx} {W : WX} {e : Expr} {es : List Expr} {pos : Pos} {g : GM}
abbrev GsM := List D → En → Sto → Res En
def tGs (K : PySem.W.Frag) (W : WX) (g : GsM) : TGs := fun vs σ H Q => ∃ ds en S m, EnvR K m H σ en ∧ Sim K m S H ∧ Reps K m H vs ds ∧ PostE K W σ m H (g ds en S) Q
theorem PGs.imp {t t' : TGs} (h : PGs X es t) (f : ∀ v σ H Q, t' v σ H Q → t v σ H Q) : PGs X es t' := ⟨fun pins s σ H v u Q I r hw => h.run pins s σ H v u Q I r (f _ _ _ _ hw)⟩
def gsNil : GsM := fun ds en S => match ds with | [] => .ok en S | _ => .stuck
def gsCons (g : GM) (r : GsM) : GsM := fun ds en S => match ds with
  | [] => .stuck
  | d :: ds => match g d en S with
    | .ok en1 S1 => (match r ds en1 S1 with
      | .ok en2 S2 => .ok en2 S2
      | _ => .stuck)
    | _ => .stuck
variable {r : GsM}
theorem gs_nil : PGs X [] (tGs X.K W gsNil) := PGs.imp pgs_nil fun vs σ H Q ⟨ds, en, S, m, er, si, rp, h⟩ => by
  cases rp with
  | nil => exact ⟨rfl, h _ m H .refl si er⟩
  | cons h1 h2 => exact h.elim
theorem gs_cons (h1 : PG X e (tG X.K W g)) (h2 : PGs X es (tGs X.K W r)) (hs : (assignEach (e :: es) X.env).map (·.2) = assign e X.env :: (assignEach es X.env).map (·.2) := by rfl) : PGs X (e :: es) (tGs X.K W (gsCons g r)) := by
  refine PGs.imp (pgs_cons h1 h2 hs) ?_
  rintro vs σ H Q ⟨ds, en, S, m, er, si, rp, h⟩
  cases rp with
  | nil => exact h.elim
  | cons h1 h2 =>
    rename_i v vs d ds
    refine ⟨v, vs, rfl, d, en, S, m, er, si, h1, ?_⟩
    unfold gsCons at h
    cases q : g d en S with
    | stuck => simp only [q] at h; exact h
    | exc c fs S1 => simp only [q] at h; exact h.elim
    | ok en1 S1 =>
      simp only [q] at h
      intro σ1 m1 H1 e1 s1 r1
      refine ⟨ds, en1, S1, m1, r1, s1, h2.to e1, ?_⟩
      cases q2 : r ds en1 S1 with
      | stuck => simp only [q2] at h; exact h
      | ok en2 S2 => simp only [q2] at h; exact PostG.to h e1
      | exc c fs S2 => simp only [q2] at h; exact h.elim
/-- a tuple or a list is unpacked -/
def seqOf : D → Sto → Option (List D)
  | .tup l, _ => some l
  | .lst l, _ => some l
  | .ref i, S => match S[i]? with
    | some (.lst l) => some l
    | _ => none
  | _, _ => none
theorem seq_at {K : PySem.W.Frag} {m : Mp} {H : Hp} {S : Sto} {v : V} {d : D} {l : List D} (si : Sim K m S H) (r : Rep K m H v d) (h : seqOf d S = some l) :
    ∃ a vs, v = .ref a ∧ ((SqT K H a vs ∧ d = .tup l) ∨ (H a = some (.lst vs) ∧ (d = .lst l ∨ ∃ i, d = .ref i ∧ S[i]? = some (.lst l)))) ∧ Reps K m H vs l := by
  cases r with
  | tup h1 hd h2 => cases h; exact ⟨_, _, rfl, .inl ⟨h1, rfl⟩, h2⟩
  | lst h1 h2 h3 => cases h; exact ⟨_, _, rfl, .inr ⟨h1, .inl rfl⟩, h3⟩
  | ref h1 =>
    rename_i a i
    simp only [seqOf] at h
    cases q : S[i]? with
    | none => rw [q] at h; cases h
    | some o =>
      rw [q] at h
      cases o with
      | lst l' =>
        cases h
        obtain ⟨vs, h2, h3⟩ := si.cell i a _ h1 q
        exact ⟨a, vs, rfl, .inr ⟨h2, .inr ⟨i, rfl, q⟩⟩, h3⟩
      | ins c ns l' => cases h
      | dic kvs => cases h
      | dik kvs => cases h
      | tab _ _ => cases h
      | err _ _ => cases h
      | clo _ _ _ _ => cases h
      | fz => cases h
  | _ => cases h
def gUnp (n : Nat) (r : GsM) : GM := fun d en S => match seqOf d S with
  | some l => if l.length = n then (match r l en S with
    | .ok en2 S2 => .ok en2 S2
    | _ => .stuck) else .stuck
  | none => .stuck
theorem PG.or {t u : TG} (h1 : PG X e t) (h2 : PG X e u) : PG X e (fun v σ H Q => t v σ H Q ∨ u v σ H Q) := ⟨fun pins s σ H v u Q I r hw => hw.elim (h1.run pins s σ H v u Q I r) (h2.run pins s σ H v u Q I r)⟩
theorem unp_to {n : Nat} {v : V} {σ : L2.St} {H : Hp} {Q : L2.St → Hp → Prop} (h : tG X.K W (gUnp n r) v σ H Q) : gTup X.K n (tGs X.K W r) v σ H Q ∨ gUnl X.K n (tGs X.K W r) v σ H Q := by
  obtain ⟨d, en, S, m, er, si, rp, h⟩ := h
  unfold gUnp at h
  cases q : seqOf d S with
  | none => simp only [q] at h; exact h.elim
  | some l =>
    simp only [q] at h
    by_cases hl : l.length = n
    · rw [if_pos hl] at h
      obtain ⟨a, vs, rfl, h1, h2⟩ := seq_at si rp q
      have hn : vs.length = n := by rw [h2.len]; exact hl
      have hk : tGs X.K W r vs σ H Q := ⟨l, en, S, m, er, si, h2, by
        cases q2 : r l en S with
        | stuck => simp only [q2] at h; exact h
        | ok en2 S2 => simp only [q2] at h; exact h
        | exc c fs S2 => simp only [q2] at h; exact h.elim⟩
      rcases h1 with ⟨h1, _⟩ | ⟨h1, _⟩
      · exact .inl ⟨a, vs, rfl, h1, hn, hk⟩
      · exact .inr ⟨a, vs, rfl, .inl (.inl h1), hn, hk⟩
    · rw [if_neg hl] at h; exact h.elim
theorem g_unp {k n : Nat} (hc : X.calm = true) (h : PGs X es (tGs X.K W r)) (hn : (assignEach es X.env).length = n := by rfl) (hst : (assignEach es X.env).findIdx? (·.1) = none := by rfl) : PG X (.Tuple es k pos) (tG X.K W (gUnp n r)) :=
  PG.imp (PG.or (pg_tup hc h hn hst) (pg_unl hc h hn hst)) fun _ _ _ _ => unp_to

/-! x[i] = v -/
def fSet : D → D → D → Sto → Option Sto
  | .ref r, .int i, d, S => match S[r]? with
    | some (.lst l) => (ixN l.length i).map fun k => S.set r (.lst (l.set k d))
    | _ => none
  | _, _, _, _ => none
def gSubM (f : D → D → D → Sto → Option Sto) (mo mi : EM) : GM := fun d en S => (mo en S).bind fun o S1 => (mi en S1).bind fun i S2 => match f o i d S2 with
  | some S3 => .ok en S3
  | none => .stuck
def rSetO (K : PySem.W.Frag) (f : D → D → D → Sto → Option Sto) : V → V → V → Hp → (Hp → Prop) → Prop := fun o i v H Q => ∃ od id d S m S', Sim K m S H ∧ Rep K m H o od ∧ Rep K m H i id ∧ Rep K m H v d ∧ f od id d S = some S' ∧ ∀ H', Ext m H m H' → Sim K m S' H' → Q H'
theorem set_ok : PSet X (rSetO X.K fSet) := by
  intro pins s σ H o i v ov iv u Q I ro ri rv h
  obtain ⟨od, id, d, S, m, S', si, r1, r2, r3, hf, hq⟩ := h
  cases r1 with
  | ref h1 =>
    rename_i a k
    cases r2 with
    | int j =>
      simp only [fSet] at hf
      cases q : S[k]? with
      | none => rw [q] at hf; cases hf
      | some ob =>
        rw [q] at hf
        cases ob with
        | ins c ns l => cases hf
        | dic kvs => cases hf
        | dik kvs => cases hf
        | tab _ _ => cases hf
        | err _ _ => cases hf
        | clo _ _ _ _ => cases hf
        | fz => cases hf
        | lst l =>
          obtain ⟨vs, h2, h3⟩ := si.cell k a _ h1 q
          cases qj : ixN l.length j with
          | none => simp only [qj] at hf; cases hf
          | some n =>
            simp only [qj, Option.map_some] at hf
            cases hf
            refine set_list pins s σ H _ _ v ov iv u Q I ro ri rv ⟨a, vs, j, n, rfl, rfl, h2, by rw [h3.len]; exact qj, ?_⟩
            have e : Ext m H m (upd H a (.lst (vs.set n v))) := Ext.put si (List.mem_of_getElem? h1) (nfz h2)
            exact hq _ e (si.put h1 ⟨_, upd_same, (h3.set n r3).to e⟩ (nfz h2))
    | _ => cases hf
  | _ => cases hf
theorem g_sub {o i : Expr} {mo mi : EM} {f : D → D → D → Sto → Option Sto} (hs : PSet X (rSetO X.K f)) (ho : PE X o (tE X.K W mo)) (hi : PE X i (tE X.K W mi))
    (h1 : ∀ v : Value, assign (o.Subscript i pos) X.env v = (do let ov ← holding [v] (eval o X.env); let iv ← holding [v, ov] (eval i X.env); standAt pos; holding [v, ov, iv] (setItem ov iv v); PySem.release [v, ov, iv] []) := by intro _; rfl) : PG X (.Subscript o i pos) (tG X.K W (gSubM f mo mi)) := by
  refine PG.imp (pg_sub ho hi hs h1) ?_
  rintro v σ H Q ⟨d, en, S, m, er, si, rp, h⟩
  refine ⟨en, S, m, er, si, (PostG.bind (R := Rep X.K) h).mono ?_⟩
  rintro ov H1 ⟨od, S1, m1, e1, s1, r1, h1⟩
  refine ⟨en, S1, m1, er.to e1, s1, (PostG.bind (R := Rep X.K) h1).mono ?_⟩
  rintro iv H2 ⟨id, S2, m2, e2, s2, r2, h2⟩
  cases q : f od id d S2 with
  | none => rw [q] at h2; exact h2.elim
  | some S3 =>
    rw [q] at h2
    exact ⟨od, id, d, S2, m2, S3, s2, r1.to e2, r2, (rp.to e1).to e2, q, fun H3 e3 s3 => h2 σ m2 H3 e3 s3 (((er.to e1).to e2).to e3)⟩
end

/-! ### list comprehensions -/
section
variable {X : Cx} {W : WX} {e : Expr} {es : List Expr} {pos : Pos} {g : GM}
def W0 : WX := fun _ _ _ _ => False
def wipeE (en : En) : List Nat → En
  | [] => en
  | v :: vs => (wipeE en vs).set v none
theorem EnvR.wipe {K : PySem.W.Frag} {m : Mp} {H : Hp} {σ : L2.St} {en : En} (er : EnvR K m H σ en) : ∀ vs : List Nat, EnvR K m H (L2.wipe σ vs) (wipeE en vs)
  | [] => er
  | v :: vs => by
    have ih := EnvR.wipe er vs
    refine ⟨by simp [L2.wipe, wipeE, ih.len], fun j c q => ?_⟩
    simp only [wipeE] at q
    simp only [L2.wipe]
    by_cases hj : v = j
    · subst hj
      rw [List.getElem?_set] at q
      simp at q
    · rw [List.getElem?_set_ne hj] at q
      obtain ⟨w, h1, h2⟩ := ih.at_ j c q
      exact ⟨w, by rw [List.getElem?_set_ne hj]; exact h1, h2⟩
/-- a target that touches the slots vs alone -/
def tGw (K : PySem.W.Frag) (W : WX) (vs : List Nat) (g : GM) : TG := fun v σ H Q => ∃ d en S m, EnvR K m H σ en ∧ Sim K m S H ∧ Rep K m H v d ∧ PostG K W (fun m' H' (σ' : L2.St) en' => EnvR K m' H' σ' en' ∧ L2.wipe σ' vs = L2.wipe σ vs) σ m H (g d en S) Q
theorem wipe_set {σ : L2.St} {i : Nat} {v : Option V} : ∀ {vs : List Nat}, i ∈ vs → L2.wipe (σ.set i v) vs = L2.wipe σ vs
  | [], h => by cases h
  | w :: vs, h => by
    by_cases hm : i ∈ vs
    · simp only [L2.wipe]; rw [wipe_set hm]
    · have e : i = w := by
        rcases List.mem_cons.mp h with z | z
        · exact z
        · exact absurd z hm
      subst e
      have aux : ∀ us : List Nat, i ∉ us → L2.wipe (σ.set i v) us = (L2.wipe σ us).set i v := by
        intro us
        induction us with
        | nil => intro _; rfl
        | cons u us ih =>
          intro hu
          simp only [L2.wipe]
          rw [ih (fun z => hu (List.mem_cons_of_mem _ z)), List.set_comm _ _ (fun z => hu (by rw [z]; exact List.mem_cons_self))]
      simp only [L2.wipe]
      rw [aux vs hm, List.set_set]
theorem gw_name {i : Nat} {x : Str} {vs : List Nat} (hi2 : i ∈ vs) (hN : X.N.Nodup) (hi : X.N[i]? = some x) (hx : Loc X.env.scope x) (hf : X.fn x = true ∨ X.env.scope.names.lookup x = some .local := by first | exact Or.inl rfl | exact Or.inr rfl) : PG X (.Name x pos) (tGw X.K W vs (gNm i)) :=
  PG.imp (pg_name hN hi hx hf) fun v σ H Q ⟨d, en, S, m, er, si, r, h⟩ => h _ m H .refl si ⟨er.set r, wipe_set hi2⟩
variable {r : GsM} {vs : List Nat}
/-- the turns of a comprehension -/
def lcM (nxt : Nxt) (g : GM) (t : BM) (e : EM) (en : En) : Nat → Nat → List D → Sto → Res (List D)
  | 0, k, acc, S => match nxt k S with
    | some none => .ok acc S
    | _ => .stuck
  | f + 1, k, acc, S => match nxt k S with
    | none => .stuck
    | some none => .ok acc S
    | some (some d) => match g d en S with
      | .ok en1 S1 => (match t en1 S1 with
        | .ok b S2 => if b = true then (match e en1 S2 with
            | .ok y S3 => if acc.length < lineN then lcM nxt g t e en f (k + 1) (acc ++ [y]) S3 else .stuck
            | _ => .stuck) else lcM nxt g t e en f (k + 1) acc S2
        | _ => .stuck)
      | _ => .stuck
def mYes : BM := fun _ S => .ok true S
theorem ts_nil : PTs X [] (tT X.K W mYes) := ⟨fun pins s σ H Q I hw => pts_nil.run pins s σ H Q I (by
  obtain ⟨en, S, m, er, si, h⟩ := hw
  exact h true m H .refl si rfl)⟩
theorem ts_one {c : Expr} {t : BM} (h : PT X c (tT X.K W t)) : PTs X [c] (tT X.K W t) := pts_one h
/-- the value is frozen, or a cell -/
def mLc (mi : IM) (vs : List Nat) (g : GM) (t : BM) (e : EM) : EM := fun en S => (mi en S).bind fun it S1 => match lcM it.nxt g t e (wipeE en vs) it.n 0 [] S1 with
  | .ok l S2 => .ok (.lst l) S2
  | _ => .stuck
def mLcC (mi : IM) (vs : List Nat) (g : GM) (t : BM) (e : EM) : EM := fun en S => (mi en S).bind fun it S1 => match lcM it.nxt g t e (wipeE en vs) it.n 0 [] S1 with
  | .ok l S2 => .ok (.ref S2.length) (S2 ++ [.lst l])
  | _ => .stuck
theorem Tr.ext {m m1 m2 : Mp} {H H1 H2 : Hp} (a : Tr m H m1 H1) (b : Ext m1 H1 m2 H2) (hk : ∀ x o, H x = some o → ∃ o', H1 x = some o') : Tr m H m2 H2 := by
  obtain ⟨ex, e1, hx⟩ := a.pre
  obtain ⟨ey, e2, hy⟩ := b.pre
  refine ⟨⟨ex ++ ey, by rw [e2, e1]; simp, fun c hc => ?_⟩, fun c hc => a.hid c (by rw [← b.hs]; exact hc), fun c o h n => b.keep c o (a.keep c o h n) (a.mem h n).1, fun c xs h => b.tup c xs (a.tup c xs h), fun c o u h => b.frz c o u (a.frz c o u h), fun c q h => b.cod c q (a.cod c q h)⟩
  rcases List.mem_append.mp hc with h1 | h1
  · exact hx c h1
  · have h2 := hy c h1
    cases q : H c with
    | none => exact .inl rfl
    | some o =>
      obtain ⟨o', q'⟩ := hk c o q
      rw [q'] at h2; cases h2
/-- the state within a comprehension over the base (m1, H1): the new list at A -/
structure LcSt (K : PySem.W.Frag) (m1 : Mp) (H1 : Hp) (A : Addr) (m : Mp) (H : Hp) (S : Sto) (acc : List D) : Prop where
  ext : Ext m1 H1 ⟨m.c, m1.h⟩ H
  tr : Tr m1 H1 m H
  hh : m.h = A :: m1.h
  off : A ∉ m.c
  sim : Sim K m S H
  lst : ∃ vs, H A = some (.lst vs) ∧ Reps K m H vs acc
theorem LcSt.to {K : PySem.W.Frag} {m1 m m' : Mp} {H1 H H' : Hp} {A : Addr} {S S' : Sto} {acc : List D} (l : LcSt K m1 H1 A m H S acc) (e : Ext m H m' H') (s : Sim K m' S' H') : LcSt K m1 H1 A m' H' S' acc := by
  obtain ⟨vs, h1, h2⟩ := l.lst
  have e2 : Ext ⟨m.c, m1.h⟩ H ⟨m'.c, m1.h⟩ H' := ⟨e.pre, rfl, e.trk, e.keep, e.tup, e.frz, e.cod⟩
  exact ⟨l.ext.trans e2, l.tr.ext e l.ext.trk, e.hs.trans l.hh, e.memc h1 l.off, s, vs, e.keep _ _ h1 l.off, h2.to e⟩
theorem LcSt.push {K : PySem.W.Frag} {m1 m : Mp} {H1 H : Hp} {A : Addr} {S : Sto} {acc : List D} {y : V} {d : D} (hA : H1 A = none) (l : LcSt K m1 H1 A m H S acc) (r : Rep K m H y d) {vs : List V} (h1 : H A = some (.lst vs)) :
    LcSt K m1 H1 A m (upd H A (.lst (vs ++ [y]))) S (acc ++ [d]) := by
  obtain ⟨vs', h1', h2⟩ := l.lst
  rw [h1] at h1'; cases h1'
  have k1 : ∀ a o, H1 a = some o → (upd H A (.lst (vs ++ [y]))) a = H a := fun a o q => upd_ne (ne_of_none q hA)
  have t : Tr m H m (upd H A (.lst (vs ++ [y]))) := by
    refine ⟨⟨[], by simp, by simp⟩, fun a h => .inl h, fun a o q n => ?_, fun a xs q => ?_, fun a o u q => ?_, fun a c q => ?_⟩
    · rw [upd_ne fun z => n.2 (by rw [z, l.hh]; exact List.mem_cons_self)]; exact q
    · rw [upd_ne fun z => by rw [z, h1] at q; cases q]; exact q
    · rw [upd_ne fun z => by rw [z, h1] at q; cases q]; exact q
    · rw [upd_ne fun z => by rw [z, h1] at q; cases q]; exact q
  refine ⟨⟨l.ext.pre, rfl, fun a o q => ?_, fun a o q n => ?_, fun a xs q => ?_, fun a o u q => ?_, fun a c q => ?_⟩, ⟨l.tr.pre, l.tr.hid, fun a o q n => ?_, fun a xs q => ?_, fun a o u q => ?_, fun a c q => ?_⟩, l.hh, l.off, ?_, _, upd_same, (h2.app (.cons r .nil)).tr t⟩
  · rw [k1 a o q]; exact l.ext.trk a o q
  · rw [k1 a o q]; exact l.ext.keep a o q n
  · rw [k1 a _ q]; exact l.ext.tup a xs q
  · rw [k1 a _ q]; exact l.ext.frz a o u q
  · rw [k1 a _ q]; exact l.ext.cod a c q
  · rw [k1 a o q]; exact l.tr.keep a o q n
  · rw [k1 a _ q]; exact l.tr.tup a xs q
  · rw [k1 a _ q]; exact l.tr.frz a o u q
  · rw [k1 a _ q]; exact l.tr.cod a c q
  · refine l.sim.same rfl t (fun a ha => upd_ne fun z => l.off (by rw [← z]; exact ha)) (fun a ha => ?_) l.sim.dis
    by_cases z : a = A
    · subst z; exact ⟨_, upd_same⟩
    · obtain ⟨o, q⟩ := l.sim.hid a ha
      exact ⟨o, by rw [upd_ne z]; exact q⟩
theorem lc_run {K : PySem.W.Frag} {it : ItD} {g : GM} {t : BM} {el : EM} {vs : List Nat} {m1 : Mp} {H1 : Hp} {S1 : Sto} {σ : L2.St} {en : En} {J : L2.It} {A : Addr} {Q : Hp → Prop} (er : EnvR K m1 H1 σ en) (s1 : Sim K m1 S1 H1) (wk : WalkD K m1 H1 J it.nxt) (hA : H1 A = none)
    (l : List D) (S2 : Sto) (q : lcM it.nxt g t el (wipeE en vs) it.n 0 [] S1 = .ok l S2) (fin : ∀ m H, LcSt K m1 H1 A m H S2 l → Q H) :
    ∃ Wv : Nat → Nat → Hp → Prop, (∃ m, Wv 0 m (upd H1 A (.lst []))) ∧ ∀ i m H, Wv i m H →
      (J.stop i H ∧ Q H) ∨ (J.go i H ∧ ∃ Nx : Hp → Prop, (∀ H', Nx H' → ∃ m', m' < m ∧ Wv (i + 1) m' H') ∧ ∀ x H', J.yld i H x H' → tGw K W0 vs g x (L2.wipe σ vs) H' fun σ2 H2 => L2.wipe σ2 vs = L2.wipe σ vs ∧ tT K W0 t σ2 H2 fun b H3 =>
        if b = true then tE K W0 el σ2 H3 fun y H4 => ∃ acc, H4 A = some (.lst acc) ∧ acc.length < sizeLine ∧ Nx (upd H4 A (.lst (acc ++ [y]))) else Nx H3) := by
  have wid : ∀ us : List Nat, L2.wipe (L2.wipe σ us) us = L2.wipe σ us := by
    intro us
    induction us with
    | nil => rfl
    | cons u us ih =>
      by_cases hm : u ∈ us
      · simp only [L2.wipe]; rw [wipe_set hm, ih]
      · have aux : ∀ ws : List Nat, u ∉ ws → ∀ τ : L2.St, L2.wipe (τ.set u none) ws = (L2.wipe τ ws).set u none := by
          intro ws
          induction ws with
          | nil => intro _ _; rfl
          | cons w ws ihw =>
            intro hu τ
            simp only [L2.wipe]
            rw [ihw (fun z => hu (List.mem_cons_of_mem _ z)), List.set_comm _ _ (fun z => hu (by rw [z]; exact List.mem_cons_self))]
        simp only [L2.wipe]
        rw [aux us hm, ih, List.set_set]
  have st0 : LcSt K m1 H1 A (m1.hide A) (upd H1 A (.lst [])) S1 [] := by
    have tr := Tr.hide (m := m1) (o := .lst []) hA
    refine ⟨⟨⟨[], by simp [Mp.hide], by simp⟩, rfl, fun a o q => ⟨o, ?_⟩, fun a o q _ => ?_, fun a xs q => ?_, fun a o u q => ?_, fun a c q => ?_⟩, tr, rfl, s1.fresh hA, s1.hide hA, [], upd_same, .nil⟩
    all_goals (rw [upd_ne (ne_of_none q hA)]; exact q)
  refine ⟨fun i f H => ∃ m S acc, LcSt K m1 H1 A m H S acc ∧ lcM it.nxt g t el (wipeE en vs) f i acc S = .ok l S2, ⟨it.n, m1.hide A, S1, [], st0, q⟩, ?_⟩
  rintro i f H ⟨m, S, acc, st, h⟩
  have wk2 := wk m S H st.tr st.sim i
  cases qn : it.nxt i S with
  | none => cases f <;> (simp only [lcM, qn] at h; cases h)
  | some od =>
    rw [qn] at wk2
    cases od with
    | none =>
      have h3 : (Res.ok acc S : Res (List D)) = .ok l S2 := by cases f <;> simpa only [lcM, qn] using h
      cases h3
      exact .inl ⟨wk2, fin m H st⟩
    | some d =>
      cases f with
      | zero => simp only [lcM, qn] at h; cases h
      | succ f =>
        refine .inr ⟨wk2.1, fun H' => ∃ m S acc, LcSt K m1 H1 A m H' S acc ∧ lcM it.nxt g t el (wipeE en vs) f (i + 1) acc S = .ok l S2, fun H' z => ⟨f, Nat.lt_succ_self f, z⟩, ?_⟩
        intro x H3 y
        obtain ⟨e3, s3, r3⟩ := wk2.2 x H3 y
        have st3 := st.to e3 s3
        have er3 : EnvR K m H3 (L2.wipe σ vs) (wipeE en vs) := (er.tr st3.tr).wipe vs
        refine ⟨d, wipeE en vs, S, m, er3, s3, r3, ?_⟩
        simp only [lcM, qn] at h
        cases qg : g d (wipeE en vs) S with
        | stuck => rw [qg] at h; cases h
        | exc c fs S4 => rw [qg] at h; cases h
        | ok en4 S4 =>
          simp only [qg] at h
          intro σ4 m4 H4 e4 s4 r4
          have st4 := st3.to e4 s4
          refine ⟨r4.2.trans (wid vs), en4, S4, m4, r4.1, s4, ?_⟩
          cases qt : t en4 S4 with
          | stuck => rw [qt] at h; cases h
          | exc c fs S5 => rw [qt] at h; cases h
          | ok b S5 =>
            simp only [qt] at h
            intro b' m5 H5 e5 s5 hb
            subst hb
            have st5 := st4.to e5 s5
            cases b' with
            | false =>
              simp only [Bool.false_eq_true, if_false] at h ⊢
              exact ⟨m5, S5, acc, st5, h⟩
            | true =>
              simp only [if_true] at h ⊢
              refine ⟨en4, S5, m5, r4.1.to e5, s5, ?_⟩
              cases qe : el en4 S5 with
              | stuck => rw [qe] at h; cases h
              | exc c fs S6 => rw [qe] at h; cases h
              | ok y S6 =>
                simp only [qe] at h
                by_cases hl : acc.length < lineN
                · rw [if_pos hl] at h
                  intro yv m6 H6 e6 s6 r6
                  have st6 := st5.to e6 s6
                  obtain ⟨us, h7, h8⟩ := st6.lst
                  exact ⟨us, h7, by rw [h8.len, ← line_eq]; exact hl, m6, S6, acc ++ [y], st6.push hA r6 h7, h⟩
                · rw [if_neg hl] at h; cases h
theorem LcSt.fin {K : PySem.W.Frag} {m1 m : Mp} {H1 H : Hp} {A : Addr} {S : Sto} {acc : List D} (hA : Off m1 A) (l : LcSt K m1 H1 A m H S acc) : Ext m1 H1 ⟨m.c, m1.h⟩ H ∧ Sim K ⟨m.c, m1.h⟩ S H ∧ Rep K ⟨m.c, m1.h⟩ H (.ref A) (.lst acc) := by
  obtain ⟨vs, h1, h2⟩ := l.lst
  have t : Tr m H ⟨m.c, m1.h⟩ H := ⟨⟨[], by simp, by simp⟩, fun a h => .inl (by rw [l.hh]; exact List.mem_cons_of_mem _ h), fun a o q _ => q, fun a xs q => q, fun a o u q => q, fun a c q => q⟩
  refine ⟨l.ext, l.sim.same rfl t (fun _ _ => rfl) (fun a ha => l.sim.hid a (by rw [l.hh]; exact List.mem_cons_of_mem _ ha)) (fun a ha hm => l.sim.dis a ha (by rw [l.hh]; exact List.mem_cons_of_mem _ hm)) , .lst h1 ⟨l.off, hA.2⟩ (h2.tr t)⟩
theorem LcSt.finC {K : PySem.W.Frag} {m1 m : Mp} {H1 H : Hp} {A : Addr} {S : Sto} {acc : List D} (hn : H1 A = none) (hA : Off m1 A) (l : LcSt K m1 H1 A m H S acc) : Ext m1 H1 ⟨m.c ++ [A], m1.h⟩ H ∧ Sim K ⟨m.c ++ [A], m1.h⟩ (S ++ [.lst acc]) H ∧ Rep K ⟨m.c ++ [A], m1.h⟩ H (.ref A) (.ref S.length) := by
  obtain ⟨vs, h1, h2⟩ := l.lst
  have t : Tr m H ⟨m.c ++ [A], m1.h⟩ H := ⟨⟨[A], rfl, fun a ha => .inr (by
      have e : a = A := by simpa using ha
      rw [e, l.hh]; exact List.mem_cons_self)⟩, fun a h => .inl (by rw [l.hh]; exact List.mem_cons_of_mem _ h), fun a o q _ => q, fun a xs q => q, fun a o u q => q, fun a c q => q⟩
  have lc : (m.c ++ [A])[S.length]? = some A := by rw [← l.sim.len]; simp
  refine ⟨⟨?_, rfl, l.ext.trk, l.ext.keep, l.ext.tup, l.ext.frz, l.ext.cod⟩, ⟨by simp [l.sim.len], ?_, fun i a o p1 p2 => ?_, fun a ha => l.sim.hid a (by rw [l.hh]; exact List.mem_cons_of_mem _ ha), fun a ha hm => by
    rcases List.mem_append.mp (show a ∈ m.c ++ [A] from ha) with z | z
    · exact l.sim.dis a z (by rw [l.hh]; exact List.mem_cons_of_mem _ hm)
    · have e : a = A := by simpa using z
      exact hA.2 (by rw [← e]; exact hm)⟩, .ref lc⟩
  · obtain ⟨ex, e1, hx⟩ := l.ext.pre
    have e1 : m.c = m1.c ++ ex := e1
    refine ⟨ex ++ [A], by simp [e1], fun a ha => ?_⟩
    rcases List.mem_append.mp ha with z | z
    · exact hx a z
    · have e : a = A := by simpa using z
      rw [e]; exact hn
  · show (m.c ++ [A]).Nodup
    rw [List.nodup_append]
    refine ⟨l.sim.nd, by simp, fun a ha b hb => ?_⟩
    have : b = A := by simpa using hb
    subst this
    intro z; subst z; exact l.off ha
  · have p1 : (m.c ++ [A])[i]? = some a := p1
    by_cases hi : i < m.c.length
    · rw [List.getElem?_append_left hi] at p1
      rw [List.getElem?_append_left (by rw [← l.sim.len]; exact hi)] at p2
      exact (l.sim.cell i a o p1 p2).tr t rfl
    · have e : i = m.c.length := by
        have := (List.getElem?_eq_some_iff.mp p1).1
        simp at this; omega
      subst e
      have e1 : A = a := by simpa using p1
      have e2 : Ob.lst acc = o := by rw [l.sim.len] at p2; simpa using p2
      subst e1 e2
      exact ⟨vs, h1, h2.tr t⟩
theorem e_lc {elt tg iter : Expr} {ifs : List Expr} {scope : Scope} {own : List (Str × Nat)} {mi : IM} {t : BM} {me : EM} (hc : X.calm = true) (hN : X.N.Nodup) (hi : PI X tg iter (tI X.K W mi)) (ok : BlkOk X.N X.env.scope scope own)
    (hg : ∀ (s : Shared) (H : Hp) (C : Addr) (cl : List (Str × Addr)) (fp : List Addr), PG (X.blk s H scope (compEnvC scope cl C X.env) fp) tg (tGw X.K W0 (own.map (·.2)) g))
    (ht : ∀ (s : Shared) (H : Hp) (C : Addr) (cl : List (Str × Addr)) (fp : List Addr), PTs (X.blk s H scope (compEnvC scope cl C X.env) fp) ifs (tT X.K W0 t))
    (he : ∀ (s : Shared) (H : Hp) (C : Addr) (cl : List (Str × Addr)) (fp : List Addr), PE (X.blk s H scope (compEnvC scope cl C X.env) fp) elt (tE X.K W0 me)) (hs : ∀ x, foldedSetIterable iter X.env x = pure x := by intro _; rfl) :
    PE X (.ListComp elt [⟨tg, iter, ifs, 0⟩] scope pos) (tE X.K W (mLc mi (own.map (·.2)) g t me)) := by
  refine PE.imp (pe_lc hc hN hi ok hg ht he hs) ?_
  rintro σ H Q ⟨en, S, m, er, si, h⟩
  refine ⟨en, S, m, er, si, (PostG.bind (R := fun m' H' (J : L2.It) (it : ItD) => WalkD X.K m' H' J it.nxt) h).mono ?_⟩
  rintro J H1 ⟨it, S1, m1, e1, s1, wk, h1⟩
  intro A hA
  cases q : lcM it.nxt g t me (wipeE en (own.map (·.2))) it.n 0 [] S1 with
  | stuck => rw [q] at h1; exact h1.elim
  | exc c fs S2 => rw [q] at h1; exact h1.elim
  | ok l S2 =>
    rw [q] at h1
    refine lc_run (er.to e1) s1 wk hA l S2 q fun m2 H2 st => ?_
    obtain ⟨f1, f2, f3⟩ := st.fin (s1.off hA)
    exact h1 _ _ H2 f1 f2 f3
theorem s_setLcC {i : Nat} {y : Str} {py spos : Pos} {elt tg iter : Expr} {ifs : List Expr} {scope : Scope} {own : List (Str × Nat)} {mi : IM} {t : BM} {me : EM} (hc : X.calm = true) (hN : X.N.Nodup) (hy : X.N[i]? = some y) (hyl : X.env.scope.names.lookup y = some .local)
    (hsw : swapsWith (.ListComp elt [⟨tg, iter, ifs, 0⟩] scope pos) (some (.Name y py)) spos.line X.env = pure true) (hi : PI X tg iter (tI X.K W mi)) (ok : BlkOk X.N X.env.scope scope own)
    (hg : ∀ (s : Shared) (H : Hp) (C : Addr) (cl : List (Str × Addr)) (fp : List Addr), PG (X.blk s H scope (compEnvC scope cl C X.env) fp) tg (tGw X.K W0 (own.map (·.2)) g))
    (ht : ∀ (s : Shared) (H : Hp) (C : Addr) (cl : List (Str × Addr)) (fp : List Addr), PTs (X.blk s H scope (compEnvC scope cl C X.env) fp) ifs (tT X.K W0 t))
    (he : ∀ (s : Shared) (H : Hp) (C : Addr) (cl : List (Str × Addr)) (fp : List Addr), PE (X.blk s H scope (compEnvC scope cl C X.env) fp) elt (tE X.K W0 me)) (hs : ∀ x, foldedSetIterable iter X.env x = pure x := by intro _; rfl) :
    PS X (.Assign [.Name y py] (.ListComp elt [⟨tg, iter, ifs, 0⟩] scope pos) spos) (tS X.K W (sAsg (mLcC mi (own.map (·.2)) g t me) (gNm i))) := by
  refine PS.imp (ps_setLc hc hN hy hyl hsw hi ok hg ht he hs) ?_
  rintro E σ H ⟨en, S, m, er, si, h⟩
  have h0 := eS_to er h
  refine ⟨en, S, m, er, si, (PostG.bind (R := fun m' H' (J : L2.It) (it : ItD) => WalkD X.K m' H' J it.nxt) h0).mono ?_⟩
  rintro J H1 ⟨it, S1, m1, e1, s1, wk, h1⟩
  intro A hA
  cases q : lcM it.nxt g t me (wipeE en (own.map (·.2))) it.n 0 [] S1 with
  | stuck => rw [q] at h1; exact h1.elim
  | exc c fs S2 => rw [q] at h1; exact h1.elim
  | ok l S2 =>
    rw [q] at h1
    refine lc_run (Q := fun H => E.nx (σ.set i (some (.ref A))) H) (er.to e1) s1 wk hA l S2 q fun m2 H2 st => ?_
    obtain ⟨f1, f2, f3⟩ := st.finC hA (s1.off hA)
    obtain ⟨d, S3, m3, e3, s3, r3, h3⟩ := h1 _ _ H2 f1 f2 f3
    exact h3 _ m3 H2 .refl s3 ((er.to e3).set r3)
end
end Ag

namespace Ag
open PySem L2
/-! ### defs -/
def runB (n : Nat) (s : SM) : List D → Sto → Res D := fun ds S => match s (ds.map some ++ List.replicate (n - ds.length) none) S with
  | .ret d S' => .ok d S'
  | .next _ S' => .ok .non S'
  | .exc c fs _ S' => .exc c fs S'
  | _ => .stuck
def WofE (E : XK) : WX := fun c od _ H => E c od H
def spOf (K : PySem.W.Frag) (k : Nat) (f : List D → Sto → Res D) : Sp := fun vs H Q E => vs.length = k ∧ ∃ ds S m, Reps K m H vs ds ∧ Sim K m S H ∧ PostG K (WofE E) (Rep K) [] m H (f ds S) Q
theorem env_start {K : PySem.W.Frag} {m : Mp} {H : Hp} {N : List Str} {vs : List V} {ds : List D} (r : Reps K m H vs ds) : EnvR K m H (L2.start N vs) (ds.map some ++ List.replicate (N.length - ds.length) none) := by
  have hl := r.len
  refine ⟨by simp [L2.start, hl], fun i d q => ?_⟩
  by_cases hi : i < ds.length
  · rw [List.getElem?_append_left (by simpa using hi), List.getElem?_map] at q
    cases e : ds[i]? with
    | none => rw [e] at q; cases q
    | some c =>
      rw [e] at q
      have e2 : c = d := by simpa using q
      subst e2
      obtain ⟨v, h1, h2⟩ := r.get e
      refine ⟨v, ?_, h2⟩
      unfold L2.start
      rw [List.getElem?_append_left (by rw [List.length_map, hl]; exact hi), List.getElem?_map, h1]
      rfl
  · rw [List.getElem?_append_right (by simpa using hi), List.getElem?_replicate] at q
    split at q <;> cases q
theorem takes0N {X : Cx} : L2N.Takes X W0 := fun _ _ ⟨_, _, _, _, _, _, _, _, _, _, _, _, _, _, _, _, w⟩ => w.elim
/-- a def's promise where no repr runs around it -/
structure FnG (P : Program) (w : World) (K : PySem.W.Frag) (mg : Str → Option Value) (base : Heap) (k : Nat) (f : Addr) (fd : FuncData) (ps : List Str) (sp : Sp) : Prop where
  len : ∀ vs H Q E, sp vs H Q E → vs.length = ps.length
  run : ∀ (A : Around) (outer : List Env) (s : Shared) (H : Hp) (args : Args) (us : List Value) (vs : List V) (Q : VK) (E : XK), A.guards = some [] → Room k A → Env0 P w K mg base A outer s H → BindsTo s fd args (ps.zip us) → Vals vs us → sp vs H Q E →
    codeAny (model P w) A (.call (.ref f) args) (CR (L2N.CX P w) outer P w H s Q E) s
section
variable {P : Program} {w : World} {K : PySem.W.Frag} {mg : Str → Option Value} {base : Heap} {x qual : Str} {params : Arguments} {body : List Stmt} {scope : Scope} {kws : List (Str × V)} {f : Addr} {fd : FuncData}
theorem FnG.weak {k : Nat} {ps : List Str} {sp sp' : Sp} (F : FnG P w K mg base k f fd ps sp) (h : ∀ vs H Q E, sp' vs H Q E → sp vs H Q E) : FnG P w K mg base k f fd ps sp' :=
  ⟨fun vs H Q E q => F.len _ _ _ _ (h vs H Q E q), fun A outer s H args us vs Q E hg hr he hb hv q => F.run A outer s H args us vs Q E hg hr he hb hv (h _ _ _ _ q)⟩
/-- the context of a def's body -/
structure Bd (X : Cx) (W : WX) (k : Nat) : Prop where
  tk : L2N.Takes X W
  hp : PassesOwn (model X.prog X.w) X.A X.env X.xe
  calm : X.calm = true
  room : Room k X.A
  gd : X.A.guards = some []
theorem fn_ok {N ps : List Str} {k : Nat} {s : SM} (F : FunD K x qual params body scope [] kws f fd) (S : FnScope N ps scope)
    (hb : ∀ (cdv : Value) (A : Around) (outer : List Env) (s0 : Shared) (H : Hp) (E : XK), Bd (cxOf (L2N.CX P w) P w K mg base N qual scope f cdv A outer s0 H E) (WofE E) k → PSs (cxOf (L2N.CX P w) P w K mg base N qual scope f cdv A outer s0 H E) body (tS K (WofE E) s)) :
    FnG P w K mg base (k + 1) f fd ps (spOf K ps.length (runB N.length s)) := by
  obtain ⟨oc, od, dV, kV, doc, pm, an, cdv, ct, osl, rfl, lk, hcd, _, _⟩ := F.ex
  refine ⟨fun vs H Q E h => h.1, fun A outer s0 H args us vs Q E hg hr e0 hbi rv h => ?_⟩
  have hl : vs.length = ps.length := h.1
  have st : ∀ b o, base.get? b = some o → s0.heap.get? b = some o := fun b o e => (e0.bs b o e).1
  have KX : K.In s0.heap := e0.mod.kin.keeps st
  have kinds : ∀ y ∈ ps.zip us, scope.names.lookup y.1 = some .local ∨ (scope.names.lookup y.1 = some .cell ∧ ((PySem.cellsFrom (s0.heap.objs.size + 1) scope.names []).lookup y.1).isSome = true) := fun y hy =>
    (S.par y.1 (List.of_mem_zip hy).1).elim .inl fun q => .inr ⟨q, PySem.W.cellsFrom_some _ _ _ (.inl q)⟩
  refine codeAny_call_function hr.depth (KX _ _ lk) rfl S.co S.gen rfl (PySem.W.codeRec_of KX hcd) (hbi _ _ _ _ ?_)
  refine wpAny_newFunctionEnv_cells S.kind kinds fun env he s1 y => ?_
  subst he
  refine ⟨(e0.mod.nolimit.keeps st).keeps y.toInCall.keep, codeAny_func ?_⟩
  have I : L2.Inv (cxOf (L2N.CX P w) P w K mg base N qual scope f cdv A outer s0 H E) [] (L2.start N vs) H s1 := inv_start S hr.hd e0 hl rv y
  have bd : Bd (cxOf (L2N.CX P w) P w K mg base N qual scope f cdv A outer s0 H E) (WofE E) k := ⟨L2N.takes_of rfl rfl rfl rfl, passes_of rfl, rfl, hr.deeper _, hg⟩
  obtain ⟨_, ds, S0, m, r, si, h⟩ := h
  refine wpAny_mono ((hb cdv A outer s0 H E bd).run [] s1 (L2.start N vs) H { nx := fun _ H' => Q .non H', rt := Q } I ⟨_, S0, m, env_start r, si, ?_⟩) (fun fl s' hs => ?_) fun e s' hs => hs
  · unfold runB at h
    cases q : s (ds.map some ++ List.replicate (N.length - ds.length) none) S0 with
    | next en S' => rw [q] at h; exact fun σ' m' H' e s' _ => h _ m' H' e s' .non
    | ret d S' => rw [q] at h; exact h
    | brk en S' => rw [q] at h; exact h.elim
    | cnt en S' => rw [q] at h; exact h.elim
    | exc c fs en S' => rw [q] at h; exact fun σ' od m' H' e s' _ z => h od m' H' e s' z
    | stuck => rw [q] at h; exact h
  · cases fl with
    | ret u =>
      obtain ⟨v, σ', H', J, r1, q⟩ := hs
      exact ⟨v, H', J.os, J.bare, J.base, J.hok, r1, q⟩
    | next =>
      obtain ⟨σ', H', J, q⟩ := hs
      exact ⟨V.non, H', J.os, J.bare, J.base, J.hok, rfl, q⟩
    | brk => obtain ⟨_, _, _, q⟩ := hs; exact q.elim
    | cont => obtain ⟨_, _, _, q⟩ := hs; exact q.elim
end
theorem bd_blk {X : Cx} {W : WX} {k : Nat} (b : Bd X W k) {s : Shared} {H : Hp} {scope : Scope} {C : Addr} {cl : List (Str × Addr)} {fp : List Addr} : Bd (X.blk s H scope (compEnvC scope cl C X.env) fp) W0 k :=
  ⟨takes0N, PassesOwn.never, b.calm, b.room, b.gd⟩
/-- the callee runs -/
theorem run_G {X : Cx} {W : WX} {k j : Nat} {f : Addr} {fd : FuncData} {ps : List Str} {sp : Sp} {pins : List (Addr × Obj)} {σ : L2.St} {H : Hp} {s : Shared} {Q : VK} {us0 us : List Value} {kw : List (Str × Value)} {vs : List V} (B : Bd X W j) (F : FnG X.prog X.w X.K X.mg X.base k f fd ps sp) (hk : k ≤ j)
    (I : L2.Inv X pins σ H s) (hb : BindsTo s fd ⟨us0, kw⟩ (ps.zip us)) (r : Vals vs us) (h : sp vs H Q (WE W σ)) : wpAny (model X.prog X.w) X.A (call (.ref f) us0 kw) (EP X pins σ Q) X.xe s := by
  refine wpAny_call (codeAny_mono (F.run X.A X.stack s H ⟨us0, kw⟩ us vs Q (WE W σ) B.gd (B.room.mono hk) I.env0 hb r h) fun r s' hq => ?_)
  cases r with
  | error e => exact L2N.passAt B.tk σ pins H s e s' I hq
  | ok fl => cases fl <;> first | exact I.after hq | exact hq.elim
theorem run_G0 {X : Cx} {W : WX} {k j : Nat} {f : Addr} {fd : FuncData} {ps : List Str} {sp : Sp} {pins : List (Addr × Obj)} {σ : L2.St} {H : Hp} {s : Shared} {Q : VK} {us : List Value} {vs : List V} (B : Bd X W j) (F : FnG X.prog X.w X.K X.mg X.base k f fd ps sp) (hk : k ≤ j)
    (I : L2.Inv X pins σ H s) (hb : Binds X.K fd ps []) (r : Vals vs us) (h : sp vs H Q (WE W σ)) : wpAny (model X.prog X.w) X.A (call (.ref f) us) (EP X pins σ Q) X.xe s := by
  have hl : us.length = ps.length := by rw [← r.length]; exact F.len _ _ _ _ h
  have b := hb s us I.kIn (by rw [List.append_nil]; exact hl)
  rw [List.append_nil] at b
  exact run_G B F hk I b r h

section
variable {X : Cx} {W : WX} {e o : Expr} {es : List Expr} {pos p apos : Pos} {mr : AM} {k n j : Nat} {f : Addr} {fd : FuncData} {ps : List Str} {fm : List D → Sto → Res D} {x : Str} {ma : EM}
def mCall (n : Nat) (fm : List D → Sto → Res D) (mr : AM) : EM := fun en S => (mr en S).bind fun ds S1 => if ds.length = n then fm ds S1 else .stuck
theorem sp_of_post {m : Mp} {H : Hp} {σ : L2.St} {S : Sto} {vs : List V} {ds : List D} {Q : VK} (s : Sim X.K m S H) (r : Reps X.K m H vs ds) (h : Post X.K W σ m H (if ds.length = n then fm ds S else .stuck) Q) : spOf X.K n fm vs H Q (WE W σ) := by
  by_cases hl : ds.length = n
  · rw [if_pos hl] at h
    refine ⟨by rw [r.len]; exact hl, ds, S, m, r, s, ?_⟩
    cases q : fm ds S with
    | ok d S' => rw [q] at h; exact h
    | exc c fs S' => rw [q] at h; exact h
    | stuck => rw [q] at h; exact h
  · rw [if_neg hl] at h; exact h.elim
theorem e_call (B : Bd X W j) (F : FnG X.prog X.w X.K X.mg X.base k f fd ps (spOf X.K n fm)) (hk : k ≤ j) (hg : Gl X x) (hm : X.mg x = some (.ref f)) (hkp : PySem.W.keepIn X.K (.ref f) = true) (hb : Binds X.K fd ps [])
    (ha : PA X (e :: es) (tA X.K W mr)) (hdb : (x == ("__debug__" : Str)) = false := by decide) (he : starEach (e :: es) X.env = (false, eval e X.env) :: starEach es X.env := by rfl) (hpl : (backTo pos (starEach es X.env)).any (·.1) = false := by rfl) :
    PE X (.Call (.Name x p) (e :: es) [] pos) (tE X.K W (mCall n fm mr)) := by
  refine ⟨fun pins s σ H Q I h => ?_⟩
  refine wpAny_Call_Name_kw (ld_glob I hg hm ?_ hdb)
  obtain ⟨en, S, m, er, si, h⟩ := h
  refine PySem.W.callWith_K (h₀ := X.base) I.ok.mod.kin hkp (thn (ha.run pos pins s σ H _ I ⟨en, S, m, er, si, h.bind⟩) fun us s1 ⟨vs, H1, I1, r, ds, S1, m1, e1, sm, r1, h1⟩ => ⟨I1.kIn, ?_⟩) he hpl
  exact run_G0 B F hk I1 hb r (sp_of_post sm r1 h1)

/-! keywords alone: f(k = v, ..), every parameter -/
theorem k_nil : PK X [] (tA X.K W mNil) := ⟨fun ps pins s σ H Q I h => pk_nil.run ps pins s σ H Q I (by
  obtain ⟨en, S, m, er, si, h⟩ := h
  exact h [] m H .refl si .nil)⟩
theorem k_cons {nm : Option Str} {kpos : Pos} {kws : List Keyword} (ha : PE X e (tE X.K W ma)) (hr : PK X kws (tA X.K W mr)) : PK X (⟨nm, e, kpos⟩ :: kws) (tA X.K W (mCons ma mr)) := ⟨fun ps pins s σ H Q I h => (pk_cons ha hr).run ps pins s σ H Q I (by
  obtain ⟨en, S, m, er, si, h⟩ := h
  refine ⟨en, S, m, er, si, h.bind.mono ?_⟩
  rintro v H1 ⟨d, S1, m1, e1, s1, r1, h1⟩
  refine ⟨en, S1, m1, er.to e1, s1, h1.bind.mono ?_⟩
  rintro vs H2 ⟨ds, S2, m2, e2, s2, r2, h2⟩
  exact h2 (v :: vs) m2 H2 .refl s2 (.cons (r1.to e2) r2))⟩
def pick {α : Type} (ix : List Nat) (l : List α) : List α := ix.filterMap fun i => l[i]?
theorem Reps.pick {K : PySem.W.Frag} {m : Mp} {H : Hp} {vs : List V} {ds : List D} (r : Reps K m H vs ds) : ∀ ix : List Nat, Reps K m H (pick ix vs) (pick ix ds)
  | [] => .nil
  | i :: ix => by
    have ih := Reps.pick r ix
    unfold Ag.pick at ih ⊢
    cases q : ds[i]? with
    | some d =>
      obtain ⟨v, h1, h2⟩ := r.get q
      simp only [List.filterMap_cons, q, h1]
      exact .cons h2 ih
    | none =>
      have hn : vs[i]? = none := by
        have := r.len
        rw [List.getElem?_eq_none_iff] at q ⊢
        omega
      simp only [List.filterMap_cons, q, hn]
      exact ih
theorem Vals.pick {vs : List V} {us : List Value} (r : Vals vs us) : ∀ ix : List Nat, Vals (pick ix vs) (pick ix us)
  | [] => .nil
  | i :: ix => by
    have ih := Vals.pick r ix
    unfold Ag.pick at ih ⊢
    cases q : vs[i]? with
    | some v =>
      obtain ⟨u, h1, h2⟩ := L2.Vals.get r q
      simp only [List.filterMap_cons, q, h1]
      exact .cons h2 ih
    | none =>
      simp only [List.filterMap_cons, q, L2.Vals.none_of r q]
      exact ih
/-- how the keywords bind -/
def KwB (K : PySem.W.Frag) (fd : FuncData) (ps ks : List Str) (ix : List Nat) (own : List Value → List Value) : Prop := ∀ (s : Shared) (ws : List Value), K.In s.heap → ws.length = ks.length → BindsTo s fd ⟨own [], ks.zip ws⟩ (ps.zip (own (pick ix ws)))
/-! ### instances: fields -/
def look (f : Str) : List Str → List D → Option D
  | [], _ => none
  | _ :: _, [] => none
  | g :: ns, d :: ds => if g = f then some d else look f ns ds
def fFld (cs : List Str) (f : Str) : D → Sto → Option D
  | .obj c ns l, _ => if c ∈ cs then look f ns l else none
  | .ref i, S => match S[i]? with
    | some (.ins c ns l) => if c ∈ cs then look f ns l else none
    | _ => none
  | _, _ => none
theorem look_ok {K : PySem.W.Frag} {m : Mp} {H : Hp} {f : Str} : ∀ {fs : List (Str × V)} {ns : List Str} {ds : List D} {d : D}, fs.map (·.1) = ns → Reps K m H (fs.map (·.2)) ds → look f ns ds = some d → ∃ v, fs.lookup f = some v ∧ Rep K m H v d
  | [], _, _, _, h1, h2, h3 => by subst h1; cases h3
  | (g, v) :: fs, ns, ds, d, h1, h2, h3 => by
    subst h1
    cases h2 with
    | cons r1 r2 =>
      rename_i c ds
      simp only [List.map_cons, look] at h3
      by_cases hg : g = f
      · rw [if_pos hg] at h3
        cases h3
        subst hg
        exact ⟨v, by simp [List.lookup], r1⟩
      · rw [if_neg hg] at h3
        obtain ⟨w, h4, h5⟩ := look_ok rfl r2 h3
        have hb : (f == g) = false := beq_eq_false_iff_ne.mpr (fun z => hg z.symm)
        exact ⟨w, by simp [List.lookup, hb, h4], h5⟩
theorem ins_at {K : PySem.W.Frag} {m : Mp} {H : Hp} {S : Sto} {cs : List Str} {f : Str} {v : V} {d r : D} (si : Sim K m S H) (rp : Rep K m H v d) (h : fFld cs f d S = some r) :
    ∃ a c dx fs u, v = .ref a ∧ c ∈ cs ∧ H a = some (.ins (He.ga K c) dx fs) ∧ fs.lookup f = some u ∧ Rep K m H u r := by
  cases rp with
  | obj h1 h2 h3 h4 =>
    rename_i a dx c fs ns ds
    simp only [fFld] at h
    by_cases hc : c ∈ cs
    · rw [if_pos hc] at h
      obtain ⟨u, h5, h6⟩ := look_ok h3 h4 h
      exact ⟨a, c, dx, fs, u, rfl, hc, h1, h5, h6⟩
    · rw [if_neg hc] at h; cases h
  | ref h1 =>
    rename_i a i
    simp only [fFld] at h
    cases q : S[i]? with
    | none => rw [q] at h; cases h
    | some ob =>
      rw [q] at h
      cases ob with
      | dic kvs => cases h
      | dik kvs => cases h
      | tab _ _ => cases h
      | err _ _ => cases h
      | clo _ _ _ _ => cases h
      | fz => cases h
      | lst l => cases h
      | ins c ns l =>
        simp only at h
        by_cases hc : c ∈ cs
        · rw [if_pos hc] at h
          obtain ⟨dx, fs, g1, g2, g3⟩ := si.cell i a _ h1 q
          obtain ⟨u, h5, h6⟩ := look_ok g2 g3 h
          exact ⟨a, c, dx, fs, u, rfl, hc, g1, h5, h6⟩
        · rw [if_neg hc] at h; cases h
  | _ => cases h
theorem e_fld {cs : List Str} {f : Str} (hc : ∀ c ∈ cs, Cls X.K (He.ga X.K c) ∧ NoAttr X.K (He.ga X.K c) f) (ha : PE X e (tE X.K W ma)) (hb : attributeBase e f X.env (eval e X.env) = eval e X.env := by rfl) : PE X (.Attribute e f pos) (tE X.K W (mUn (fFld cs f) ma)) := by
  refine PE.imp (pe_fld ha hb) ?_
  rintro σ H Q ⟨en, S, m, er, si, h⟩
  refine ⟨en, S, m, er, si, h.bind.mono ?_⟩
  rintro v H1 ⟨d, S1, m1, e1, s1, r1, h1⟩
  cases q : fFld cs f d S1 with
  | none => rw [q] at h1; exact h1.elim
  | some r =>
    rw [q] at h1
    obtain ⟨a, c, dx, fs, u, rfl, hcs, g1, g2, g3⟩ := ins_at s1 r1 q
    exact ⟨a, _, dx, fs, u, rfl, g1, (hc c hcs).1, (hc c hcs).2, g2, h1 u m1 H1 .refl s1 g3⟩
/-- the class of an instance -/
def clsD : D → Sto → Option Str
  | .obj c _ _, _ => some c
  | .ref i, S => match S[i]? with
    | some (.ins c _ _) => some c
    | _ => none
  | _, _ => none
theorem cls_at {K : PySem.W.Frag} {m : Mp} {H : Hp} {S : Sto} {v : V} {d : D} {c : Str} (si : Sim K m S H) (rp : Rep K m H v d) (h : clsD d S = some c) :
    ∃ a dx fs, v = .ref a ∧ H a = some (.ins (He.ga K c) dx fs) := by
  cases rp with
  | obj h1 h2 h3 h4 => cases h; exact ⟨_, _, _, rfl, h1⟩
  | ref h1 =>
    rename_i a i
    simp only [clsD] at h
    cases q : S[i]? with
    | none => rw [q] at h; cases h
    | some ob =>
      rw [q] at h
      cases ob with
      | dic kvs => cases h
      | dik kvs => cases h
      | tab _ _ => cases h
      | err _ _ => cases h
      | clo _ _ _ _ => cases h
      | fz => cases h
      | lst l => cases h
      | ins c' ns l =>
        cases h
        obtain ⟨dx, fs, g1, _⟩ := si.cell i a _ h1 q
        exact ⟨a, dx, fs, rfl, g1⟩
  | _ => cases h
/-- a property: the getter fm on an instance of the class c; it raises nothing -/
def mProp (c : Str) (fm : List D → Sto → Res D) (ma : EM) : EM := fun en S => (ma en S).bind fun d S1 => match clsD d S1 with
  | some c' => if c' = c then (match fm [d] S1 with
    | .ok r S2 => .ok r S2
    | _ => .stuck) else .stuck
  | none => .stuck
theorem e_prop {c f : Str} {g pa : Addr} (B : Bd X W j) (hcl : Cls X.K (He.ga X.K c)) (hp : PropOf X.K (He.ga X.K c) f pa g) (F : FnG X.prog X.w X.K X.mg X.base k g fd ps (spOf X.K 1 fm)) (hk : k + 1 ≤ j) (hb : Binds X.K fd ps [])
    (ha : PE X e (tE X.K W ma)) (hab : attributeBase e f X.env (eval e X.env) = eval e X.env := by rfl) : PE X (.Attribute e f pos) (tE X.K W (mProp c fm ma)) := by
  refine ⟨fun pins s σ H Q I h => ?_⟩
  obtain ⟨en, S, m, er, si, h⟩ := h
  refine attr_of hab (thn (ha.run pins s σ H _ I ⟨en, S, m, er, si, h.bind⟩) fun u s1 ⟨x, H1, I1, rx, d, S1, m1, e1, sm, r1, h1⟩ => ?_)
  cases q : clsD d S1 with
  | none => simp only [q] at h1; exact h1.elim
  | some c' =>
    simp only [q] at h1
    by_cases hc : c' = c
    · rw [if_pos hc] at h1
      subst hc
      obtain ⟨a, dx, fs, rfl, g1⟩ := cls_at sm r1 q
      obtain rfl : u = Value.ref a := rx
      have hsp : spOf X.K 1 fm [.ref a] H1 Q fun _ _ _ => False := ⟨rfl, [d], S1, m1, .cons r1 .nil, sm, by
        cases q2 : fm [d] S1 with
        | ok r S2 => simp only [q2] at h1; exact h1
        | exc c fs S2 => simp only [q2] at h1; exact h1.elim
        | stuck => simp only [q2] at h1; exact h1⟩
      obtain ⟨mA, O, _, _, _, _⟩ := ins_get I1.hok g1
      obtain ⟨od, J, _⟩ := O.look
      obtain ⟨rest, hrec⟩ := hp.rec_
      have I2 := I1.tok (s1.toks + 1)
      have hcs : (PySem.W.clsIn X.K (He.ga X.K c')).isSome = true := by
        obtain ⟨cd, z, _⟩ := PySem.W.any_some hcl.hd
        rw [z]; rfl
      have hpg := PySem.W.plainGet_of (hcl.get f)
      refine PySem.W.get_bind I1.kIn J hpg.1 (PySem.W.findObj_data hcs hp.at_ hp.get hp.tak) hpg.2 (wpAny_call (PySem.W.prop_get (s := { s1 with toks := s1.toks + 1 }) I1.kIn hrec ?_))
      have hl : ([Value.ref a] : List Value).length = ps.length := F.len _ _ _ _ hsp
      have b := hb { s1 with toks := s1.toks + 1 } [.ref a] I2.kIn (by rw [List.append_nil]; exact hl)
      rw [List.append_nil] at b
      refine codeAny_mono (F.run X.A.in1 X.stack _ H1 ⟨[.ref a], []⟩ [.ref a] [.ref a] Q (fun _ _ _ => False) B.gd (B.room.mono hk).in1 I2.env0.in1 b (.cons rfl .nil) hsp) fun r s' hq => ?_
      cases r with
      | error er =>
        obtain ⟨_, _, _, _, _, _, _, _, _, _, _, _, z⟩ := hq
        exact z.elim
      | ok fl =>
        cases fl with
        | ret u =>
          obtain ⟨v, H', I3, rv, q3⟩ := I2.after hq
          show wpAny _ _ (handedOut u) _ _ _
          rw [PySem.W.handedOut_of (handed_of rv)]
          exact wpAny_pure ⟨v, H', I3, rv, q3⟩
        | next => exact hq.elim
        | brk => exact hq.elim
        | cont => exact hq.elim
    · rw [if_neg hc] at h1; exact h1.elim
end
end Ag

namespace Ag
open PySem L2
/-! ### cells that are left behind -/
mutual
def below (n : Nat) : D → Bool
  | .ref i => decide (i < n)
  | .tup l => belows n l
  | .lst l => belows n l
  | .scr l => belows n l
  | .obj _ _ l => belows n l
  | .dct l => belows n l
  | _ => true
def belows (n : Nat) : List D → Bool
  | [] => true
  | d :: l => below n d && belows n l
end
def Ob.below (n : Nat) : Ob → Bool
  | .lst l => belows n l
  | .ins _ _ l => belows n l
  | .dic l => belows n l
  | .dik l => belows n (l.map (·.2))
  | .tab _ _ => true
  | .err _ fs => belows n (fs.map (·.2))
  | .clo _ _ _ ds => belows n ds
  | .fz => true
def cutM (n : Nat) (m : Mp) : Mp := ⟨m.c.take n, m.h⟩
section
variable {K : PySem.W.Frag} {m : Mp} {H : Hp} {n : Nat}
theorem off_cut {a : Addr} (h : Off m a) : Off (cutM n m) a := ⟨fun z => h.1 (List.mem_of_mem_take z), h.2⟩
mutual
theorem Rep.cut : ∀ (d : D) (v : V), below n d = true → Rep K m H v d → Rep K (cutM n m) H v d
  | .non, v, _, h => by cases h; exact .non
  | .bl b, v, _, h => by cases h; exact .bl b
  | .int b, v, _, h => by cases h; exact .int b
  | .str b, v, _, h => by cases h; exact .str b
  | .ty b, v, _, h => by cases h; exact .ty b
  | .gl b, v, _, h => by cases h; exact .gl b
  | .tup l, v, b, h => by
    cases h with
    | tup h1 hd h2 => exact .tup h1 hd (Reps.cut l _ (by simpa [below] using b) h2)
  | .lst l, v, b, h => by
    cases h with
    | lst h1 h2 h3 => exact .lst h1 (off_cut h2) (Reps.cut l _ (by simpa [below] using b) h3)
  | .scr l, v, b, h => by
    cases h with
    | scr h1 h2 => exact .scr h1 (Reps.cut l _ (by simpa [below] using b) h2)
  | .ref i, v, b, h => by
    cases h with
    | ref h1 =>
      have hi : i < n := by simpa [below] using b
      exact .ref (by show (m.c.take n)[i]? = _; rw [List.getElem?_take_of_lt hi]; exact h1)
  | .obj c ns l, v, b, h => by
    cases h with
    | obj h1 h2 h3 h4 => exact .obj h1 (off_cut h2) h3 (Reps.cut l _ (by simpa [below] using b) h4)
  | .dct l, v, b, h => by
    cases h with
    | dct h1 h2 h3 h4 => exact .dct h1 (off_cut h2) (DicR.cut l _ (by simpa [below] using b) h3) h4
theorem DicR.cut : ∀ (l : List D) (xs : List (NestedKey × Addr × Value)), belows n l = true → DicR K m H l xs → DicR K (cutM n m) H l xs
  | [], xs, _, h => by cases h; exact .nil
  | [_], xs, _, h => by cases h
  | kd :: vd :: l, xs, b, h => by
    cases h with
    | cons a r c d q =>
      have b2 : below n kd = true ∧ below n vd = true ∧ belows n l = true := by simpa [belows, Bool.and_eq_true] using b
      exact .cons a (Rep.cut kd _ b2.1 r) c (Rep.cut vd _ b2.2.1 d) (DicR.cut l _ b2.2.2 q)
theorem Reps.cut : ∀ (ds : List D) (vs : List V), belows n ds = true → Reps K m H vs ds → Reps K (cutM n m) H vs ds
  | [], vs, _, h => by cases h; exact .nil
  | d :: ds, vs, b, h => by
    cases h with
    | cons h1 h2 =>
      have b2 : below n d = true ∧ belows n ds = true := by simpa [belows, Bool.and_eq_true] using b
      exact .cons (Rep.cut d _ b2.1 h1) (Reps.cut ds _ b2.2 h2)
end
theorem ExR.cut {od : Option Addr} {fs : List (Str × D)} (b : belows n (fs.map (·.2)) = true) (h : ExR K m H od fs) : ExR K (cutM n m) H od fs := by
  cases od with
  | none => exact h
  | some d =>
    obtain ⟨vs, h1, h0, h2, h3⟩ := h
    exact ⟨vs, h1, off_cut h0, h2, Reps.cut _ _ b h3⟩
theorem ObR.cut {a : Addr} {o : Ob} (b : o.below n = true) (h : ObR K m H a o) : ObR K (cutM n m) H a o := by
  cases o with
  | lst l =>
    obtain ⟨vs, h1, h2⟩ := h
    exact ⟨vs, h1, Reps.cut l vs b h2⟩
  | ins c ns l =>
    obtain ⟨dx, fs, h1, h2, h3⟩ := h
    exact ⟨dx, fs, h1, h2, Reps.cut l _ b h3⟩
  | dic l =>
    obtain ⟨o, xs, h1, h2, h3⟩ := h
    exact ⟨o, xs, h1, DicR.cut l xs b h2, h3⟩
  | dik l =>
    obtain ⟨kvs, h1, h2, h3⟩ := h
    exact ⟨kvs, h1, h2, Reps.cut _ _ b h3⟩
  | tab P q => exact h
  | err c fs =>
    obtain ⟨o, h1, h2, h3, h5, h4⟩ := h
    exact ⟨o, h1, h2, h3, h5, h4.cut b⟩
  | clo k L q ds =>
    obtain ⟨d, pm, ctv, cl, l, h1, h2, h3, h4, h5⟩ := h
    exact ⟨d, pm, ctv, cl, l, h1, h2, h3, fun p hp => ⟨(h4 p hp).1, off_cut (h4 p hp).2⟩, Reps.cut _ _ b h5⟩
  | fz => exact h
theorem Sim.cut {S : Sto} (s : Sim K m S H) (hb : ((S.take n).all (Ob.below n)) = true) : Sim K (cutM n m) (S.take n) H := by
  refine ⟨by simp [cutM, s.len], s.nd.sublist (List.take_sublist _ _), fun i a o h1 h2 => ?_, s.hid, fun a ha => s.dis a (List.mem_of_mem_take ha)⟩
  have hi : i < n := by
    have := (List.getElem?_eq_some_iff.mp h2).1
    rw [List.length_take] at this
    omega
  have h1 : (m.c.take n)[i]? = some a := h1
  rw [List.getElem?_take_of_lt hi] at h1
  refine ObR.cut (List.all_eq_true.mp hb o (List.mem_of_getElem? h2)) (s.cell i a o h1 ?_)
  rw [List.getElem?_take_of_lt hi] at h2
  exact h2
theorem Ext.cut {m' : Mp} {H' : Hp} (e : Ext m H m' H') (hn : m.c.length = n) : Ext m H (cutM n m') H' := by
  obtain ⟨ex, e1, hx⟩ := e.pre
  refine ⟨⟨[], ?_, by simp⟩, e.hs, e.trk, e.keep, e.tup, e.frz, e.cod⟩
  show m'.c.take n = m.c ++ []
  rw [e1, ← hn]; simp
def optAll (f : D → Option D) : List D → Option (List D)
  | [] => some []
  | d :: l => (f d).bind fun a => (optAll f l).map (a :: ·)
/-- a cell that is given back is frozen, with the cells in it -/
def frzF (n : Nat) (S : Sto) : Nat → D → Option D
  | f + 1, .ref i => if i < n then some (.ref i) else match S[i]? with
    | some (.lst l) => (optAll (frzF n S f) l).map .lst
    | some (.ins c ns l) => (optAll (frzF n S f) l).map (.obj c ns)
    | some (.dic l) => if belows n l = true then some (.dct l) else (optAll (frzF n S f) l).map .dct
    | some (.dik _) => none
    | some (.tab _ _) => none
    | some (.err _ _) => none
    | some (.clo _ _ _ _) => none
    | some .fz => none
    | none => none
  | _, d => if below n d = true then some d else none
def frzD (n : Nat) (S : Sto) (d : D) : Option D := frzF n S 3 d
theorem frz_plain {v : V} {d r : D} (h : Rep K m H v d) (q : (if below n d = true then some d else none) = some r) : Rep K (cutM n m) H v r := by
  by_cases b : below n d = true
  · rw [if_pos b] at q
    cases q
    exact Rep.cut d v b h
  · rw [if_neg b] at q; cases q
theorem frz_all {f : D → Option D} (hf : ∀ (v : V) (d r : D), Rep K m H v d → f d = some r → Rep K (cutM n m) H v r) : ∀ {vs : List V} {l rs : List D}, Reps K m H vs l → optAll f l = some rs → Reps K (cutM n m) H vs rs
  | [], [], rs, _, q => by cases q; exact .nil
  | [], _ :: _, _, h, _ => by cases h
  | _ :: _, [], _, h, _ => by cases h
  | v :: vs, d :: l, rs, h, q => by
    cases h with
    | cons h1 h2 =>
      obtain ⟨a, qa, q⟩ := Option.bind_eq_some_iff.mp q
      obtain ⟨b, qb, rfl⟩ := Option.map_eq_some_iff.mp q
      exact .cons (hf v d a h1 qa) (frz_all hf h2 qb)
theorem frz_dic {f : D → Option D} (hf : ∀ (v : V) (d r : D), Rep K m H v d → f d = some r → Rep K (cutM n m) H v r) (hk : ∀ (d r : D) (k : NestedKey), keyD d = some k → f d = some r → r = d) : ∀ {l rs : List D} {xs : List (NestedKey × Addr × Value)}, DicR K m H l xs → optAll f l = some rs → DicR K (cutM n m) H rs xs
  | [], rs, _, h, q => by cases h; cases q; exact .nil
  | [_], _, _, h, _ => by cases h
  | kd :: vd :: l, rs, _, h, q => by
    cases h with
    | cons a b c d r =>
      obtain ⟨x, qx, q1⟩ := Option.bind_eq_some_iff.mp (show ((f kd).bind fun a => (optAll f (vd :: l)).map (a :: ·)) = some rs from q)
      obtain ⟨zs, q2, e1⟩ := Option.map_eq_some_iff.mp q1
      obtain ⟨y, qy, q3⟩ := Option.bind_eq_some_iff.mp (show ((f vd).bind fun a => (optAll f l).map (a :: ·)) = some zs from q2)
      obtain ⟨ws, q4, e2⟩ := Option.map_eq_some_iff.mp q3
      have e := hk kd x _ a qx
      subst e1 e2 e
      exact .cons a (hf _ _ _ b qx) c (hf _ _ _ d qy) (frz_dic hf hk r q4)
theorem frz_key (n : Nat) (S : Sto) (f : Nat) (d r : D) (k : NestedKey) (h : keyD d = some k) (q : frzF n S f d = some r) : r = d := by
  have go : ∀ d : D, (∀ i, d ≠ .ref i) → frzF n S f d = some r → r = d := fun d hd q => by
    have e : frzF n S f d = if below n d = true then some d else none := by
      cases f with
      | zero => cases d <;> rfl
      | succ f => cases d <;> first | rfl | exact absurd rfl (hd _)
    rw [e] at q
    by_cases b : below n d = true
    · rw [if_pos b] at q; exact (Option.some.inj q).symm
    · rw [if_neg b] at q; cases q
  refine go d (fun i e => ?_) q
  subst e
  cases h
theorem frzF_ok {S : Sto} (s : Sim K m S H) : ∀ (f : Nat) (v : V) (d r : D), Rep K m H v d → frzF n S f d = some r → Rep K (cutM n m) H v r
  | 0, v, d, r, h, q => frz_plain h (by cases d <;> exact q)
  | f + 1, v, d, r, h, q => by
    cases d with
    | ref i =>
      simp only [frzF] at q
      by_cases hi : i < n
      · rw [if_pos hi] at q
        cases q
        exact Rep.cut (.ref i) v (by simpa [below] using hi) h
      · rw [if_neg hi] at q
        cases h with
        | ref h1 =>
          rename_i a
          have off : Off (cutM n m) a := by
            refine ⟨fun z => ?_, s.dis a (List.mem_of_getElem? h1)⟩
            obtain ⟨j, hj, ej⟩ := List.mem_iff_getElem.mp (show a ∈ m.c.take n from z)
            have hjn : j < n := by rw [List.length_take] at hj; omega
            have hjm : j < m.c.length := by rw [List.length_take] at hj; omega
            have e2 : m.c[j]? = some a := by
              rw [← List.getElem?_take_of_lt hjn, List.getElem?_eq_getElem hj, ej]
            have := (List.getElem?_inj hjm s.nd).mp (e2.trans h1.symm)
            omega
          cases qo : S[i]? with
          | none => rw [qo] at q; cases q
          | some o =>
            rw [qo] at q
            have c := s.cell i a o h1 qo
            cases o with
            | dic l =>
              obtain ⟨ob, xs, g1, g2, g3⟩ := c
              simp only at q
              by_cases b : belows n l = true
              · rw [if_pos b] at q
                cases q
                exact .dct g1 off (DicR.cut l xs b g2) g3
              · rw [if_neg b] at q
                obtain ⟨rs, qr, rfl⟩ := Option.map_eq_some_iff.mp q
                exact .dct g1 off (frz_dic (fun v d r => frzF_ok s f v d r) (fun d r k => frz_key n S f d r k) g2 qr) g3
            | dik l => cases q
            | tab _ _ => cases q
            | err _ _ => cases q
            | clo _ _ _ _ => cases q
            | fz => cases q
            | lst l =>
              obtain ⟨vs, g1, g2⟩ := c
              obtain ⟨rs, qr, rfl⟩ := Option.map_eq_some_iff.mp q
              exact .lst g1 off (frz_all (fun v d r => frzF_ok s f v d r) g2 qr)
            | ins c ns l =>
              obtain ⟨dx, fs, g1, g2, g3⟩ := c
              obtain ⟨rs, qr, rfl⟩ := Option.map_eq_some_iff.mp q
              exact .obj g1 off g2 (frz_all (fun v d r => frzF_ok s f v d r) g3 qr)
    | _ => exact frz_plain h q
theorem frz_ok {S : Sto} {v : V} {d r : D} (s : Sim K m S H) (h : Rep K m H v d) (q : frzD n S d = some r) : Rep K (cutM n m) H v r := frzF_ok s 3 v d r h q
def cutR (n : Nat) : Res D → Res D
  | .ok d S => if (S.take n).all (Ob.below n) = true then (match frzD n S d with
    | some d' => .ok d' (S.take n)
    | none => .stuck) else .stuck
  | .exc c fs S => if (S.take n).all (Ob.below n) = true ∧ belows n (fs.map (·.2)) = true then .exc c fs (S.take n) else .stuck
  | .stuck => .stuck
theorem PostG.cut {W : WX} {σ : L2.St} {r : Res D} {Q : VK} (hn : m.c.length = n) (h : PostG K W (Rep K) σ m H (cutR n r) Q) : PostG K W (Rep K) σ m H r Q := by
  cases r with
  | stuck => exact h
  | ok d S =>
    simp only [cutR] at h
    by_cases b : (S.take n).all (Ob.below n) = true
    · rw [if_pos b] at h
      cases q : frzD n S d with
      | none => simp only [q] at h; exact h.elim
      | some d' =>
        simp only [q] at h
        exact fun v m' H' e s r => h v (cutM n m') H' (e.cut hn) (s.cut b) (frz_ok s r q)
    · rw [if_neg b] at h; exact h.elim
  | exc c fs S =>
    simp only [cutR] at h
    by_cases b : (S.take n).all (Ob.below n) = true ∧ belows n (fs.map (·.2)) = true
    · rw [if_pos b] at h
      exact fun od m' H' e s x => h od (cutM n m') H' (e.cut hn) (s.cut b.1) (x.cut b.2)
    · rw [if_neg b] at h; exact h.elim
def scop (f : List D → Sto → Res D) : List D → Sto → Res D := fun ds S => cutR S.length (f ds S)
theorem sp_scop {k : Nat} {f : List D → Sto → Res D} {vs : List V} {Q : VK} {E : XK} (h : spOf K k (scop f) vs H Q E) : spOf K k f vs H Q E := by
  obtain ⟨hl, ds, S, m, r, s, h⟩ := h
  exact ⟨hl, ds, S, m, r, s, PostG.cut s.len h⟩
end
theorem fn_scop {P : Program} {w : World} {K : PySem.W.Frag} {mg : Str → Option Value} {base : Heap} {j k : Nat} {a : Addr} {fd : FuncData} {ps : List Str} {f : List D → Sto → Res D} (F : FnG P w K mg base j a fd ps (spOf K k f)) : FnG P w K mg base j a fd ps (spOf K k (scop f)) :=
  F.weak fun _ _ _ _ => sp_scop

/-! ### C(..), o.m(..), o.f = e -/
section
variable {X : Cx} {W : WX} {e o : Expr} {es : List Expr} {pos p apos : Pos} {mr : AM} {k n j : Nat} {f : Addr} {fd : FuncData} {ps : List Str} {fm : List D → Sto → Res D} {x c : Str} {ma mv : EM}
/-- a new instance; frz: it does not change any more -/
def mkD (c : Str) (frz : Bool) (fm : List D → Sto → Res D) (ds : List D) (S : Sto) : Res D := match fm (.ref S.length :: ds) (S ++ [.ins c [] []]) with
  | .ok .non S' => if frz = true then cutR S.length (.ok (.ref S.length) S') else .ok (.ref S.length) S'
  | .exc c fs S' => cutR S.length (.exc c fs S')
  | _ => .stuck
def mMake (c : Str) (frz : Bool) (n : Nat) (fm : List D → Sto → Res D) (mr : AM) : EM := fun en S => (mr en S).bind fun ds S1 => if ds.length = n then mkD c frz fm ds S1 else .stuck
theorem mk_to {m : Mp} {H : Hp} {σ : L2.St} {S : Sto} {vs : List V} {ds : List D} {Q : VK} {frz : Bool} (s : Sim X.K m S H) (r : Reps X.K m H vs ds) (h : Post X.K W σ m H (if ds.length = n then mkD c frz fm ds S else .stuck) Q) :
    ∀ x dx, H x = none → H dx = none → dx ≠ x → spOf X.K (n + 1) fm (.ref x :: vs) (upd (upd H dx (.own x)) x (.ins (He.ga X.K c) dx [])) (fun v H2 => v = .non ∧ Q (.ref x) H2) (WE W σ) := by
  intro x dx hx hdx hne
  by_cases hl : ds.length = n
  · rw [if_pos hl] at h
    have hx2 : (upd H dx (.own x)) x = none := by rw [upd_ne (Ne.symm hne)]; exact hx
    have e1 : Ext m H m (upd H dx (.own x)) := .new hdx
    have s1 := s.new (o := .own x) hdx
    have e2 : Ext m (upd H dx (.own x)) (m.add x) (upd (upd H dx (.own x)) x (.ins (He.ga X.K c) dx [])) := .cell hx2
    have s2 : Sim X.K (m.add x) (S ++ [.ins c [] []]) (upd (upd H dx (.own x)) x (.ins (He.ga X.K c) dx [])) := s1.grow hx2 ⟨dx, [], upd_same, rfl, .nil⟩
    have e12 := e1.trans e2
    refine ⟨by rw [List.length_cons, r.len, hl], .ref S.length :: ds, _, m.add x, .cons (.ref (s.last x)) (r.to e12), s2, ?_⟩
    unfold mkD at h
    cases q : fm (.ref S.length :: ds) (S ++ [.ins c [] []]) with
    | stuck => rw [q] at h; exact h
    | exc c' fs S' =>
      rw [q] at h
      have h' := PostG.cut s.len h
      exact fun od m' H' e' s' z => h' od m' H' (e12.trans e') s' z
    | ok d S' =>
      rw [q] at h
      intro v m' H' e' s' rv
      have e3 := e12.trans e'
      have at_ : m'.c[S.length]? = some x := by
        obtain ⟨ex, e4, _⟩ := e'.pre
        exact pre_at e4 (s.last x)
      cases rv with
      | non =>
        simp only at h
        refine ⟨rfl, ?_⟩
        cases frz with
        | true =>
          simp only [if_true] at h
          exact (PostG.cut s.len h) _ m' H' e3 s' (.ref at_)
        | false =>
          simp only [Bool.false_eq_true, if_false] at h
          exact h _ m' H' e3 s' (.ref at_)
      | _ => exact h.elim
  · rw [if_neg hl] at h; exact h.elim
theorem make_guards {A : Around} {C : Addr} {us : List Value} {kw : List (Str × Value)} : (A.under (.builtin "type.__call__" ⟨.ref C :: us, kw⟩)).guards = A.guards := by
  first | rfl | simp [Around.under, Code.guards, Code.isGuard, guardIds, pushGuards]
theorem run_mk {pins : List (Addr × Obj)} {σ : L2.St} {H : Hp} {s : Shared} {Q : VK} {us : List Value} {vs : List V} {kw : List (Str × Value)} {us0 : List Value} (B : Bd X W j) (M : Mk X.K (He.ga X.K c) f) (F : FnG X.prog X.w X.K X.mg X.base k f fd ps (spOf X.K (n + 1) fm)) (hk : k + 1 ≤ j)
    (I : Inv X pins σ H s) (r : Vals vs us) (hb : BindsTo { s with heap := (s.heap.push { cls := .type "dict", data := .dict #[] }).push (PySem.W.instObj (He.ga X.K c) s.heap.objs.size) } fd ⟨.ref (s.heap.objs.size + 1) :: us0, kw⟩ (ps.zip (.ref (s.heap.objs.size + 1) :: us)))
    (h : ∀ x dx, H x = none → H dx = none → dx ≠ x → spOf X.K (n + 1) fm (.ref x :: vs) (upd (upd H dx (.own x)) x (.ins (He.ga X.K c) dx [])) (fun v H2 => v = .non ∧ Q (.ref x) H2) (WE W σ)) :
    wpAny (model X.prog X.w) X.A (call (.ref (He.ga X.K c)) us0 kw) (EP X pins σ Q) X.xe s := by
  have hq := h (s.heap.objs.size + 1) s.heap.objs.size (I.hok.fresh (Nat.le_succ _)) (I.hok.fresh (Nat.le_refl _)) (Nat.ne_of_lt (Nat.lt_succ_self _))
  have I2 := Inv.made (C := He.ga X.K c) I
  have r1 : Vals (V.ref (s.heap.objs.size + 1) :: vs) (Value.ref (s.heap.objs.size + 1) :: us) := .cons rfl r
  refine wpAny_call (make_map (f := f) I.kIn M.makes M.init (beq_iff_eq.mp M.fn) (codeAny_mono (F.run _ X.stack _ _ ⟨Value.ref (s.heap.objs.size + 1) :: us0, kw⟩ (Value.ref (s.heap.objs.size + 1) :: us) _ _ (WE W σ) (make_guards.trans B.gd) ((B.room.mono hk).make _ us0 kw)
    (I2.env0.make _ us0 kw) hb r1 hq) fun r s' hq' => ?_))
  cases r with
  | error e => exact L2N.passAt B.tk σ pins _ _ e s' I2 hq'
  | ok fl =>
    cases fl with
    | ret u =>
      obtain ⟨v, H', I3, rv, ev, q3⟩ := I2.after hq'
      subst ev
      exact ⟨rv, ⟨V.ref (s.heap.objs.size + 1), H', I3, rfl, q3⟩⟩
    | next => exact False.elim hq'
    | brk => exact False.elim hq'
    | cont => exact False.elim hq'
theorem e_make {frz : Bool} (B : Bd X W j) (M : Mk X.K (He.ga X.K c) f) (F : FnG X.prog X.w X.K X.mg X.base k f fd ps (spOf X.K (n + 1) fm)) (hk : k + 1 ≤ j) (hg : Gl X c) (hm : X.mg c = some (.ref (He.ga X.K c))) (hb : Binds X.K fd ps [])
    (ha : PA X (e :: es) (tA X.K W mr)) (hdb : (c == ("__debug__" : Str)) = false := by decide) (he : starEach (e :: es) X.env = (false, eval e X.env) :: starEach es X.env := by rfl) (hpl : (backTo pos (starEach es X.env)).any (·.1) = false := by rfl) :
    PE X (.Call (.Name c p) (e :: es) [] pos) (tE X.K W (mMake c frz n fm mr)) := by
  refine ⟨fun pins s σ H Q I h => ?_⟩
  refine wpAny_Call_Name_kw (ld_glob I hg hm ?_ hdb)
  obtain ⟨en, S, m, er, si, h⟩ := h
  refine PySem.W.callWith_K (h₀ := X.base) I.ok.mod.kin M.kp (thn (ha.run pos pins s σ H (fun vs H1 => ∃ ds S1 m1, Ext m H m1 H1 ∧ Sim X.K m1 S1 H1 ∧ Reps X.K m1 H1 vs ds ∧ Post X.K W σ m1 H1 (if ds.length = n then mkD c frz fm ds S1 else .stuck) Q) I ⟨en, S, m, er, si, h.bind⟩) fun us s1 ⟨vs, H1, I1, r, ds, S1, m1, e1, sm, r1, h1⟩ => ⟨I1.kIn, ?_⟩) he hpl
  have hq := mk_to (X := X) (W := W) sm r1 h1
  refine run_mk B M F hk I1 r ?_ hq
  have I2 := Inv.made (C := He.ga X.K c) I1
  have hl : (Value.ref (s1.heap.objs.size + 1) :: us).length = ps.length := by
    have h5 := F.len _ _ _ _ (hq (s1.heap.objs.size + 1) s1.heap.objs.size (I1.hok.fresh (Nat.le_succ _)) (I1.hok.fresh (Nat.le_refl _)) (Nat.ne_of_lt (Nat.lt_succ_self _)))
    rw [← h5, List.length_cons, List.length_cons, r.length]
  have b := hb _ (Value.ref (s1.heap.objs.size + 1) :: us) I2.kIn (by rw [List.append_nil]; exact hl)
  rw [List.append_nil] at b
  exact b
theorem e_makeKw {frz : Bool} {kws : List Keyword} {ks : List Str} {ix : List Nat} (B : Bd X W j) (M : Mk X.K (He.ga X.K c) f) (F : FnG X.prog X.w X.K X.mg X.base k f fd ps (spOf X.K (n + 1) fm)) (hk : k + 1 ≤ j) (hg : Gl X c) (hm : X.mg c = some (.ref (He.ga X.K c)))
    (hb : ∀ (s : Shared) (a : Value) (ws : List Value), X.K.In s.heap → ws.length = ks.length → BindsTo s fd ⟨[a], ks.zip ws⟩ (ps.zip (a :: pick ix ws))) (hkw : PK X kws (tA X.K W mr)) (hll : ks.length = n) (hall : (backToKw pos (keywordEach kws X.env)).all (·.1.isSome) = true := by rfl) (hks : (backToKw pos (keywordEach kws X.env)).filterMap (·.1) = ks := by rfl)
    (hdb : (c == ("__debug__" : Str)) = false := by decide) (hpl : ((backTo pos (starEach [] X.env)).any (·.1) || (backToKw pos (keywordEach kws X.env)).any (·.1.isNone)) = false := by rfl) :
    PE X (.Call (.Name c p) [] kws pos) (tE X.K W (fun en S => (mr en S).bind fun ds S1 => if ds.length = n then (if (pick ix ds).length = n then mkD c frz fm (pick ix ds) S1 else .stuck) else .stuck)) := by
  refine ⟨fun pins s σ H Q I h => ?_⟩
  refine wpAny_Call_Name_kw (ld_glob I hg hm ?_ hdb)
  refine PySem.W.callWith_KW0 (h₀ := X.base) I.ok.mod.kin M.kp hall ?_ hpl
  obtain ⟨en, S, m, er, si, h⟩ := h
  refine thn (hkw.run pos pins s σ H (fun vs H1 => ∃ ds S1 m1, Ext m H m1 H1 ∧ Sim X.K m1 S1 H1 ∧ Reps X.K m1 H1 vs ds ∧ Post X.K W σ m1 H1 (if ds.length = n then (if (pick ix ds).length = n then mkD c frz fm (pick ix ds) S1 else .stuck) else .stuck) Q) I ⟨en, S, m, er, si, h.bind⟩) fun ws s2 ⟨zs, H2, I2, rz, ds, S1, m1, e1, s1, r1, h1⟩ => ⟨I2.kIn, ?_⟩
  rw [hks]
  by_cases hl : ds.length = n
  · rw [if_pos hl] at h1
    have hlen : ws.length = ks.length := by rw [← rz.length, r1.len, hl, hll]
    exact run_mk (us0 := []) B M F hk I2 (Vals.pick rz ix) (hb _ _ ws (Inv.made (C := He.ga X.K c) I2).kIn hlen) (mk_to (X := X) (W := W) s1 (r1.pick ix) h1)
  · rw [if_neg hl] at h1; exact h1.elim
/-! o.f = e -/
def putL (f : Str) (d : D) : List Str → List D → Option (List Str × List D)
  | [], [] => some ([f], [d])
  | g :: ns, c :: l => if g = f then some (g :: ns, d :: l) else (putL f d ns l).map fun r => (g :: r.1, c :: r.2)
  | _, _ => none
theorem put_ok {K : PySem.W.Frag} {m : Mp} {H : Hp} {f : Str} {v : V} {d : D} (rv : Rep K m H v d) : ∀ {fs : List (Str × V)} {ns : List Str} {ds : List D} {r : List Str × List D}, fs.map (·.1) = ns → Reps K m H (fs.map (·.2)) ds → putL f d ns ds = some r → (putF f v fs).map (·.1) = r.1 ∧ Reps K m H ((putF f v fs).map (·.2)) r.2
  | [], _, _, _, h1, h2, h3 => by
    subst h1
    cases h2
    cases h3
    exact ⟨rfl, .cons rv .nil⟩
  | (g, u) :: fs, ns, ds, r, h1, h2, h3 => by
    subst h1
    cases h2 with
    | cons r1 r2 =>
      rename_i c ds
      simp only [List.map_cons, putL] at h3
      by_cases hg : g = f
      · rw [if_pos hg] at h3
        cases h3
        simp only [putF, if_pos hg]
        exact ⟨rfl, .cons rv r2⟩
      · rw [if_neg hg] at h3
        cases q : putL f d (fs.map (·.1)) ds with
        | none => rw [q] at h3; cases h3
        | some r' =>
          rw [q] at h3
          cases h3
          obtain ⟨i1, i2⟩ := put_ok rv rfl r2 q
          simp only [putF, if_neg hg]
          exact ⟨by simp [i1], .cons r1 i2⟩
def sFldM (cs : List Str) (f : Str) (ma mv : EM) : SM := fun en S => eS (mv en S) en fun d S1 => eS (ma en S1) en fun o S2 => match o with
  | .ref i => (match S2[i]? with
    | some (.ins c ns l) => if c ∈ cs ∧ ns.length < 1000 then (match putL f d ns l with
      | some r => .next en (S2.set i (.ins c r.1 r.2))
      | none => .stuck) else .stuck
    | _ => .stuck)
  | _ => .stuck
theorem s_fld {cs : List Str} {fl : Str} {pos' : Pos} {v : Expr} (hc : ∀ c ∈ cs, Cls X.K (He.ga X.K c) ∧ NoAttr X.K (He.ga X.K c) fl) (ho : PE X o (tE X.K W ma)) (hv : PE X v (tE X.K W mv)) (hs : swapsWith v (some (.Attribute o fl pos')) pos.line X.env = pure false := by rfl) :
    PS X (.Assign [.Attribute o fl pos'] v pos) (tS X.K W (sFldM cs fl ma mv)) := by
  refine PS.imp (ps_fld ho hv hs) ?_
  rintro E σ H ⟨en, S, m, er, si, h⟩
  refine ⟨en, S, m, er, si, (eS_to er h).mono ?_⟩
  rintro y H1 ⟨d, S1, m1, e1, s1, r1, h1⟩
  refine ⟨en, S1, m1, er.to e1, s1, (eS_to (er.to e1) h1).mono ?_⟩
  rintro x H2 ⟨od, S2, m2, e2, s2, r2, h2⟩
  cases r2 with
  | ref hi =>
    rename_i a i
    simp only at h2
    cases q : S2[i]? with
    | none => simp only [q] at h2; exact h2.elim
    | some ob =>
      simp only [q] at h2
      cases ob with
      | dic kvs => exact h2.elim
      | dik kvs => exact h2.elim
      | tab _ _ => exact h2.elim
      | err _ _ => exact h2.elim
      | clo _ _ _ _ => exact h2.elim
      | fz => exact h2.elim
      | lst l => exact h2.elim
      | ins c ns l =>
        simp only at h2
        by_cases hcs : c ∈ cs ∧ ns.length < 1000
        · rw [if_pos hcs] at h2
          obtain ⟨dx, fs, g1, g2, g3⟩ := s2.cell i a _ hi q
          cases qp : putL fl d ns l with
          | none => simp only [qp] at h2; exact h2.elim
          | some r =>
            simp only [qp] at h2
            have e3 : Ext m2 H2 m2 (upd H2 a (.ins (He.ga X.K c) dx (putF fl y fs))) := Ext.put s2 (List.mem_of_getElem? hi) (nfz g1)
            obtain ⟨p1, p2⟩ := put_ok (r1.to e2) g2 g3 qp
            refine ⟨a, _, dx, fs, rfl, g1, (hc c hcs.1).1, (hc c hcs.1).2, by rw [← g2, List.length_map] at hcs; exact hcs.2, ?_⟩
            exact h2 σ m2 _ e3 (s2.put hi ⟨dx, _, upd_same, p1, p2.to e3⟩ (nfz g1)) (((er.to e1).to e2).to e3)
        · rw [if_neg hcs] at h2; exact h2.elim
  | _ => exact h2.elim
end
end Ag

namespace Ag
open PySem L2
/-! ### plain data -/
mutual
def D.py : D → Option PyData
  | .non => some .none
  | .bl b => some (.bool b)
  | .int i => some (.int i)
  | .str x => some (.str x)
  | .tup l => (D.pys l).map .tuple
  | .lst l => (D.pys l).map .list
  | .scr l => (D.pys l).map .list
  | _ => none
def D.pys : List D → Option (List PyData)
  | [] => some []
  | d :: l => match D.py d, D.pys l with
    | some p, some ps => some (p :: ps)
    | _, _ => none
end
def pyS (d : D) (S : Sto) : Option PyData := match d with
  | .ref i => (match S[i]? with
    | some (.lst l) => (D.pys l).map .list
    | _ => none)
  | d => d.py
section
variable {K : PySem.W.Frag} {m : Mp} {H : Hp}
mutual
theorem dp_of : ∀ (d : D) (v : V) (p : PyData), Rep K m H v d → d.py = some p → Dp K H v p
  | .non, v, p, h, e => by cases h; cases e; exact .non
  | .bl b, v, p, h, e => by cases h; cases e; exact .bl b
  | .int b, v, p, h, e => by cases h; cases e; exact .int b
  | .str b, v, p, h, e => by cases h; cases e; exact .str b
  | .ty b, v, p, h, e => by cases e
  | .gl b, v, p, h, e => by cases e
  | .ref i, v, p, h, e => by cases e
  | .obj c ns l, v, p, h, e => by cases e
  | .tup l, v, p, h, e => by
    cases h with
    | tup h1 hd h2 =>
      cases q : D.pys l with
      | none => simp only [D.py, q] at e; cases e
      | some ps =>
        simp only [D.py, q] at e
        cases e
        exact .tup h1 (dps_of l _ ps h2 q)
  | .lst l, v, p, h, e => by
    cases h with
    | lst h1 h2 h3 =>
      cases q : D.pys l with
      | none => simp only [D.py, q] at e; cases e
      | some ps =>
        simp only [D.py, q] at e
        cases e
        exact .lst (.inl (.inl h1)) (dps_of l _ ps h3 q)
  | .scr l, v, p, h, e => by
    cases h with
    | scr h1 h2 =>
      cases q : D.pys l with
      | none => simp only [D.py, q] at e; cases e
      | some ps =>
        simp only [D.py, q] at e
        cases e
        refine .lst ?_ (dps_of l _ ps h2 q)
        rcases h1 with ⟨o, h1⟩ | h1
        · exact .inl (.inr ⟨o, h1⟩)
        · exact h1 H
theorem dps_of : ∀ (ds : List D) (vs : List V) (ps : List PyData), Reps K m H vs ds → D.pys ds = some ps → DpAll K H vs ps
  | [], vs, ps, h, e => by cases h; cases e; exact .nil
  | d :: ds, vs, ps, h, e => by
    cases h with
    | cons h1 h2 =>
      simp only [D.pys] at e
      cases q1 : D.py d with
      | none => simp only [q1] at e; cases e
      | some p =>
        cases q2 : D.pys ds with
        | none => simp only [q1, q2] at e; cases e
        | some ps' =>
          simp only [q1, q2] at e
          cases e
          exact .cons (dp_of d _ p h1 q1) (dps_of ds _ ps' h2 q2)
end
theorem dpS_of {S : Sto} {d : D} {v : V} {p : PyData} (si : Sim K m S H) (h : Rep K m H v d) (e : pyS d S = some p) : Dp K H v p := by
  cases d with
  | ref i =>
    cases h with
    | ref h1 =>
      rename_i a
      simp only [pyS] at e
      cases q : S[i]? with
      | none => rw [q] at e; cases e
      | some o =>
        rw [q] at e
        cases o with
        | ins c ns l => cases e
        | dic kvs => cases e
        | dik kvs => cases e
        | tab _ _ => cases e
        | err _ _ => cases e
        | clo _ _ _ _ => cases e
        | fz => cases e
        | lst l =>
          obtain ⟨vs, h2, h3⟩ := si.cell i a _ h1 q
          cases q2 : D.pys l with
          | none => simp only [q2] at e; cases e
          | some ps =>
            simp only [q2] at e
            cases e
            exact .lst (.inl (.inl h2)) (dps_of l _ ps h3 q2)
  | _ => exact dp_of _ v p h e
end

/-! ### operators -/
def lstOf : D → Sto → Option (List D)
  | .lst l, _ => some l
  | .ref i, S => match S[i]? with
    | some (.lst l) => some l
    | _ => none
  | _, _ => none
theorem lst_at {K : PySem.W.Frag} {m : Mp} {H : Hp} {S : Sto} {v : V} {d : D} {l : List D} (si : Sim K m S H) (r : Rep K m H v d) (h : lstOf d S = some l) : ∃ a vs, v = .ref a ∧ H a = some (.lst vs) ∧ Reps K m H vs l := by
  have h2 : seqOf d S = some l := by
    cases d <;> first | exact h | cases h
  obtain ⟨a, vs, e, h3, h4⟩ := seq_at si r h2
  rcases h3 with ⟨_, h3⟩ | ⟨h3, _⟩
  · subst h3; cases h
  · exact ⟨a, vs, e, h3, h4⟩
def mulOk (i j : Int) : Bool := decide (i.natAbs < 2 ^ 64) || (decide (j.natAbs < 2 ^ 64) || decide (i.natAbs.log2 + j.natAbs.log2 < 1000000))
def divOk (j : Int) : Bool := decide (0 < j) && decide (j.natAbs.log2 < 9000)
def fAdd : D → D → Sto → Option D
  | .int i, .int j, _ => some (.int (i + j))
  | .str a, .str b, _ => if a.length + b.length ≤ lineN then some (.str (a ++ b)) else none
  | .tup a, .tup b, _ => if a.length + b.length ≤ lineN then some (.tup (a ++ b)) else none
  | x, y, S => match lstOf x S, lstOf y S with
    | some a, some b => if a.length + b.length ≤ lineN then some (.lst (a ++ b)) else none
    | _, _ => none
def fSub : D → D → Sto → Option D
  | .int i, .int j, _ => some (.int (i - j))
  | _, _, _ => none
def fMul : D → D → Sto → Option D
  | .int i, .int j, _ => if mulOk i j = true then some (.int (i * j)) else none
  | .tup a, .int k, _ => if a ≠ [] ∧ 1 ≤ k ∧ k ≤ 1000 ∧ a.length ≤ 1000 ∧ (k = 1 ∨ names (List.replicate k.toNat a).flatten = false) then some (.tup (List.replicate k.toNat a).flatten) else none
  | x, .int k, S => match lstOf x S with
    | some a => if 0 ≤ k ∧ k ≤ 1000 ∧ a.length ≤ 1000 then some (.lst (List.replicate k.toNat a).flatten) else none
    | none => none
  | _, _, _ => none
def fDiv : D → D → Sto → Option D
  | .int i, .int j, _ => if divOk j = true then some (.int (i / j)) else none
  | _, _, _ => none
def fMod : D → D → Sto → Option D
  | .int i, .int j, _ => if 0 < j then some (.int (i % j)) else none
  | _, _, _ => none
def fPow : D → D → Sto → Option D
  | .int i, .int j, _ => if 0 ≤ j ∧ j ≤ 1000 ∧ i.natAbs < 2 ^ 64 then some (.int (i ^ j.toNat)) else none
  | _, _, _ => none
def fNeg : D → Sto → Option D
  | .int i, _ => some (.int (-i))
  | _, _ => none
section
variable {X : Cx}
/-- t + u: new where neither is empty -/
theorem op_catF : OpR X (binaryOp .Add) (fun x y H Q => ∃ a b xs ys, x = .ref a ∧ y = .ref b ∧ SqT X.K H a xs ∧ SqT X.K H b ys ∧ xs.length + ys.length ≤ sizeLine ∧
    (xs = [] → Q (.ref b) H) ∧ (xs ≠ [] → ys = [] → Q (.ref a) H) ∧ (xs ≠ [] → ys ≠ [] → ∀ p o, H p = none → o.dict = none → Q (.ref p) (upd H p (.frz o (.tup (xs ++ ys)))))) := by
  rintro pins s σ H x y v u Q I rx ry ⟨a, b, xs, ys, rfl, rfl, ha, hb, hz, q0, q1, q2⟩
  by_cases both : xs ≠ [] ∧ ys ≠ []
  · cases rx; cases ry
    obtain ⟨us, r, pa, _⟩ := I.tuple ha
    obtain ⟨ws, t, pb, _⟩ := I.tuple hb
    have nu : us ≠ [] := fun z => both.1 (r.nil_iff.mp z)
    have nw : ws ≠ [] := fun z => both.2 (t.nil_iff.mp z)
    exact HT.cat_tup pa pb nu (fun z => absurd z nw) (fun _ => newTup I (r.append t) (by rw [List.length_append]; exact hz) (q2 both.1 both.2)) (by rw [← r.length, ← t.length]; exact hz)
  · refine op_catA pins s σ H _ _ v u Q I rx ry ⟨a, b, xs, ys, rfl, rfl, ha, hb, hz, q0, q1, fun h1 h2 => absurd ⟨h1, h2⟩ both⟩
theorem o_add : OpR X (binaryOp .Add) (rO2 X.K fAdd) := by
  intro pins s σ H x y v u Q I rx ry ⟨d, e, S, m, r, si, hx, hy, hf, hq⟩
  have lists : ∀ l1 l2, lstOf d S = some l1 → lstOf e S = some l2 → (if l1.length + l2.length ≤ lineN then some (.lst (l1 ++ l2)) else none) = some r → wpAny (model X.prog X.w) X.A (binaryOp .Add v u) (EP X pins σ Q) X.xe s := fun l1 l2 q1 q2 hf => by
    by_cases hl : l1.length + l2.length ≤ lineN
    · rw [if_pos hl] at hf
      cases hf
      obtain ⟨a, vs, rfl, h1, h2⟩ := lst_at si hx q1
      obtain ⟨b, us, rfl, h3, h4⟩ := lst_at si hy q2
      exact op_cat pins s σ H _ _ v u Q I rx ry ⟨a, b, vs, us, rfl, rfl, h1, h3, by rw [h2.len, h4.len, ← line_eq]; exact hl, fun p hp => hq _ _ (.new hp) (si.new hp) (.lst upd_same (si.off hp) ((h2.app h4).to (.new hp)))⟩
    · rw [if_neg hl] at hf; cases hf
  unfold fAdd at hf
  split at hf
  · cases hx; cases hy; cases hf
    exact op_add pins s σ H _ _ v u Q I rx ry ⟨_, _, rfl, rfl, hq _ H .refl si (.int _)⟩
  · rename_i a b
    by_cases hl : a.length + b.length ≤ lineN
    · rw [if_pos hl] at hf
      cases hx; cases hy; cases hf
      exact op_add_str pins s σ H _ _ v u Q I rx ry ⟨_, _, rfl, rfl, by rw [← line_eq]; exact hl, hq _ H .refl si (.str _)⟩
    · rw [if_neg hl] at hf; cases hf
  · rename_i a b
    by_cases hl : a.length + b.length ≤ lineN
    · rw [if_pos hl] at hf
      cases hf
      cases hx with
      | tup h1 hd h2 =>
        cases hy with
        | tup h3 hd3 h4 =>
          refine op_catF pins s σ H _ _ v u Q I rx ry ⟨_, _, _, _, rfl, rfl, h1, h3, by rw [h2.len, h4.len, ← line_eq]; exact hl, fun e0 => ?_, fun _ e0 => ?_, fun _ _ p o hp ho => ?_⟩
          · subst e0
            cases h2
            exact hq _ H .refl si (.tup h3 hd3 h4)
          · subst e0
            cases h4
            rw [List.append_nil] at hq
            exact hq _ H .refl si (.tup h1 hd h2)
          · exact hq _ _ (.new hp) (si.new hp) (tupF ho ((h2.app h4).to (.new hp)))
    · rw [if_neg hl] at hf; cases hf
  · cases q1 : lstOf d S with
    | none => rw [q1] at hf; cases hf
    | some l1 =>
      cases q2 : lstOf e S with
      | none => rw [q1, q2] at hf; cases hf
      | some l2 =>
        rw [q1, q2] at hf
        exact lists l1 l2 q1 q2 hf
/-- a tuple once: itself -/
theorem mul_self (l : Addr) (its : Array Value) (n : Nat) (dd : Option Addr) (sl : Array (Option Value)) (u : Tok) :
    Meets (Builtin.«tuple.__mul__» ⟨[.ref l, .int 1 u], []⟩) (fun _ R s => s.heap.get? l = some { cls := .type "tuple", dict := dd, data := .seq its n, slots := sl } ∧ R (.ok (.ret (Value.ref l))) s) :=
  .of_wp fun prog w A R s h => by
    obtain ⟨hp, g, d, tk, os⟩ := s
    obtain ⟨hl, h⟩ := h
    have i1 := AutoSeq1.idx_int
    wp_walk using wpAny_loadPart' hl
    exact ⟨_, rfl, h⟩
theorem op_once : OpR X (binaryOp .Mult) (fun x y H Q => ∃ l xs, x = .ref l ∧ y = .int 1 ∧ SqT X.K H l xs ∧ Q (.ref l) H) := by
  intro pins s σ H x y v u Q I rx ry ⟨l, xs, ex, ey, sq, q⟩
  subst ex ey
  cases rx
  obtain ⟨t, rfl⟩ := ry
  obtain ⟨its, r, ⟨⟨cls, dd, data, sl⟩, ho, hc, n, hd⟩, hs⟩ := I.tuple sq
  simp only at hc hd
  subst hc hd
  have ti : s.TypeIs (.ref l) "tuple" := ⟨_, ho, rfl⟩
  refine wpAny_binaryOp_repeat_ref (T := "tuple") (U := "int") (by decide) ti (fun z => typeIs_int z 1 t) noFill_tuple_mul F.fills_int_mul F.slot_int_rmul repeat_tuple F.slot_int_index.lookup ?_
  refine call_meets F.slot_int_rmul (typeIs_int s 1 t) F.entry_int_rmul (F.args_int_rmul_2 _ _) (int_rmul_tuple 1 t l its.toArray n dd sl) ⟨ho, rfl, ti, ?_⟩
  exact call_meets F.slot_tuple_mul ti F.entry_tuple_mul (F.args_tuple_mul_2 _ _) (mul_self l its.toArray n dd sl t) ⟨ho, ⟨.ref l, H, I, rfl, q⟩⟩
theorem o_mul : OpR X (binaryOp .Mult) (rO2 X.K fMul) := by
  intro pins s σ H x y v u Q I rx ry ⟨d, e, S, m, r, si, hx, hy, hf, hq⟩
  unfold fMul at hf
  split at hf
  · rename_i i j
    by_cases hl : mulOk i j = true
    · rw [if_pos hl] at hf
      cases hx; cases hy; cases hf
      have fin := hq _ H .refl si (.int (i * j))
      unfold mulOk at hl
      simp only [Bool.or_eq_true, decide_eq_true_eq] at hl
      rcases hl with h | h | h
      · exact op_mul pins s σ H _ _ v u Q I rx ry ⟨_, _, rfl, rfl, .inl ⟨by omega, by omega⟩, fin⟩
      · exact op_mul pins s σ H _ _ v u Q I rx ry ⟨_, _, rfl, rfl, .inr ⟨by omega, by omega⟩, fin⟩
      · exact op_mulW pins s σ H _ _ v u Q I rx ry ⟨_, _, rfl, rfl, h, fin⟩
    · rw [if_neg hl] at hf; cases hf
  · rename_i a k
    by_cases hl : a ≠ [] ∧ 1 ≤ k ∧ k ≤ 1000 ∧ a.length ≤ 1000 ∧ (k = 1 ∨ names (List.replicate k.toNat a).flatten = false)
    · rw [if_pos hl] at hf
      cases hf; cases hy
      cases hx with
      | tup h1 hd h2 =>
        by_cases h11 : k = 1
        · subst h11
          have e1 : (List.replicate (1 : Int).toNat a).flatten = a := by simp
          rw [e1] at hq
          exact op_once pins s σ H _ _ v u Q I rx ry ⟨_, _, rfl, rfl, h1, hq _ H .refl si (.tup h1 hd h2)⟩
        refine op_repT pins s σ H _ _ v u Q I rx ry ⟨_, _, _, rfl, rfl, h1, ?_, by omega, hl.2.2.1, by rw [h2.len]; exact hl.2.2.2.1, fun p hp => ?_⟩
        · intro z; subst z; cases h2; exact hl.1 rfl
        · exact hq _ _ (.new hp) (si.new hp) (.tup (.inl (.inl upd_same)) (fun z => by rcases hl.2.2.2.2 with y | y; exact absurd y h11; rw [y] at z; cases z) ((h2.flatten _).to (.new hp)))
    · rw [if_neg hl] at hf; cases hf
  · rename_i k _ _
    cases q : lstOf d S with
    | none => rw [q] at hf; cases hf
    | some a =>
      simp only [q] at hf
      by_cases hl : 0 ≤ k ∧ k ≤ 1000 ∧ a.length ≤ 1000
      · rw [if_pos hl] at hf
        cases hf; cases hy
        obtain ⟨b, vs, rfl, h1, h2⟩ := lst_at si hx q
        refine op_rep pins s σ H _ _ v u Q I rx ry ⟨b, k, vs, rfl, rfl, h1, by omega, by omega, ?_, fun p hp => ?_⟩
        · rw [h2.len, ← line_eq]
          have : k.toNat ≤ 1000 := by omega
          have := Nat.mul_le_mul hl.2.2 this
          unfold lineN
          omega
        · exact hq _ _ (.new hp) (si.new hp) (.lst upd_same (si.off hp) ((h2.flatten _).to (.new hp)))
      · rw [if_neg hl] at hf; cases hf
  · cases hf
theorem o_div : OpR X (binaryOp .FloorDiv) (rO2 X.K fDiv) := by
  intro pins s σ H x y v u Q I rx ry ⟨d, e, S, m, r, si, hx, hy, hf, hq⟩
  unfold fDiv at hf
  split at hf
  · rename_i i j
    by_cases hl : divOk j = true
    · rw [if_pos hl] at hf
      cases hx; cases hy; cases hf
      unfold divOk at hl
      simp only [Bool.and_eq_true, decide_eq_true_eq] at hl
      exact op_fdivW pins s σ H _ _ v u Q I rx ry ⟨_, _, rfl, rfl, hl, hq _ H .refl si (.int _)⟩
    · rw [if_neg hl] at hf; cases hf
  · cases hf
theorem o_mod : OpR X (binaryOp .Mod) (rO2 X.K fMod) := by
  intro pins s σ H x y v u Q I rx ry ⟨d, e, S, m, r, si, hx, hy, hf, hq⟩
  unfold fMod at hf
  split at hf
  · rename_i i j
    by_cases hl : 0 < j
    · rw [if_pos hl] at hf
      cases hx; cases hy; cases hf
      exact op_mod pins s σ H _ _ v u Q I rx ry ⟨_, _, rfl, rfl, hl, hq _ H .refl si (.int _)⟩
    · rw [if_neg hl] at hf; cases hf
  · cases hf
theorem o_pow : OpR X (binaryOp .Pow) (rO2 X.K fPow) := by
  intro pins s σ H x y v u Q I rx ry ⟨d, e, S, m, r, si, hx, hy, hf, hq⟩
  unfold fPow at hf
  split at hf
  · rename_i i j
    by_cases hl : 0 ≤ j ∧ j ≤ 1000 ∧ i.natAbs < 2 ^ 64
    · rw [if_pos hl] at hf
      cases hx; cases hy; cases hf
      exact op_pow pins s σ H _ _ v u Q I rx ry ⟨_, _, rfl, rfl, ⟨hl.1, by omega, hl.2.2⟩, hq _ H .refl si (.int _)⟩
    · rw [if_neg hl] at hf; cases hf
  · cases hf
theorem u_neg : UnR X (unaryOp .USub) (rO1 X.K fNeg) := by
  intro pins s σ H x v Q I rx ⟨d, S, m, r, si, hx, hf, hq⟩
  unfold fNeg at hf
  split at hf
  · cases hx; cases hf
    exact un_neg pins s σ H _ v Q I rx ⟨_, rfl, hq _ H .refl si (.int _)⟩
  · cases hf

/-! comparisons -/
def cmpI (p : Int → Int → Bool) : D → D → Sto → Option D
  | .int i, .int j, _ => some (.bl (p i j))
  | _, _, _ => none
abbrev fLt := cmpI fun i j => decide (i < j)
abbrev fLe := cmpI fun i j => decide (i ≤ j)
abbrev fGt := cmpI fun i j => decide (j < i)
abbrev fGe := cmpI fun i j => decide (j ≤ i)
theorem o_cmpI {op : CmpOp} {p : Int → Int → Bool} (h : OpR X (compareOp op) (rI0 fun i j => .bl (p i j))) : OpR X (compareOp op) (rO2 X.K (cmpI p)) := by
  intro pins s σ H x y v u Q I rx ry ⟨d, e, S, m, r, si, hx, hy, hf, hq⟩
  unfold cmpI at hf
  split at hf
  · cases hx; cases hy; cases hf
    exact h pins s σ H _ _ v u Q I rx ry ⟨_, _, rfl, rfl, hq _ H .refl si (.bl _)⟩
  · cases hf
theorem o_lt : OpR X (compareOp .Lt) (rO2 X.K fLt) := o_cmpI op_lt
theorem o_le : OpR X (compareOp .LtE) (rO2 X.K fLe) := o_cmpI op_le
theorem o_gt : OpR X (compareOp .Gt) (rO2 X.K fGt) := o_cmpI op_gt
theorem o_ge : OpR X (compareOp .GtE) (rO2 X.K fGe) := o_cmpI op_ge
def eqD (x y : D) (S : Sto) : Option D := match pyS x S, pyS y S with
  | some p, some q => if SeqAt.shaped p = true ∧ SeqAt.shaped q = true then some (.bl (PyData.eqv p q)) else none
  | _, _ => none
def neD (x y : D) (S : Sto) : Option D := match pyS x S, pyS y S with
  | some p, some q => if SeqAt.shaped p = true ∧ SeqAt.shaped q = true then some (.bl (!PyData.eqv p q)) else none
  | _, _ => none
def fEq : D → D → Sto → Option D
  | .str a, .str b, _ => some (.bl (decide (a = b)))
  | x, y, S => eqD x y S
def fNe : D → D → Sto → Option D
  | .str a, .str b, _ => some (.bl (!decide (a = b)))
  | x, y, S => neD x y S
theorem dec_str {a b : Str} : decide (V.str a = V.str b) = decide (a = b) := by
  by_cases h : a = b <;> simp [h]
theorem o_eq (hu : X.A.units + 64 < cLine) : OpR X (compareOp .Eq) (rO2 X.K fEq) := by
  intro pins s σ H x y v u Q I rx ry ⟨d, e, S, m, r, si, hx, hy, hf, hq⟩
  unfold fEq at hf
  split at hf
  · cases hx; cases hy; cases hf
    refine op_eq pins s σ H _ _ v u Q I rx ry ⟨rfl, ?_⟩
    rw [dec_str]
    exact hq _ H .refl si (.bl _)
  unfold eqD at hf
  split at hf
  · rename_i p q q1 q2
    by_cases hl : SeqAt.shaped p = true ∧ SeqAt.shaped q = true
    · rw [if_pos hl] at hf
      cases hf
      exact op_eqD hu pins s σ H _ _ v u Q I rx ry ⟨p, q, dpS_of si hx q1, dpS_of si hy q2, hl.1, hl.2, hq _ H .refl si (.bl _)⟩
    · rw [if_neg hl] at hf; cases hf
  · cases hf
theorem o_ne (hu : X.A.units + 64 < cLine) : OpR X (compareOp .NotEq) (rO2 X.K fNe) := by
  intro pins s σ H x y v u Q I rx ry ⟨d, e, S, m, r, si, hx, hy, hf, hq⟩
  unfold fNe at hf
  split at hf
  · cases hx; cases hy; cases hf
    refine op_ne pins s σ H _ _ v u Q I rx ry ⟨rfl, ?_⟩
    rw [dec_str]
    exact hq _ H .refl si (.bl _)
  unfold neD at hf
  split at hf
  · rename_i p q q1 q2
    by_cases hl : SeqAt.shaped p = true ∧ SeqAt.shaped q = true
    · rw [if_pos hl] at hf
      cases hf
      exact op_neD hu pins s σ H _ _ v u Q I rx ry ⟨p, q, dpS_of si hx q1, dpS_of si hy q2, hl.1, hl.2, hq _ H .refl si (.bl _)⟩
    · rw [if_neg hl] at hf; cases hf
  · cases hf
def isNon : D → Bool
  | .non => true
  | _ => false
theorem isNon_v {K : PySem.W.Frag} {m : Mp} {H : Hp} {v : V} {d : D} (r : Rep K m H v d) : decide (v = .non) = isNon d := by
  cases r <;> first | rfl | (apply decide_eq_false; nofun)
def fIs : D → D → Sto → Option D
  | d, .non, _ => some (.bl (isNon d))
  | .bl a, .bl b, _ => some (.bl (a == b))
  | _, _, _ => none
def fIsNot : D → D → Sto → Option D
  | d, .non, _ => some (.bl (!isNon d))
  | .bl a, .bl b, _ => some (.bl (!(a == b)))
  | _, _, _ => none
theorem o_is : OpR X (compareOp .Is) (rO2 X.K fIs) := by
  intro pins s σ H x y v u Q I rx ry ⟨d, e, S, m, r, si, hx, hy, hf, hq⟩
  unfold fIs at hf
  split at hf
  · cases hy; cases hf
    refine op_isN pins s σ H _ _ v u Q I rx ry ⟨rfl, ?_⟩
    rw [isNon_v hx]
    exact hq _ H .refl si (.bl _)
  · cases hf; cases hx; cases hy; cases rx; cases ry
    rename_i a b
    refine (show wpAny _ _ (isSame (.bool a) (.bool b) >>= fun z => pure (Value.bool z)) _ _ s from wpAny_bind (wpAny_pure (wpAny_pure (fin_bl I (hq _ H .refl si (.bl _)) ?_))))
    cases a <;> cases b <;> rfl
  · cases hf
/-- x in y: a sign in a text, data in a tuple or list -/
def inD (x y : D) (S : Sto) : Option Bool := match x, y with
  | .str a, .str z => if a.cps.size = 1 then some (decide (a.cps.getD 0 0 ∈ z.cps.toList)) else none
  | x, y => match pyS x S, pyS y S with
    | some p, some (.tuple qs) => if SeqAt.shaped p = true ∧ SeqAt.shaped (.tuple qs) = true then some (qs.any fun z => PyData.eqv z p) else none
    | some p, some (.list qs) => if SeqAt.shaped p = true ∧ SeqAt.shaped (.list qs) = true then some (qs.any fun z => PyData.eqv z p) else none
    | _, _ => none
def fIn (x y : D) (S : Sto) : Option D := (inD x y S).map .bl
theorem sign_of {a : Str} (h : a.cps.size = 1) : a = ⟨#[a.cps.getD 0 0]⟩ := by
  obtain ⟨⟨l⟩⟩ := a
  match l, h with
  | [c], _ => rfl
theorem o_in (hu : X.A.units + 65 < cLine) : OpR X (compareOp .In) (rO2 X.K fIn) := by
  intro pins s σ H x y v u Q I rx ry ⟨d, e, S, m, r, si, hx, hy, hf, hq⟩
  unfold fIn at hf
  cases qi : inD d e S with
  | none => rw [qi] at hf; cases hf
  | some b =>
    rw [qi] at hf
    cases hf
    have fin := hq _ H .refl si (.bl b)
    unfold inD at qi
    split at qi
    · rename_i a z
      by_cases ha : a.cps.size = 1
      · rw [if_pos ha] at qi
        cases qi
        cases hx; cases hy
        exact op_in_sign pins s σ H _ _ v u Q I rx ry ⟨a.cps.getD 0 0, z, congrArg V.str (sign_of ha), rfl, fin⟩
      · rw [if_neg ha] at qi; cases qi
    · split at qi
      · rename_i p qs q1 q2
        by_cases hl : SeqAt.shaped p = true ∧ SeqAt.shaped (.tuple qs) = true
        · rw [if_pos hl] at qi
          cases qi
          obtain ⟨as, r1⟩ := Dp.reads I p x v (dpS_of si hx q1) rx
          obtain ⟨bs, r2⟩ := Dp.reads I (.tuple qs) y u (dpS_of si hy q2) ry
          exact SeqAt.in_tuple_reads r2 r1 (by have := SeqAt.canLay_of_shaped hl.2; simpa only [PyData.canLay0] using this) (SeqAt.canLay_of_shaped hl.1) (PyProof.Rows.room_in_shaped hl.1 hu) ⟨.bl _, H, I, rfl, fin⟩
        · rw [if_neg hl] at qi; cases qi
      · rename_i p qs q1 q2
        by_cases hl : SeqAt.shaped p = true ∧ SeqAt.shaped (.list qs) = true
        · rw [if_pos hl] at qi
          cases qi
          exact op_inD hu pins s σ H _ _ v u Q I rx ry ⟨p, qs, dpS_of si hx q1, dpS_of si hy q2, hl.1, hl.2, fin⟩
        · rw [if_neg hl] at qi; cases qi
      · cases qi
end
end Ag

namespace Ag
open PySem L2
/-! ### enumerate of a tuple -/
def IteT (K : PySem.W.Frag) (a : Addr) : L2.It where
  go := fun i H => ∃ (xs : List V) (x : V), SqT K H a xs ∧ xs[i]? = some x
  yld := fun i H v H' => ∃ T x, v = .ref T ∧ H T = none ∧ H' = upd H T (.tup [.int (i : Nat), x]) ∧ ∀ xs, SqT K H a xs → xs[i]? = some x
  stop := fun i H => ∃ xs : List V, SqT K H a xs ∧ xs.length ≤ i
/-- an enumerate object over a tuple that is through -/
theorem enumT_end {prog : Program} {w : World} {A : Around} {E : Value → Shared → Prop} {s : Shared} {e it t : Addr} {i : Nat} {xs : Array Value} {k : Int} {old : Value} {Q : Option Value → Shared → Prop} (calm : A.handled = none) (he : IsEnum s.heap e it k old) (hi : s.heap.IsTupleIter it t i) (ht : s.heap.IsTuple t xs) (hx : xs.size ≤ i)
    (fin : ∀ g, Heap.ExtBut it s.heap g → Q none { s with heap := g }) : wpAny (model prog w) A (pyNext (.ref e)) Q E s := by
  have ty : s.TypeIs (.ref e) "enumerate" := ⟨_, he, rfl⟩
  unfold pyNext
  refine wpAny_bind (wpAny_attempt (wpAny_callSpecial?_slot (name := Str.ofString "__next__") ty F.slot_enumerate_next (wpAny_call_entry F.slot_enumerate_next ty F.entry_enumerate_next ?_ (F.args_enumerate_next_1 _))))
  refine (show wpAny _ _ (field (.ref e) 2 >>= _) _ _ s from wpAny_bind (wpAny_field he rfl (x := .ref it) rfl (wpAny_bind (wpAny_nextOf_tuple_end (A := A.in1) calm hi ht (Array.getElem?_eq_none hx) ?_))))
  rintro g x eg ⟨ob, ho, hc⟩
  exact wpAny_bind (wpAny_isInstance (T := "StopIteration") (b := true) ⟨ob, ho, hc⟩ isSubtype_stop (wpAny_pure (fin g eg)))
/-- where an enumerate object e with its tuple iterator it stands after i turns -/
def EnAt (e it a : Addr) (i : Nat) (h : Heap) : Prop := (∃ old, IsEnum h e it ((i : Nat) : Int) old) ∧ h.IsTupleIter it a i ∧ e ≠ it
theorem EnAt.lt {e it a : Addr} {i : Nat} {s : Shared} (st : EnAt e it a i s.heap) : ∀ b ∈ [e, it], b < s.heap.objs.size := by
  obtain ⟨⟨_, he⟩, ⟨_, hi, _⟩, _⟩ := st
  intro b hb
  simp only [List.mem_cons, List.not_mem_nil, or_false] at hb
  rcases hb with rfl | rfl
  · exact Heap.lt_size he
  · exact Heap.lt_size hi
theorem EnAt.apart {e it a : Addr} {i : Nat} {s : Shared} {xs : Array Value} (st : EnAt e it a i s.heap) (p : PyProof.Rows.IsTup s.heap a xs) : e ≠ a ∧ a ≠ it := by
  obtain ⟨⟨_, he⟩, ⟨_, hi, ci, _⟩, _⟩ := st
  obtain ⟨_, ha, ca, _⟩ := p
  refine ⟨?_, ?_⟩ <;> rintro rfl
  · have q := he.symm.trans ha
    cases q
    have c2 : Value.type "enumerate" = Value.type "tuple" := ca
    exact absurd (Value.type.inj c2) (by decide)
  · rw [ha] at hi; cases hi
    rw [ca] at ci
    exact absurd (Value.type.inj ci) (by decide)
theorem enumT_turn {P : Program} {w : World} {K : PySem.W.Frag} {elts : List Expr} {kk : Nat} {tpos : Pos} (a e it : Addr) : Turn P w K (.Tuple elts kk tpos) (IteT K a) [e, it] e (EnAt e it a) where
  mem := List.mem_cons_self
  obj := by
    rintro i h ⟨⟨_, he⟩, ⟨o, ho, _, hd⟩, _⟩ b hb
    simp only [List.mem_cons, List.not_mem_nil, or_false] at hb
    rcases hb with rfl | rfl
    · exact ⟨_, he, by rintro _ ⟨⟩⟩
    · exact ⟨o, ho, fun _ q => by rw [hd] at q; cases q⟩
  keep := by
    rintro i h g ⟨⟨old, he⟩, hi, ne⟩ k
    exact ⟨⟨old, k _ (by simp) _ he⟩, hi.at fun o q => k _ (by simp) o q, ne⟩
  item := by
    rintro X rfl rfl rfl calm i pins s σ H E I fr st ⟨ys, y, sq, hy⟩
    have lts := st.lt
    obtain ⟨its, rs, p, _⟩ := I.tuple sq
    obtain ⟨nea, nia⟩ := st.apart p
    obtain ⟨⟨_, he⟩, hi, ne⟩ := st
    obtain ⟨u, hu, ru⟩ := rs.get hy
    have inb : i < its.toArray.size := by simpa using (List.getElem?_eq_some_iff.mp hu).1
    refine wpAny_pyNext_enum_itemC (Draws.tuple (A := X.A.in1) (show X.A.in1.handled = none from I.ok.hd calm) it a nia its.toArray) he (show _ ∧ _ from ⟨hi, p⟩) inb ne (by simp [ne, nea]) ?_
    intro u' g tk hu' eg hi' pair _ same
    obtain rfl : u' = u := by
      have h2 : its.toArray[i]? = some u := by simpa using hu
      exact Option.some.inj (hu'.symm.trans h2)
    refine ⟨_, rfl, wpAny_letOwnedTupleGo_enum (s := { s with heap := g, toks := tk + 1 }) eg ?_⟩
    intro g2 he2 sb
    have top := (sb.2 _ (Nat.ne_of_gt (lts e (by simp)))).trans pair
    have kept : ∀ b ob, b ∉ [e, it] → s.heap.get? b = some ob → g2.get? b = some ob := fun b ob nb q => by
      have n1 : b ≠ e := fun z => nb (by simp [z])
      have n2 : b ≠ it := fun z => nb (by simp [z])
      exact (sb.2 b n1).trans (same b ob (by simpa using n1) (by simpa using n2) q)
    have J := I.turnedNew (t' := tk + 1) (ch := [e, it]) (ob := .tup [.int (i : Nat), y]) kept fr (Nat.le_refl _) ⟨(by decide : 2 ≤ sizeLine), [.int i tk, u'], .cons ⟨_, rfl⟩ (.cons ru .nil), ⟨_, top, rfl, _, rfl⟩⟩
    refine ⟨.ref s.heap.objs.size, _, J, rfl, ⟨_, y, rfl, I.hok.fresh (Nat.le_refl _), rfl, fun zs hz => (I.tuple_inj hz sq).symm ▸ hy⟩, ⟨⟨u', ?_⟩, hi'.1.at fun o q => (sb.2 it (Ne.symm ne)).trans q, ne⟩, fun b hb => ?_⟩
    · simpa using he2
    · rw [upd_ne (Nat.ne_of_lt (lts b hb))]
      exact (fr b hb).1
  done := by
    rintro X rfl rfl rfl calm i pins s σ H E I fr ⟨⟨_, he⟩, hi, _⟩ ⟨ys, sq, hy⟩
    obtain ⟨its, rs, p, _⟩ := I.tuple sq
    obtain ⟨f0, f1, _, f3, f4, f5⟩ := fr it (by simp)
    have over : its.toArray.size ≤ i := by rw [List.size_toArray, ← rs.length]; exact hy
    exact enumT_end (I.ok.hd calm) he hi p over fun g eb => ⟨rfl, I.turned (t' := s.toks) (fun b o nb q => eb b o nb q) f0 f1 f3 f4 f5⟩
  self := by
    rintro A i s Q E ⟨⟨_, he⟩, _⟩ h
    exact wpAny_pyIter_enum he h
set_option maxHeartbeats 1000000 in
theorem enum1_new {v : Value} {o : Obj} {Hh : Heap → Prop} (B : Begins v o Hh) :
    Meets (Builtin.«enumerate.__new__» ⟨[.type "enumerate", v], []⟩) (fun _ R s => Hh s.heap ∧
      R (.ok (.ret (.ref (s.heap.push o).objs.size))) { s with heap := (s.heap.push o).push { cls := .type "enumerate", data := .fields #[.none, .bool false, .ref s.heap.objs.size, rawInt 0, .none, .none] } }) :=
  .of_wp fun prog w A R s h => by
    obtain ⟨hp, g, d, tk, os⟩ := s
    obtain ⟨h1, h⟩ := h
    have hsub := sub_enumerate
    have q1 : ∀ {A' : Around} {E : Value → Shared → Prop} {Q : Value → Shared → Prop}, Q (.ref hp.objs.size) ⟨hp.push o, g, d, tk, os⟩ → wpAny (model prog w) A' (pyIter v) Q E ⟨hp, g, d, tk, os⟩ := fun q => B.iter prog w _ _ ⟨hp, g, d, tk, os⟩ _ h1 q
    wp_walk using q1
    refine wpAny_stack_any fun st => wpAny_pure ?_
    split
    · rename_i c _ _ _ _ _
      cases (c == Value.type "enumerate") <;> (wp_walk using q1; exact ⟨_, rfl, h⟩)
    · wp_walk using q1
      exact ⟨_, rfl, h⟩
theorem enum1_call {prog : Program} {w : World} {A : Around} {E : Value → Shared → Prop} {s : Shared} {v : Value} {o : Obj} {Hh : Heap → Prop} {Q : Value → Shared → Prop} (B : Begins v o Hh) (h1 : Hh s.heap)
    (h : ∀ h', IsEnum h' (s.heap.objs.size + 1) s.heap.objs.size 0 .none → h'.get? s.heap.objs.size = some o → (∀ b o, s.heap.get? b = some o → h'.get? b = some o) → Q (.ref (s.heap.objs.size + 1)) { s with heap := h' }) :
    wpAny (model prog w) A (call (.type "enumerate") [v]) Q E s := by
  refine callType_new F.called_enumerate (by decide) (F.typeCall_enumerate_1 _) (F.newCall_enumerate_1 _) (fun obj => F.args_object_init_2 obj _) F.entry_enumerate_new (enum1_new B) ⟨h1, ?_⟩
  have hz : (s.heap.push o).objs.size = s.heap.objs.size + 1 := Heap.size_push ..
  show _ ∧ _
  rw [hz]
  have he : IsEnum ((s.heap.push o).push { cls := .type "enumerate", data := .fields #[.none, .bool false, .ref s.heap.objs.size, rawInt 0, .none, .none] }) (s.heap.objs.size + 1) s.heap.objs.size 0 .none := by
    have := Heap.get?_push_size (s.heap.push o) (o := { cls := .type "enumerate", data := .fields #[.none, .bool false, .ref s.heap.objs.size, rawInt 0, .none, .none] }) rfl
    rw [hz] at this; exact this
  exact ⟨⟨_, he, rfl⟩, h _ he (Heap.get?_push_of_some _ (Heap.get?_push_size _ B.free)) fun b o x => Heap.get?_push_of_some _ (Heap.get?_push_of_some _ x)⟩
def iEnumT (K : PySem.W.Frag) (ta : TA) : TI := fun σ H R => ta σ H fun vs H1 => ∃ a xs, vs = [.ref a] ∧ SqT K H1 a xs ∧ R (IteT K a) H1
theorem pi_enumT {X : Cx} {e : Expr} {ta : TA} {p pos tpos : Pos} {elts : List Expr} {kk : Nat} (hg : Gl X "enumerate") (hm : X.mg "enumerate" = none) (ha : PA X [e] ta) (hs : starEach [e] X.env = [(false, eval e X.env)] := by rfl) :
    PI X (.Tuple elts kk tpos) (.Call (.Name "enumerate" p) [e] [] pos) (iEnumT X.K ta) := by
  constructor
  intro pins s σ H R I h
  refine PyProof.Rows.Call_ (ld_blt I hg hm PyProof.Rows.boot_enumerate (PyProof.Rows.callWith_type1 (thn (ha.run pos pins s σ H _ I h) ?_) hs rfl))
  rintro us s1 ⟨_, H1, J, rs, a, xs, rfl, sq, q⟩
  obtain ⟨_, rfl, r⟩ := vals1 rs
  cases r
  obtain ⟨its, _, tp, _⟩ := J.tuple sq
  refine enum1_call (begins_tuple a its.toArray) tp fun g he hi kept => wpAny_pyIter_enum he ?_
  refine ⟨s1.heap.objs.size + 1, [s1.heap.objs.size + 1, s1.heap.objs.size], _, _, H1, rfl, J.kept (t' := s1.toks) (h' := g) kept, enumT_turn a (s1.heap.objs.size + 1) s1.heap.objs.size, ⟨⟨.none, he⟩, ⟨_, hi, rfl, rfl⟩, Nat.succ_ne_self _⟩, fun b hb => ?_, q⟩
  have le : s1.heap.objs.size ≤ b := by
    simp only [List.mem_cons, List.not_mem_nil, or_false] at hb
    rcases hb with rfl | rfl
    · exact Nat.le_succ _
    · exact Nat.le_refl _
  exact J.fpOk le (J.hok.fresh le)

/-! ### zip of a tuple and a list -/
/-- an iterator as it stands at turn i over items that are known -/
structure At {P : Program} {w : World} {A : Around} (it l i : Nat) (its : List Value) (h : Heap) (n : Nat) (G : Nat → Value → Prop) (St : Nat → Heap → Prop) (R : Nat → Heap → Prop) : Prop where
  dr : Draws P w A it [it, l] n G St
  here : St i h
  on : ∀ j g, St j g → R j g
  val : ∀ v, G i v → its[i]? = some v
  le : i ≤ n
  more : i < its.length → i < n
  end_ : its.length ≤ i → i = n
/-- where the zip object z stands after i turns -/
structure ZmAt (z TI TO i1 i2 a b : Addr) (i : Nat) (h : Heap) : Prop where
  zip : IsZip h z TI TO .none
  its : IsTupOf2 h TI (.ref i1) (.ref i2)
  out : ∃ x y, IsTupOf2 h TO x y
  one : h.IsTupleIter i1 a i
  two : h.IsListIter i2 b i
theorem ZmAt.ob {z TI TO i1 i2 a b : Addr} {i : Nat} {h : Heap} (st : ZmAt z TI TO i1 i2 a b i h) : ∀ c ∈ [z, TI, TO, i1, i2], ∃ o, h.get? c = some o ∧ ∀ v, o.data ≠ .cell v := by
  obtain ⟨e1, e2, ⟨_, _, e3⟩, ⟨o4, e4, _, d4⟩, ⟨o5, e5, _, d5⟩⟩ := st
  intro c hc
  simp only [List.mem_cons, List.not_mem_nil, or_false] at hc
  rcases hc with rfl | rfl | rfl | rfl | rfl
  · exact ⟨_, e1, by rintro _ ⟨⟩⟩
  · exact ⟨_, e2, by rintro _ ⟨⟩⟩
  · exact ⟨_, e3, by rintro _ ⟨⟩⟩
  · exact ⟨o4, e4, fun _ q => by rw [d4] at q; cases q⟩
  · exact ⟨o5, e5, fun _ q => by rw [d5] at q; cases q⟩
/-! ### what is walked -/
def lsIt (l : List D) : ItD := ⟨fun k _ => some l[k]?, l.length⟩
def itOf : D → Sto → Option ItD
  | .tup l, _ => some (lsIt l)
  | .lst l, _ => some (lsIt l)
  | .scr l, _ => some (lsIt l)
  | .str x, _ => some (lsIt (x.cps.toList.map fun c => .str ⟨#[c]⟩))
  | .ref i, S => match S[i]? with
    | some (.lst l) => some ⟨fun k S' => match S'[i]? with
      | some (.lst l') => some l'[k]?
      | _ => none, l.length⟩
    | _ => none
  | _, _ => none
section
variable {K : PySem.W.Frag} {m : Mp} {H : Hp}
theorem wk_tup {a : Addr} {vs : List V} {l : List D} (h1 : SqT K H a vs) (h2 : Reps K m H vs l) : WalkD K m H (Itt K a) (lsIt l).nxt := by
  intro m' S' H' e s k
  have q1 := SqT.ext e h1
  have q2 := h2.tr e
  show match some l[k]? with | none => True | some none => _ | some (some d) => _
  cases q : l[k]? with
  | none => exact ⟨vs, q1, by rw [q2.len]; exact List.getElem?_eq_none_iff.mp q⟩
  | some d =>
    obtain ⟨v, h3, h4⟩ := q2.get q
    refine ⟨⟨vs, v, q1, h3⟩, fun x H'' ⟨e1, y⟩ => ?_⟩
    subst e1
    have := y vs q1
    rw [h3] at this; cases this
    exact ⟨.refl, s, h4⟩
theorem wk_lst {a : Addr} {vs : List V} {l : List D} (h1 : ∀ m' H', Tr m H m' H' → SqL K H' a vs) (h2 : Reps K m H vs l) : WalkD K m H (Itl K a) (lsIt l).nxt := by
  intro m' S' H' e s k
  have q1 := h1 m' H' e
  have q2 := h2.tr e
  show match some l[k]? with | none => True | some none => _ | some (some d) => _
  cases q : l[k]? with
  | none => exact ⟨vs, q1, by rw [q2.len]; exact List.getElem?_eq_none_iff.mp q⟩
  | some d =>
    obtain ⟨v, h3, h4⟩ := q2.get q
    refine ⟨⟨vs, v, q1, h3⟩, fun x H'' ⟨e1, y⟩ => ?_⟩
    subst e1
    have := y vs q1
    rw [h3] at this; cases this
    exact ⟨.refl, s, h4⟩
theorem wk_cell {a : Addr} {i : Nat} (h1 : m.c[i]? = some a) : WalkD K m H (Itl K a) (fun k S' => match S'[i]? with | some (.lst l') => some l'[k]? | _ => none) := by
  intro m' S' H' e s k
  obtain ⟨ex, e1, _⟩ := e.pre
  have h2 := pre_at e1 h1
  show match (match S'[i]? with | some (.lst l') => some l'[k]? | _ => none) with | none => True | some none => _ | some (some d) => _
  cases q : S'[i]? with
  | none => trivial
  | some o =>
    cases o with
    | ins c ns l => trivial
    | dic kvs => trivial
    | dik kvs => trivial
    | tab _ _ => trivial
    | err _ _ => trivial
    | clo _ _ _ _ => trivial
    | fz => trivial
    | lst l =>
      obtain ⟨vs, h3, h4⟩ := s.cell i a _ h2 q
      have q1 : SqL K H' a vs := .inl (.inl h3)
      show match some l[k]? with | none => True | some none => _ | some (some d) => _
      cases q2 : l[k]? with
      | none => exact ⟨vs, q1, by rw [h4.len]; exact List.getElem?_eq_none_iff.mp q2⟩
      | some d =>
        obtain ⟨v, h5, h6⟩ := h4.get q2
        refine ⟨⟨vs, v, q1, h5⟩, fun x H'' ⟨e1, y⟩ => ?_⟩
        subst e1
        have := y vs q1
        rw [h5] at this; cases this
        exact ⟨.refl, s, h6⟩
theorem wk_str {x : Str} : WalkD K m H (Its x) (lsIt (x.cps.toList.map fun c => .str ⟨#[c]⟩)).nxt := by
  intro m' S' H' e s k
  show match some (x.cps.toList.map fun c => D.str ⟨#[c]⟩)[k]? with | none => True | some none => _ | some (some d) => _
  rw [List.getElem?_map]
  cases q : x.cps.toList[k]? with
  | none =>
    have := List.getElem?_eq_none_iff.mp q
    show x.cps.size ≤ k
    simpa using this
  | some c =>
    have := (List.getElem?_eq_some_iff.mp q).1
    refine ⟨by show k < x.cps.size; simpa using this, fun v H'' ⟨e1, c', hc, hv⟩ => ?_⟩
    subst e1 hv
    have e2 : c' = c := by
      have h2 : x.cps.toList[k]? = some c' := by simpa using hc
      rw [q] at h2; exact (Option.some.inj h2).symm
    subst e2
    exact ⟨.refl, s, .str _⟩
def rgIt (lo : Int) (n : Nat) : ItD := ⟨fun k _ => some (if k < n then some (.int (lo + k)) else none), n⟩
theorem wk_rng {lo : Int} {n : Nat} : WalkD K m H (Itr lo n) (rgIt lo n).nxt := by
  intro m' S' H' e s k
  show match some (if k < n then some (D.int (lo + k)) else none) with | none => True | some none => _ | some (some d) => _
  by_cases h : k < n
  · rw [if_pos h]
    refine ⟨h, fun v H'' ⟨e1, hv⟩ => ?_⟩
    subst e1 hv
    exact ⟨.refl, s, .int _⟩
  · rw [if_neg h]
    exact Nat.not_lt.mp h
/-- pairs that are made anew at each turn -/
theorem new_pair {S : Sto} {T : Addr} {x y : V} {d c : D} (hn : names [d, c] = false) (s : Sim K m S H) (hT : H T = none) (r1 : Rep K m H x d) (r2 : Rep K m H y c) : Ext m H m (upd H T (.tup [x, y])) ∧ Sim K m S (upd H T (.tup [x, y])) ∧ Rep K m (upd H T (.tup [x, y])) (.ref T) (.tup [d, c]) :=
  ⟨.new hT, s.new hT, .tup (.inl (.inl upd_same)) (fun z => by rw [hn] at z; cases z) (.cons (r1.to (.new hT)) (.cons (r2.to (.new hT)) .nil))⟩
def enIt (l : List D) : ItD := ⟨fun k _ => some (l[k]?.map fun d => .tup [.int k, d]), l.length⟩
theorem wk_enT {a : Addr} {vs : List V} {l : List D} (h1 : SqT K H a vs) (h2 : Reps K m H vs l) : WalkD K m H (IteT K a) (enIt l).nxt := by
  intro m' S' H' e s k
  have q1 := SqT.ext e h1
  have q2 := h2.tr e
  show match some (l[k]?.map fun d => D.tup [.int k, d]) with | none => True | some none => _ | some (some d) => _
  cases q : l[k]? with
  | none => exact ⟨vs, q1, by rw [q2.len]; exact List.getElem?_eq_none_iff.mp q⟩
  | some d =>
    obtain ⟨v, h3, h4⟩ := q2.get q
    refine ⟨⟨vs, v, q1, h3⟩, fun x H'' ⟨T, y, e0, hT, e1, hy⟩ => ?_⟩
    subst e0 e1
    have := hy vs q1
    rw [h3] at this; cases this
    exact new_pair rfl s hT (.int _) h4
theorem wk_enL {a : Addr} {vs : List V} {l : List D} (h1 : ∀ m' H', Tr m H m' H' → SqL K H' a vs) (h2 : Reps K m H vs l) : WalkD K m H (Ite K a) (enIt l).nxt := by
  intro m' S' H' e s k
  have q1 := h1 m' H' e
  have q2 := h2.tr e
  show match some (l[k]?.map fun d => D.tup [.int k, d]) with | none => True | some none => _ | some (some d) => _
  cases q : l[k]? with
  | none => exact ⟨vs, q1, by rw [q2.len]; exact List.getElem?_eq_none_iff.mp q⟩
  | some d =>
    obtain ⟨v, h3, h4⟩ := q2.get q
    refine ⟨⟨vs, v, q1, h3⟩, fun x H'' ⟨T, y, e0, hT, e1, hy⟩ => ?_⟩
    subst e0 e1
    have := hy vs q1
    rw [h3] at this; cases this
    exact new_pair rfl s hT (.int _) h4
def zpIt (l r : List D) : ItD := ⟨fun k _ => match l[k]?, r[k]? with | some d, some c => if names [d, c] = true then none else some (some (.tup [d, c])) | _, _ => some none, min l.length r.length⟩
theorem fz_lst {a : Addr} {vs : List V} (h : H a = some (.lst vs)) (o : Off m a) : ∀ m' H', Tr m H m' H' → SqL K H' a vs := fun m' H' e => .inl (.inl (e.keep _ _ h o))
end
section
variable {X : Cx} {W : WX} {tg e e2 : Expr} {es : List Expr} {pos p tpos : Pos} {me : EM} {ma : AM} {elts : List Expr} {kk : Nat}
theorem PI.or {t u : TI} (h1 : PI X tg e t) (h2 : PI X tg e u) : PI X tg e (fun σ H R => t σ H R ∨ u σ H R) := ⟨fun pins s σ H R I hw => hw.elim (h1.run pins s σ H R I) (h2.run pins s σ H R I)⟩
/-- for x in e -/
def mItV (me : EM) : IM := fun en S => (me en S).bind fun d S1 => ofO (itOf d S1) S1
theorem i_val (he : PE X e (tE X.K W me)) : PI X tg e (tI X.K W (mItV me)) := by
  refine PI.imp (PI.or (pi_tup he) (PI.or (pi_list he) (pi_str he))) ?_
  rintro σ H R ⟨en, S, m, er, si, h⟩
  cases q : me en S with
  | stuck => unfold mItV at h; rw [q] at h; exact h.elim
  | exc c fs S1 =>
    unfold mItV at h
    rw [q] at h
    exact .inl ⟨en, S, m, er, si, by rw [q]; exact h⟩
  | ok d S1 =>
    unfold mItV at h
    rw [q] at h
    have h : PostG X.K W (fun m' H' (J : L2.It) (it : ItD) => WalkD X.K m' H' J it.nxt) σ m H (ofO (itOf d S1) S1) R := h
    have fin : ∀ (it : ItD), itOf d S1 = some it → ∀ {m' : Mp} {H' : Hp} {J : L2.It}, Ext m H m' H' → Sim X.K m' S1 H' → WalkD X.K m' H' J it.nxt → R J H' := fun it qi m' H' J e' s' wk => by
      rw [qi] at h
      exact h J m' H' e' s' wk
    cases d with
    | tup l => exact .inl ⟨en, S, m, er, si, by
        rw [q]
        intro v m' H' e' s' r'
        cases r' with
        | tup h1 hd h2 => exact ⟨_, rfl, ⟨_, h1⟩, fin _ rfl e' s' (wk_tup h1 h2)⟩⟩
    | lst l => exact .inr (.inl ⟨en, S, m, er, si, by
        rw [q]
        intro v m' H' e' s' r'
        cases r' with
        | lst h1 h2 h3 => exact ⟨_, rfl, ⟨_, .inl (.inl h1)⟩, fin _ rfl e' s' (wk_lst (fz_lst h1 h2) h3)⟩⟩)
    | scr l => exact .inr (.inl ⟨en, S, m, er, si, by
        rw [q]
        intro v m' H' e' s' r'
        cases r' with
        | scr h1 h2 =>
          have g : ∀ m2 H2, Tr m' H' m2 H2 → SqL X.K H2 _ _ := fun m2 H2 e2 => by
            rcases h1 with ⟨o, h1⟩ | h1
            · exact .inl (.inr ⟨o, e2.frz _ _ _ h1⟩)
            · exact h1 H2
          exact ⟨_, rfl, ⟨_, g m' H' Ext.refl.tr⟩, fin _ rfl e' s' (wk_lst g h2)⟩⟩)
    | ref i => exact .inr (.inl ⟨en, S, m, er, si, by
        rw [q]
        intro v m' H' e' s' r'
        cases r' with
        | ref h1 =>
          rename_i a
          cases qo : S1[i]? with
          | none => simp only [itOf, qo, ofO] at h; exact h.elim
          | some o =>
            cases o with
            | ins c ns l => simp only [itOf, qo, ofO] at h; exact h.elim
            | dic kvs => simp only [itOf, qo, ofO] at h; exact h.elim
            | dik kvs => simp only [itOf, qo, ofO] at h; exact h.elim
            | tab _ _ => simp only [itOf, qo, ofO] at h; exact h.elim
            | err _ _ => simp only [itOf, qo, ofO] at h; exact h.elim
            | clo _ _ _ _ => simp only [itOf, qo, ofO] at h; exact h.elim
            | fz => simp only [itOf, qo, ofO] at h; exact h.elim
            | lst l =>
              obtain ⟨vs, h3, h4⟩ := s'.cell i a _ h1 qo
              exact ⟨a, rfl, ⟨vs, .inl (.inl h3)⟩, fin ⟨fun k S' => match S'[i]? with | some (.lst l') => some l'[k]? | _ => none, l.length⟩ (by simp only [itOf, qo]) e' s' (wk_cell h1)⟩⟩)
    | str x => exact .inr (.inr ⟨en, S, m, er, si, by
        rw [q]
        intro v m' H' e' s' r'
        cases r'
        exact ⟨x, rfl, fin _ rfl e' s' wk_str⟩⟩)
    | _ => exact h.elim
/-- range(n), range(a, b) -/
def rgB (i : Int) : Bool := decide (-(2 ^ 62) ≤ i) && decide (i < 2 ^ 62)
def rgOf : List D → Sto → Option ItD
  | [.int j], _ => if rgB j = true then some (rgIt 0 j.toNat) else none
  | [.int i, .int j], _ => if rgB i = true ∧ rgB j = true then some (rgIt i (j - i).toNat) else none
  | _, _ => none
def mItA (f : List D → Sto → Option ItD) (ma : AM) : IM := fun en S => (ma en S).bind fun ds S1 => ofO (f ds S1) S1
theorem i_range1 (hg : Gl X "range") (hm : X.mg "range" = none) (ha : PA X [e] (tA X.K W ma)) (hs : starEach [e] X.env = [(false, eval e X.env)] := by rfl) : PI X tg (.Call (.Name "range" p) [e] [] pos) (tI X.K W (mItA (fun ds S => match ds with | [d] => rgOf [d] S | _ => none) ma)) := by
  refine PI.imp (pi_range1 hg hm ha hs) ?_
  rintro σ H R ⟨en, S, m, er, si, h⟩
  refine ⟨en, S, m, er, si, (PostG.bind (R := Reps X.K) h).mono ?_⟩
  rintro vs H1 ⟨ds, S1, m1, e1, s1, r1, h1⟩
  cases r1 with
  | nil => exact h1.elim
  | cons a b =>
    cases b with
    | cons b c => exact h1.elim
    | nil =>
      cases a with
      | int j =>
        simp only [rgOf] at h1
        by_cases hj : rgB j = true
        · rw [if_pos hj] at h1
          unfold rgB at hj
          simp only [Bool.and_eq_true, decide_eq_true_eq] at hj
          exact ⟨j, rfl, hj.1, hj.2, h1 _ m1 H1 .refl s1 wk_rng⟩
        · rw [if_neg hj] at h1; exact h1.elim
      | _ => exact h1.elim
theorem i_enum (hg : Gl X "enumerate") (hm : X.mg "enumerate" = none) (ha : PA X [e] (tA X.K W ma)) (hs : starEach [e] X.env = [(false, eval e X.env)] := by rfl) : PI X (.Tuple elts kk tpos) (.Call (.Name "enumerate" p) [e] [] pos) (tI X.K W (mItA (fun ds _ => match ds with | [.tup l] => some (enIt l) | [.lst l] => some (enIt l) | _ => none) ma)) := by
  refine PI.imp (PI.or (pi_enumT hg hm ha hs) (pi_enum hg hm ha hs)) ?_
  rintro σ H R ⟨en, S, m, er, si, h⟩
  unfold mItA at h
  cases q : ma en S with
  | stuck => rw [q] at h; exact h.elim
  | exc c fs S1 => rw [q] at h; exact .inl ⟨en, S, m, er, si, by rw [q]; exact h⟩
  | ok ds S1 =>
    rw [q] at h
    simp only [Res.bind] at h
    split at h
    · exact .inl ⟨en, S, m, er, si, by
        rw [q]
        intro v m' H' e' s' r'
        cases r' with
        | cons a b =>
          cases b
          cases a with
          | tup h1 hd h2 => exact ⟨_, _, rfl, h1, h _ m' H' e' s' (wk_enT h1 h2)⟩⟩
    · exact .inr ⟨en, S, m, er, si, by
        rw [q]
        intro v m' H' e' s' r'
        cases r' with
        | cons a b =>
          cases b
          cases a with
          | lst h1 h2 h3 => exact ⟨_, _, rfl, .inl (.inl h1), h _ m' H' e' s' (wk_enL (fz_lst h1 h2) h3)⟩⟩
    · exact h.elim
def zp2 : List D → Sto → Option ItD := fun ds _ => match ds with | [.tup l, .tup r] => some (zpIt l r) | [.lst l, .lst r] => some (zpIt l r) | [.tup l, .lst r] => some (zpIt l r) | _ => none
end
end Ag

namespace Ag
open PySem L2
section
variable {K : PySem.W.Frag} {m : Mp} {H : Hp}
/-- a list that is read: frozen, a cell, or the script -/
def rdOf : D → Sto → Option (List D)
  | .scr l, _ => some l
  | d, S => lstOf d S
theorem rd_at {S : Sto} {v : V} {d : D} {l : List D} (si : Sim K m S H) (r : Rep K m H v d) (h : rdOf d S = some l) : ∃ a vs, v = .ref a ∧ SqL K H a vs ∧ Reps K m H vs l := by
  cases d with
  | scr l' =>
    cases h
    cases r with
    | scr h1 h2 =>
      refine ⟨_, _, rfl, ?_, h2⟩
      rcases h1 with ⟨o, h1⟩ | h1
      · exact .inl (.inr ⟨o, h1⟩)
      · exact h1 H
  | _ =>
    obtain ⟨a, vs, e, h1, h2⟩ := lst_at si r h
    exact ⟨a, vs, e, .inl (.inl h1), h2⟩
theorem at_i {vs : List V} {l : List D} {i : Int} {d : D} (r : Reps K m H vs l) (h : atI l i = some d) : ∃ v, atI vs i = some v ∧ Rep K m H v d := by
  unfold atI at h ⊢
  rw [r.len]
  cases q : ixN l.length i with
  | none => rw [q] at h; cases h
  | some j =>
    rw [q] at h
    exact r.get h
def cutD (l : List D) (lo hi : Option Int) : List D := (l.drop (HT.sIx l.length 0 lo)).take (HT.sIx l.length l.length hi - HT.sIx l.length 0 lo)
theorem Reps.slice {vs : List V} {l : List D} (r : Reps K m H vs l) (lo hi : Option Int) : Reps K m H (cutV vs lo hi) (cutD l lo hi) := by
  unfold cutV cutD
  rw [r.len]
  exact (r.drop _).take _
theorem cut_all {l : List D} {lo hi : Option Int} (h : HT.sIx l.length 0 lo = 0 ∧ HT.sIx l.length l.length hi = l.length) : cutD l lo hi = l := by
  unfold cutD
  rw [h.1, h.2]
  simp
end
def fIx : D → D → Sto → Option D
  | .tup l, .int i, _ => atI l i
  | .str x, .int i, _ => if x.length ≤ lineN then (atI x.cps.toList i).map fun c => .str ⟨#[c]⟩ else none
  | d, .int i, S => (rdOf d S).bind fun l => atI l i
  | _, _, _ => none
def fSl (d : D) (lo hi : Option Int) (S : Sto) : Option D := match d with
  | .tup l => some (.tup (cutD l lo hi))
  | .str z => if z.length ≤ lineN then some (.str (cutS z lo hi)) else none
  | d => (rdOf d S).map fun l => .lst (cutD l lo hi)
section
variable {X : Cx} {W : WX} {e e2 : Expr} {pos p2 : Pos} {me : EM}
theorem x_ix : IxR X (rO2 X.K fIx) := by
  intro ve sl pins s σ H x y v u Q I rx ry ⟨d, e, S, m, r, si, hx, hy, hf, hq⟩ hp
  unfold fIx at hf
  split at hf
  · cases hy
    cases hx with
    | tup h1 hd h2 =>
      obtain ⟨z, h3, h4⟩ := at_i h2 hf
      exact ix_tup ve sl pins s σ H _ _ v u Q I rx ry ⟨_, _, _, z, rfl, rfl, h1, h3, hq _ H .refl si h4⟩ hp
  · rename_i x' i
    by_cases hl : x'.length ≤ lineN
    · rw [if_pos hl] at hf
      cases q : atI x'.cps.toList i with
      | none => rw [q] at hf; cases hf
      | some c =>
        rw [q] at hf
        cases hf; cases hx; cases hy
        exact ix_str ve sl pins s σ H _ _ v u Q I rx ry ⟨x', i, c, rfl, rfl, by rw [← line_eq]; exact hl, q, hq _ H .refl si (.str _)⟩ hp
    · rw [if_neg hl] at hf; cases hf
  · rename_i i _ _
    cases q : rdOf d S with
    | none => rw [q] at hf; cases hf
    | some l =>
      rw [q] at hf
      cases hy
      obtain ⟨a, vs, rfl, h1, h2⟩ := rd_at si hx q
      obtain ⟨z, h3, h4⟩ := at_i h2 hf
      exact ix_list ve sl pins s σ H _ _ v u Q I rx ry ⟨a, vs, i, z, rfl, rfl, h1, h3, hq _ H .refl si h4⟩ hp
  · cases hf
/-- e[lo:hi] -/
abbrev OM := En → Sto → Res (Option Int)
def tO (K : PySem.W.Frag) (W : WX) (o : OM) : TO := fun σ H Q => ∃ en S m, EnvR K m H σ en ∧ Sim K m S H ∧ PostG K W (fun _ _ (b : Option Int) c => b = c) σ m H (o en S) Q
def oNone : OM := fun _ S => .ok none S
def oSome (me : EM) : OM := fun en S => (me en S).bind fun d S1 => match d with
  | .int i => .ok (some i) S1
  | _ => .stuck
theorem PO.imp {eo : Option Expr} {t t' : TO} (h : PO X eo t) (f : ∀ σ H Q, t' σ H Q → t σ H Q) : PO X eo t' := ⟨fun pins s σ H Q I hw => h.run pins s σ H Q I (f _ _ _ hw)⟩
theorem o_none : PO X none (tO X.K W oNone) := PO.imp po_none fun σ H Q ⟨en, S, m, er, si, h⟩ => h none m H .refl si rfl
theorem o_some (he : PE X e (tE X.K W me)) : PO X (some e) (tO X.K W (oSome me)) := by
  refine PO.imp (po_some he) ?_
  rintro σ H Q ⟨en, S, m, er, si, h⟩
  refine ⟨en, S, m, er, si, (PostG.bind (R := Rep X.K) h).mono ?_⟩
  rintro v H1 ⟨d, S1, m1, e1, s1, r1, h1⟩
  cases r1 with
  | int i => exact ⟨i, rfl, h1 _ m1 H1 .refl s1 rfl⟩
  | _ => exact h1.elim
def mSl (me : EM) (lo hi : OM) : EM := fun en S => (me en S).bind fun d S1 => (lo en S1).bind fun l S2 => (hi en S2).bind fun h S3 => ofO (fSl d l h S3) S3
def rSlO (K : PySem.W.Frag) : V → Option Int → Option Int → Hp → VK → Prop := fun x lo hi H Q => ∃ d S m r, Sim K m S H ∧ Rep K m H x d ∧ fSl d lo hi S = some r ∧ ∀ v H', Ext m H m H' → Sim K m S H' → Rep K m H' v r → Q v H'
/-- t[lo:hi]: the whole of it is t itself, else new -/
theorem sl_tupF : SlR X (fun x lo hi H Q => ∃ a xs, x = .ref a ∧ SqT X.K H a xs ∧ (HT.sIx xs.length 0 lo = 0 ∧ HT.sIx xs.length xs.length hi = xs.length → Q (.ref a) H) ∧
    (¬ (HT.sIx xs.length 0 lo = 0 ∧ HT.sIx xs.length xs.length hi = xs.length) → ∀ p o, H p = none → o.dict = none → Q (.ref p) (upd H p (.frz o (.tup (cutV xs lo hi)))))) := by
  rintro pins s σ H x v vl vu lo hi sl Q I rx hs pl pu ⟨a, xs, rfl, hx, same, fresh⟩
  by_cases whole : HT.sIx xs.length 0 lo = 0 ∧ HT.sIx xs.length xs.length hi = xs.length
  · exact sl_tupA pins s σ H _ v vl vu lo hi sl Q I rx hs pl pu ⟨a, xs, rfl, hx, same, fun n => absurd whole n⟩
  · cases rx
    obtain ⟨its, r, ht, hz⟩ := I.tuple hx
    have n : its.toArray.size = xs.length := List.size_toArray.trans r.length.symm
    refine ⟨"tuple", _, PyProof.Rows.slot_tuple_getitem.lookup, ht.typeIs, HT.getItem_tuple_cut ht hs pl pu (n.symm ▸ whole) ?_ (n.symm ▸ hz)⟩
    rw [n]
    exact newTup I ((r.drop _).take _) (Nat.le_trans (cutV_length xs lo hi) hz) (fresh whole)
/-- tuple(list) is new -/
theorem call_tupF : CallR X (.type "tuple") (fun vs H Q => ∃ p ys, vs = [.ref p] ∧ SqL X.K H p ys ∧ ∀ l o, H l = none → o.dict = none → Q (.ref l) (upd H l (.frz o (.tup ys)))) := by
  rintro pins s σ H vs us Q I r ⟨p, ys, rfl, hq, q⟩
  obtain ⟨_, rfl, rx⟩ := vals1 r
  cases rx
  obtain ⟨its, rv, pl, hz⟩ := I.list hq
  have n : its.toArray.size ≤ sizeLine := by rw [List.size_toArray, ← rv.length]; exact hz
  exact call_tuple_list pl.isList (fun h' kp => newTup (I.kept (t' := s.toks) (h' := h') kp) rv hz q) n
theorem sl_ok : SlR X (rSlO X.K) := by
  intro pins s σ H x v vl vu lo hi sl Q I rx hs pl pu ⟨d, S, m, r, si, hx, hf, hq⟩
  unfold fSl at hf
  split at hf
  · cases hf
    cases hx with
    | tup h1 hd h2 =>
      refine sl_tupF pins s σ H _ v vl vu lo hi sl Q I rx hs pl pu ⟨_, _, rfl, h1, fun c => ?_, fun _ q o hp ho => ?_⟩
      · rw [h2.len] at c
        exact hq _ H .refl si (by rw [cut_all c]; exact .tup h1 hd h2)
      · exact hq _ _ (.new hp) (si.new hp) (tupF ho ((h2.slice lo hi).to (.new hp)))
  · rename_i z
    by_cases hl : z.length ≤ lineN
    · rw [if_pos hl] at hf
      cases hf; cases hx
      exact sl_str pins s σ H _ v vl vu lo hi sl Q I rx hs pl pu ⟨z, rfl, by rw [← line_eq]; exact hl, hq _ H .refl si (.str _)⟩
    · rw [if_neg hl] at hf; cases hf
  · cases q : rdOf d S with
    | none => rw [q] at hf; cases hf
    | some l =>
      rw [q] at hf
      cases hf
      obtain ⟨a, vs, rfl, h1, h2⟩ := rd_at si hx q
      exact sl_list pins s σ H _ v vl vu lo hi sl Q I rx hs pl pu ⟨a, vs, rfl, h1, fun q hp => hq _ _ (.new hp) (si.new hp) (.lst upd_same (si.off hp) ((h2.slice lo hi).to (.new hp)))⟩
theorem e_sl {lo hi : Option Expr} {ml mh : OM} (he : PE X e (tE X.K W me)) (hl : PO X lo (tO X.K W ml)) (hh : PO X hi (tO X.K W mh)) : PE X (.Subscript e (.Slice lo hi none p2) pos) (tE X.K W (mSl me ml mh)) := by
  refine PE.imp (pe_slice sl_ok he hl hh) ?_
  rintro σ H Q ⟨en, S, m, er, si, h⟩
  refine ⟨en, S, m, er, si, (PostG.bind (R := Rep X.K) h).mono ?_⟩
  rintro v H1 ⟨d, S1, m1, e1, s1, r1, h1⟩
  refine ⟨en, S1, m1, er.to e1, s1, (PostG.bind (R := fun _ _ (b : Option Int) c => b = c) h1).mono ?_⟩
  rintro l H2 ⟨l', S2, m2, e2, s2, rfl, h2⟩
  refine ⟨en, S2, m2, (er.to e1).to e2, s2, (PostG.bind (R := fun _ _ (b : Option Int) c => b = c) h2).mono ?_⟩
  rintro u H3 ⟨u', S3, m3, e3, s3, rfl, h3⟩
  cases q : fSl d l u S3 with
  | none => rw [q] at h3; exact h3.elim
  | some r =>
    rw [q] at h3
    exact ⟨d, S3, m3, r, s3, (r1.to e2).to e3, q, fun z H4 e4 s4 r4 => h3 z m3 H4 e4 s4 r4⟩
end

/-! ### built-in functions -/
def isInts : List D → Option (List Int)
  | [] => some []
  | .int i :: l => (isInts l).map (i :: ·)
  | _ => none
def isBls : List D → Option (List Bool)
  | [] => some []
  | .bl b :: l => (isBls l).map (b :: ·)
  | _ => none
def isStrs : List D → Option (List Str)
  | [] => some []
  | .str x :: l => (isStrs l).map (x :: ·)
  | _ => none
section
variable {K : PySem.W.Frag} {m : Mp} {H : Hp}
theorem ints_of : ∀ {vs : List V} {l : List D} {ns : List Int}, Reps K m H vs l → isInts l = some ns → vs = ns.map V.int
  | _, [], ns, h, e => by cases h; cases e; rfl
  | _, d :: l, ns, h, e => by
    cases h with
    | cons h1 h2 =>
      cases h1 with
      | int i =>
        simp only [isInts] at e
        cases q : isInts l with
        | none => rw [q] at e; cases e
        | some ns' =>
          rw [q] at e; cases e
          rw [ints_of h2 q]; rfl
      | _ => cases e
theorem bls_of : ∀ {vs : List V} {l : List D} {ns : List Bool}, Reps K m H vs l → isBls l = some ns → vs = ns.map V.bl
  | _, [], ns, h, e => by cases h; cases e; rfl
  | _, d :: l, ns, h, e => by
    cases h with
    | cons h1 h2 =>
      cases h1 with
      | bl i =>
        simp only [isBls] at e
        cases q : isBls l with
        | none => rw [q] at e; cases e
        | some ns' =>
          rw [q] at e; cases e
          rw [bls_of h2 q]; rfl
      | _ => cases e
theorem strs_of : ∀ {vs : List V} {l : List D} {ns : List Str}, Reps K m H vs l → isStrs l = some ns → vs = ns.map V.str
  | _, [], ns, h, e => by cases h; cases e; rfl
  | _, d :: l, ns, h, e => by
    cases h with
    | cons h1 h2 =>
      cases h1 with
      | str i =>
        simp only [isStrs] at e
        cases q : isStrs l with
        | none => rw [q] at e; cases e
        | some ns' =>
          rw [q] at e; cases e
          rw [strs_of h2 q]; rfl
      | _ => cases e
end
def f1 (f : D → Sto → Option D) : List D → Sto → Option D
  | [d], S => f d S
  | _, _ => none
def gLen (d : D) (S : Sto) : Option D := match d with
  | .tup l => some (.int l.length)
  | .str x => if x.length ≤ lineN then some (.int x.length) else none
  | d => (rdOf d S).map fun l => .int l.length
def gAbs : D → Sto → Option D
  | .int i, _ => some (.int (if i < 0 then -i else i))
  | _, _ => none
def gInt : D → Sto → Option D
  | .int i, _ => some (.int i)
  | .bl b, _ => some (.int (if b then 1 else 0))
  | .str x, _ => if x.length ≤ 640 then (intText? x).map .int else none
  | _, _ => none
def gSum (d : D) (S : Sto) : Option D := match d with
  | .tup l => (isInts l).map fun ns => .int ns.sum
  | d => ((rdOf d S).bind isInts).map fun ns => .int ns.sum
def gAll (d : D) (S : Sto) : Option D := ((rdOf d S).bind isBls).map fun bs => .bl (bs.all id)
def gAny (d : D) (S : Sto) : Option D := ((rdOf d S).bind isBls).map fun bs => .bl (bs.any id)
def gTup (d : D) (S : Sto) : Option D := match d with
  | .tup l => some (.tup l)
  | d => (rdOf d S).map fun l => .tup l
def gLst (d : D) (S : Sto) : Option D := match d with
  | .tup l => some (.lst l)
  | d => (rdOf d S).map fun l => .lst l
def fMax2 : List D → Sto → Option D
  | [.int i, .int j], _ => some (.int (if j > i then j else i))
  | _, _ => none
def fMin2 : List D → Sto → Option D
  | [.int i, .int j], _ => some (.int (if j < i then j else i))
  | _, _ => none
def fDivmod : List D → Sto → Option D
  | [.int i, .int j], _ => if 0 < j ∧ j < 1073741824 then some (.tup [.int (i / j), .int (i % j)]) else none
  | _, _ => none
section
variable {X : Cx}
theorem c1 {f : Value} {g : D → Sto → Option D} (h : ∀ (pins : List (Addr × Obj)) (s : Shared) (σ : L2.St) (H : Hp) (x : V) (u : Value) (Q : VK) (d : D) (S : Sto) (m : Mp) (r : D), L2.Inv X pins σ H s → Vals [x] [u] → Sim X.K m S H → Rep X.K m H x d → g d S = some r →
    (∀ v H', Ext m H m H' → Sim X.K m S H' → Rep X.K m H' v r → Q v H') → wpAny (model X.prog X.w) X.A (call f [u]) (EP X pins σ Q) X.xe s) : CallR X f (rOL X.K (f1 g)) := by
  intro pins s σ H xs us Q I rx ⟨ds, S, m, r, si, hx, hf, hq⟩
  cases hx with
  | nil => cases hf
  | cons h1 h2 =>
    cases h2 with
    | cons h2 h3 => cases hf
    | nil =>
      cases rx with
      | cons a b =>
        cases b
        exact h pins s σ H _ _ Q _ S m r I (.cons a .nil) si h1 hf hq
theorem b_len : CallR X (.builtin "len") (rOL X.K (f1 gLen)) := c1 fun pins s σ H x u Q d S m r I rx si hx hf hq => by
  unfold gLen at hf
  split at hf
  · cases hf
    cases hx with
    | tup h1 hd h2 => exact call_len_seq pins s σ H _ _ Q I rx ⟨_, _, rfl, .inr h1, by rw [h2.len]; exact hq _ H .refl si (.int _)⟩
  · rename_i z
    by_cases hl : z.length ≤ lineN
    · rw [if_pos hl] at hf
      cases hf; cases hx
      exact call_len_str pins s σ H _ _ Q I rx ⟨z, rfl, by rw [← line_eq]; exact hl, hq _ H .refl si (.int _)⟩
    · rw [if_neg hl] at hf; cases hf
  · cases q : rdOf d S with
    | none => rw [q] at hf; cases hf
    | some l =>
      rw [q] at hf; cases hf
      obtain ⟨a, vs, rfl, h1, h2⟩ := rd_at si hx q
      exact call_len_seq pins s σ H _ _ Q I rx ⟨a, vs, rfl, .inl h1, by rw [h2.len]; exact hq _ H .refl si (.int _)⟩
theorem b_abs : CallR X (.builtin "abs") (rOL X.K (f1 gAbs)) := c1 fun pins s σ H x u Q d S m r I rx si hx hf hq => by
  unfold gAbs at hf
  split at hf
  · cases hf; cases hx
    exact call_abs pins s σ H _ _ Q I rx ⟨_, rfl, hq _ H .refl si (.int _)⟩
  · cases hf
theorem b_int : CallR X (.type "int") (rOL X.K (f1 gInt)) := c1 fun pins s σ H x u Q d S m r I rx si hx hf hq => by
  unfold gInt at hf
  split at hf
  · cases hf; cases hx
    exact call_int1 pins s σ H _ _ Q I rx (.inl ⟨_, rfl, hq _ H .refl si (.int _)⟩)
  · cases hf; cases hx
    exact call_int1 pins s σ H _ _ Q I rx (.inr ⟨_, rfl, hq _ H .refl si (.int _)⟩)
  · rename_i z
    by_cases hl : z.length ≤ 640
    · rw [if_pos hl] at hf
      cases q : intText? z with
      | none => rw [q] at hf; cases hf
      | some n =>
        rw [q] at hf
        cases hf; cases hx
        exact call_int_str pins s σ H _ _ Q I rx ⟨z, n, rfl, q, hl, hq _ H .refl si (.int _)⟩
    · rw [if_neg hl] at hf; cases hf
  · cases hf
theorem b_all (hc : X.calm = true) : CallR X (.builtin "all") (rOL X.K (f1 gAll)) := c1 fun pins s σ H x u Q d S m r I rx si hx hf hq => by
  unfold gAll at hf
  cases q : rdOf d S with
  | none => rw [q] at hf; cases hf
  | some l =>
    rw [q] at hf
    cases q2 : isBls l with
    | none => simp only [Option.bind_some, q2] at hf; cases hf
    | some bs =>
      simp only [Option.bind_some, q2] at hf; cases hf
      obtain ⟨a, vs, rfl, h1, h2⟩ := rd_at si hx q
      have e := bls_of h2 q2
      subst e
      exact cr_all hc pins s σ H _ _ Q I rx ⟨a, bs, rfl, h1, hq _ H .refl si (.bl _)⟩
theorem tup_sum {prog : Program} {w : World} {A : Around} {E : Value → Shared → Prop} {s : Shared} {t : Addr} {its : List Value} {ns : List Int} {Q : Value → Shared → Prop} (hh : A.handled = none) (ht : s.heap.IsTuple t its.toArray) (hi : PyProof.Rows.IntsAre its ns)
    (h : ∀ h' tk t', (∀ b o, s.heap.get? b = some o → h'.get? b = some o) → Q (.int ns.sum t') { s with heap := h', toks := tk }) : wpAny (model prog w) A (call (.builtin "sum") [.ref t]) Q E s := by
  obtain ⟨xs, e⟩ := hi.allInts.items
  have hn : PySem.numsOf (intItems xs).toList = ns := by rw [← e]; exact hi.numsOf
  rw [PySem.nums_intItems] at hn
  rw [e] at ht
  refine PySem.W.ktm_sumG hh ht fun h' tk t' hk => ?_
  have := h h' tk t' hk
  rw [PySem.preSum_eq, List.take_of_length_le (by simp), hn]; exact this
theorem b_sum (hc : X.calm = true) : CallR X (.builtin "sum") (rOL X.K (f1 gSum)) := c1 fun pins s σ H x u Q d S m r I rx si hx hf hq => by
  unfold gSum at hf
  split at hf
  · rename_i l
    cases q : isInts l with
    | none => rw [q] at hf; cases hf
    | some ns =>
      rw [q] at hf; cases hf
      cases hx with
      | tup h1 hd h2 =>
        have e := ints_of h2 q
        subst e
        obtain ⟨its, rv, p, _⟩ := I.tuple h1
        cases rx with
        | cons a b =>
          cases a
          exact tup_sum (I.ok.hd hc) p rv.ints fun h' tk t' hk => ⟨.int _, H, I.kept hk, ⟨_, rfl⟩, hq _ H .refl si (.int _)⟩
  · cases q : rdOf d S with
    | none => rw [q] at hf; cases hf
    | some l =>
      rw [q] at hf
      cases q2 : isInts l with
      | none => simp only [Option.bind_some, q2] at hf; cases hf
      | some ns =>
        simp only [Option.bind_some, q2] at hf; cases hf
        obtain ⟨a, vs, rfl, h1, h2⟩ := rd_at si hx q
        have e := ints_of h2 q2
        subst e
        exact cr_sum hc pins s σ H _ _ Q I rx ⟨a, ns, rfl, h1, hq _ H .refl si (.int _)⟩
theorem b_tup : CallR X (.type "tuple") (rOL X.K (f1 gTup)) := c1 fun pins s σ H x u Q d S m r I rx si hx hf hq => by
  unfold gTup at hf
  split at hf
  · cases hf
    cases hx with
    | tup h1 hd h2 => exact call_tuple_of pins s σ H _ _ Q I rx ⟨_, _, rfl, .inr ⟨h1, hq _ H .refl si (.tup h1 hd h2)⟩⟩
  · cases q : rdOf d S with
    | none => rw [q] at hf; cases hf
    | some l =>
      rw [q] at hf; cases hf
      obtain ⟨a, vs, rfl, h1, h2⟩ := rd_at si hx q
      exact call_tupF pins s σ H _ _ Q I rx ⟨a, vs, rfl, h1, fun l o hl ho => hq _ _ (.new hl) (si.new hl) (tupF ho (h2.to (.new hl)))⟩
theorem b_lst : CallR X (.type "list") (rOL X.K (f1 gLst)) := c1 fun pins s σ H x u Q d S m r I rx si hx hf hq => by
  unfold gLst at hf
  split at hf
  · cases hf
    cases hx with
    | tup h1 hd h2 => exact call_list_of pins s σ H _ _ Q I rx ⟨_, _, rfl, .inr h1, fun l hl => hq _ _ (.new hl) (si.new hl) (.lst upd_same (si.off hl) (h2.to (.new hl)))⟩
  · cases q : rdOf d S with
    | none => rw [q] at hf; cases hf
    | some l =>
      rw [q] at hf; cases hf
      obtain ⟨a, vs, rfl, h1, h2⟩ := rd_at si hx q
      exact call_list_of pins s σ H _ _ Q I rx ⟨a, vs, rfl, .inl h1, fun l hl => hq _ _ (.new hl) (si.new hl) (.lst upd_same (si.off hl) (h2.to (.new hl)))⟩
theorem b_max2 (hc : X.calm = true) : CallR X (.builtin "max") (rOL X.K fMax2) := by
  intro pins s σ H xs us Q I rx ⟨ds, S, m, r, si, hx, hf, hq⟩
  unfold fMax2 at hf
  split at hf
  · cases hf
    cases hx with
    | cons a b =>
      cases b with
      | cons b c =>
        cases a; cases b; cases c
        exact call_max2 hc pins s σ H _ _ Q I rx ⟨_, _, rfl, hq _ H .refl si (.int _)⟩
  · cases hf
theorem b_min2 (hc : X.calm = true) : CallR X (.builtin "min") (rOL X.K fMin2) := by
  intro pins s σ H xs us Q I rx ⟨ds, S, m, r, si, hx, hf, hq⟩
  unfold fMin2 at hf
  split at hf
  · cases hf
    cases hx with
    | cons a b =>
      cases b with
      | cons b c =>
        cases a; cases b; cases c
        exact call_min2 hc pins s σ H _ _ Q I rx ⟨_, _, rfl, hq _ H .refl si (.int _)⟩
  · cases hf
theorem b_divmod : CallR X (.builtin "divmod") (rOL X.K fDivmod) := by
  intro pins s σ H xs us Q I rx ⟨ds, S, m, r, si, hx, hf, hq⟩
  unfold fDivmod at hf
  split at hf
  · rename_i i j
    by_cases hl : 0 < j ∧ j < 1073741824
    · rw [if_pos hl] at hf
      cases hf
      cases hx with
      | cons a b =>
        cases b with
        | cons b c =>
          cases a; cases b; cases c
          exact call_divmod pins s σ H _ _ Q I rx ⟨_, _, rfl, hl, fun p hp => hq _ _ (.new hp) (si.new hp) (.tup (.inl (.inl upd_same)) (fun z => by cases z) (.cons (.int _) (.cons (.int _) .nil)))⟩
    · rw [if_neg hl] at hf; cases hf
  · cases hf
end
end Ag

namespace Ag
open PySem L2
/-! ### repr -/
def gRepr (d : D) (S : Sto) : Option D := match pyS d S with
  | some p => if p.showable = true ∧ p.hasDict = false ∧ p.depth ≤ 60 ∧ p.shown.length ≤ lineN then some (.str p.shown) else none
  | none => none
section
variable {X : Cx} {W : WX} {j : Nat}
theorem b_repr (B : Bd X W j) : CallR X (.builtin "repr") (rOL X.K (f1 gRepr)) := c1 fun pins s σ H x u Q d S m r I rx si hx hf hq => by
  unfold gRepr at hf
  cases q : pyS d S with
  | none => rw [q] at hf; cases hf
  | some p =>
    rw [q] at hf
    simp only at hf
    by_cases hl : p.showable = true ∧ p.hasDict = false ∧ p.depth ≤ 60 ∧ p.shown.length ≤ lineN
    · rw [if_pos hl] at hf
      cases hf
      have hsz : p.shown.length ≤ sizeLine := by rw [← line_eq]; exact hl.2.2.2
      have fin : ∀ {s' : Shared} {t : Tok}, L2.Inv X pins σ H s' → EP X pins σ Q (.str p.shown t) s' := fun I' => ⟨.str _, H, I', ⟨_, rfl⟩, hq _ H .refl si (.str _)⟩
      have hun := B.room.units
      have dp := dpS_of si hx q
      cases rx with
      | cons rx _ =>
        cases dp with
        | non => cases rx; exact PySem.P.repr_of_none (fin (I.tok _))
        | bl b => cases rx; exact PySem.P.repr_of_bool (fin (I.tok _))
        | int i =>
          obtain ⟨t, rfl⟩ := rx
          have h1 : i.natAbs.log2 < 1920 := by have := hl.1; simpa [PyData.showable] using this
          exact PySem.P.repr_of_int h1 (fin (I.tok _))
        | str z => obtain ⟨t, rfl⟩ := rx; exact PySem.P.repr_of_str (fin (I.tok _)) hsz
        | lst h1 h2 =>
          obtain ⟨as, rd⟩ := Dp.reads I _ _ _ (.lst h1 h2) rx
          cases rx
          exact repr_of_reads' rd hl.1 (fun z => by rw [hl.2.1] at z; cases z) B.gd (by have := hl.2.2.1; omega) (fun _ _ e => e) (fun h' u tk hk => fin (I.kept hk)) hsz
        | tup h1 h2 =>
          obtain ⟨as, rd⟩ := Dp.reads I _ _ _ (.tup h1 h2) rx
          cases rx
          exact repr_of_reads' rd hl.1 (fun z => by rw [hl.2.1] at z; cases z) B.gd (by have := hl.2.2.1; omega) (fun _ _ e => e) (fun h' u tk hk => fin (I.kept hk)) hsz
    · rw [if_neg hl] at hf; cases hf

/-! ### isinstance -/
inductive Ty where
  | b (n : String) | o (c : Str)
  deriving DecidableEq
def tyOf (d : D) (S : Sto) : Option Ty := match d with
  | .non => some (.b "NoneType")
  | .bl _ => some (.b "bool")
  | .int _ => some (.b "int")
  | .str _ => some (.b "str")
  | .tup _ => some (.b "tuple")
  | .lst _ => some (.b "list")
  | .obj c _ _ => some (.o c)
  | .ref i => (match S[i]? with
    | some (.lst _) => some (.b "list")
    | some (.ins c _ _) => some (.o c)
    | _ => none)
  | _ => none
def clD : D → Option Ty
  | .ty n => some (.b n)
  | .gl x => some (.o x)
  | _ => none
def Ty.val (K : PySem.W.Frag) : Ty → Value
  | .b n => .type n
  | .o c => .ref (He.ga K c)
/-- what is known of classes: the instances of own classes (cs), the answers (tab) -/
structure Iso (K : PySem.W.Frag) (cs : List Str) (tab : List (Ty × Ty × Bool)) : Prop where
  own : ∀ c ∈ cs, Cls K (He.ga K c) ∧ PySem.W.findIn K (.ref (He.ga K c)) "__class__" = some (some (.builtin "object.__class__")) ∧
    PySem.W.specialIn K (.builtin "object.__class__") "__get__" = some (some (.builtin "getset_descriptor.__get__")) ∧ PySem.W.takesIn K (.builtin "object.__class__") = some true ∧ PySem.W.mroIn K (He.ga K c) (.type "object") = some true
  ans : ∀ r ∈ tab, PySem.W.kitOne K (r.1.val K) (r.2.1.val K) = some r.2.2
def look2 (t c : Ty) : List (Ty × Ty × Bool) → Option Bool
  | [] => none
  | r :: l => if r.1 = t ∧ r.2.1 = c then some r.2.2 else look2 t c l
theorem look2_mem {t c : Ty} {b : Bool} : ∀ {l : List (Ty × Ty × Bool)}, look2 t c l = some b → (t, c, b) ∈ l
  | [], h => by cases h
  | r :: l, h => by
    simp only [look2] at h
    by_cases e : r.1 = t ∧ r.2.1 = c
    · rw [if_pos e] at h
      obtain ⟨r1, r2, r3⟩ := r
      obtain ⟨e1, e2⟩ := e
      cases h
      simp only at e1 e2
      subst e1 e2
      exact List.mem_cons_self
    · rw [if_neg e] at h
      exact List.mem_cons_of_mem _ (look2_mem h)
def fIsi (cs : List Str) (tab : List (Ty × Ty × Bool)) : List D → Sto → Option D
  | [d, c], S => match tyOf d S, clD c with
    | some (.o k), some u => if k ∈ cs then (look2 (.o k) u tab).map .bl else none
    | some t, some u => (look2 t u tab).map .bl
    | _, _ => none
  | _, _ => none
theorem tyX_of {K : PySem.W.Frag} {m : Mp} {H : Hp} {S : Sto} {v : V} {d : D} {t : Ty} {cs : List Str} {tab : List (Ty × Ty × Bool)} (is : Iso K cs tab) (si : Sim K m S H) (r : Rep K m H v d) (h : tyOf d S = some t) (hc : ∀ k, t = .o k → k ∈ cs) : TyX K H v (t.val K) := by
  have ins : ∀ {a dx : Addr} {c : Str} {fs : List (Str × V)}, H a = some (.ins (He.ga K c) dx fs) → c ∈ cs → TyX K H (.ref a) (.ref (He.ga K c)) := fun ha hcs => by
    obtain ⟨h1, h2, h3, h4, h5⟩ := is.own _ hcs
    exact .base (.ins ha h1 h2 h3 h4 h5)
  cases r with
  | non => cases h; exact .base .non
  | bl b => cases h; exact .base (.bl b)
  | int i => cases h; exact .base (.int i)
  | str x => cases h; exact .base (.str x)
  | ty n => cases h
  | gl x => cases h
  | tup h1 hd h2 =>
    cases h
    rcases h1 with (h1 | ⟨o, h1⟩) | ⟨o, its, n, h1, h3, _⟩
    · exact .base (.tup h1)
    · exact .fTuple h1
    · exact .kTuple h1 h3
  | lst h1 h2 h3 => cases h; exact .base (.lst h1)
  | scr h1 h2 => cases h
  | obj h1 h2 h3 h4 => cases h; exact ins h1 (hc _ rfl)
  | dct h1 h2 h3 h4 => cases h
  | ref h1 =>
    rename_i a i
    simp only [tyOf] at h
    cases q : S[i]? with
    | none => rw [q] at h; cases h
    | some o =>
      rw [q] at h
      have c := si.cell i a o h1 q
      cases o with
      | lst l => cases h; obtain ⟨vs, g1, _⟩ := c; exact .base (.lst g1)
      | ins c' ns l => cases h; obtain ⟨dx, fs, g1, _⟩ := c; exact ins g1 (hc _ rfl)
      | dic kvs => cases h
      | dik kvs => cases h
      | tab _ _ => cases h
      | err _ _ => cases h
      | clo _ _ _ _ => cases h
      | fz => cases h
theorem b_isi {cs : List Str} {tab : List (Ty × Ty × Bool)} (is : Iso X.K cs tab) : CallR X (.builtin "isinstance") (rOL X.K (fIsi cs tab)) := by
  intro pins s σ H xs us Q I rx ⟨ds, S, m, r, si, hx, hf, hq⟩
  unfold fIsi at hf
  split at hf
  · rename_i d c
    cases hx with
    | cons r1 b =>
      cases b with
      | cons r2 b =>
        cases b
        rename_i x y
        have cl : ∀ u, clD c = some u → ClsV y (u.val X.K) := fun u hu => by
          cases r2 with
          | ty n => cases hu; exact .ty n
          | gl z => cases hu; exact .own _
          | _ => cases hu
        have go : ∀ t u b, tyOf d S = some t → clD c = some u → (∀ k, t = .o k → k ∈ cs) → look2 t u tab = some b → r = .bl b → wpAny (model X.prog X.w) X.A (call (.builtin "isinstance") us) (EP X pins σ Q) X.xe s := fun t u b h1 h2 h3 h4 h5 => by
          subst h5
          exact call_isi pins s σ H _ _ Q I rx ⟨x, y, t.val X.K, u.val X.K, b, rfl, cl u h2, tyX_of is si r1 h1 h3, is.ans _ (look2_mem h4), hq _ H .refl si (.bl b)⟩
        split at hf
        · rename_i k u q1 q2
          by_cases hk : k ∈ cs
          · rw [if_pos hk] at hf
            cases q3 : look2 (.o k) u tab with
            | none => rw [q3] at hf; cases hf
            | some b => rw [q3] at hf; exact go _ u b q1 q2 (fun k' e => by cases e; exact hk) q3 (Option.some.inj hf).symm
          · rw [if_neg hk] at hf; cases hf
        · rename_i t u hn q1 q2
          cases q3 : look2 t u tab with
          | none => rw [q3] at hf; cases hf
          | some b => rw [q3] at hf; exact go t u b q1 q2 (fun k' e => by subst e; exact (hn k' rfl).elim) q3 (Option.some.inj hf).symm
        · cases hf
  · cases hf

/-! ### len of an instance, by its __len__ -/
def mCR (f : List D → Sto → Res D) (mr : AM) : EM := fun en S => (mr en S).bind fun ds S1 => match f ds S1 with
  | .ok r S2 => .ok r S2
  | _ => .stuck
def lenF (c : Str) (fm : List D → Sto → Res D) : List D → Sto → Res D
  | [d], S => match clsD d S with
    | some c' => if c' = c then (match fm [d] S with
      | .ok (.int n) S' => if 0 ≤ n ∧ n < 2 ^ 63 then .ok (.int n) S' else .stuck
      | _ => .stuck) else .stuck
    | none => ofO (gLen d S) S
  | _, _ => .stuck
/-! ### methods that change a list; texts -/
def mBM (f : D → List D → Sto → Option (D × Sto)) (ok : D → Sto → Bool) (mo : EM) (mr : AM) : EM := fun en S => (mo en S).bind fun d S1 => if ok d S1 = true then (mr en S1).bind fun ds S2 => (match f d ds S2 with
  | some r => .ok r.1 r.2
  | none => .stuck) else .stuck
def rBM (K : PySem.W.Frag) (f : D → List D → Sto → Option (D × Sto)) : V → List V → Hp → VK → Prop := fun x xs H Q => ∃ d ds S m r, Sim K m S H ∧ Rep K m H x d ∧ Reps K m H xs ds ∧ f d ds S = some r ∧ ∀ v H', Ext m H m H' → Sim K m r.2 H' → Rep K m H' v r.1 → Q v H'
theorem e_bm {T id : String} {name : Str} {o e : Expr} {es : List Expr} {mo : EM} {mr : AM} {apos cpos : Pos} {f : D → List D → Sto → Option (D × Sto)} {ok : D → Sto → Bool} (pa : PlainAttrs T) (slot : Slot T name id) (hty : typeOf (.builtin id) = pure (.type "method_descriptor")) (hm : MtR X id (rBM X.K f))
    (htv : ∀ (m : Mp) (H : Hp) (S : Sto) (v : V) (d : D), Sim X.K m S H → Rep X.K m H v d → ok d S = true → tyV X.K T v H) (ho : PE X o (tE X.K W mo)) (ha : PA X (e :: es) (tA X.K W mr))
    (h1 : attributeBase o name X.env (eval o X.env) = eval o X.env := by rfl)
    (h2 : ((((backTo cpos (starEach (e :: es) X.env)).all fun x => !x.fst) && (backToKw cpos (keywordEach [] X.env)).all fun x => x.fst.isSome) && decide (((e :: es).length + ([] : List Keyword).length + if ([] : List Keyword).isEmpty = true then 0 else 1) < 30)) = true := by rfl)
    (h3 : (apos.endLine == cpos.line) = true := by rfl) (h4 : starEach (e :: es) X.env = (false, eval e X.env) :: starEach es X.env := by rfl) (h5 : (backTo cpos (starEach es X.env)).any (·.1) = false := by rfl) :
    PE X (.Call (.Attribute o name apos) (e :: es) [] cpos) (tE X.K W (mBM f ok mo mr)) := by
  refine PE.imp (pe_bm pa slot hty hm ho ha h1 h2 h3 h4 h5) ?_
  rintro σ H Q ⟨en, S, m, er, si, h⟩
  refine ⟨en, S, m, er, si, (PostG.bind (R := Rep X.K) h).mono ?_⟩
  rintro v H1 ⟨d, S1, m1, e1, s1, r1, h1⟩
  by_cases hk : ok d S1 = true
  · rw [if_pos hk] at h1
    refine ⟨htv m1 H1 S1 v d s1 r1 hk, en, S1, m1, er.to e1, s1, (PostG.bind (R := Reps X.K) h1).mono ?_⟩
    rintro vs H2 ⟨ds, S2, m2, e2, s2, r2, h2⟩
    cases q : f d ds S2 with
    | none => rw [q] at h2; exact h2.elim
    | some r =>
      rw [q] at h2
      exact ⟨d, ds, S2, m2, r, s2, r1.to e2, r2, q, fun z H3 e3 s3 r3 => h2 z m2 H3 e3 s3 r3⟩
  · rw [if_neg hk] at h1; exact h1.elim
def okLst (d : D) (S : Sto) : Bool := (lstOf d S).isSome
theorem tv_lst (m : Mp) (H : Hp) (S : Sto) (v : V) (d : D) (si : Sim X.K m S H) (r : Rep X.K m H v d) (h : okLst d S = true) : tyV X.K "list" v H := by
  unfold okLst at h
  cases q : lstOf d S with
  | none => rw [q] at h; cases h
  | some l =>
    obtain ⟨a, vs, rfl, h1, _⟩ := lst_at si r q
    exact .inl ⟨rfl, vs, .inl (.inl h1)⟩
def okStr (d : D) (_ : Sto) : Bool := match d with | .str _ => true | _ => false
theorem tv_str (m : Mp) (H : Hp) (S : Sto) (v : V) (d : D) (si : Sim X.K m S H) (r : Rep X.K m H v d) (h : okStr d S = true) : tyV X.K "str" v H := by
  cases r with
  | str x => rfl
  | _ => cases h
def fAppend : D → List D → Sto → Option (D × Sto)
  | .ref i, [d], S => match S[i]? with
    | some (.lst l) => if l.length < lineN then some (.non, S.set i (.lst (l ++ [d]))) else none
    | _ => none
  | _, _, _ => none
theorem m_append : MtR X "list.append" (rBM X.K fAppend) := by
  intro pins s σ H x xs v us Q I rx rxs ⟨d, ds, S, m, r, si, hx, hxs, hf, hq⟩
  unfold fAppend at hf
  split at hf
  · rename_i i c
    split at hf
    · rename_i l q
      by_cases hl : l.length < lineN
      · rw [if_pos hl] at hf
        cases hf
        cases hx with
        | ref hi =>
          rename_i a
          cases hxs with
          | cons r1 r2 =>
            rename_i y ys
            cases r2
            obtain ⟨vs, g1, g2⟩ := si.cell i a _ hi q
            refine mt_append pins s σ H _ _ v us Q I rx rxs ⟨a, vs, y, rfl, rfl, g1, by rw [g2.len, ← line_eq]; exact hl, ?_⟩
            have e : Ext m H m (upd H a (.lst (vs ++ [y]))) := Ext.put si (List.mem_of_getElem? hi) (nfz g1)
            exact hq _ _ e (si.put hi ⟨_, upd_same, (g2.app (.cons r1 .nil)).to e⟩ (nfz g1)) .non
      · rw [if_neg hl] at hf; cases hf
    · cases hf
  · cases hf
def fPopAt : D → List D → Sto → Option (D × Sto)
  | .ref i, [.int j], S => match S[i]? with
    | some (.lst l) => (ixN l.length j).bind fun k => l[k]?.map fun d => (d, S.set i (.lst (l.eraseIdx k)))
    | _ => none
  | _, _, _ => none
theorem m_popAt : MtR X "list.pop" (rBM X.K fPopAt) := by
  intro pins s σ H x xs v us Q I rx rxs ⟨d, ds, S, m, r, si, hx, hxs, hf, hq⟩
  unfold fPopAt at hf
  split at hf
  · rename_i i j
    split at hf
    · rename_i l q
      cases q1 : ixN l.length j with
      | none => rw [q1] at hf; cases hf
      | some k =>
        rw [q1] at hf
        cases q2 : l[k]? with
        | none => simp only [Option.bind_some, q2] at hf; cases hf
        | some c =>
          simp only [Option.bind_some, q2, Option.map_some] at hf
          cases hf
          cases hx with
          | ref hi =>
            rename_i a
            cases hxs with
            | cons r1 r2 =>
              cases r1; cases r2
              obtain ⟨vs, g1, g2⟩ := si.cell i a _ hi q
              obtain ⟨y, g3, g4⟩ := g2.get q2
              obtain ⟨b1, b2, b3, b4⟩ := ixN_seq q1
              have hz : l.length ≤ sizeLine := by
                obtain ⟨z, _⟩ := (show ObjOk X.prog X.w H s.heap a (.lst vs) from I.hok a _ g1)
                rw [← g2.len]; exact z
              have hsl := sizeLine_eq
              refine mt_popAt pins s σ H _ _ v us Q I rx rxs ⟨a, vs, j, k, y, rfl, rfl, g1, by omega, by omega, by rw [g2.len]; exact b1, g3, ?_⟩
              have e : Ext m H m (upd H a (.lst (vs.eraseIdx k))) := Ext.put si (List.mem_of_getElem? hi) (nfz g1)
              exact hq _ _ e (si.put hi ⟨_, upd_same, (g2.erase k).to e⟩ (nfz g1)) (g4.to e)
    · cases hf
  · cases hf
def fJoin : D → List D → Sto → Option (D × Sto)
  | .str a, [d], S => match (match d with | .tup l => some l | d => rdOf d S) with
    | some l => (isStrs l).bind fun ys => if (ys.map (·.length)).sum + ys.length * a.length ≤ lineN then some (.str (Txt.join a ys), S) else none
    | none => none
  | _, _, _ => none
theorem m_join : MtR X "str.join" (rBM X.K fJoin) := by
  intro pins s σ H x xs v us Q I rx rxs ⟨d, ds, S, m, r, si, hx, hxs, hf, hq⟩
  unfold fJoin at hf
  split at hf
  · rename_i a c
    cases hx
    cases hxs with
    | cons r1 r2 =>
      cases r2
      have go : ∀ l p vs, (SqL X.K H p vs ∨ SqT X.K H p vs) → Reps X.K m H vs l → V.ref p = _ → ((isStrs l).bind fun ys => if (ys.map (·.length)).sum + ys.length * a.length ≤ lineN then some (D.str (Txt.join a ys), S) else none) = some r → wpAny (model X.prog X.w) X.A (call (.builtin "str.join") (v :: us)) (EP X pins σ Q) X.xe s := fun l p vs h1 h2 ep hf => by
        cases q : isStrs l with
        | none => rw [q] at hf; cases hf
        | some ys =>
          rw [q] at hf
          simp only [Option.bind_some] at hf
          by_cases hl : (ys.map (·.length)).sum + ys.length * a.length ≤ lineN
          · rw [if_pos hl] at hf
            cases hf
            have e := strs_of h2 q
            subst e
            exact mt_join pins s σ H _ _ v us Q I rx rxs ⟨a, p, ys, rfl, by rw [ep], h1, hl, hq _ H .refl si (.str _)⟩
          · rw [if_neg hl] at hf; cases hf
      split at hf
      · rename_i l q
        split at q
        · cases q
          cases r1 with
          | tup h1 hd h2 => exact go _ _ _ (.inr h1) h2 rfl hf
        · obtain ⟨p, vs, ep, h1, h2⟩ := rd_at si r1 q
          exact go _ p vs (.inl h1) h2 ep.symm hf
      · cases hf
  · cases hf
/-! ### what is never come to; a try that runs through -/
def sTryQ (b : SM) : SM := fun en S => match b en S with
  | .exc _ _ _ _ => .stuck
  | r => r
theorem bd_nox (B : Bd X W j) : Bd X.nox W0 j := ⟨takes0N, PassesOwn.never, B.calm, B.room, B.gd⟩
theorem s_tryQ {body : List Stmt} {h0 : ExceptHandler} {hs : List ExceptHandler} {b : SM} {pos : Pos} (hb : PSs X.nox body (tS X.K W0 b)) : PS X (.Try body (h0 :: hs) [] [] pos) (tS X.K W (sTryQ b)) := by
  refine PS.imp (ps_try_thru0 hb) ?_
  rintro E σ H ⟨en, S, m, er, si, h⟩
  refine ⟨en, S, m, er, si, ?_⟩
  unfold sTryQ at h
  cases q : b en S with
  | exc c fs en1 S1 => rw [q] at h; exact h.elim
  | _ => rw [q] at h; exact h
end
end Ag

namespace Ag
open PySem L2
section
variable {X : Cx} {W : WX} {e : Expr} {es : List Expr} {pos : Pos} {mr : AM}
/-! ### a, b = x, y -/
def lS (r : Res (List D)) (en : En) (k : List D → Sto → SRes) : SRes := match r with
  | .ok d S => k d S
  | .exc c fs S => .exc c fs en S
  | .stuck => .stuck
theorem lS_to {m : Mp} {H : Hp} {σ : L2.St} {r : Res (List D)} {en : En} {k : List D → Sto → SRes} {E : Ends} (er : EnvR X.K m H σ en) (h : SPost X.K W m H (lS r en k) E) :
    PostL X.K W σ m H r (fun v H1 => ∃ d S1 m1, Ext m H m1 H1 ∧ Sim X.K m1 S1 H1 ∧ Reps X.K m1 H1 v d ∧ SPost X.K W m1 H1 (k d S1) E) := by
  cases r with
  | ok d S => exact fun v m1 H1 e s r1 => ⟨d, S, m1, e, s, r1, h.to e⟩
  | exc c fs S => exact fun od m1 H1 e s x => h σ od m1 H1 e s (er.to e) x
  | stuck => exact h
def sPar (i j : Nat) (mr : AM) : SM := fun en S => lS (mr en S) en fun ds S1 => match ds with
  | [a, b] => .next ((en.set i (some a)).set j (some b)) S1
  | _ => .stuck
def sPar3 (i j l : Nat) (mr : AM) : SM := fun en S => lS (mr en S) en fun ds S1 => match ds with
  | [a, b, c] => .next (((en.set i (some a)).set j (some b)).set l (some c)) S1
  | _ => .stuck
theorem s_par {i j : Nat} {x y : Str} {a b : Expr} {px py pt : Pos} {kt k2 pt2} (hc : X.calm = true) (hN : X.N.Nodup) (hi : X.N[i]? = some x) (hj : X.N[j]? = some y) (hij : i ≠ j)
    (hx : X.env.scope.names.lookup x = some .local) (hy : X.env.scope.names.lookup y = some .local) (ha : PA X [a, b] (tA X.K W mr))
    (hw : swappedStores [.Tuple [.Name x px, .Name y py] kt pt] (.Tuple [a, b] k2 pt2) X.env = pure (some [x, y]))
    (hs : swapsWithSole [.Tuple [.Name x px, .Name y py] kt pt] (.Tuple [a, b] k2 pt2) pos.line X.env = pure false := by rfl) :
    PS X (.Assign [.Tuple [.Name x px, .Name y py] kt pt] (.Tuple [a, b] k2 pt2) pos) (tS X.K W (sPar i j mr)) := by
  refine PS.imp (ps_par hc hN hi hj hij hx hy ha hw hs) ?_
  rintro E σ H ⟨en, S, m, er, si, h⟩
  refine ⟨en, S, m, er, si, (lS_to er h).mono ?_⟩
  rintro v H1 ⟨d, S1, m1, e1, s1, r1, h1⟩
  cases r1 with
  | nil => exact h1.elim
  | cons p1 q1 =>
    cases q1 with
    | nil => exact h1.elim
    | cons p2 q2 =>
      cases q2 with
      | cons p3 q3 => exact h1.elim
      | nil => exact ⟨_, _, rfl, h1 _ m1 H1 .refl s1 (((er.to e1).set p1).set p2)⟩
end
end Ag

namespace Ag
open PySem PySem.Spec PyProof.Rows L2
/-! ### the law's end, for promises that want no repr around them -/
end Ag

namespace Ag
open PySem PySem.Spec PyProof.Rows L2
section
variable {X : Cx} {W : WX} {e : Expr} {es : List Expr} {pos : Pos} {mr : AM}
/-! ### short words for a program that prints walks -/
theorem vr (i : Nat) {x : Str} (hN : X.N[i]? = some x := by rfl) (hv : Vis X.env.scope x := by first | exact Or.inl rfl | exact Or.inr (Or.inl rfl) | exact Or.inr (Or.inr rfl)) (hd : (x == ("__debug__" : Str)) = false := by decide) (hcd : (x == ("__classdict__" : Str)) = false := by decide) :
    PE X (.Name x pos) (tE X.K W (mVar i)) := e_var hN hv hd hcd
theorem k_int {i : Int} {j} : PE X (.Constant (.int i) j pos) (tE X.K W (mC (.int i))) := e_c pe_int fun _ _ => .int i
theorem k_bl {b : Bool} {j} : PE X (.Constant (.bool b) j pos) (tE X.K W (mC (.bl b))) := e_c pe_bl fun _ _ => .bl b
theorem k_non {j} : PE X (.Constant .none j pos) (tE X.K W (mC .non)) := e_c pe_non fun _ _ => .non
theorem k_str {x : Str} {j} : PE X (.Constant (.str x) j pos) (tE X.K W (mC (.str x))) := e_c pe_str fun _ _ => .str x
theorem g_int {x : Str} {i : Int} (h : ∃ t, X.mg x = some (.int i t)) (hg : Gl X x := by rfl) (hd : (x == ("__debug__" : Str)) = false := by decide) : PE X (.Name x pos) (tE X.K W (mC (.int i))) := by
  obtain ⟨t, h⟩ := h
  exact e_c (pe_glob (v := .int i) hg h ⟨t, rfl⟩ hd) fun _ _ => .int i
theorem g_str {x z : Str} (h : ∃ t, X.mg x = some (.str z t)) (hg : Gl X x := by rfl) (hd : (x == ("__debug__" : Str)) = false := by decide) : PE X (.Name x pos) (tE X.K W (mC (.str z))) := by
  obtain ⟨t, h⟩ := h
  exact e_c (pe_glob (v := .str z) hg h ⟨t, rfl⟩ hd) fun _ _ => .str z
theorem g_cls {x : Str} (h : X.mg x = some (.ref (He.ga X.K x))) (hg : Gl X x := by rfl) (hd : (x == ("__debug__" : Str)) = false := by decide) : PE X (.Name x pos) (tE X.K W (mC (.gl x))) :=
  e_c (pe_glob (v := .ref (He.ga X.K x)) hg h rfl hd) fun _ _ => .gl x
theorem g_ty {x : Str} {T : String} (hm : X.mg x = none) (hv : bootBuiltins x = some (.type T)) (hg : Gl X x := by rfl) (hn : x ≠ "__name__" := by decide) (hd : (x == ("__debug__" : Str)) = false := by decide) : PE X (.Name x pos) (tE X.K W (mC (.ty T))) :=
  e_c (pe_bltn (v := .ty T) hg hm hv rfl hn hd) fun _ _ => .ty T
end
/-! ### facts by a Bool of one's own -/
def propB (K : PySem.W.Frag) (c f : Str) (g : Addr) : Bool := match PySem.W.findIn K (.ref (He.ga K c)) f with
  | some (some (.ref p)) => decide (PySem.W.specialIn K (.ref p) "__get__" = some (some (.builtin "property.__get__"))) && (decide (PySem.W.takesIn K (.ref p) = some true) && (match PySem.W.recIn K p "property" with
    | some (v :: _) => decide (v = .ref g)
    | _ => false))
  | _ => false
theorem propB_ok {K : PySem.W.Frag} {c f : Str} {g : Addr} (h : propB K c f g = true) : ∃ p, PropOf K (He.ga K c) f p g := by
  unfold propB at h
  split at h
  · rename_i p q
    obtain ⟨h1, h2⟩ := He.ba h
    obtain ⟨h3, h4⟩ := He.ba h2
    refine ⟨p, q, of_decide_eq_true h1, of_decide_eq_true h3, ?_⟩
    split at h4
    · rename_i v r q2
      have e := of_decide_eq_true h4
      subst e
      exact ⟨r, q2⟩
    · cases h4
  · cases h
def prG (K : PySem.W.Frag) (c f : Str) : Addr := match PySem.W.findIn K (.ref (He.ga K c)) f with
  | some (some (.ref p)) => (match PySem.W.recIn K p "property" with
    | some (.ref g :: _) => g
    | _ => 0)
  | _ => 0
def ownB (K : PySem.W.Frag) (c : Str) : Bool := (He.Fa.ok K (.cls c)) && (decide (PySem.W.findIn K (.ref (He.ga K c)) "__class__" = some (some (.builtin "object.__class__"))) &&
  (decide (PySem.W.specialIn K (.builtin "object.__class__") "__get__" = some (some (.builtin "getset_descriptor.__get__"))) && (decide (PySem.W.takesIn K (.builtin "object.__class__") = some true) && decide (PySem.W.mroIn K (He.ga K c) (.type "object") = some true))))
def isoB (K : PySem.W.Frag) (cs : List Str) (tab : List (Ty × Ty × Bool)) : Bool := cs.all (ownB K) && tab.all fun r => decide (PySem.W.kitOne K (r.1.val K) (r.2.1.val K) = some r.2.2)
theorem isoB_ok {K : PySem.W.Frag} {cs : List Str} {tab : List (Ty × Ty × Bool)} (h : isoB K cs tab = true) : Iso K cs tab := by
  obtain ⟨h1, h2⟩ := He.ba h
  refine ⟨fun c hc => ?_, fun r hr => of_decide_eq_true (List.all_eq_true.mp h2 r hr)⟩
  obtain ⟨a1, a2⟩ := He.ba (List.all_eq_true.mp h1 c hc)
  obtain ⟨a2, a3⟩ := He.ba a2
  obtain ⟨a3, a4⟩ := He.ba a3
  obtain ⟨a4, a5⟩ := He.ba a4
  exact ⟨He.cls_ok a1, of_decide_eq_true a2, of_decide_eq_true a3, of_decide_eq_true a4, of_decide_eq_true a5⟩
/-! ### the facts told by the head: defs at addresses of one's own -/
structure Df where
  loc : PySem.W.Frag → Addr
  name : Str
  qual : Str
  params : Arguments
  body : List Stmt
  scope : Scope
def fnSeen (K : PySem.W.Frag) (a : Addr) : He.FnW := match K.lookup a with
  | some ⟨_, _, .func z, _⟩ => some (z.name, z.qualname, z.params, z.body, z.scope, z.globals, z.closure, z.builtins)
  | _ => none
def Df.due (d : Df) : He.FnW := some (d.name, d.qual, d.params, .stmts d.body, d.scope, mainGlobals, [], builtinsNs)
def isNo : Value → Bool
  | .none => true
  | _ => false
theorem isNo_ok {v : Value} (h : isNo v = true) : v = .none := by cases v <;> first | rfl | cases h
def Df.good (K : PySem.W.Frag) (d : Df) : Bool := PySem.W.keepIn K (.ref (d.loc K)) && (match K.lookup (d.loc K) with
  | some ⟨_, _, .func z, _⟩ => PySem.W.codeIn K z.code d.qual && isNo z.defaults
  | _ => false)
abbrev FnAt (K : PySem.W.Frag) (d : Df) (fd : FuncData) : Prop := FunD K d.name d.qual d.params d.body d.scope [] [] (d.loc K) fd
theorem Df.fun_ {K : PySem.W.Frag} {d : Df} (e : fnSeen K (d.loc K) = d.due) (c : d.good K = true) : ∃ fd, FnAt K d fd := by
  obtain ⟨kp, c⟩ := He.ba c
  unfold fnSeen Df.due at e
  split at e
  · rename_i oc od z osl q
    rw [q] at c
    obtain ⟨c1, c2⟩ := He.ba c
    obtain ⟨z1, z2, z3, z4, z5, z6, z7, z8, z9, z10, z11, z12, z13, z14, z15⟩ := z
    simp only [Option.some.injEq, Prod.mk.injEq] at e
    obtain ⟨rfl, rfl, rfl, rfl, rfl, rfl, rfl, rfl⟩ := e
    obtain rfl := isNo_ok c2
    exact ⟨_, ⟨oc, od, .none, z9, z10, z11, z12, z13, z14, osl, rfl, q, c1, .inl ⟨rfl, rfl⟩, .inl rfl⟩, kp⟩
  · cases e
abbrev Seen : Type := Bool × List He.FnW
def seenK (fa : List He.Fa) (fn : List Df) (ex : PySem.W.Frag → Bool) (K : PySem.W.Frag) : Seen := ((fa.all fun f => f.ok K) && (fn.all fun d => d.good K) && ex K, fn.map fun d => fnSeen K (d.loc K))
structure Told (fa : List He.Fa) (fn : List Df) (ex : PySem.W.Frag → Bool) (K : PySem.W.Frag) : Prop where
  fa : ∀ f ∈ fa, f.ok K = true
  fn : ∀ d ∈ fn, ∃ fd, FnAt K d fd
  ex : ex K = true
theorem told_of {fa : List He.Fa} {fn : List Df} {ex : PySem.W.Frag → Bool} {K : PySem.W.Frag} (h : seenK fa fn ex K = (true, fn.map Df.due)) : Told fa fn ex K := by
  have h1 := congrArg Prod.fst h
  have h2 := congrArg Prod.snd h
  simp only [seenK, Bool.and_eq_true, List.all_eq_true] at h1 h2
  refine ⟨h1.1.1, fun d hd => Df.fun_ ?_ (h1.1.2 d hd), h1.2⟩
  obtain ⟨i, hi, e⟩ := List.mem_iff_getElem.mp hd
  have h3 := congrArg (fun l : List He.FnW => l[i]?) h2
  simp only [List.getElem?_map, List.getElem?_eq_getElem hi, e, Option.map_some, Option.some.injEq] at h3
  exact h3
/-- facts and the module's names -/
structure Kn (fa : List He.Fa) (fn : List Df) (ex : PySem.W.Frag → Bool) (K : PySem.W.Frag) (mg : Str → Option Value) : Prop where
  t : Told fa fn ex K
  glo : ∀ (i : Nat) {x : Str}, fa[i]? = some (.glo x) → mg x = some (.ref (He.ga K x))
  free : ∀ (i : Nat) {x : Str}, fa[i]? = some (.free x) → mg x = none
  int : ∀ (i : Nat) {x : Str} {j : Int}, fa[i]? = some (.int x j) → ∃ t, mg x = some (.int j t)
  str : ∀ (i : Nat) {x z : Str}, fa[i]? = some (.str x z) → ∃ t, mg x = some (.str z t)
theorem kn_of {fa : List He.Fa} {fn : List Df} {ex : PySem.W.Frag → Bool} {K : PySem.W.Frag} {mg : Str → Option Value} {h : Heap} (X : K.In h) (G : h.Ns mainGlobals mg) (t : Told fa fn ex K) : Kn fa fn ex K mg :=
  ⟨t, fun i x e => He.glo_ok X G (t.fa _ (List.mem_of_getElem? e)), fun i x e => He.free_ok X G (t.fa _ (List.mem_of_getElem? e)), fun i x j e => He.int_ok X G (t.fa _ (List.mem_of_getElem? e)), fun i x z e => He.str_ok X G (t.fa _ (List.mem_of_getElem? e))⟩
section
variable {fa : List He.Fa} {fn : List Df} {ex : PySem.W.Frag → Bool} {K : PySem.W.Frag} {mg : Str → Option Value}
theorem Kn.df (C : Kn fa fn ex K mg) (i : Nat) {d : Df} (e : fn[i]? = some d) : ∃ fd, FnAt K d fd := C.t.fn d (List.mem_of_getElem? e)
theorem Kn.ok (C : Kn fa fn ex K mg) (i : Nat) {f : He.Fa} (e : fa[i]? = some f) : f.ok K = true := C.t.fa f (List.mem_of_getElem? e)
end
end Ag

/-! what the head's check asks of an own class of errors -/
namespace Ag
open PySem PySem.Spec PyProof.Rows L2
/-- own classes, then the built-in base's line -/
def refsB (b : String) : List Value → Bool
  | .ref _ :: r => refsB b r
  | l => l == [.type b, .type "Exception", .type "BaseException", .type "object"]
def oxBB (b ni : String) (K : PySem.W.Frag) (C : Addr) : Bool := (match K.lookup C with
  | some ⟨.type "type", _, .cls cd, sl⟩ => (match cd.mro, sl.toList with
    | .ref C' :: bm, [_, _, _, _, some (.builtin n), _] => C' == C && n == ni && !cd.hasDel && cd.hasDict && refsB b bm
    | _, _ => false)
  | _ => false) && (decide (PySem.W.findIn K (.ref C) "__setattr__" = some (some (.builtin "object.__setattr__"))) && (decide (PySem.W.subIn K (.ref C) (.type "BaseException") = some true) && (decide (PySem.W.typeIn K (.ref C) = some (.type "type")) && PySem.W.keepIn K (.ref C))))
def erBB (b ni : String) (K : PySem.W.Frag) (c f : Str) : Bool := oxBB b ni K (He.ga K c) && (decide (PySem.W.findIn K (.ref (He.ga K c)) f = some none) && (decide (PySem.W.findIn K (.ref (He.ga K c)) "__init__" = some (some (.ref (He.ma K (He.ga K c) "__init__")))) && decide (PySem.W.typeIn K (.ref (He.ma K (He.ga K c) "__init__")) = some (.type "function"))))
end Ag

namespace Ag
open PySem PySem.Spec PyProof.Rows L2
def clsBody (s : Stmt) : List Stmt := match s with
  | .ClassDef _ _ _ b _ _ _ _ _ _ _ => b
  | _ => []
theorem same_fd {K : PySem.W.Frag} {d : Df} {fd fd2 : FuncData} (a : FnAt K d fd) (b : FnAt K d fd2) : fd = fd2 := by
  obtain ⟨_, _, _, _, _, _, _, _, _, _, _, e1, _⟩ := a.ex
  obtain ⟨_, _, _, _, _, _, _, _, _, _, _, e2, _⟩ := b.ex
  rw [e1] at e2
  simp only [Option.some.injEq, Obj.mk.injEq, Data.func.injEq] at e2
  exact e2.2.2.1
theorem bt_len : bootBuiltins "len" = some (.builtin "len") := by decide +kernel
theorem bt_abs : bootBuiltins "abs" = some (.builtin "abs") := by decide +kernel
theorem bt_all : bootBuiltins "all" = some (.builtin "all") := by decide +kernel
theorem bt_sum : bootBuiltins "sum" = some (.builtin "sum") := by decide +kernel
theorem bt_max : bootBuiltins "max" = some (.builtin "max") := by decide +kernel
theorem bt_min : bootBuiltins "min" = some (.builtin "min") := by decide +kernel
theorem bt_divmod : bootBuiltins "divmod" = some (.builtin "divmod") := by decide +kernel
theorem bt_repr : bootBuiltins "repr" = some (.builtin "repr") := by decide +kernel
theorem bt_isinstance : bootBuiltins "isinstance" = some (.builtin "isinstance") := by decide +kernel
theorem bt_int : bootBuiltins "int" = some (.type "int") := by decide +kernel
theorem bt_str : bootBuiltins "str" = some (.type "str") := by decide +kernel
theorem bt_bool : bootBuiltins "bool" = some (.type "bool") := by decide +kernel
theorem bt_tuple : bootBuiltins "tuple" = some (.type "tuple") := by decide +kernel
theorem bt_list : bootBuiltins "list" = some (.type "list") := by decide +kernel
def blkB (N : List Str) (sc scope : Scope) (own : List (Str × Nat)) : Bool := (scope.kind == .function) && (scope.names.all fun y => decide (scope.names.lookup y.1 = some y.2)) && (own.all fun p => decide (N[p.2]? = some p.1)) &&
  (scope.names.all fun y => !decide (y.2 = .free) || (decide (sc.names.lookup y.1 = some .cell) || decide (sc.names.lookup y.1 = some .free))) && (scope.names.all fun y => !(decide (y.2 = .local) || decide (y.2 = .cell)) || (decide (y.1 ∈ own.map (·.1)) || !decide (y.1 ∈ N)))
theorem blk_ok {N : List Str} {sc scope : Scope} {own : List (Str × Nat)} (h : blkB N sc scope own = true) : BlkOk N sc scope own := by
  simp only [blkB, Bool.and_eq_true, List.all_eq_true, decide_eq_true_eq, Bool.or_eq_true, Bool.not_eq_true', decide_eq_false_iff_not, Bool.or_eq_false_iff] at h
  obtain ⟨⟨⟨⟨h1, h2⟩, h3⟩, h4⟩, h5⟩ := h
  refine ⟨?_, h2, h3, fun y hy e => ?_, fun y hy e => ?_⟩
  · revert h1; cases scope.kind <;> first | (intro _; rfl) | (intro z; exact absurd z (by decide))
  · rcases h4 y hy with z | z
    · exact absurd e z
    · exact z
  · rcases h5 y hy with z | z
    · rcases e with e | e
      · exact absurd e z.1
      · exact absurd e z.2
    · exact z
theorem Bd.u64 {X : Cx} {W : WX} {k : Nat} (B : Bd X W k) : X.A.units + 64 < cLine := by have := B.room.un; omega
theorem Bd.u65 {X : Cx} {W : WX} {k : Nat} (B : Bd X W k) : X.A.units + 65 < cLine := by have := B.room.un; omega
theorem one_ {p : Str → Prop} {c : Str} (h : p c) : ∀ x ∈ [c], p x := fun x hx => by
  have e : x = c := by simpa using hx
  rw [e]; exact h
section
variable {X : Cx} {W : WX} {e e2 tg : Expr} {elts : List Expr} {kk : Nat} {pos p tpos : Pos} {ma mr : AM}
def rg1 : List D → Sto → Option ItD := fun ds S => match ds with | [d] => rgOf [d] S | _ => none
def en1 : List D → Sto → Option ItD := fun ds _ => match ds with | [.tup l] => some (enIt l) | [.lst l] => some (enIt l) | _ => none
theorem j_range1 (hg : Gl X "range") (hm : X.mg "range" = none) (ha : PA X [e] (tA X.K W ma)) (hs : starEach [e] X.env = [(false, eval e X.env)] := by rfl) : PI X tg (.Call (.Name "range" p) [e] [] pos) (tI X.K W (mItA rg1 ma)) := i_range1 hg hm ha hs
theorem j_enum (hg : Gl X "enumerate") (hm : X.mg "enumerate" = none) (ha : PA X [e] (tA X.K W ma)) (hs : starEach [e] X.env = [(false, eval e X.env)] := by rfl) : PI X (.Tuple elts kk tpos) (.Call (.Name "enumerate" p) [e] [] pos) (tI X.K W (mItA en1 ma)) := i_enum hg hm ha hs
def mCallK (n : Nat) (ix : List Nat) (fm : List D → Sto → Res D) (mr : AM) : EM := fun en S => (mr en S).bind fun ds S1 => if ds.length = n then (if (pick ix ds).length = n then fm (pick ix ds) S1 else .stuck) else .stuck
end
/-! ### class methods -/
/-! ### a hook that sees the statics too -/
end Ag

/-! what the head's check of tables of code, of errors and of == names -/
namespace Ag
open PySem PySem.Spec PyProof.Rows L2
def bmAr : List Value := [.type "ArithmeticError", .type "Exception", .type "BaseException", .type "object"]
structure Er0 (K : PySem.W.Frag) (c : Str) : Prop where
  ex : PySem.W.excIn K (He.ga K c) bmAr "ArithmeticError.__new__" = true
  sub : PySem.W.subIn K (.ref (He.ga K c)) (.type "BaseException") = some true
  ty : PySem.W.typeIn K (.ref (He.ga K c)) = some (.type "type")
  me : PySem.W.exmOne K (.ref (He.ga K c)) (.ref (He.ga K c)) = some true
  kp : PySem.W.keepIn K (.ref (He.ga K c)) = true
/-- what the check asks of a class of errors that are looked at -/
def excCB (K : PySem.W.Frag) (C : Addr) : Bool :=
  He.eqO (PySem.W.findIn K (.ref C) "__getattribute__") (some (some (.builtin "BaseException.__getattribute__"))) && (He.eqO (PySem.W.findIn K (.ref C) "__getattr__") (some none) && (decide (PySem.W.subIn K (.ref C) (.type "BaseException") = some true) && (PySem.W.hasDictIn K C && (He.eqO (PySem.W.findIn K (.ref C) "__class__") (some (some (.builtin "object.__class__"))) && (He.eqO (PySem.W.specialIn K (.builtin "object.__class__") "__get__") (some (some (.builtin "getset_descriptor.__get__"))) &&
    (decide (PySem.W.takesIn K (.builtin "object.__class__") = some true) && decide (PySem.W.mroIn K C (.type "object") = some true)))))))
def errsB (K : PySem.W.Frag) (c : Str) (rows : List (Ty × Bool)) : Bool := excCB K (He.ga K c) && rows.all fun r => decide (PySem.W.kitOne K (.ref (He.ga K c)) (r.1.val K) = some r.2)
/-- what the check asks of errors that a clause with three classes takes -/
def exmB (K : PySem.W.Frag) (cs : List Str) (x1 x2 x3 : Str) : Bool := cs.all fun c => decide (PySem.W.exmAny K (.ref (He.ga K c)) [.ref (He.ga K x1), .ref (He.ga K x2), .ref (He.ga K x3)] = some true)
theorem exmB_ok {K : PySem.W.Frag} {cs : List Str} {x1 x2 x3 : Str} (h : exmB K cs x1 x2 x3 = true) : ∀ c ∈ cs, PySem.W.exmAny K (.ref (He.ga K c)) [.ref (He.ga K x1), .ref (He.ga K x2), .ref (He.ga K x3)] = some true :=
  fun c hc => of_decide_eq_true (List.all_eq_true.mp h c hc)
def xfsB (K : PySem.W.Frag) (cs : List Str) (f : Str) : Bool := cs.all fun c => xfB K (He.ga K c) && He.eqO (PySem.W.findIn K (.ref (He.ga K c)) f) (some none)
structure SubC (K : PySem.W.Frag) (c n : Str) : Prop where
  at_ : PySem.W.findIn K (.ref (He.ga K c)) n = some (some (.ref (He.ma K (He.ga K c) n)))
  fn : PySem.W.isFn K (.ref (He.ma K (He.ga K c) n)) = true
  fi : PySem.W.fnIn K (He.ma K (He.ga K c) n) = true
  ns : PySem.W.noSeq K (He.ga K c) = true
structure EqD (K : PySem.W.Frag) (C : Addr) : Prop where
  eq : PySem.W.findIn K (.ref C) "__eq__" = some (some (.builtin "object.__eq__"))
  ne : PySem.W.findIn K (.ref C) "__ne__" = some (some (.builtin "object.__ne__"))
  ob : PySem.W.mroIn K C (.type "object") = some true
structure Bo0 (K : PySem.W.Frag) (C : Addr) : Prop where
  bo : PySem.W.findIn K (.ref C) "__bool__" = some none
  le : PySem.W.findIn K (.ref C) "__len__" = some none
/-- c1 (without own __eq__) beside c2 (with it) -/
structure Bes (K : PySem.W.Frag) (C C' : Addr) : Prop where
  ne : C ≠ C'
  sub : PySem.W.subIn K (.ref C') (.ref C) = some false
/-! ### the head with tables -/
def emptyT : Option Obj → Bool
  | some ⟨.none, none, .fields vs, sl⟩ => vs.toList.isEmpty && sl.toList.isEmpty
  | _ => false
theorem emptyT_ok {o : Option Obj} (h : emptyT o = true) : o = some { cls := .none, data := .fields #[] } := by
  unfold emptyT at h
  split at h
  · rename_i vs sl
    simp only [Bool.and_eq_true, List.isEmpty_iff] at h
    obtain ⟨h1, h2⟩ := h
    obtain ⟨l1⟩ := vs
    obtain ⟨l2⟩ := sl
    simp only at h1 h2
    subst h1 h2
    rfl
  · cases h
def codeHdB (K : PySem.W.Frag) (c P : Addr) : Bool := match K.lookup c with
  | some ⟨.type "code", _, .fields vs, _⟩ => (match (vs[11]? : Option Value), vs.getD 11 .none, vs.getD 18 .none, vs.getD 7 .none, vs.getD 9 .none, vs.getD 10 .none with
    | some (.ref q), .ref q2, .str _ _, .int _ _, .bool _, .int _ _ => q == P && q2 == P && !(c == P)
    | _, _, _, _, _, _ => false)
  | _ => false
theorem codeHdB_ok {K : PySem.W.Frag} {h : Heap} {c P : Addr} (X : K.In h) (q : codeHdB K c P = true) : PySem.W.CodeHd h c P := by
  unfold codeHdB at q
  split at q
  · rename_i dd vs sl e
    split at q
    · rename_i e1 e2 e3 e4 e5 e6
      simp only [Bool.and_eq_true, beq_iff_eq, Bool.not_eq_true', beq_eq_false_iff_ne] at q
      obtain ⟨⟨rfl, rfl⟩, ne⟩ := q
      exact ⟨_, vs, _, _, _, _, _, _, _, X _ _ e, rfl, rfl, e1, e2, e3, e4, e5, e6, ne⟩
    · cases q
  · cases q
def codeRefB (K : PySem.W.Frag) (f c : Addr) : Bool := match K.lookup f with
  | some ⟨_, _, .func z, _⟩ => (match z.code with
    | .ref d => d == c
    | _ => false)
  | _ => false
abbrev SeenT : Type := Seen × Bool
def tabsB (ts : List (Addr × Addr)) (K : PySem.W.Frag) (g : Addr → Option Obj) : Bool := ts.all fun p => emptyT (g p.2) && (K.lookup p.2).isNone && codeHdB K p.1 p.2
structure ToldT (ts : List (Addr × Addr)) (K : PySem.W.Frag) (h : Heap) : Prop where
  tab : ∀ p ∈ ts, h.get? p.2 = some { cls := .none, data := .fields #[] }
  out : ∀ p ∈ ts, K.lookup p.2 = none
  code : ∀ p ∈ ts, PySem.W.CodeHd h p.1 p.2
theorem tabs_of {ts : List (Addr × Addr)} {K : PySem.W.Frag} {h : Heap} (X : K.In h) (q : tabsB ts K h.get? = true) : ToldT ts K h := by
  unfold tabsB at q
  simp only [List.all_eq_true, Bool.and_eq_true, Option.isNone_iff_eq_none] at q
  exact ⟨fun p hp => emptyT_ok (q p hp).1.1, fun p hp => (q p hp).1.2, fun p hp => codeHdB_ok X (q p hp).2⟩
def hookT (lit : List Addr) (ts : List (Addr × Addr)) (fa : List He.Fa) (fn : List Df) (ex : PySem.W.Frag → Bool) : PySem.W.Hook where
  α := SeenT
  obs := fun s => (seenK fa fn ex (He.frG s.heap.get? lit), tabsB ts (He.frG s.heap.get? lit) s.heap.get?)
  val := fun _ => ((true, fn.map Df.due), true)
  says := fun _ h => ∃ K : PySem.W.Frag, K.In h ∧ Told fa fn ex K ∧ ToldT ts K h
  of := fun _ _ e => ⟨_, He.frG_in, told_of (congrArg Prod.fst e), tabs_of He.frG_in (congrArg Prod.snd e)⟩
  keeps := fun _ _ _ ⟨K, hK, c, t⟩ k => ⟨K, PySem.W.Frag.In.keeps hK k, c, fun p hp => k _ _ (t.tab p hp), t.out, fun p hp => (t.code p hp).keeps k⟩
def obT (lit : List Addr) (ts : List (Addr × Addr)) (fa : List He.Fa) (fn : List Df) (ex : PySem.W.Frag → Bool) (g : Addr → Option Obj) : SeenT := (seenK fa fn ex (He.frG g lit), tabsB ts (He.frG g lit) g)
theorem obT_eq {lit : List Addr} {ts : List (Addr × Addr)} {fa : List He.Fa} {fn : List Df} {ex : PySem.W.Frag → Bool} {g : Addr → Option Obj} {s : Shared} (h : ∀ a, g a = s.heap.get? a) : obT lit ts fa fn ex g = (hookT lit ts fa fn ex).obs s := by
  have e : g = s.heap.get? := funext h
  rw [e]; rfl
end Ag

namespace Ag
open PySem PySem.Spec PyProof.Rows L2
def kindsT : List String := ["NoneType", "bool", "int", "str", "tuple", "list", "dict"]
end Ag
namespace Ag.k04
open PySem PySem.Spec PyProof.Rows L2
def tabs3 : List (Addr × Addr × Str) := [(476, 472, "_law_right.<locals>.<lambda>")]
def csE : List Str := ["InvalidMinds", "InvalidWays"]
def errL : List (Str × List (Ty × Bool)) := [("InvalidMinds", [(.o "InvalidIndex", false), (.o "InvalidMinds", true), (.o "InvalidNumber", false), (.o "InvalidText", false), (.o "InvalidThoughts", false), (.o "InvalidWays", false), (.o "InvalidWord", false), (.o "NoAnswer", false), (.o "NoDays", false), (.o "NotACouncil", false), (.o "TooMany", false), (.o "UnknownName", false), (.o "WrongName", false), (.o "WrongValue", true)]), ("InvalidWays", [(.o "InvalidIndex", false), (.o "InvalidMinds", false), (.o "InvalidNumber", false), (.o "InvalidText", false), (.o "InvalidThoughts", false), (.o "InvalidWays", true), (.o "InvalidWord", false), (.o "NoAnswer", false), (.o "NoDays", false), (.o "NotACouncil", false), (.o "TooMany", false), (.o "UnknownName", false), (.o "WrongName", false), (.o "WrongValue", true)])]
def isoC : List Str := ["Council"]
def isoT : List (Ty × Ty × Bool) := [(.b "bool", .b "bool", true), (.b "int", .b "bool", false), (.b "str", .b "bool", false), (.b "tuple", .b "bool", false), (.b "list", .b "bool", false), (.b "NoneType", .b "bool", false), (.b "dict", .b "bool", false), (.o "Council", .b "bool", false), (.b "bool", .b "int", true), (.b "int", .b "int", true), (.b "str", .b "int", false), (.b "tuple", .b "int", false), (.b "list", .b "int", false), (.b "NoneType", .b "int", false), (.b "dict", .b "int", false), (.o "Council", .b "int", false), (.b "bool", .b "str", false), (.b "int", .b "str", false), (.b "str", .b "str", true), (.b "tuple", .b "str", false), (.b "list", .b "str", false), (.b "NoneType", .b "str", false), (.b "dict", .b "str", false), (.o "Council", .b "str", false), (.b "bool", .b "tuple", false), (.b "int", .b "tuple", false), (.b "str", .b "tuple", false), (.b "tuple", .b "tuple", true), (.b "list", .b "tuple", false), (.b "NoneType", .b "tuple", false), (.b "dict", .b "tuple", false), (.o "Council", .b "tuple", false)]
end Ag.k04
namespace Ag.k04
open PySem PySem.Spec PyProof.Rows L2
def top (i : Nat) : Stmt := PySem.Challenge.pw_alwaysagree_k04_ways_refused.main.body.getD i (.Pass ⟨0, 0, 0, 0⟩)
def tabsL : List (Addr × Addr) := tabs3.map fun t => (t.1, t.2.1)
abbrev TbL (mg : Str → Option Value) (base : Heap) : Prop := (∀ p ∈ tabsL, LamX.TabB base mg p.1 p.2) ∧ base.NoDigits
abbrev st_InvalidWaysd_initd : Stmt := (clsBody (top 8)).getD 0 (.Pass ⟨0, 0, 0, 0⟩)
def df_InvalidWaysd_initd : Df := ⟨fun K => He.ma K (He.ga K "InvalidWays") "__init__", "__init__", "InvalidWays.__init__", defArgs st_InvalidWaysd_initd, defBody st_InvalidWaysd_initd, defScope st_InvalidWaysd_initd⟩
abbrev st_is_integer : Stmt := top 23
def df_is_integer : Df := ⟨fun K => He.ga K "is_integer", "is_integer", "is_integer", defArgs st_is_integer, defBody st_is_integer, defScope st_is_integer⟩
abbrev st_is_within : Stmt := top 24
def df_is_within : Df := ⟨fun K => He.ga K "is_within", "is_within", "is_within", defArgs st_is_within, defBody st_is_within, defScope st_is_within⟩
abbrev st_is_row : Stmt := top 29
def df_is_row : Df := ⟨fun K => He.ga K "is_row", "is_row", "is_row", defArgs st_is_row, defBody st_is_row, defScope st_is_row⟩
abbrev st_is_way : Stmt := top 30
def df_is_way : Df := ⟨fun K => He.ga K "is_way", "is_way", "is_way", defArgs st_is_way, defBody st_is_way, defScope st_is_way⟩
abbrev st_wrong_way : Stmt := top 31
def df_wrong_way : Df := ⟨fun K => He.ga K "wrong_way", "wrong_way", "wrong_way", defArgs st_wrong_way, defBody st_wrong_way, defScope st_wrong_way⟩
abbrev st_InvalidMindsd_initd : Stmt := (clsBody (top 7)).getD 0 (.Pass ⟨0, 0, 0, 0⟩)
def df_InvalidMindsd_initd : Df := ⟨fun K => He.ma K (He.ga K "InvalidMinds") "__init__", "__init__", "InvalidMinds.__init__", defArgs st_InvalidMindsd_initd, defBody st_InvalidMindsd_initd, defScope st_InvalidMindsd_initd⟩
abbrev st_is_name : Stmt := top 25
def df_is_name : Df := ⟨fun K => He.ga K "is_name", "is_name", "is_name", defArgs st_is_name, defBody st_is_name, defScope st_is_name⟩
abbrev st_wrong_mind : Stmt := top 28
def df_wrong_mind : Df := ⟨fun K => He.ga K "wrong_mind", "wrong_mind", "wrong_mind", defArgs st_wrong_mind, defBody st_wrong_mind, defScope st_wrong_mind⟩
abbrev st_Councild_initd : Stmt := (clsBody (top 36)).getD 0 (.Pass ⟨0, 0, 0, 0⟩)
def df_Councild_initd : Df := ⟨fun K => He.ma K (He.ga K "Council") "__init__", "__init__", "Council.__init__", defArgs st_Councild_initd, defBody st_Councild_initd, defScope st_Councild_initd⟩
abbrev st_Council_ways : Stmt := (clsBody (top 36)).getD 3 (.Pass ⟨0, 0, 0, 0⟩)
def df_Council_ways : Df := ⟨fun K => prG K "Council" "ways", "ways", "Council.ways", defArgs st_Council_ways, defBody st_Council_ways, defScope st_Council_ways⟩
abbrev st_ended_l : Stmt := top 43
def df_ended_l : Df := ⟨fun K => He.ga K "_law_ended", "_law_ended", "_law_ended", defArgs st_ended_l, defBody st_ended_l, defScope st_ended_l⟩
abbrev st_is_ended_l : Stmt := top 44
def df_is_ended_l : Df := ⟨fun K => He.ga K "_law_is_ended", "_law_is_ended", "_law_is_ended", defArgs st_is_ended_l, defBody st_is_ended_l, defScope st_is_ended_l⟩
abbrev st_is_row_l : Stmt := top 45
def df_is_row_l : Df := ⟨fun K => He.ga K "_law_is_row", "_law_is_row", "_law_is_row", defArgs st_is_row_l, defBody st_is_row_l, defScope st_is_row_l⟩
abbrev st_due_l : Stmt := top 46
def df_due_l : Df := ⟨fun K => He.ga K "_law_due", "_law_due", "_law_due", defArgs st_due_l, defBody st_due_l, defScope st_due_l⟩
abbrev st_sip_l : Stmt := top 39
def df_sip_l : Df := ⟨fun K => He.ga K "_law_sip", "_law_sip", "_law_sip", defArgs st_sip_l, defBody st_sip_l, defScope st_sip_l⟩
abbrev st_bent_l : Stmt := top 47
def df_bent_l : Df := ⟨fun K => He.ga K "_law_bent", "_law_bent", "_law_bent", defArgs st_bent_l, defBody st_bent_l, defScope st_bent_l⟩
abbrev st_row_l : Stmt := top 40
def df_row_l : Df := ⟨fun K => He.ga K "_law_row", "_law_row", "_law_row", defArgs st_row_l, defBody st_row_l, defScope st_row_l⟩
abbrev st_talk_l : Stmt := top 41
def df_talk_l : Df := ⟨fun K => He.ga K "_law_talk", "_law_talk", "_law_talk", defArgs st_talk_l, defBody st_talk_l, defScope st_talk_l⟩
abbrev st_pair_l : Stmt := top 42
def df_pair_l : Df := ⟨fun K => He.ga K "_law_pair", "_law_pair", "_law_pair", defArgs st_pair_l, defBody st_pair_l, defScope st_pair_l⟩
abbrev st_right_l : Stmt := top 48
def df_right_l : Df := ⟨fun K => He.ga K "_law_right", "_law_right", "_law_right", defArgs st_right_l, defBody st_right_l, defScope st_right_l⟩
abbrev st_quiet_l : Stmt := top 49
def df_quiet_l : Df := ⟨fun K => He.ga K "_law_quiet", "_law_quiet", "_law_quiet", defArgs st_quiet_l, defBody st_quiet_l, defScope st_quiet_l⟩
abbrev st_jug_l : Stmt := top 38
def df_jug_l : Df := ⟨fun K => He.ga K "_law_jug", "_law_jug", "_law_jug", defArgs st_jug_l, defBody st_jug_l, defScope st_jug_l⟩
abbrev st_law : Stmt := top 50
def df_law : Df := ⟨fun K => He.ga K "law", "law", "law", defArgs st_law, defBody st_law, defScope st_law⟩
def fn : List Df := [df_InvalidWaysd_initd, df_is_integer, df_is_within, df_is_row, df_is_way, df_wrong_way, df_InvalidMindsd_initd, df_is_name, df_wrong_mind, df_Councild_initd, df_Council_ways, df_ended_l, df_is_ended_l, df_is_row_l, df_due_l, df_sip_l, df_bent_l, df_row_l, df_talk_l, df_pair_l, df_right_l, df_quiet_l, df_jug_l, df_law]
def fa : List He.Fa := [.free "all", .free "max", .free "min", .free "len", .free "range", .cls "Council", .noat "Council" "tables", .noat "Council" "heads", .glo "InvalidWays", .free "enumerate", .free "isinstance", .free "tuple", .free "int", .free "bool", .glo "is_integer", .glo "is_within", .int "MOST_WEIGHT" 1000000000, .free "sum", .glo "is_row", .glo "is_way", .int "MOST_WAYS" 6, .glo "wrong_way", .glo "InvalidMinds", .str "LETTERS" "abcdefghijklmnopqrstuvwxyz", .str "DIGITS" "0123456789", .free "str", .int "LONGEST_NAME" 8, .glo "is_name", .int "MOST_MINDS" 6, .glo "wrong_mind", .glo "Council", .mkr "Council", .free "repr", .glo "WrongValue", .glo "WrongName", .glo "NoAnswer", .glo "TooMany", .glo "NoDays", .glo "UnknownName", .glo "InvalidThoughts", .glo "InvalidWord", .glo "NotACouncil", .glo "InvalidIndex", .glo "InvalidNumber", .glo "InvalidText", .glo "_law_ended", .glo "_law_is_ended", .glo "_law_is_row", .glo "_law_due", .free "divmod", .glo "_law_sip", .free "list", .glo "_law_bent", .glo "_law_row", .glo "_law_talk", .glo "_law_pair", .glo "_law_right", .glo "_law_quiet", .free "abs", .glo "_law_jug", .glo "law"]
def ex (K : PySem.W.Frag) : Bool := isoB K isoC isoT && (erBB "ValueError" "ValueError.__new__" K "InvalidWays" "index") && (erBB "ValueError" "ValueError.__new__" K "InvalidMinds" "index") && (propB K "Council" "ways" (prG K "Council" "ways")) && (exmB K csE "WrongValue" "WrongName" "NoAnswer") && (xfsB K ["InvalidMinds", "InvalidWays"] "index") && (xfsB K [] "given") && (errL.all fun p => errsB K p.1 p.2) && (codeRefB K (df_right_l.loc K) 476)
abbrev R : PySem.W.OpenRow := PySem.W.OpenLaw.row PySem.Challenge.rw_alwaysagree_k04_ways_refused
def lit : List Addr := ([3, 6, 4, 21, 31, 51, 70, 89, 108, 127, 146, 165, 184, 196, 216, 228, 241, 260, 269, 276, 281, 286, 293, 298, 303, 310, 315, 320, 325, 330, 408, 419, 426, 431, 436, 441, 446, 451, 458, 463] : List Addr) ++ ([470, 477, 484, 489, 0, 20, 30, 50, 69, 88, 107, 126, 145, 164, 183, 195, 215, 227, 240, 259, 268, 275, 280, 285, 292, 297, 302, 309, 314, 319, 324, 329, 407, 418, 425, 430, 435, 440, 445, 450] : List Addr) ++ ([457, 462, 469, 476, 483, 488, 15, 16, 17, 18, 19, 29, 32, 48, 49, 67, 68, 86, 87, 105, 106, 124, 125, 143, 144, 162, 163, 181, 182, 194, 197, 213, 214, 226, 229, 239, 257, 258, 263, 264] : List Addr) ++ ([265, 266, 267, 270, 271, 272, 273, 274, 277, 278, 279, 282, 283, 284, 287, 288, 289, 290, 291, 294, 295, 296, 299, 300, 301, 304, 305, 306, 307, 308, 311, 312, 313, 316, 317, 318, 321, 322, 323, 326] : List Addr) ++ ([327, 328, 344, 353, 362, 370, 377, 384, 391, 398, 405, 406, 409, 410, 413, 414, 415, 416, 417, 420, 421, 422, 423, 424, 427, 428, 429, 432, 433, 434, 437, 438, 439, 442, 443, 444, 447, 448, 449, 452] : List Addr) ++ ([453, 454, 455, 456, 459, 460, 461, 464, 465, 466, 467, 468, 471, 473, 474, 475, 478, 479, 480, 481, 482, 485, 486, 487, 47, 66, 85, 104, 123, 142, 161, 180, 212, 256, 343, 351, 352, 361, 369, 376] : List Addr) ++ ([383, 390, 397, 404, 42, 43, 44, 45, 46, 61, 62, 63, 64, 65, 80, 81, 82, 83, 84, 99, 100, 101, 102, 103, 118, 119, 120, 121, 122, 137, 138, 139, 140, 141, 156, 157, 158, 159, 160, 175] : List Addr) ++ ([176, 177, 178, 179, 207, 208, 209, 210, 211, 251, 252, 253, 254, 255, 338, 339, 340, 341, 342, 350, 354, 360, 368, 371, 372, 373, 374, 375, 378, 379, 380, 381, 382, 385, 386, 387, 388, 389, 392, 393] : List Addr) ++ ([394, 395, 396, 399, 400, 401, 402, 403] : List Addr)
abbrev hk : PySem.W.Hook := hookT lit tabsL fa fn ex
def ob (s : PySem.W.SharedT) : SeenT := obT lit tabsL fa fn ex (HandSHeadRun.getT s)
theorem ob_eq (s : PySem.W.SharedT) : ob s = hk.obs s.abs := obT_eq (HandSHeadRun.getT_eq s)
def loose : List Str := (["_wall", "__name__", "WrongValue", "InvalidText", "InvalidNumber", "InvalidIndex", "NotACouncil", "InvalidMinds", "InvalidWays", "InvalidWord", "InvalidThoughts", "WrongName", "UnknownName", "NoAnswer", "NoDays", "TooMany", "MOST_MINDS", "MOST_WAYS", "MOST_WEIGHT", "LETTERS"] : List Str) ++ (["DIGITS", "LONGEST_NAME", "is_integer", "is_within", "is_name", "read_number", "wrong_mind", "is_row", "is_way", "wrong_way", "way_text", "lines_of", "read_way", "read_council", "Council", "_law_jug", "_law_sip", "_law_row", "_law_talk", "_law_pair"] : List Str) ++ (["_law_ended", "_law_is_ended", "_law_is_row", "_law_due", "_law_bent", "_law_right", "_law_quiet"] : List Str)
abbrev qv : Program := PySem.W.view R.prog [50]
open HandSHeadRun PySem.W PySem.Calls in
noncomputable abbrev endT (w : World) (os : OsState) : Option PySem.W.SharedT := endF (stepQ (denQ tabQ) R.prog w) 20000 R.prog w os
theorem run_join {α A B C : Type} {E : Option α} {a : α → A} {b : α → B} {c : α → C} {x : A} {y : B} {z : C} (h1 : E.map (fun s => (a s, b s)) = some (x, y)) (h2 : E.map c = some z) : E.map (fun s => (a s, b s, c s)) = some (x, y, z) := by
  cases E with
  | none => cases h1
  | some s =>
    simp only [Option.map_some, Option.some.injEq, Prod.mk.injEq] at h1 h2 ⊢
    exact ⟨h1.1, h1.2, h2⟩
open HandSHeadRun PySem.W PySem.Calls in
theorem runA (w : World) (os : OsState) : (endT w os).map (fun s => (looksF R.prog (boot_heap w.params) s.abs, seenQ qv loose (importedModules R.prog.main.body) (fun s => xlAt qv [] s && recOk R.toRowW.records s) s.abs)) = some (true, openGood qv loose) := by kernel_rfl
theorem runO (w : World) (os : OsState) : (endT w os).map ob = some (hk.val w) := by kernel_rfl
theorem run (w : World) : HandSHeadRun.RunEq R (PySem.W.view R.prog [50]) hk ob 20000 loose w := fun os => run_join (runA w os) (runO w os)
end Ag.k04

namespace Ag
open PySem
/-! ### what a mirror answers, by weakest wishes -/
@[irreducible] def osat {α : Type} (o : Option α) (P : α → Prop) : Prop := match o with
  | some r => P r
  | none => False
theorem os_some {α : Type} {r : α} {P : α → Prop} : osat (some r) P ↔ P r := by unfold osat; exact Iff.rfl
theorem os_none {α : Type} {P : α → Prop} : osat (none : Option α) P ↔ False := by unfold osat; exact Iff.rfl
theorem os_if {α : Type} {c : Prop} [Decidable c] {r : α} {P : α → Prop} : osat (if c then some r else none) P ↔ c ∧ P r := by
  by_cases h : c <;> simp [h, osat]
theorem os_map {α β : Type} {o : Option α} {f : α → β} {P : β → Prop} : osat (o.map f) P ↔ osat o (fun a => P (f a)) := by cases o <;> simp [os_some, os_none]
@[irreducible] def Res.sat {α : Type} (r : Res α) (P : α → Sto → Prop) : Prop := match r with
  | .ok a S => P a S
  | _ => False
@[irreducible] def SRes.sat (r : SRes) (N : En → Sto → Prop) (R : D → Sto → Prop) : Prop := match r with
  | .next en S => N en S
  | .ret d S => R d S
  | _ => False
section
variable {α : Type} {a : α} {S : Sto} {P : α → Sto → Prop} {N : En → Sto → Prop} {R : D → Sto → Prop} {en : En} {d : D} {c : Str} {fs : List (Str × D)}
theorem r_ok : (Res.ok a S).sat P ↔ P a S := by unfold Res.sat; exact Iff.rfl
theorem r_exc : (Res.exc c fs S : Res α).sat P ↔ False := by unfold Res.sat; exact Iff.rfl
theorem r_stuck : (Res.stuck : Res α).sat P ↔ False := by unfold Res.sat; exact Iff.rfl
theorem s_nx : (SRes.next en S).sat N R ↔ N en S := by unfold SRes.sat; exact Iff.rfl
theorem s_rt : (SRes.ret d S).sat N R ↔ R d S := by unfold SRes.sat; exact Iff.rfl
theorem s_bk : (SRes.brk en S).sat N R ↔ False := by unfold SRes.sat; exact Iff.rfl
theorem s_ct : (SRes.cnt en S).sat N R ↔ False := by unfold SRes.sat; exact Iff.rfl
theorem s_ex : (SRes.exc c fs en S).sat N R ↔ False := by unfold SRes.sat; exact Iff.rfl
theorem s_st : SRes.stuck.sat N R ↔ False := by unfold SRes.sat; exact Iff.rfl
end
theorem Res.sat.mono {α : Type} {r : Res α} {P Q : α → Sto → Prop} (h : r.sat P) (k : ∀ a S, P a S → Q a S) : r.sat Q := by
  cases r with
  | ok a S => exact r_ok.mpr (k a S (r_ok.mp h))
  | exc c fs S => exact (r_exc.mp h).elim
  | stuck => exact (r_stuck.mp h).elim
theorem SRes.sat.mono {r : SRes} {N N' : En → Sto → Prop} {R R' : D → Sto → Prop} (h : r.sat N R) (k : ∀ a S, N a S → N' a S) (k2 : ∀ a S, R a S → R' a S) : r.sat N' R' := by
  cases r with
  | next a S => exact s_nx.mpr (k a S (s_nx.mp h))
  | ret a S => exact s_rt.mpr (k2 a S (s_rt.mp h))
  | brk a S => exact (s_bk.mp h).elim
  | cnt a S => exact (s_ct.mp h).elim
  | exc c fs a S => exact (s_ex.mp h).elim
  | stuck => exact (s_st.mp h).elim
theorem Res.sat.eq {α : Type} {r : Res α} {P : α → Sto → Prop} (h : r.sat P) : ∃ a S, r = .ok a S ∧ P a S := by
  cases r with
  | ok a S => exact ⟨a, S, rfl, r_ok.mp h⟩
  | exc c fs S => exact (r_exc.mp h).elim
  | stuck => exact (r_stuck.mp h).elim
section
variable {P : D → Sto → Prop} {PL : List D → Sto → Prop} {PB : Bool → Sto → Prop} {N : En → Sto → Prop} {R : D → Sto → Prop} {en : En} {S : Sto} {ma mb mc mo me : EM} {mr : AM} {t u : BM} {s1 s2 : SM} {f g : D → D → Sto → Option D}
theorem r_bind {α β : Type} {r : Res α} {k : α → Sto → Res β} {P : β → Sto → Prop} : (r.bind k).sat P ↔ r.sat (fun a S => (k a S).sat P) := by cases r <;> simp only [Res.bind, r_ok, r_exc, r_stuck, s_nx, s_rt, s_bk, s_ct, s_ex, s_st]
theorem r_ofO {α : Type} {o : Option α} {P : α → Sto → Prop} : (ofO o S).sat P ↔ osat o (fun a => P a S) := by cases o <;> simp only [ofO, osat, r_ok, r_exc, r_stuck, s_nx, s_rt, s_bk, s_ct, s_ex, s_st]
theorem r_if {α : Type} {c : Prop} [Decidable c] {a b : Res α} {P : α → Sto → Prop} : (if c then a else b).sat P ↔ if c then a.sat P else b.sat P := by by_cases h : c <;> simp [h]
theorem r_ifs {α : Type} {c : Prop} [Decidable c] {a : Res α} {P : α → Sto → Prop} : (if c then a else .stuck).sat P ↔ c ∧ a.sat P := by by_cases h : c <;> simp [h, r_stuck]
def slotD (en : En) (i : Nat) : Option D := match en[i]? with
  | some (some d) => some d
  | _ => none
theorem q_var {i : Nat} : (mVar i en S).sat P ↔ osat (slotD en i) (fun d => P d S) := by unfold mVar; rw [r_ofO]; exact Iff.rfl
theorem sl_0 {d : D} {r : En} : slotD (some d :: r) 0 = some d := rfl
theorem sl_s {x : Option D} {r : En} {i : Nat} : slotD (x :: r) (i + 1) = slotD r i := rfl
theorem q_c {d : D} : (mC d en S).sat P ↔ P d S := r_ok
theorem q_op : (mOp f ma mb en S).sat P ↔ (ma en S).sat fun d S1 => (mb en S1).sat fun e S2 => osat (f d e S2) fun r => P r S2 := by
  unfold mOp; simp only [r_bind, r_ofO]
theorem q_un {f : D → Sto → Option D} : (mUn f ma en S).sat P ↔ (ma en S).sat fun d S1 => osat (f d S1) fun r => P r S1 := by unfold mUn; simp only [r_bind, r_ofO]
theorem q_b : (mB ma en S).sat PB ↔ (ma en S).sat fun d S1 => osat (bOf d) fun b => PB b S1 := by unfold mB; simp only [r_bind, r_ofO]
theorem q_andB : (mAndB t u en S).sat PB ↔ (t en S).sat fun c S1 => if c = true then (u en S1).sat PB else PB false S1 := by unfold mAndB; simp only [r_bind, r_if, r_ok]
theorem q_orB : (mOrB t u en S).sat PB ↔ (t en S).sat fun c S1 => if c = true then PB true S1 else (u en S1).sat PB := by unfold mOrB; simp only [r_bind, r_if, r_ok]
theorem q_notB : (mNotB t en S).sat PB ↔ (t en S).sat fun c S1 => PB (!c) S1 := by unfold mNotB; simp only [r_bind, r_ok]
theorem q_andV : (mAndV ma mb en S).sat P ↔ (ma en S).sat fun d S1 => osat (bOf d) fun c => if c = true then (mb en S1).sat P else P (.bl false) S1 := by
  unfold mAndV
  rw [r_bind]
  refine iff_of_eq (congrArg _ (funext fun d => funext fun S1 => ?_))
  cases q : bOf d with
  | none => simp [r_stuck, osat]
  | some b => cases b <;> simp [r_ok, osat]
theorem q_orV : (mOrV ma mb en S).sat P ↔ (ma en S).sat fun d S1 => osat (bOf d) fun c => if c = true then P (.bl true) S1 else (mb en S1).sat P := by
  unfold mOrV
  rw [r_bind]
  refine iff_of_eq (congrArg _ (funext fun d => funext fun S1 => ?_))
  cases q : bOf d with
  | none => simp [r_stuck, osat]
  | some b => cases b <;> simp [r_ok, osat]
theorem q_notV : (mNotV ma en S).sat P ↔ (ma en S).sat fun d S1 => osat (bOf d) fun b => P (.bl (!b)) S1 := by unfold mNotV; simp only [q_un, os_map]
theorem q_if : (mIf t ma mb en S).sat P ↔ (t en S).sat fun c S1 => if c = true then (ma en S1).sat P else (mb en S1).sat P := by unfold mIf; simp only [r_bind, r_if]
theorem q_chain : (mChain f g ma mb mc en S).sat P ↔ (ma en S).sat fun d S1 => (mb en S1).sat fun e S2 => osat ((f d e S2).bind bOf) fun c => if c = true then ((mc en S2).sat fun h S3 => osat (g e h S3) fun r => P r S3) else P (.bl false) S2 := by
  unfold mChain
  simp only [r_bind]
  refine iff_of_eq (congrArg _ (funext fun d => funext fun S1 => congrArg _ (funext fun e => funext fun S2 => ?_)))
  cases q : (f d e S2).bind bOf with
  | none => simp [r_stuck, osat]
  | some b =>
    cases b with
    | true =>
      refine propext ((show _ ↔ ((mc en S2).bind fun h S3 => ofO (g e h S3) S3).sat P from Iff.rfl).trans ?_)
      simp only [r_bind, r_ofO, os_some, if_pos]
    | false => simp [r_ok, osat]
theorem q_nil : (mNil en S).sat PL ↔ PL [] S := r_ok
theorem q_cons : (mCons ma mr en S).sat PL ↔ (ma en S).sat fun d S1 => (mr en S1).sat fun ds S2 => PL (d :: ds) S2 := by unfold mCons; simp only [r_bind, r_ok]
theorem q_tup : (mTup mr en S).sat P ↔ (mr en S).sat fun ds S1 => ds.length ≤ lineN ∧ P (.tup ds) S1 := by unfold mTup; simp only [r_bind, r_ofO, os_if]
theorem q_lst : (mLst mr en S).sat P ↔ (mr en S).sat fun ds S1 => ds.length ≤ lineN ∧ P (.lst ds) S1 := by unfold mLst; simp only [r_bind, r_ofO, os_if]
theorem q_lstC : (mLstC mr en S).sat P ↔ (mr en S).sat fun ds S1 => ds.length ≤ lineN ∧ P (.ref S1.length) (S1 ++ [.lst ds]) := by unfold mLstC; simp only [r_bind, r_ifs, r_ok]
theorem q_cb {f : List D → Sto → Option D} : (mCB f mr en S).sat P ↔ (mr en S).sat fun ds S1 => osat (f ds S1) fun r => P r S1 := by unfold mCB; simp only [r_bind, r_ofO]
theorem q_call {n : Nat} {fm : List D → Sto → Res D} : (mCall n fm mr en S).sat P ↔ (mr en S).sat fun ds S1 => ds.length = n ∧ (fm ds S1).sat P := by unfold mCall; simp only [r_bind, r_ifs]
theorem q_callK {n : Nat} {ix : List Nat} {fm : List D → Sto → Res D} : (mCallK n ix fm mr en S).sat P ↔ (mr en S).sat fun ds S1 => ds.length = n ∧ (pick ix ds).length = n ∧ (fm (pick ix ds) S1).sat P := by unfold mCallK; simp only [r_bind, r_ifs]
theorem q_cr {f : List D → Sto → Res D} : (mCR f mr en S).sat P ↔ (mr en S).sat fun ds S1 => (f ds S1).sat P := by
  unfold mCR
  rw [r_bind]
  refine iff_of_eq (congrArg _ (funext fun d => funext fun S1 => ?_))
  cases q : f d S1 <;> simp only [r_ok, r_exc, r_stuck, s_nx, s_rt, s_bk, s_ct, s_ex, s_st]
theorem q_prop {c : Str} {fm : List D → Sto → Res D} : (mProp c fm ma en S).sat P ↔ (ma en S).sat fun d S1 => clsD d S1 = some c ∧ (fm [d] S1).sat P := by
  unfold mProp
  rw [r_bind]
  refine iff_of_eq (congrArg _ (funext fun d => funext fun S1 => ?_))
  cases q : clsD d S1 with
  | none => simp [r_stuck]
  | some c' =>
    by_cases h : c' = c
    · subst h
      simp only [if_pos]
      cases q2 : fm [d] S1 <;> simp [r_ok, r_exc, r_stuck]
    · simp [h, r_stuck]
theorem q_sl {lo hi : OM} : (mSl me lo hi en S).sat P ↔ (me en S).sat fun d S1 => (lo en S1).sat fun l S2 => (hi en S2).sat fun h S3 => osat (fSl d l h S3) fun r => P r S3 := by unfold mSl; simp only [r_bind, r_ofO]
theorem q_oN {PO : Option Int → Sto → Prop} : (oNone en S).sat PO ↔ PO none S := r_ok
def intD : D → Option Int
  | .int i => some i
  | _ => none
theorem q_oS {PO : Option Int → Sto → Prop} : (oSome me en S).sat PO ↔ (me en S).sat fun d S1 => osat (intD d) fun i => PO (some i) S1 := by
  unfold oSome
  rw [r_bind]
  refine iff_of_eq (congrArg _ (funext fun d => funext fun S1 => ?_))
  cases d <;> simp [intD, osat, r_ok, r_stuck]
theorem q_bm {fm : D → List D → Sto → Option (D × Sto)} {ok : D → Sto → Bool} : (mBM fm ok mo mr en S).sat P ↔ (mo en S).sat fun d S1 => ok d S1 = true ∧ ((mr en S1).sat fun ds S2 => osat (fm d ds S2) fun r => P r.1 r.2) := by
  unfold mBM
  simp only [r_bind, r_ifs]
  refine iff_of_eq (congrArg _ (funext fun d => funext fun S1 => congrArg _ (congrArg _ (funext fun ds => funext fun S2 => ?_))))
  cases fm d ds S2 <;> simp [osat, r_ok, r_stuck]
theorem q_make {c : Str} {z : Bool} {n : Nat} {fm : List D → Sto → Res D} : (mMake c z n fm mr en S).sat P ↔ (mr en S).sat fun ds S1 => ds.length = n ∧ (mkD c z fm ds S1).sat P := by unfold mMake; simp only [r_bind, r_ifs]
/-! statements -/
theorem p_eS {r : Res D} {k : D → Sto → SRes} : (eS r en k).sat N R ↔ r.sat fun d S1 => (k d S1).sat N R := by cases r <;> simp only [eS, bS, lS, r_ok, r_exc, r_stuck, s_nx, s_rt, s_bk, s_ct, s_ex, s_st]
theorem p_bS {r : Res Bool} {k : Bool → Sto → SRes} : (bS r en k).sat N R ↔ r.sat fun d S1 => (k d S1).sat N R := by cases r <;> simp only [eS, bS, lS, r_ok, r_exc, r_stuck, s_nx, s_rt, s_bk, s_ct, s_ex, s_st]
theorem p_lS {r : Res (List D)} {k : List D → Sto → SRes} : (lS r en k).sat N R ↔ r.sat fun d S1 => (k d S1).sat N R := by cases r <;> simp only [eS, bS, lS, r_ok, r_exc, r_stuck, s_nx, s_rt, s_bk, s_ct, s_ex, s_st]
theorem p_nil : (sNil en S).sat N R ↔ N en S := s_nx
theorem p_pass : (sPass en S).sat N R ↔ N en S := s_nx
theorem p_seq : (sSeq s1 s2 en S).sat N R ↔ (s1 en S).sat (fun en S => (s2 en S).sat N R) R := by unfold sSeq; cases s1 en S <;> simp only [r_ok, r_exc, r_stuck, s_nx, s_rt, s_bk, s_ct, s_ex, s_st]
theorem p_expr : (sExpr ma en S).sat N R ↔ (ma en S).sat fun _ S1 => N en S1 := by unfold sExpr; simp only [p_eS, s_nx]
theorem p_ret : (sRet ma en S).sat N R ↔ (ma en S).sat R := by unfold sRet; simp only [p_eS, s_rt]
theorem s_ite {c : Prop} [Decidable c] {a b : SRes} : (if c then a else b).sat N R ↔ if c then a.sat N R else b.sat N R := by by_cases h : c <;> simp [h]
theorem p_if : (sIf t s1 s2 en S).sat N R ↔ (t en S).sat fun c S1 => if c = true then (s1 en S1).sat N R else (s2 en S1).sat N R := by unfold sIf; simp only [p_bS, s_ite]
theorem p_asgN {i : Nat} : (sAsg ma (gNm i) en S).sat N R ↔ (ma en S).sat fun d S1 => N (en.set i (some d)) S1 := by unfold sAsg; simp only [p_eS, gNm, s_nx]
theorem p_asg {gm : GM} : (sAsg ma gm en S).sat N R ↔ (ma en S).sat fun d S1 => (gm d en S1).sat N := by
  unfold sAsg
  rw [p_eS]
  refine iff_of_eq (congrArg _ (funext fun d => funext fun S1 => ?_))
  cases gm d en S1 <;> simp only [r_ok, r_exc, r_stuck, s_nx, s_rt, s_bk, s_ct, s_ex, s_st]
theorem p_par {i j : Nat} : (sPar i j mr en S).sat N R ↔ (mr en S).sat fun ds S1 => ∃ a b, ds = [a, b] ∧ N ((en.set i (some a)).set j (some b)) S1 := by
  unfold sPar
  rw [p_lS]
  refine iff_of_eq (congrArg _ (funext fun ds => funext fun S1 => propext ?_))
  constructor
  · intro h
    split at h
    · exact ⟨_, _, rfl, s_nx.mp h⟩
    · exact (s_st.mp h).elim
  · rintro ⟨a, b, rfl, h⟩
    exact s_nx.mpr h
theorem p_par3 {i j l : Nat} : (sPar3 i j l mr en S).sat N R ↔ (mr en S).sat fun ds S1 => ∃ a b c, ds = [a, b, c] ∧ N (((en.set i (some a)).set j (some b)).set l (some c)) S1 := by
  unfold sPar3
  rw [p_lS]
  refine iff_of_eq (congrArg _ (funext fun ds => funext fun S1 => propext ?_))
  constructor
  · intro h
    split at h
    · exact ⟨_, _, _, rfl, s_nx.mp h⟩
    · exact (s_st.mp h).elim
  · rintro ⟨a, b, c, rfl, h⟩
    exact s_nx.mpr h
theorem ex_pair {a b : D} {Q : D → D → Prop} : (∃ x y, [a, b] = [x, y] ∧ Q x y) ↔ Q a b := by
  constructor
  · rintro ⟨x, y, e, h⟩
    cases e
    exact h
  · exact fun h => ⟨a, b, rfl, h⟩
theorem ex_trip {a b c : D} {Q : D → D → D → Prop} : (∃ x y z, [a, b, c] = [x, y, z] ∧ Q x y z) ↔ Q a b c := by
  constructor
  · rintro ⟨x, y, z, e, h⟩
    cases e
    exact h
  · exact fun h => ⟨a, b, c, rfl, h⟩
theorem p_try {b : SM} : (sTryQ b en S).sat N R ↔ (b en S).sat N R := by unfold sTryQ; cases b en S <;> simp only [r_ok, r_exc, r_stuck, s_nx, s_rt, s_bk, s_ct, s_ex, s_st]
theorem g_nm {i : Nat} {d : D} {NE : En → Sto → Prop} : (gNm i d en S).sat NE ↔ NE (en.set i (some d)) S := r_ok
theorem g_unpS {n : Nat} {r : GsM} {d : D} {NE : En → Sto → Prop} : (gUnp n r d en S).sat NE ↔ osat (seqOf d S) fun l => l.length = n ∧ (r l en S).sat NE := by
  unfold gUnp
  cases q : seqOf d S with
  | none => simp [r_stuck, osat]
  | some l =>
    by_cases h : l.length = n
    · simp only [if_pos h, osat]
      cases r l en S <;> simp [r_ok, r_exc, r_stuck, h]
    · simp [h, r_stuck, osat]
theorem gs_nilS {NE : En → Sto → Prop} : (gsNil [] en S).sat NE ↔ NE en S := r_ok
theorem gs_consS {gm : GM} {r : GsM} {d : D} {ds : List D} {NE : En → Sto → Prop} : (gsCons gm r (d :: ds) en S).sat NE ↔ (gm d en S).sat fun en1 S1 => (r ds en1 S1).sat NE := by
  show Res.sat (match gm d en S with
    | .ok en1 S1 => (match r ds en1 S1 with
      | .ok en2 S2 => .ok en2 S2
      | _ => .stuck)
    | _ => .stuck) NE ↔ _
  generalize gm d en S = z
  cases z with
  | ok en1 S1 =>
    rw [r_ok]
    show Res.sat (match r ds en1 S1 with
      | .ok en2 S2 => .ok en2 S2
      | _ => .stuck) NE ↔ (r ds en1 S1).sat NE
    cases r ds en1 S1 <;> simp only [r_ok, r_exc, r_stuck]
  | exc c fs S1 => simp only [r_exc, r_stuck]
  | stuck => simp only [r_stuck]
theorem g_subS {f : D → D → D → Sto → Option Sto} {mi : EM} {d : D} {NE : En → Sto → Prop} : (gSubM f mo mi d en S).sat NE ↔ (mo en S).sat fun o S1 => (mi en S1).sat fun i S2 => osat (f o i d S2) fun S3 => NE en S3 := by
  unfold gSubM
  simp only [r_bind]
  refine iff_of_eq (congrArg _ (funext fun o => funext fun S1 => congrArg _ (funext fun i => funext fun S2 => ?_)))
  cases f o i d S2 <;> simp [osat, r_ok, r_stuck]
theorem f_run {n : Nat} {s : SM} {ds : List D} : (runB n s ds S).sat P ↔ (s (ds.map some ++ List.replicate (n - ds.length) none) S).sat (fun _ S => P .non S) P := by
  unfold runB
  cases s (ds.map some ++ List.replicate (n - ds.length) none) S <;> simp only [r_ok, r_exc, r_stuck, s_nx, s_rt, s_bk, s_ct, s_ex, s_st]
/-! loops over a list that is known -/
structure LIt (it : ItD) (l : List D) : Prop where
  n : it.n = l.length
  at_ : ∀ k S, it.nxt k S = some l[k]?
theorem li_ls (l : List D) : LIt (lsIt l) l := ⟨rfl, fun _ _ => rfl⟩
theorem li_rg (lo : Int) (n : Nat) : LIt (rgIt lo n) ((List.range n).map fun k => .int (lo + (k : Nat))) := ⟨by simp [rgIt], fun k S => by
  simp only [rgIt, List.getElem?_map, List.getElem?_range]
  by_cases h : k < n <;> simp [h]⟩
theorem li_en (l : List D) : LIt (enIt l) (l.mapIdx fun k d => .tup [.int (k : Nat), d]) := ⟨by simp [enIt], fun k S => by simp [enIt]⟩
theorem for_inv {it : ItD} {l : List D} {gm : GM} {b : SM} (hl : LIt it l) (I : Nat → En → Sto → Prop) (step : ∀ k d en S, l[k]? = some d → I k en S → (gm d en S).sat fun en1 S1 => (b en1 S1).sat (I (k + 1)) R) (fin : ∀ en S, I l.length en S → N en S) (h0 : I 0 en S) :
    (forM it.nxt gm b it.n 0 en S).sat N R := by
  have key : ∀ f k en S, f + k = l.length → I k en S → (forM it.nxt gm b f k en S).sat N R := by
    intro f
    induction f with
    | zero =>
      intro k en S e i
      have e2 : k = l.length := by omega
      subst e2
      simp only [forM, hl.at_, List.getElem?_eq_none (Nat.le_refl _), s_nx]
      exact fin _ _ i
    | succ f ih =>
      intro k en S e i
      have hk : k < l.length := by omega
      have hx := List.getElem?_eq_getElem hk
      have := step k _ en S hx i
      simp only [forM, hl.at_, hx]
      cases q : gm l[k] en S with
      | ok en1 S1 =>
        rw [q, r_ok] at this
        simp only
        cases q2 : b en1 S1 with
        | next en2 S2 => rw [q2, s_nx] at this; exact ih (k + 1) en2 S2 (by omega) this
        | ret d S2 => rw [q2, s_rt] at this; exact s_rt.mpr this
        | brk en2 S2 => rw [q2, s_bk] at this; exact this.elim
        | cnt en2 S2 => rw [q2, s_ct] at this; exact this.elim
        | exc c fs en2 S2 => rw [q2, s_ex] at this; exact this.elim
        | stuck => rw [q2, s_st] at this; exact this.elim
      | exc c fs S1 => rw [q, r_exc] at this; exact this.elim
      | stuck => rw [q, r_stuck] at this; exact this.elim
  rw [hl.n]
  exact key l.length 0 en S rfl h0
theorem p_for {mi : IM} {gm : GM} {b : SM} : (sFor mi gm b en S).sat N R ↔ (mi en S).sat fun it S1 => (forM it.nxt gm b it.n 0 en S1).sat N R := by unfold sFor; cases mi en S <;> simp only [r_ok, r_exc, r_stuck, s_nx, s_rt, s_bk, s_ct, s_ex, s_st]
theorem q_itV {PI : ItD → Sto → Prop} : (mItV me en S).sat PI ↔ (me en S).sat fun d S1 => osat (itOf d S1) fun it => PI it S1 := by unfold mItV; simp only [r_bind, r_ofO]
theorem q_itA {f : List D → Sto → Option ItD} {PI : ItD → Sto → Prop} : (mItA f mr en S).sat PI ↔ (mr en S).sat fun ds S1 => osat (f ds S1) fun it => PI it S1 := by unfold mItA; simp only [r_bind, r_ofO]
theorem lc_inv {it : ItD} {l : List D} {gm : GM} (hl : LIt it l) (I : Nat → List D → Sto → Prop) (step : ∀ k d acc S, l[k]? = some d → I k acc S → (gm d en S).sat fun en1 S1 => (t en1 S1).sat fun c S2 => if c = true then (me en1 S2).sat fun y S3 => acc.length < lineN ∧ I (k + 1) (acc ++ [y]) S3 else I (k + 1) acc S2)
    (fin : ∀ acc S, I l.length acc S → PL acc S) (h0 : I 0 [] S) : (lcM it.nxt gm t me en it.n 0 [] S).sat PL := by
  have key : ∀ f k acc S, f + k = l.length → I k acc S → (lcM it.nxt gm t me en f k acc S).sat PL := by
    intro f
    induction f with
    | zero =>
      intro k acc S e i
      have e2 : k = l.length := by omega
      subst e2
      simp only [lcM, hl.at_, List.getElem?_eq_none (Nat.le_refl _), r_ok]
      exact fin _ _ i
    | succ f ih =>
      intro k acc S e i
      have hk : k < l.length := by omega
      have hx := List.getElem?_eq_getElem hk
      have := step k _ acc S hx i
      simp only [lcM, hl.at_, hx]
      cases q : gm l[k] en S with
      | ok en1 S1 =>
        rw [q, r_ok] at this
        simp only
        cases q2 : t en1 S1 with
        | ok c S2 =>
          rw [q2, r_ok] at this
          simp only
          by_cases hc : c = true
          · rw [if_pos hc] at this ⊢
            cases q3 : me en1 S2 with
            | ok y S3 =>
              rw [q3, r_ok] at this
              simp only
              rw [if_pos this.1]
              exact ih (k + 1) _ S3 (by omega) this.2
            | exc c fs S3 => rw [q3, r_exc] at this; exact this.elim
            | stuck => rw [q3, r_stuck] at this; exact this.elim
          · rw [if_neg hc] at this ⊢
            exact ih (k + 1) _ S2 (by omega) this
        | exc c fs S2 => rw [q2, r_exc] at this; exact this.elim
        | stuck => rw [q2, r_stuck] at this; exact this.elim
      | exc c fs S1 => rw [q, r_exc] at this; exact this.elim
      | stuck => rw [q, r_stuck] at this; exact this.elim
  rw [hl.n]
  exact key l.length 0 [] S rfl h0
/-- no test, nothing changed: a map -/
theorem lc_map {it : ItD} {l : List D} {gm : GM} (hl : LIt it l) (h : D → D) (hlen : l.length ≤ lineN) (step : ∀ (k : Nat) (d : D), l[k]? = some d → (gm d en S).sat fun en1 S1 => (me en1 S1).sat fun y S2 => y = h d ∧ S2 = S) (fin : PL (l.map h) S) : (lcM it.nxt gm mYes me en it.n 0 [] S).sat PL := by
  refine lc_inv hl (fun k acc S' => acc = (l.take k).map h ∧ S' = S) (fun k d acc S' hd i => ?_) (fun acc S' i => ?_) ⟨by simp, rfl⟩
  · obtain ⟨rfl, rfl⟩ := i
    have hk := (List.getElem?_eq_some_iff.mp hd).1
    refine (step k d hd).mono fun en1 S1 z => ?_
    simp only [mYes, r_ok, if_pos]
    refine z.mono fun y S2 q => ⟨by simp; omega, ?_, q.2⟩
    rw [q.1, List.take_add_one, hd]
    simp
  · obtain ⟨rfl, rfl⟩ := i
    simpa using fin
theorem q_lc {mi : IM} {vs : List Nat} {gm : GM} : (mLc mi vs gm t me en S).sat P ↔ (mi en S).sat fun it S1 => (lcM it.nxt gm t me (wipeE en vs) it.n 0 [] S1).sat fun l S2 => P (.lst l) S2 := by
  unfold mLc
  rw [r_bind]
  refine iff_of_eq (congrArg _ (funext fun it => funext fun S1 => ?_))
  cases lcM it.nxt gm t me (wipeE en vs) it.n 0 [] S1 <;> simp only [r_ok, r_exc, r_stuck, s_nx, s_rt, s_bk, s_ct, s_ex, s_st]
theorem q_lcC {mi : IM} {vs : List Nat} {gm : GM} : (mLcC mi vs gm t me en S).sat P ↔ (mi en S).sat fun it S1 => (lcM it.nxt gm t me (wipeE en vs) it.n 0 [] S1).sat fun l S2 => P (.ref S2.length) (S2 ++ [.lst l]) := by
  unfold mLcC
  rw [r_bind]
  refine iff_of_eq (congrArg _ (funext fun it => funext fun S1 => ?_))
  cases lcM it.nxt gm t me (wipeE en vs) it.n 0 [] S1 <;> simp only [r_ok, r_exc, r_stuck, s_nx, s_rt, s_bk, s_ct, s_ex, s_st]
end
end Ag

namespace Ag
open PySem
/-! ### plain facts: equality, fractions, sizes -/
theorem sat_eq {α : Type} {r : Res α} {a : α} {S : Sto} (h : r.sat fun v S' => v = a ∧ S' = S) : r = .ok a S := by
  obtain ⟨v, S', rfl, rfl, rfl⟩ := h.eq
  rfl
theorem sh_int (i : Int) : SeqAt.shaped (.int i) = true := by simp [SeqAt.shaped, PyData.canLay0, PyData.depth]
theorem ne_int (x y : Int) (S : Sto) : fNe (.int x) (.int y) S = some (.bl (decide (x ≠ y))) := by
  simp only [fNe, neD, pyS, D.py, sh_int, and_self, if_true, PyData.eqv]
  by_cases h : x = y <;> simp [h]
theorem eq_int (x y : Int) (S : Sto) : fEq (.int x) (.int y) S = some (.bl (decide (x = y))) := by
  simp only [fEq, eqD, pyS, D.py, sh_int, and_self, if_true, PyData.eqv]
  by_cases h : x = y <;> simp [h]
mutual
theorem eqv_refl : ∀ p : PyData, p.canLay0 = true → PyData.eqv p p = true
  | .none, _ => by simp only [PyData.eqv]
  | .bool b, _ => by simp only [PyData.eqv, beq_self_eq_true]
  | .int b, _ => by simp only [PyData.eqv, beq_self_eq_true]
  | .str b, _ => by simp only [PyData.eqv, beq_self_eq_true]
  | .list xs, h => by
    simp only [PyData.eqv]
    exact eqvAll_refl xs (by simpa [PyData.canLay0] using h)
  | .tuple xs, h => by
    simp only [PyData.eqv]
    exact eqvAll_refl xs (by simpa [PyData.canLay0] using h)
  | .dict _, h => by simp [PyData.canLay0] at h
theorem eqvAll_refl : ∀ ps : List PyData, PyData.canLayAll0 ps = true → PyData.eqvAll ps ps = true
  | [], _ => by simp only [PyData.eqvAll]
  | p :: ps, h => by
    simp only [PyData.canLayAll0, Bool.and_eq_true] at h
    simp only [PyData.eqvAll, eqv_refl p h.1, eqvAll_refl ps h.2, Bool.and_self]
end
/-- plain data of a small depth -/
def Pl (d : D) : Prop := ∃ p, d.py = some p ∧ SeqAt.shaped p = true
theorem pyS_py {d : D} {p : PyData} {S : Sto} (h : d.py = some p) : pyS d S = some p := by
  cases d with
  | ref i => simp [D.py] at h
  | _ => exact h
theorem ne_same {d : D} (h : Pl d) (S : Sto) : fNe d d S = some (.bl false) := by
  obtain ⟨p, h1, h2⟩ := h
  have e : neD d d S = some (.bl false) := by simp only [neD, pyS_py h1, h2, and_self, if_true, eqv_refl p (SeqAt.canLay_of_shaped h2), Bool.not_true]
  cases d with
  | str x => simp [fNe]
  | _ => exact e
theorem eq_same {d : D} (h : Pl d) (S : Sto) : fEq d d S = some (.bl true) := by
  obtain ⟨p, h1, h2⟩ := h
  have e : eqD d d S = some (.bl true) := by simp only [eqD, pyS_py h1, h2, and_self, if_true, eqv_refl p (SeqAt.canLay_of_shaped h2)]
  cases d with
  | str x => simp [fEq]
  | _ => exact e
/-- depth bounded: flat, two levels, three levels -/
def Dp (k : Nat) (d : D) : Prop := ∃ p, d.py = some p ∧ p.canLay0 = true ∧ p.depth ≤ k
theorem Dp.pl {k : Nat} {d : D} (h : Dp k d) (hk : k ≤ 64) : Pl d := by
  obtain ⟨p, h1, h2, h3⟩ := h
  exact ⟨p, h1, by simp only [SeqAt.shaped, h2, Bool.true_and, decide_eq_true_eq]; omega⟩
theorem Dp.mono {k j : Nat} {d : D} (h : Dp k d) (hk : k ≤ j) : Dp j d := by
  obtain ⟨p, h1, h2, h3⟩ := h
  exact ⟨p, h1, h2, by omega⟩
theorem dp_str {x : Str} (h : PyData.strOk x = true) : Dp 0 (.str x) := ⟨.str x, rfl, by simpa [PyData.canLay0] using h, by simp [PyData.depth]⟩
theorem dp_bl (b : Bool) : Dp 0 (.bl b) := ⟨.bool b, rfl, by simp [PyData.canLay0], by simp [PyData.depth]⟩
theorem dps {k : Nat} : ∀ {l : List D}, (∀ d ∈ l, Dp k d) → ∃ ps, D.pys l = some ps ∧ PyData.canLayAll0 ps = true ∧ PyData.depthAll ps ≤ k
  | [], _ => ⟨[], rfl, by simp [PyData.canLayAll0], by simp [PyData.depthAll]⟩
  | d :: l, h => by
    obtain ⟨p, h1, h2, h3⟩ := h d (by simp)
    obtain ⟨ps, g1, g2, g3⟩ := dps (l := l) fun c hc => h c (by simp [hc])
    exact ⟨p :: ps, by simp only [D.pys, h1, g1], by simp [PyData.canLayAll0, h2, g2], by simp only [PyData.depthAll]; omega⟩
theorem dp_tup {k : Nat} {l : List D} (h : ∀ d ∈ l, Dp k d) : Dp (k + 1) (.tup l) := by
  obtain ⟨ps, h1, h2, h3⟩ := dps h
  exact ⟨.tuple ps, by simp only [D.py, h1, Option.map_some], by simpa [PyData.canLay0] using h2, by simp only [PyData.depth]; omega⟩
theorem dp_lst {k : Nat} {l : List D} (h : ∀ d ∈ l, Dp k d) : Dp (k + 1) (.lst l) := by
  obtain ⟨ps, h1, h2, h3⟩ := dps h
  exact ⟨.list ps, by simp only [D.py, h1, Option.map_some], by simpa [PyData.canLay0] using h2, by simp only [PyData.depth]; omega⟩
/-! fractions -/
/-! sizes -/
theorem log2_lt {n k : Nat} (h : n < 2 ^ k) (hk : 0 < k) : n.log2 < k := by
  by_cases h0 : n = 0
  · subst h0; simpa using hk
  · exact (Nat.log2_lt h0).mpr h
theorem lt_pow {n a b : Nat} (h : n < 2 ^ a) (hab : a ≤ b) : n < 2 ^ b := Nat.lt_of_lt_of_le h (Nat.pow_le_pow_right (by decide) hab)
/-- z over M, z small -/
def Rp (M B : Nat) (q : Rat) : Prop := ∃ z : Int, q = mkRat z M ∧ z.natAbs ≤ B
theorem Rp.den {M B : Nat} {q : Rat} (hM : 0 < M) (h : Rp M B q) : q.den ≤ M := by
  obtain ⟨z, rfl, _⟩ := h
  have hb : M ≠ 0 := by omega
  have e : mkRat z M = Rat.normalize z M hb := by unfold mkRat; rw [dif_neg hb]
  rw [e, Rat.normalize_eq]
  exact Nat.div_le_self _ _
theorem Rp.num {M B : Nat} {q : Rat} (hM : 0 < M) (h : Rp M B q) : q.num.natAbs ≤ B := by
  obtain ⟨z, rfl, hz⟩ := h
  have hb : M ≠ 0 := by omega
  have e : mkRat z M = Rat.normalize z M hb := by unfold mkRat; rw [dif_neg hb]
  rw [e, Rat.normalize_eq]
  refine Nat.le_trans ?_ hz
  show (z / ((z.natAbs.gcd M : Nat) : Int)).natAbs ≤ z.natAbs
  exact Int.natAbs_ediv_le_natAbs _ _
theorem mkRat_div (z : Int) (M : Nat) : mkRat z M = (z : Rat) / (M : Rat) := Rat.mkRat_eq_div z M
theorem Rp.add {M B C : Nat} {p q : Rat} (hM : 0 < M) (h : Rp M B p) (g : Rp M C q) : Rp M (B + C) (p + q) := by
  obtain ⟨x, rfl, hx⟩ := h
  obtain ⟨y, rfl, hy⟩ := g
  refine ⟨x + y, ?_, by omega⟩
  have hm : (M : Rat) ≠ 0 := by simpa using (show M ≠ 0 by omega)
  simp only [mkRat_div, Rat.intCast_add]
  grind
theorem Rp.mulI {M B : Nat} {q : Rat} (h : Rp M B q) (w : Int) : Rp M (w.natAbs * B) (q * (w : Rat)) := by
  obtain ⟨x, rfl, hx⟩ := h
  refine ⟨x * w, ?_, ?_⟩
  · simp only [mkRat_div, Rat.intCast_mul]
    grind
  · rw [Int.natAbs_mul, Nat.mul_comm]
    exact Nat.mul_le_mul_left _ hx
theorem Rp.zero {M : Nat} : Rp M 0 0 := ⟨0, by simp only [mkRat_div]; grind, by simp⟩
/-- over a sum, to a common measure -/
theorem Rp.divN {M B s L : Nat} {q : Rat} (hs : 0 < s) (hd : s ∣ L) (hL : 0 < L) (h : Rp M (s * B) q) : Rp (M * L) (B * L) (q / (s : Rat)) := by
  obtain ⟨x, rfl, hx⟩ := h
  obtain ⟨c, rfl⟩ := hd
  refine ⟨x * c, ?_, ?_⟩
  · have h1 : (s : Rat) ≠ 0 := by simpa using (show s ≠ 0 by omega)
    have h2 : (c : Rat) ≠ 0 := by
      have : c ≠ 0 := by intro z; subst z; simp at hL
      simpa using this
    simp only [mkRat_div, Rat.intCast_mul, Rat.natCast_mul, Rat.intCast_natCast]
    grind
  · rw [Int.natAbs_mul, Int.natAbs_natCast]
    calc x.natAbs * c ≤ s * B * c := Nat.mul_le_mul_right _ hx
      _ = B * (s * c) := by rw [Nat.mul_comm s B, Nat.mul_assoc]
theorem Rp.up {M B L : Nat} {q : Rat} (hL : 0 < L) (h : Rp M B q) : Rp (M * L) (B * L) q := by
  have := Rp.divN (s := 1) (L := L) (by decide) (Nat.one_dvd _) hL (B := B) (by simpa using h)
  have e : q / ((1 : Nat) : Rat) = q := by grind
  rw [e] at this
  exact this
end Ag

namespace Ag
open PySem
theorem at_k {α : Type} (l : List α) (k : Nat) : L2.atI l (k : Int) = l[k]? := by
  unfold L2.atI L2.ixN
  rw [if_pos (by omega)]
  by_cases h : k < l.length
  · rw [if_pos (by omega)]; simp
  · rw [if_neg (by omega), List.getElem?_eq_none (by omega)]; rfl
def dot : List Rat → List Int → Rat
  | t :: ts, w :: ws => t * (w : Rat) + dot ts ws
  | _, _ => 0
theorem dot_step : ∀ (ts : List Rat) (ws : List Int) (k : Nat) (t : Rat) (w : Int), ts[k]? = some t → ws[k]? = some w → dot (ts.take (k + 1)) (ws.take (k + 1)) = dot (ts.take k) (ws.take k) + t * (w : Rat)
  | [], _, k, t, w, h, _ => by simp at h
  | _ :: _, [], k, t, w, _, h => by simp at h
  | x :: ts, y :: ws, 0, t, w, h1, h2 => by
    simp only [List.getElem?_cons_zero, Option.some.injEq] at h1 h2
    subst h1 h2
    simp only [List.take_succ_cons, List.take_zero, dot]
    grind
  | x :: ts, y :: ws, k + 1, t, w, h1, h2 => by
    simp only [List.getElem?_cons_succ] at h1 h2
    have := dot_step ts ws k t w h1 h2
    simp only [List.take_succ_cons, dot] at this ⊢
    rw [this]
    grind
theorem sum_take_le : ∀ (ws : List Int) (k : Nat), (∀ w ∈ ws, 0 ≤ w) → 0 ≤ (ws.take k).sum ∧ (ws.take k).sum ≤ ws.sum
  | [], k, _ => by simp
  | w :: ws, 0, h => by
    have := sum_take_le ws ws.length fun z hz => h z (by simp [hz])
    have h0 := h w (by simp)
    simp only [List.take_length] at this
    simp only [List.take_zero, List.sum_nil, List.sum_cons]
    omega
  | w :: ws, k + 1, h => by
    have := sum_take_le ws k fun z hz => h z (by simp [hz])
    have h0 := h w (by simp)
    simp only [List.take_succ_cons, List.sum_cons]
    omega
theorem sum_step : ∀ (ws : List Int) (k : Nat) (w : Int), ws[k]? = some w → (ws.take (k + 1)).sum = (ws.take k).sum + w
  | [], k, w, h => by simp at h
  | x :: ws, 0, w, h => by
    simp only [List.getElem?_cons_zero, Option.some.injEq] at h
    subst h; simp
  | x :: ws, k + 1, w, h => by
    simp only [List.getElem?_cons_succ] at h
    have := sum_step ws k w h
    simp only [List.take_succ_cons, List.sum_cons] at this ⊢
    omega
structure Day (ts : List Rat) (ws : List Int) (M B a : Nat) : Prop where
  len : ws.length = ts.length
  nn : ∀ w ∈ ws, 0 ≤ w
  pos : 0 < ws.sum
  s64 : ws.sum.natAbs < 2 ^ 64
  m0 : 0 < M
  ma : M < 2 ^ a
  ba : ws.sum.natAbs * B < 2 ^ a
  rp : ∀ t ∈ ts, Rp M B t
  a0 : 0 < a
  a4 : a ≤ 4000
variable {ts : List Rat} {ws : List Int} {M B a : Nat}
theorem Day.dot (h : Day ts ws M B a) : ∀ k, k ≤ ts.length → Rp M ((ws.take k).sum.natAbs * B) (dot (ts.take k) (ws.take k))
  | 0, _ => by simpa [Ag.dot] using Rp.zero
  | k + 1, hk => by
    have h1 : ts[k]? = some ts[k] := List.getElem?_eq_getElem (by omega)
    have h2 : ws[k]? = some (ws[k]'(by rw [h.len]; omega)) := List.getElem?_eq_getElem (by rw [h.len]; omega)
    rw [dot_step ts ws k _ _ h1 h2, sum_step ws k _ h2]
    have ih := h.dot k (by omega)
    have r := (h.rp _ (List.mem_of_getElem? h1)).mulI (ws[k]'(by rw [h.len]; omega))
    have := Rp.add h.m0 ih r
    have h3 := (sum_take_le ws k h.nn).1
    have h4 := h.nn _ (List.mem_of_getElem? h2)
    rw [← Nat.add_mul] at this
    rwa [show ((ws.take k).sum + ws[k]'(by rw [h.len]; omega)).natAbs = (ws.take k).sum.natAbs + (ws[k]'(by rw [h.len]; omega)).natAbs by omega]
theorem rp_le {B C : Nat} {q : Rat} (h : Rp M B q) (hb : B ≤ C) : Rp M C q := by
  obtain ⟨z, e, hz⟩ := h
  exact ⟨z, e, by omega⟩
theorem Day.part (h : Day ts ws M B a) {k : Nat} (hk : k ≤ ts.length) : (Ag.dot (ts.take k) (ws.take k)).den < 2 ^ a ∧ (Ag.dot (ts.take k) (ws.take k)).num.natAbs < 2 ^ a := by
  have h1 := h.dot k hk
  have h2 := sum_take_le ws k h.nn
  have h3 := (rp_le h1 (C := ws.sum.natAbs * B) (Nat.mul_le_mul_right _ (by omega)))
  exact ⟨Nat.lt_of_le_of_lt (h3.den h.m0) h.ma, Nat.lt_of_le_of_lt (h3.num h.m0) h.ba⟩
theorem mem_le_sum : ∀ {ws : List Int}, (∀ w ∈ ws, 0 ≤ w) → ∀ w ∈ ws, w ≤ ws.sum
  | [], _, w, hw => by simp at hw
  | x :: ws, h, w, hw => by
    have h0 := h x (by simp)
    have hs := (sum_take_le ws 0 fun z hz => h z (by simp [hz]))
    simp only [List.take_zero, List.sum_nil] at hs
    rcases List.mem_cons.mp hw with rfl | hw
    · simp only [List.sum_cons]; omega
    · have := mem_le_sum (fun z hz => h z (by simp [hz])) w hw
      simp only [List.sum_cons]; omega
theorem Day.one (h : Day ts ws M B a) {t : Rat} {w : Int} (ht : t ∈ ts) (hw : w ∈ ws) : (t * (w : Rat)).den < 2 ^ a ∧ (t * (w : Rat)).num.natAbs < 2 ^ a ∧ t.den < 2 ^ a ∧ w.natAbs < 2 ^ 64 := by
  have h0 := h.nn w hw
  have h1 := mem_le_sum h.nn w hw
  have h3 := rp_le ((h.rp t ht).mulI w) (C := ws.sum.natAbs * B) (Nat.mul_le_mul_right _ (by omega))
  have := h.s64
  exact ⟨Nat.lt_of_le_of_lt (h3.den h.m0) h.ma, Nat.lt_of_le_of_lt (h3.num h.m0) h.ba, Nat.lt_of_le_of_lt ((h.rp t ht).den h.m0) h.ma, by omega⟩
theorem mulOk_r {x y : Int} (h : y.natAbs < 2 ^ 64) : mulOk x y = true := by
  unfold mulOk
  rw [decide_eq_true h]
  simp
theorem ints_map : ∀ ws : List Int, isInts (ws.map .int) = some ws
  | [] => rfl
  | w :: ws => by simp [isInts, ints_map ws]
theorem sum_tup (ws : List Int) (S : Sto) : gSum (.tup (ws.map .int)) S = some (.int ws.sum) := by simp [gSum, ints_map]
theorem rg1_len (n : Nat) (S : Sto) (h : n < 2 ^ 62) : rg1 [.int (n : Int)] S = some (rgIt 0 n) := by
  have e : rgB (n : Int) = true := by simp [rgB]; omega
  simp [rg1, rgOf, e]
theorem eqv_str (x y : Str) : PyData.eqv (.str x) (.str y) = decide (x = y) := by
  simp only [PyData.eqv]
  by_cases h : x = y <;> simp [h]
theorem pys_strs : ∀ hs : List Str, D.pys (hs.map .str) = some (hs.map .str)
  | [] => rfl
  | h :: hs => by simp [D.pys, D.py, pys_strs hs]
theorem lay_strs : ∀ {hs : List Str}, (∀ h ∈ hs, PyData.strOk h = true) → PyData.canLayAll0 (hs.map .str) = true ∧ PyData.depthAll (hs.map .str) = 0
  | [], _ => ⟨rfl, rfl⟩
  | h :: hs, k => by
    obtain ⟨a, b⟩ := lay_strs (hs := hs) fun z hz => k z (by simp [hz])
    simp [PyData.canLayAll0, PyData.canLay0, PyData.depthAll, PyData.depth, a, b, k h (by simp)]
theorem in_strs {x : Str} {hs : List Str} (S : Sto) (hx : PyData.strOk x = true) (h : ∀ y ∈ hs, PyData.strOk y = true) : fIn (.str x) (.tup (hs.map .str)) S = some (.bl (decide (x ∈ hs))) := by
  obtain ⟨a, b⟩ := lay_strs h
  have e1 : SeqAt.shaped (.str x) = true := by simp [SeqAt.shaped, PyData.canLay0, PyData.depth, hx]
  have e2 : SeqAt.shaped (.tuple (hs.map .str)) = true := by simp [SeqAt.shaped, PyData.canLay0, PyData.depth, a, b]
  simp only [fIn, inD, pyS, D.py, pys_strs, Option.map_some, e1, e2, and_self, if_true]
  congr 2
  rw [List.any_map]
  have : ((fun z => PyData.eqv z (.str x)) ∘ PyData.str) = fun z => decide (z = x) := funext fun z => eqv_str z x
  rw [this]
  by_cases hm : x ∈ hs
  · rw [decide_eq_true hm, List.any_eq_true]
    exact ⟨x, hm, by simp⟩
  · rw [decide_eq_false hm, List.any_eq_false]
    intro z hz
    have : z ≠ x := fun e => hm (e ▸ hz)
    simp [this]
theorem cut_take (l : List D) (k : Nat) : cutD l none (some (k : Int)) = l.take k := by
  simp only [cutD, HT.sIx_none, HT.sIx_nat, List.drop_zero, Nat.sub_zero]
  by_cases h : k ≤ l.length
  · rw [Nat.min_eq_left h]
  · rw [Nat.min_eq_right (by omega), List.take_of_length_le (Nat.le_refl _), List.take_of_length_le (by omega)]
theorem eq_len0 {α : Type} {l : List α} (h : l ≠ []) : ((l.length : Int) = 0) = False := by
  have := List.length_pos_iff.mpr h
  simp; exact h
def rowD (r : List Int) : D := .tup (r.map .int)
def wayD (w : List (List Int)) : D := .tup (w.map rowD)
structure RowOk (n : Nat) (r : List Int) : Prop where
  len : r.length = n
  in_ : ∀ w ∈ r, 0 ≤ w ∧ w ≤ 1000000000
  pos : 0 < r.sum
structure WayOk (n : Nat) (w : List (List Int)) : Prop where
  len : w.length = n
  row : ∀ r ∈ w, RowOk n r
theorem all_true (n : Nat) (S : Sto) : f1 gAll [.lst (List.replicate n (.bl true))] S = some (.bl true) := by
  have : ∀ n, isBls (List.replicate n (D.bl true)) = some (List.replicate n true) := by
    intro n
    induction n with
    | zero => rfl
    | succ n ih => simp [List.replicate_succ, isBls, ih]
  simp [f1, gAll, rdOf, lstOf, this]
theorem map_true {α : Type} {l : List α} {h : α → D} (k : ∀ d ∈ l, h d = .bl true) : l.map h = List.replicate l.length (.bl true) := by
  induction l with
  | nil => rfl
  | cons x l ih => simp [k x (by simp), ih fun d hd => k d (by simp [hd]), List.replicate_succ]
theorem len_line {n : Nat} (h : n < 1000) : n ≤ lineN := by unfold lineN; omega
def Nr (d : D) : Prop := ∀ n, below n d = true
theorem nrs {l : List D} (h : ∀ d ∈ l, Nr d) (n : Nat) : belows n l = true := by
  induction l with
  | nil => rfl
  | cons d l ih => simp [belows, h d (by simp) n, ih fun c hc => h c (by simp [hc])]
theorem nr_int (i : Int) : Nr (.int i) := fun _ => rfl
theorem nr_str (x : Str) : Nr (.str x) := fun _ => rfl
theorem nr_tup {l : List D} (h : ∀ d ∈ l, Nr d) : Nr (.tup l) := fun n => by simp only [below]; exact nrs h n
theorem nr_lst {l : List D} (h : ∀ d ∈ l, Nr d) : Nr (.lst l) := fun n => by simp only [below]; exact nrs h n
theorem nr_map {α : Type} {l : List α} {f : α → D} (h : ∀ a, Nr (f a)) : ∀ d ∈ l.map f, Nr d := fun d hd => by
  obtain ⟨a, _, rfl⟩ := List.mem_map.mp hd
  exact h a
theorem nr_row (r : List Int) : Nr (rowD r) := nr_tup (nr_map nr_int)
theorem nr_way (w : List (List Int)) : Nr (wayD w) := nr_tup (nr_map nr_row)
def Cl (S : Sto) : Prop := ∀ o ∈ S, ∀ n, o.below n = true
theorem cl_all {S : Sto} (h : Cl S) (n : Nat) : S.all (Ob.below n) = true := List.all_eq_true.mpr fun o ho => h o ho n
def cncl (hs : List Str) (ws : List (List (List Int))) : D := .obj "Council" ["heads", "tables"] [.tup (hs.map .str), .tup (ws.map wayD)]
theorem p_fld {cs : List Str} {f : Str} {mo mv : EM} {en : En} {S : Sto} {N : En → Sto → Prop} {R : D → Sto → Prop} (h : (mv en S).sat fun d S1 => (mo en S1).sat fun o S2 => ∃ i c ns l r, o = .ref i ∧ S2[i]? = some (.ins c ns l) ∧ c ∈ cs ∧ ns.length < 1000 ∧ putL f d ns l = some r ∧ N en (S2.set i (.ins c r.1 r.2))) : (sFldM cs f mo mv en S).sat N R := by
  unfold sFldM
  rw [p_eS]
  refine h.mono fun d S1 h1 => ?_
  rw [p_eS]
  refine h1.mono fun o S2 h2 => ?_
  obtain ⟨i, c, ns, l, r, rfl, e, hc, hn, hp, k⟩ := h2
  simp only [e, hc, hn, and_self, if_true, hp]
  exact s_nx.mpr k
theorem ne_nil (S : Sto) : fNe (.tup []) (.tup []) S = some (.bl false) := ne_same ⟨.tuple [], rfl, rfl⟩ S
def wordD (p : List Nat) : D := .tup (p.map fun (k : Nat) => .int (k : Int))
def dayR (w : List (List Int)) (ts : List Rat) : List Rat := w.map fun r => dot ts r / (r.sum : Rat)
/-- d days old: sizes -/
def Sz (n d : Nat) (ts : List Rat) : Prop := ts.length = n ∧ ∃ M B : Nat, 0 < M ∧ M < 2 ^ (12 + 198 * d) ∧ B < 2 ^ (112 + 198 * d) ∧ ∀ t ∈ ts, Rp M B t
theorem RowOk.sum_lt {n : Nat} {r : List Int} (h : RowOk n r) (hn : n ≤ 6) : r.sum.natAbs < 2 ^ 33 := by
  have : ∀ l : List Int, (∀ w ∈ l, 0 ≤ w ∧ w ≤ 1000000000) → l.sum ≤ 1000000000 * (l.length : Int) ∧ 0 ≤ l.sum := by
    intro l
    induction l with
    | nil => intro _; simp
    | cons x l ih =>
      intro k
      have h1 := ih fun w hw => k w (by simp [hw])
      have h2 := k x (by simp)
      simp only [List.sum_cons, List.length_cons]
      omega
  have h1 := this r h.in_
  rw [h.len] at h1
  have : (2 : Nat) ^ 33 = 8589934592 := by decide
  omega
theorem Sz.day {n d : Nat} {ts : List Rat} (h : Sz n d ts) {r : List Int} (hr : RowOk n r) (hn : n ≤ 6) (hd : d ≤ 18) : ∃ M B, Day ts r M B (145 + 198 * d) := by
  obtain ⟨hl, M, B, h0, h1, h2, h3⟩ := h
  refine ⟨M, B, ⟨hr.len.trans hl.symm, fun w hw => (hr.in_ w hw).1, hr.pos, lt_pow (hr.sum_lt hn) (by decide), h0, lt_pow h1 (by omega), ?_, h3, by omega, by omega⟩⟩
  have := Nat.mul_lt_mul'' (hr.sum_lt hn) h2
  rw [← Nat.pow_add] at this
  exact lt_pow this (by omega)
theorem prod_dvd : ∀ {l : List Nat} {x : Nat}, x ∈ l → x ∣ l.prod
  | [], x, h => by simp at h
  | y :: l, x, h => by
    rw [List.prod_cons]
    rcases List.mem_cons.mp h with rfl | h
    · exact Nat.dvd_mul_right _ _
    · exact Nat.dvd_trans (prod_dvd h) (Nat.dvd_mul_left _ _)
theorem prod_le : ∀ (l : List Nat), (∀ x ∈ l, 0 < x ∧ x < 2 ^ 33) → 0 < l.prod ∧ l.prod ≤ 2 ^ (33 * l.length)
  | [], _ => by simp
  | y :: l, h => by
    obtain ⟨h1, h2⟩ := prod_le l fun x hx => h x (by simp [hx])
    obtain ⟨h3, h4⟩ := h y (by simp)
    rw [List.prod_cons, List.length_cons, show 33 * (l.length + 1) = 33 + 33 * l.length by omega, Nat.pow_add]
    exact ⟨Nat.mul_pos h3 h1, Nat.mul_le_mul (Nat.le_of_lt h4) h2⟩
theorem Sz.next {n d : Nat} {ts : List Rat} (h : Sz n d ts) {w : List (List Int)} (hw : WayOk n w) (hn : n ≤ 6) (hd : d ≤ 18) : Sz n (d + 1) (dayR w ts) := by
  obtain ⟨hl, M, B, h0, h1, h2, h3⟩ := id h
  obtain ⟨l1, l2⟩ := prod_le (w.map fun r => r.sum.natAbs) (by
    intro x hx
    obtain ⟨r, hr, rfl⟩ := List.mem_map.mp hx
    have := (hw.row r hr).pos
    exact ⟨by omega, (hw.row r hr).sum_lt hn⟩)
  have l3 : (w.map fun r => r.sum.natAbs).prod ≤ 2 ^ 198 := Nat.le_trans l2 (Nat.pow_le_pow_right (by decide) (by rw [List.length_map, hw.len]; omega))
  refine ⟨by simp [dayR, hw.len], M * (w.map fun r => r.sum.natAbs).prod, B * (w.map fun r => r.sum.natAbs).prod, Nat.mul_pos h0 l1, ?_, ?_, ?_⟩
  · rw [show 12 + 198 * (d + 1) = (12 + 198 * d) + 198 by omega, Nat.pow_add]
    exact Nat.mul_lt_mul_of_lt_of_le h1 l3 (Nat.pow_pos (by decide))
  · rw [show 112 + 198 * (d + 1) = (112 + 198 * d) + 198 by omega, Nat.pow_add]
    exact Nat.mul_lt_mul_of_lt_of_le h2 l3 (Nat.pow_pos (by decide))
  · intro t ht
    obtain ⟨r, hr, rfl⟩ := List.mem_map.mp ht
    obtain ⟨M', B', D'⟩ := h.day (hw.row r hr) hn hd
    have hp := (hw.row r hr).pos
    have dd : Day ts r M B (145 + 198 * d) := ⟨D'.len, D'.nn, D'.pos, D'.s64, h0, lt_pow h1 (by omega), by
      have := Nat.mul_lt_mul'' ((hw.row r hr).sum_lt hn) h2
      rw [← Nat.pow_add] at this
      exact lt_pow this (by omega), h3, by omega, by omega⟩
    have e := dd.dot ts.length (Nat.le_refl _)
    rw [List.take_length, show r.take ts.length = r by rw [← dd.len, List.take_length]] at e
    have := Rp.divN (s := r.sum.natAbs) (by omega) (prod_dvd (List.mem_map.mpr ⟨r, hr, rfl⟩)) l1 e
    rw [show ((r.sum.natAbs : Nat) : Rat) = (r.sum : Rat) by
      rw [← Rat.intCast_natCast]
      congr 1
      omega] at this
    exact this
theorem Sz.den {n d : Nat} {ts : List Rat} (h : Sz n d ts) : ∀ t ∈ ts, t.den < 2 ^ (12 + 198 * d) ∧ t.num.natAbs < 2 ^ (112 + 198 * d) := fun t ht => by
  obtain ⟨hl, M, B, h0, h1, h2, h3⟩ := h
  exact ⟨Nat.lt_of_le_of_lt ((h3 t ht).den h0) h1, Nat.lt_of_le_of_lt ((h3 t ht).num h0) h2⟩
theorem tup_lst (l : List D) (S : Sto) : f1 gTup [.lst l] S = some (.tup l) := rfl
theorem map_get {α β : Type} {l : List α} {f : α → β} {k : Nat} {d : β} (h : (l.map f)[k]? = some d) : ∃ a, a ∈ l ∧ l[k]? = some a ∧ d = f a := by
  rw [List.getElem?_map] at h
  obtain ⟨a, ha, rfl⟩ := Option.map_eq_some_iff.mp h
  exact ⟨a, List.mem_of_getElem? ha, ha, rfl⟩
structure Jg (S : Sto) (i : Nat) : Prop where
  cl : Cl S
  at_ : ∃ a b c : Int, S[i]? = some (.lst [.int a, .int b, .int c])
/-- what was there stands, but for the jug -/
structure Ex (S S' : Sto) (i : Nat) : Prop where
  len : S.length ≤ S'.length
  jg : Jg S' i
  oth : ∀ j, j < S.length → j ≠ i → S'[j]? = S[j]?
structure Lk (S S' : Sto) (i : Nat) : Prop extends Ex S S' i where
  same : S'.length = S.length
theorem Jg.lt {S : Sto} {i : Nat} (h : Jg S i) : i < S.length := by
  obtain ⟨a, b, c, e⟩ := h.at_
  exact (List.getElem?_eq_some_iff.mp e).1
theorem Ex.refl {S : Sto} {i : Nat} (h : Jg S i) : Ex S S i := ⟨Nat.le_refl _, h, fun _ _ _ => rfl⟩
theorem Lk.refl {S : Sto} {i : Nat} (h : Jg S i) : Lk S S i := ⟨.refl h, rfl⟩
theorem Ex.trans {S S1 S2 : Sto} {i : Nat} (a : Ex S S1 i) (b : Ex S1 S2 i) : Ex S S2 i := ⟨Nat.le_trans a.len b.len, b.jg, fun j hj hi => by rw [b.oth j (Nat.lt_of_lt_of_le hj a.len) hi, a.oth j hj hi]⟩
theorem Lk.trans {S S1 S2 : Sto} {i : Nat} (a : Lk S S1 i) (b : Lk S1 S2 i) : Lk S S2 i := ⟨a.toEx.trans b.toEx, b.same.trans a.same⟩
theorem Ex.cut {S S' : Sto} {i : Nat} (h : Ex S S' i) (hi : i < S.length) : Lk S (S'.take S.length) i := by
  have hl : (S'.take S.length).length = S.length := by rw [List.length_take]; have := h.len; omega
  refine ⟨⟨by omega, ⟨fun o ho => h.jg.cl o (List.mem_of_mem_take ho), ?_⟩, fun j hj hji => ?_⟩, hl⟩
  · obtain ⟨a, b, c, e⟩ := h.jg.at_
    exact ⟨a, b, c, by rw [List.getElem?_take_of_lt hi]; exact e⟩
  · rw [List.getElem?_take_of_lt hj]; exact h.oth j hj hji
theorem cl_set {S : Sto} {i : Nat} {o : Ob} (h : Cl S) (ho : ∀ n, o.below n = true) : Cl (S.set i o) := fun x hx => by
  rcases List.mem_or_eq_of_mem_set hx with hx | rfl
  · exact h x hx
  · exact ho
theorem cl_app {S : Sto} {o : Ob} (h : Cl S) (ho : ∀ n, o.below n = true) : Cl (S ++ [o]) := fun x hx => by
  rcases List.mem_append.mp hx with hx | hx
  · exact h x hx
  · have : x = o := by simpa using hx
    subst this; exact ho
theorem bel_lst {l : List D} (h : ∀ d ∈ l, Nr d) : ∀ n, (Ob.lst l).below n = true := fun n => nrs h n
theorem Lk.put {S : Sto} {i : Nat} (h : Jg S i) (a b c : Int) : Lk S (S.set i (.lst [.int a, .int b, .int c])) i :=
  ⟨⟨by simp, ⟨cl_set h.cl (bel_lst fun d hd => by
    simp only [List.mem_cons, List.not_mem_nil, or_false] at hd
    rcases hd with rfl | rfl | rfl <;> exact nr_int _), a, b, c, by simp [h.lt]⟩, fun j _ hj => by rw [List.getElem?_set_ne (Ne.symm hj)]⟩, by simp⟩
/-- a local cell is written -/
theorem Ex.put {S S' : Sto} {i j : Nat} {o : Ob} (h : Ex S S' i) (hj : S.length ≤ j) (hi : i < S.length) (ho : ∀ n, o.below n = true) : Ex S (S'.set j o) i := by
  refine ⟨by simpa using h.len, ⟨cl_set h.jg.cl ho, ?_⟩, fun k hk hki => by rw [List.getElem?_set_ne (by omega)]; exact h.oth k hk hki⟩
  obtain ⟨a, b, c, e⟩ := h.jg.at_
  exact ⟨a, b, c, by rw [List.getElem?_set_ne (by omega)]; exact e⟩
theorem Ex.add {S S' : Sto} {i : Nat} {o : Ob} (h : Ex S S' i) (ho : ∀ n, o.below n = true) : Ex S (S' ++ [o]) i := by
  have hi := h.jg.lt
  refine ⟨by simp; have := h.len; omega, ⟨cl_app h.jg.cl ho, ?_⟩, fun k hk hki => by rw [List.getElem?_append_left (by have := h.len; omega)]; exact h.oth k hk hki⟩
  obtain ⟨a, b, c, e⟩ := h.jg.at_
  exact ⟨a, b, c, by rw [List.getElem?_append_left hi]; exact e⟩
theorem rd_ref {S : Sto} {i : Nat} {l : List D} (h : S[i]? = some (.lst l)) : rdOf (.ref i) S = some l := by simp [rdOf, lstOf, h]
theorem ls_ref {S : Sto} {i : Nat} {l : List D} (h : S[i]? = some (.lst l)) : lstOf (.ref i) S = some l := by simp [lstOf, h]
theorem ix_ref {S : Sto} {i : Nat} {l : List D} (h : S[i]? = some (.lst l)) (k : Nat) : fIx (.ref i) (.int (k : Int)) S = l[k]? := by
  have : fIx (.ref i) (.int (k : Int)) S = (rdOf (.ref i) S).bind fun l => L2.atI l (k : Int) := rfl
  rw [this, rd_ref h]
  exact at_k l k
theorem ix_lst (l : List D) (k : Nat) (S : Sto) : fIx (.lst l) (.int (k : Int)) S = l[k]? := at_k l k
theorem set_ref {S : Sto} {i : Nat} {l : List D} (h : S[i]? = some (.lst l)) {k : Nat} (hk : k < l.length) (d : D) : fSet (.ref i) (.int (k : Int)) d S = some (S.set i (.lst (l.set k d))) := by
  have e : L2.ixN l.length (k : Int) = some k := by
    unfold L2.ixN
    rw [if_pos (by omega), if_pos (by omega)]; simp
  simp [fSet, h, e]
theorem set_get {S : Sto} {i : Nat} {x o : Ob} (h : S[i]? = some x) : (S.set i o)[i]? = some o := by
  have := (List.getElem?_eq_some_iff.mp h).1
  simp [this]
theorem f_scop {f : List D → Sto → Res D} {ds : List D} {S : Sto} {P : D → Sto → Prop} (h : (f ds S).sat fun d S' => ((S'.take S.length).all (Ob.below S.length)) = true ∧ osat (frzD S.length S' d) fun d' => P d' (S'.take S.length)) : (scop f ds S).sat P := by
  obtain ⟨d, S', q, h1, h2⟩ := h.eq
  unfold scop
  rw [q]
  simp only [cutR, h1, if_true]
  cases q2 : frzD S.length S' d with
  | none => rw [q2, os_none] at h2; exact h2.elim
  | some d' => rw [q2, os_some] at h2; exact r_ok.mpr h2
theorem frzF_nr {n : Nat} {S : Sto} {d : D} (h : Nr d) (f : Nat) : frzF n S f d = some d := by
  have hb := h n
  cases f with
  | zero => cases d <;> exact (if_pos hb : (if below n _ = true then some _ else none) = some _)
  | succ f =>
    cases d with
    | ref i => exact absurd (h 0) (by simp [below])
    | _ => exact (if_pos hb : (if below n _ = true then some _ else none) = some _)
theorem frz_nr {n : Nat} {S : Sto} {d : D} (h : Nr d) : frzD n S d = some d := frzF_nr h 3
theorem optAll_nr {n : Nat} {S : Sto} {f : Nat} : ∀ {l : List D}, (∀ d ∈ l, Nr d) → optAll (frzF n S f) l = some l
  | [], _ => rfl
  | d :: l, h => by
    have ih : optAll (frzF n S f) l = some l := optAll_nr fun c hc => h c (List.mem_cons_of_mem _ hc)
    simp only [optAll, frzF_nr (h d List.mem_cons_self), ih]
    rfl
theorem frz_cell {n i : Nat} {S : Sto} {l : List D} (hi : n ≤ i) (h : S[i]? = some (.lst l)) (hl : ∀ d ∈ l, Nr d) : frzD n S (.ref i) = some (.lst l) := by
  simp only [frzD, frzF, if_neg (Nat.not_lt.mpr hi), h, optAll_nr hl]
  rfl
/-- the end of a def with cells of its own -/
theorem scop_ok {f : List D → Sto → Res D} {ds : List D} {S : Sto} {i : Nat} {P : D → Prop} (hi : i < S.length) (h : (f ds S).sat fun d S' => P d ∧ Nr d ∧ Ex S S' i) : (scop f ds S).sat fun d S' => P d ∧ Lk S S' i := by
  refine f_scop (h.mono fun d S' ⟨h1, h2, h3⟩ => ?_)
  refine ⟨cl_all (h3.cut hi).jg.cl _, ?_⟩
  rw [frz_nr h2, os_some]
  exact ⟨h1, h3.cut hi⟩
theorem sum_ref {S : Sto} {n : Nat} {r : List Int} (h : S[n]? = some (.lst (r.map .int))) : gSum (.ref n) S = some (.int r.sum) := by
  have : gSum (.ref n) S = ((rdOf (.ref n) S).bind isInts).map fun ns => .int ns.sum := rfl
  rw [this, rd_ref h]
  simp [ints_map]
theorem tup_ref {S : Sto} {n : Nat} {l : List D} (h : S[n]? = some (.lst l)) : f1 gTup [.ref n] S = some (.tup l) := by
  have : f1 gTup [.ref n] S = (rdOf (.ref n) S).map fun l => .tup l := rfl
  rw [this, rd_ref h]; rfl
theorem range_len (n : Nat) : ((List.range n).map fun k => D.int (0 + (k : Nat))).length = n := by simp
def pool : List Str := ["ann", "bob", "cyd", "d2", "e", "z9999999", "abe", "x"]
theorem pool_ok : ∀ h ∈ pool, PyData.strOk h = true := by
  intro h hh
  simp only [pool, List.mem_cons, List.not_mem_nil, or_false] at hh
  rcases hh with rfl | rfl | rfl | rfl | rfl | rfl | rfl | rfl <;> decide +kernel
theorem pool_nd : pool.Nodup := by decide +kernel
theorem len_ref {S : Sto} {n : Nat} {l : List D} (h : S[n]? = some (.lst l)) : gLen (.ref n) S = some (.int l.length) := by
  have : gLen (.ref n) S = (rdOf (.ref n) S).map fun l => .int l.length := rfl
  rw [this, rd_ref h]; rfl
theorem ok_ref {S : Sto} {n : Nat} {l : List D} (h : S[n]? = some (.lst l)) : okLst (.ref n) S = true := by unfold okLst; rw [ls_ref h]; rfl
theorem pop_ref {S : Sto} {n : Nat} {l : List D} (h : S[n]? = some (.lst l)) {k : Nat} {d : D} (hk : l[k]? = some d) : fPopAt (.ref n) [.int (k : Int)] S = some (d, S.set n (.lst (l.eraseIdx k))) := by
  have hl := (List.getElem?_eq_some_iff.mp hk).1
  have e : L2.ixN l.length (k : Int) = some k := by
    unfold L2.ixN
    rw [if_pos (by omega), if_pos (by omega)]; simp
  simp [fPopAt, h, e, hk]
theorem app_ref {S : Sto} {n : Nat} {l : List D} (h : S[n]? = some (.lst l)) (hl : l.length < lineN) (d : D) : fAppend (.ref n) [d] S = some (.non, S.set n (.lst (l ++ [d]))) := by
  simp [fAppend, h, hl]
theorem erase_map {α β : Type} (f : α → β) : ∀ (l : List α) (k : Nat), (l.map f).eraseIdx k = (l.eraseIdx k).map f
  | [], _ => by simp
  | x :: l, 0 => by simp
  | x :: l, k + 1 => by simp [erase_map f l k]
theorem erase_perm {α : Type} : ∀ {l : List α} {k : Nat} (h : k < l.length), (l[k] :: l.eraseIdx k).Perm l
  | x :: l, 0, h => by simp
  | x :: l, k + 1, h => by
    simp only [List.getElem_cons_succ, List.eraseIdx_cons_succ]
    have := erase_perm (l := l) (k := k) (by simpa using h)
    exact (List.Perm.swap x _ _).trans (this.cons x)
theorem shown_int {i : Int} {k : Nat} (hk : 0 < k) (h : i.natAbs < 2 ^ k) : (PyData.shown (.int i)).length ≤ k + 1 := by
  have p : (2 : Nat) ^ k ≤ 10 ^ k := Nat.pow_le_pow_left (by decide) k
  cases i with
  | ofNat n =>
    simp only [PyData.shown]
    have := PyProof.Rows.toString_length_le (v := (n : Int)) (by omega) hk (by
      have h2 : n < 10 ^ k := Nat.lt_of_lt_of_le (by simpa using h) p
      exact_mod_cast h2)
    exact Nat.le_succ_of_le this
  | negSucc n =>
    simp only [PyData.shown]
    have := PyProof.Rows.toString_length_le (v := ((n + 1 : Nat) : Int)) (by omega) hk (by
      have h2 : n + 1 < 10 ^ k := Nat.lt_of_lt_of_le (by simpa using h) p
      exact_mod_cast h2)
    rw [PyProof.Rows.ofString_length] at this ⊢
    have e : (toString (Int.negSucc n)).toList.length = (toString ((n + 1 : Nat) : Int)).toList.length + 1 := by
      show ("-" ++ toString (n + 1)).toList.length = (toString (n + 1)).toList.length + 1
      rw [String.toList_append]
      simp
    omega
theorem tuple_len (ts : List Str) {B : Nat} (h : ∀ t ∈ ts, t.length ≤ B) : (tupleText ts).length ≤ 3 + (B + 2) * ts.length := by
  unfold tupleText
  rw [strLen_append, strLen_append]
  have e1 : ((("(" : String) : Str)).length = 1 := rfl
  have e3 : (((if ts.length == 1 then ",)" else ")" : String) : Str)).length ≤ 2 := by split <;> decide
  have pl : piled ts ≤ (B + 2) * ts.length := by
    clear e3
    induction ts with
    | nil => simp [piled]
    | cons t ts ih =>
      rw [piled_cons, List.length_cons, Nat.mul_add]
      have h1 := ih fun x hx => h x (by simp [hx])
      have h2 := h t (by simp)
      omega
  by_cases h0 : ts = []
  · subst h0
    have : (Str.join ", " []).length = 0 := rfl
    omega
  · have := join_length_add ts h0
    omega
theorem add_int (i j : Int) (S : Sto) : fAdd (.int i) (.int j) S = some (.int (i + j)) := rfl
theorem len_scr (l : List D) (S : Sto) : gLen (.scr l) S = some (.int l.length) := rfl
theorem ix_scr (l : List D) (k : Nat) (S : Sto) : fIx (.scr l) (.int (k : Int)) S = l[k]? := at_k l k
theorem cut_6 (l : List D) : cutD l none (some 6) = l.take 6 := cut_take l 6
def sumTo : Nat → (Nat → Rat) → Rat
  | 0, _ => 0
  | n + 1, f => sumTo n f + f n
def atR (v : List Rat) (k : Nat) : Rat := v.getD k 0
structure Few (xs : List Rat) (M B a : Nat) : Prop where
  m0 : 0 < M
  ma : M < 2 ^ a
  ba : xs.length * B < 2 ^ a
  rp : ∀ x ∈ xs, Rp M B x
  a0 : 0 < a
  a4 : a ≤ 4000
theorem Few.part {xs : List Rat} {M B a : Nat} (h : Few xs M B a) : ∀ k, k ≤ xs.length → Rp M (k * B) (sumTo k (atR xs))
  | 0, _ => by simpa [sumTo] using Rp.zero
  | k + 1, hk => by
    have h1 : xs[k]? = some xs[k] := List.getElem?_eq_getElem (by omega)
    have ih := h.part k (by omega)
    have := Rp.add h.m0 ih (h.rp _ (List.mem_of_getElem? h1))
    simp only [sumTo]
    rw [show atR xs k = xs[k] by simp [atR, List.getD, h1], Nat.succ_mul]
    exact this/-! ### loops over a typed list -/
section
variable {P : D → Sto → Prop} {PL : List D → Sto → Prop} {PB : Bool → Sto → Prop} {N : En → Sto → Prop} {R : D → Sto → Prop} {en : En} {S : Sto} {me : EM} {t : BM}
theorem for_T {α : Type} {xs : List α} {e : α → D} {it : ItD} {gm : GM} {b : SM} (hl : LIt it (xs.map e)) (I : Nat → En → Sto → Prop) (h0 : I 0 en S) (step : ∀ k x en S, xs[k]? = some x → x ∈ xs → I k en S → (gm (e x) en S).sat fun en1 S1 => (b en1 S1).sat (I (k + 1)) R) (fin : ∀ en S, I xs.length en S → N en S) :
    (forM it.nxt gm b it.n 0 en S).sat N R := by
  refine for_inv hl I (fun k d en S hd i => ?_) (fun en S i => fin en S (by simpa using i)) h0
  obtain ⟨a, hm, ha, rfl⟩ := map_get hd
  exact step k a en S ha hm i
theorem lc_T {α : Type} {xs : List α} {e : α → D} {it : ItD} {gm : GM} (hl : LIt it (xs.map e)) (I : Nat → List D → Sto → Prop) (h0 : I 0 [] S) (step : ∀ k x acc S, xs[k]? = some x → x ∈ xs → I k acc S → (gm (e x) en S).sat fun en1 S1 => (t en1 S1).sat fun c S2 => if c = true then (me en1 S2).sat fun y S3 => acc.length < lineN ∧ I (k + 1) (acc ++ [y]) S3 else I (k + 1) acc S2)
    (fin : ∀ acc S, I xs.length acc S → PL acc S) : (lcM it.nxt gm t me en it.n 0 [] S).sat PL := by
  refine lc_inv hl I (fun k d acc S hd i => ?_) (fun acc S i => fin acc S (by simpa using i)) h0
  obtain ⟨a, hm, ha, rfl⟩ := map_get hd
  exact step k a acc S ha hm i
end
theorem li_rg0 (n : Nat) : LIt (rgIt 0 n) ((List.range n).map fun (k : Nat) => .int (k : Int)) := by
  have h := li_rg 0 n
  have e : ((List.range n).map fun (k : Nat) => D.int (0 + (k : Nat))) = ((List.range n).map fun (k : Nat) => .int (k : Int)) := List.map_congr_left fun k _ => by simp
  rw [e] at h
  exact h
/-! a def with cells of its own that leaves the store -/
theorem scop_pure {f : List D → Sto → Res D} {ds : List D} {S : Sto} {v : D} (hS : Cl S) (h : (f ds S).sat fun d S' => d = v ∧ Nr d ∧ S'.take S.length = S) : scop f ds S = .ok v S := by
  refine sat_eq (f_scop (h.mono fun d S' ⟨h1, h2, h3⟩ => ?_))
  rw [h3]
  refine ⟨cl_all hS _, ?_⟩
  rw [frz_nr h2, os_some]
  exact ⟨h1, rfl⟩
theorem cl_end {S : Sto} {l : List D} (h : Cl S) (hl : ∀ d ∈ l, Nr d) : Cl (S ++ [.lst l]) := cl_app h (bel_lst hl)
section
variable {PL : List D → Sto → Prop} {N : En → Sto → Prop} {R : D → Sto → Prop} {en : En} {S : Sto} {me : EM} {t : BM} {gm : GM}
end
end Ag

namespace Ag
open PySem
section
variable (S : Sto)
theorem b_bl (b : Bool) : bOf (.bl b) = some b := rfl
theorem it_tup (l : List D) : itOf (.tup l) S = some (lsIt l) := rfl
theorem it_lst (l : List D) : itOf (.lst l) S = some (lsIt l) := rfl
theorem it_scr (l : List D) : itOf (.scr l) S = some (lsIt l) := rfl
theorem it_word (p : List Nat) : itOf (wordD p) S = some (lsIt (p.map fun (k : Nat) => .int (k : Int))) := rfl
theorem it_row (p : List Int) : itOf (rowD p) S = some (lsIt (p.map .int)) := rfl
theorem it_way (p : List (List Int)) : itOf (wayD p) S = some (lsIt (p.map rowD)) := rfl
theorem sq_tup (l : List D) : seqOf (.tup l) S = some l := rfl
theorem sq_lst (l : List D) : seqOf (.lst l) S = some l := rfl
theorem n_tup (l : List D) : gLen (.tup l) S = some (.int l.length) := rfl
theorem n_lst (l : List D) : gLen (.lst l) S = some (.int l.length) := rfl
theorem n_scr (l : List D) : gLen (.scr l) S = some (.int l.length) := rfl
theorem n_word (p : List Nat) : gLen (wordD p) S = some (.int p.length) := by show some (D.int (List.length _)) = _; rw [List.length_map]
theorem n_row (p : List Int) : gLen (rowD p) S = some (.int p.length) := by show some (D.int (List.length _)) = _; rw [List.length_map]
theorem n_way (p : List (List Int)) : gLen (wayD p) S = some (.int p.length) := by show some (D.int (List.length _)) = _; rw [List.length_map]
theorem i_int (i : Int) : intD (.int i) = some i := rfl
theorem sl_tup (l : List D) (a b : Option Int) : fSl (.tup l) a b S = some (.tup (cutD l a b)) := rfl
theorem sl_lst (l : List D) (a b : Option Int) : fSl (.lst l) a b S = some (.lst (cutD l a b)) := rfl
theorem c_int (p : Int → Int → Bool) (i j : Int) : cmpI p (.int i) (.int j) S = some (.bl (p i j)) := rfl
theorem en_tup (l : List D) : en1 [.tup l] S = some (enIt l) := rfl
theorem en_lst (l : List D) : en1 [.lst l] S = some (enIt l) := rfl
theorem zp_tup (l r : List D) : zp2 [.tup l, .tup r] S = some (zpIt l r) := rfl
theorem zp_mix (l r : List D) : zp2 [.tup l, .lst r] S = some (zpIt l r) := rfl
theorem zp_lst (l r : List D) : zp2 [.lst l, .lst r] S = some (zpIt l r) := rfl
theorem f_1 (g : D → Sto → Option D) (d : D) : f1 g [d] S = g d S := rfl
theorem m_yes (en : En) : mYes en S = .ok true S := rfl
theorem w_0 (en : En) : wipeE en [] = en := rfl
theorem w_s (en : En) (i : Nat) (l : List Nat) : wipeE en (i :: l) = (wipeE en l).set i none := rfl
theorem bind_s {α β : Type} (a : α) (f : α → Option β) : (some a).bind f = f a := rfl
theorem a_int (i j : Int) : fAdd (.int i) (.int j) S = some (.int (i + j)) := rfl
theorem s_int (i j : Int) : fSub (.int i) (.int j) S = some (.int (i - j)) := rfl
theorem g_ii (i : Int) : gInt (.int i) S = some (.int i) := rfl
theorem g_ib (b : Bool) : gInt (.bl b) S = some (.int (if b then 1 else 0)) := rfl
theorem is_non (d : D) : fIs d .non S = some (.bl (isNon d)) := by cases d <;> rfl
theorem isnt_non (d : D) : fIsNot d .non S = some (.bl (!isNon d)) := by cases d <;> rfl
end
theorem t_lst (l : List D) (S : Sto) : gTup (.lst l) S = some (.tup l) := rfl
theorem t_tup (l : List D) (S : Sto) : gTup (.tup l) S = some (.tup l) := rfl
/-! ### texts of data: sizes -/
structure Rb (k B : Nat) (d : D) : Prop where
  ex : ∃ p, d.py = some p ∧ p.showable = true ∧ p.hasDict = false ∧ p.depth ≤ k ∧ (PyData.shown p).length ≤ B
theorem Rb.up {k B k' B' : Nat} {d : D} (h : Rb k B d) (hk : k ≤ k') (hB : B ≤ B') : Rb k' B' d := by
  obtain ⟨p, a, b, c, e, f⟩ := h.ex
  exact ⟨p, a, b, c, by omega, by omega⟩
theorem rb_int {i : Int} {k : Nat} (hk : 0 < k) (h : i.natAbs < 2 ^ k) (h9 : k ≤ 1920) : Rb 0 (k + 1) (.int i) := by
  refine ⟨.int i, rfl, ?_, rfl, by simp [PyData.depth], shown_int hk h⟩
  have g1 := log2_lt h hk
  simp only [PyData.showable, decide_eq_true_eq]
  omega
theorem rb_all {k B : Nat} : ∀ {l : List D}, (∀ d ∈ l, Rb k B d) → ∃ ps, D.pys l = some ps ∧ PyData.showableAll ps = true ∧ PyData.hasDictAll ps = false ∧ PyData.depthAll ps ≤ k ∧ (PyData.shownAll ps).length = l.length ∧ ∀ t ∈ PyData.shownAll ps, t.length ≤ B
  | [], _ => ⟨[], rfl, rfl, rfl, by simp [PyData.depthAll], by simp [PyData.shownAll], by simp [PyData.shownAll]⟩
  | d :: l, h => by
    obtain ⟨p, a, b, c, e, f⟩ := (h d (by simp)).ex
    obtain ⟨ps, a2, b2, c2, e2, f2, g2⟩ := rb_all (l := l) fun c hc => h c (by simp [hc])
    refine ⟨p :: ps, by simp only [D.pys, a, a2], by simp [PyData.showableAll, b, b2], by simp [PyData.hasDictAll, c, c2], by simp only [PyData.depthAll]; omega, by simp [PyData.shownAll, f2], fun t ht => ?_⟩
    simp only [PyData.shownAll, List.mem_cons] at ht
    rcases ht with rfl | ht
    · exact f
    · exact g2 t ht
theorem rb_tup {k B n : Nat} {l : List D} (h : ∀ d ∈ l, Rb k B d) (hn : l.length ≤ n) : Rb (k + 1) (3 + (B + 2) * n) (.tup l) := by
  obtain ⟨ps, a, b, c, e, f, g⟩ := rb_all h
  refine ⟨.tuple ps, by simp only [D.py, a, Option.map_some], by simp only [PyData.showable, b], by simp only [PyData.hasDict, c], by simp only [PyData.depth]; omega, ?_⟩
  simp only [PyData.shown]
  refine Nat.le_trans (tuple_len _ g) ?_
  rw [f]
  exact Nat.add_le_add_left (Nat.mul_le_mul_left _ hn) _
/-! ### tables of shares -/
end Ag

/-! ### t[::-1] -/
namespace HT
open PySem PySem.Spec PyProof.Rows L2
section
variable {prog : Program} {w : World} {A : Around} {E : Value → Shared → Prop} {s : Shared}
end
end HT
namespace Ag
open PySem PySem.Spec PyProof.Rows L2
section
variable {X : Cx}
theorem PE.or {e : Expr} {t1 t2 : TE} (h1 : PE X e t1) (h2 : PE X e t2) : PE X e fun σ H Q => t1 σ H Q ∨ t2 σ H Q := ⟨fun pins s σ H Q I h => h.elim (h1.run pins s σ H Q I) (h2.run pins s σ H Q I)⟩
def fRev : D → Sto → Option D
  | .tup l, _ => some (.tup l.reverse)
  | d, S => (lstOf d S).map fun l => .lst l.reverse
variable {W : WX} {e : Expr} {ma : EM}
end
theorem rv_tup (l : List D) (S : Sto) : fRev (.tup l) S = some (.tup l.reverse) := rfl
theorem rv_lst (l : List D) (S : Sto) : fRev (.lst l) S = some (.lst l.reverse) := rfl
/-! ### methods of built-in things, by what is known of the type -/
section
variable {X : Cx} {W : WX}
/-! list.index: the first equal one -/
def posBy (p : PyData) : List PyData → Option Nat
  | [] => none
  | y :: ys => if PyData.eqv y p = true then some 0 else (posBy p ys).map (· + 1)
end
end Ag

namespace Ag
open PySem PySem.Spec PyProof.Rows L2
/-! ### x += e, x *= e of whole numbers -/
section
variable {X : Cx} {W : WX} {e : Expr} {me : EM} {pos pos' : Pos}
end
/-! ### tuple(range(..)), list(range(..)) -/
section
variable {X : Cx} {W : WX} {e e2 : Expr} {ma mb : EM} {p p2 pos pos2 : Pos}
end
/-! ### comprehensions with two clauses -/
def lc2M (nxt : Nxt) (g : GM) (t : BM) (mi1 : IM) (vs1 : List Nat) (g1 : GM) (t1 : BM) (e : EM) (en : En) : Nat → Nat → List D → Sto → Res (List D)
  | 0, k, acc, S => match nxt k S with
    | some none => .ok acc S
    | _ => .stuck
  | f + 1, k, acc, S => match nxt k S with
    | none => .stuck
    | some none => .ok acc S
    | some (some d) => match g d en S with
      | .ok en1 S1 => (match t en1 S1 with
        | .ok b S2 => if b = true then (match mi1 en1 S2 with
            | .ok it1 S3 => (match lcM it1.nxt g1 t1 e (wipeE en1 vs1) it1.n 0 acc S3 with
              | .ok acc' S4 => lc2M nxt g t mi1 vs1 g1 t1 e en f (k + 1) acc' S4
              | _ => .stuck)
            | _ => .stuck) else lc2M nxt g t mi1 vs1 g1 t1 e en f (k + 1) acc S2
        | _ => .stuck)
      | _ => .stuck
def mLc2 (mi : IM) (vs : List Nat) (g : GM) (t : BM) (mi1 : IM) (vs1 : List Nat) (g1 : GM) (t1 : BM) (e : EM) : EM := fun en S => (mi en S).bind fun it S1 => match lc2M it.nxt g t mi1 vs1 g1 t1 e (wipeE en vs) it.n 0 [] S1 with
  | .ok l S2 => .ok (.lst l) S2
  | _ => .stuck
section
variable {X : Cx} {W : WX}
end
end Ag

namespace Ag
open PySem
section
variable {P : D → Sto → Prop} {PL : List D → Sto → Prop} {en : En} {S : Sto} {me : EM} {t t1 : BM} {gm g1 : GM} {mi mi1 : IM} {vs vs1 : List Nat}
theorem q_lc2 : (mLc2 mi vs gm t mi1 vs1 g1 t1 me en S).sat P ↔ (mi en S).sat fun it S1 => (lc2M it.nxt gm t mi1 vs1 g1 t1 me (wipeE en vs) it.n 0 [] S1).sat fun l S2 => P (.lst l) S2 := by
  unfold mLc2
  rw [r_bind]
  refine iff_of_eq (congrArg _ (funext fun it => funext fun S1 => ?_))
  cases lc2M it.nxt gm t mi1 vs1 g1 t1 me (wipeE en vs) it.n 0 [] S1 <;> simp only [r_ok, r_exc, r_stuck]
end
end Ag

namespace Ag
open PySem
/-! ### lists of indexes -/
/-! ### sums above 0 -/
/-! ### the minds with a share above 0 -/
end Ag

namespace Ag
open PySem
/-! ### all words -/
/-! ### thoughts compared -/
/-! ### words in tuples of words -/
def wordP (p : List Nat) : PyData := .tuple (p.map fun (k : Nat) => .int (k : Int))
theorem nr_bl (b : Bool) : Nr (.bl b) := fun _ => rfl
/-! ### one statement at a time -/
@[irreducible] def Later (s : SM) (en : En) (S : Sto) (N : En → Sto → Prop) (R : D → Sto → Prop) : Prop := (s en S).sat N R
section
variable {s s1 s2 : SM} {en : En} {S : Sto} {N : En → Sto → Prop} {R : D → Sto → Prop}
theorem later_eq : Later s en S N R ↔ (s en S).sat N R := by unfold Later; exact Iff.rfl
theorem p_seqL : (sSeq s1 s2 en S).sat N R ↔ (s1 en S).sat (fun en S => Later s2 en S N R) R := by
  rw [p_seq]
  simp only [later_eq]
end
end Ag

namespace Ag
open PySem
/-! ### a well of draws: its third number counts, with b draws left -/
structure Wl (S : Sto) (i b : Nat) : Prop where
  cl : Cl S
  at_ : ∃ (x y : Int) (z : Nat), S[i]? = some (.lst [.int x, .int y, .int (z : Int)]) ∧ z + b ≤ 2 ^ 50
/-- what was there stands, but for the well; new cells may name new cells -/
structure Wx (S S' : Sto) (i b : Nat) : Prop where
  len : S.length ≤ S'.length
  at_ : ∃ (x y : Int) (z : Nat), S'[i]? = some (.lst [.int x, .int y, .int (z : Int)]) ∧ z + b ≤ 2 ^ 50
  old : ∀ o ∈ S'.take S.length, ∀ n, o.below n = true
  oth : ∀ j, j < S.length → j ≠ i → S'[j]? = S[j]?
structure Wk (S S' : Sto) (i b : Nat) : Prop where
  wl : Wl S' i b
  same : S'.length = S.length
  oth : ∀ j, j < S.length → j ≠ i → S'[j]? = S[j]?
theorem Wl.lt {S : Sto} {i b : Nat} (h : Wl S i b) : i < S.length := by
  obtain ⟨x, y, z, e, _⟩ := h.at_
  exact (List.getElem?_eq_some_iff.mp e).1
theorem Wl.mono {S : Sto} {i b b' : Nat} (h : Wl S i b) (hb : b' ≤ b) : Wl S i b' := by
  obtain ⟨x, y, z, e, k⟩ := h.at_
  exact ⟨h.cl, x, y, z, e, by omega⟩
theorem Wk.mono {S S' : Sto} {i b b' : Nat} (h : Wk S S' i b) (hb : b' ≤ b) : Wk S S' i b' := ⟨h.wl.mono hb, h.same, h.oth⟩
theorem Wx.mono {S S' : Sto} {i b b' : Nat} (h : Wx S S' i b) (hb : b' ≤ b) : Wx S S' i b' := by
  obtain ⟨x, y, z, e, k⟩ := h.at_
  exact ⟨h.len, ⟨x, y, z, e, by omega⟩, h.old, h.oth⟩
theorem Wk.refl {S : Sto} {i b : Nat} (h : Wl S i b) : Wk S S i b := ⟨h, rfl, fun _ _ _ => rfl⟩
theorem Wk.trans {S S1 S2 : Sto} {i b c : Nat} (h : Wk S S1 i b) (g : Wk S1 S2 i c) : Wk S S2 i c := ⟨g.wl, g.same.trans h.same, fun j hj hi => by rw [g.oth j (by rw [h.same]; exact hj) hi, h.oth j hj hi]⟩
theorem Wk.wx {S S' : Sto} {i b : Nat} (h : Wk S S' i b) : Wx S S' i b := ⟨Nat.le_of_eq h.same.symm, h.wl.at_, fun o ho => h.wl.cl o (List.mem_of_mem_take ho), h.oth⟩
theorem Wx.refl {S : Sto} {i b : Nat} (h : Wl S i b) : Wx S S i b := (Wk.refl h).wx
theorem Wx.cut {S S' : Sto} {i b : Nat} (h : Wx S S' i b) (hi : i < S.length) : Wk S (S'.take S.length) i b := by
  have hl : (S'.take S.length).length = S.length := by rw [List.length_take]; have := h.len; omega
  obtain ⟨x, y, z, e, k⟩ := h.at_
  refine ⟨⟨fun o ho => h.old o ho, x, y, z, by rw [List.getElem?_take_of_lt hi]; exact e, k⟩, hl, fun j hj hji => by rw [List.getElem?_take_of_lt hj]; exact h.oth j hj hji⟩
/-- the end of a def with cells of its own -/
theorem scopW {f : List D → Sto → Res D} {ds : List D} {S : Sto} {i b : Nat} {P : D → Prop} (hi : i < S.length) (h : (f ds S).sat fun d S' => P d ∧ Nr d ∧ Wx S S' i b) : (scop f ds S).sat fun d S' => P d ∧ Wk S S' i b := by
  refine f_scop (h.mono fun d S' ⟨h1, h2, h3⟩ => ?_)
  refine ⟨cl_all (h3.cut hi).wl.cl _, ?_⟩
  rw [frz_nr h2, os_some]
  exact ⟨h1, h3.cut hi⟩
/-- the well, read within a store that has grown -/
structure Wg (S : Sto) (i b : Nat) : Prop where
  at_ : ∃ (x y : Int) (z : Nat), S[i]? = some (.lst [.int x, .int y, .int (z : Int)]) ∧ z + b ≤ 2 ^ 50
/-- only the well was written -/
structure Wo (S S' : Sto) (i b : Nat) : Prop where
  wg : Wg S' i b
  same : S'.length = S.length
  oth : ∀ j, j ≠ i → S'[j]? = S[j]?
theorem Wl.wg {S : Sto} {i b : Nat} (h : Wl S i b) : Wg S i b := ⟨h.at_⟩
theorem Wx.wg {S S' : Sto} {i b : Nat} (h : Wx S S' i b) : Wg S' i b := ⟨h.at_⟩
theorem Wo.wk {S S' : Sto} {i b c : Nat} (h : Wo S S' i b) (w : Wl S i c) : Wk S S' i b := by
  obtain ⟨x, y, z, e, k⟩ := h.wg.at_
  refine ⟨⟨fun o ho n => ?_, x, y, z, e, k⟩, h.same, fun j _ hi => h.oth j hi⟩
  obtain ⟨j, hj, rfl⟩ := List.mem_iff_getElem.mp ho
  have ej : S'[j]? = some S'[j] := List.getElem?_eq_getElem hj
  by_cases hji : j = i
  · subst hji
    rw [e] at ej
    have ej := Option.some.inj ej
    rw [← ej]
    exact bel_lst (fun d hd => by
      simp only [List.mem_cons, List.not_mem_nil, or_false] at hd
      rcases hd with rfl | rfl | rfl <;> exact nr_int _) n
  · rw [h.oth j hji] at ej
    exact w.cl _ (List.mem_of_getElem? ej) n
theorem Wo.trans {S S1 S2 : Sto} {i b c : Nat} (h : Wo S S1 i b) (g : Wo S1 S2 i c) : Wo S S2 i c := ⟨g.wg, g.same.trans h.same, fun j hi => by rw [g.oth j hi, h.oth j hi]⟩
theorem Wo.refl {S : Sto} {i b : Nat} (h : Wg S i b) : Wo S S i b := ⟨h, rfl, fun _ _ => rfl⟩
theorem Wg.mono {S : Sto} {i b b' : Nat} (h : Wg S i b) (hb : b' ≤ b) : Wg S i b' := by
  obtain ⟨x, y, z, e, k⟩ := h.at_
  exact ⟨x, y, z, e, by omega⟩
theorem Wo.mono {S S' : Sto} {i b b' : Nat} (h : Wo S S' i b) (hb : b' ≤ b) : Wo S S' i b' := ⟨h.wg.mono hb, h.same, h.oth⟩
theorem Wx.wo {S S1 S2 : Sto} {i b c : Nat} (h : Wx S S1 i b) (g : Wo S1 S2 i c) (hi : i < S.length) : Wx S S2 i c := by
  refine ⟨by rw [g.same]; exact h.len, g.wg.at_, fun o ho n => ?_, fun j hj hji => by rw [g.oth j hji]; exact h.oth j hj hji⟩
  obtain ⟨j, hj, rfl⟩ := List.mem_iff_getElem.mp ho
  rw [List.length_take] at hj
  rw [List.getElem_take]
  have ej : S2[j]? = some (S2[j]'(by omega)) := List.getElem?_eq_getElem (by omega)
  by_cases hji : j = i
  · subst hji
    obtain ⟨x, y, z, e, k⟩ := g.wg.at_
    rw [e] at ej
    have ej := Option.some.inj ej
    rw [← ej]
    exact bel_lst (fun d hd => by
      simp only [List.mem_cons, List.not_mem_nil, or_false] at hd
      rcases hd with rfl | rfl | rfl <;> exact nr_int _) n
  · rw [g.oth j hji] at ej
    have hj' : j < S.length := by omega
    refine h.old _ (List.mem_of_getElem? (i := j) ?_) n
    rw [List.getElem?_take_of_lt hj']
    exact ej
/-- a cell of one's own is written -/
theorem Wx.put {S S' : Sto} {i b j : Nat} {o : Ob} (h : Wx S S' i b) (hj : S.length ≤ j) (hi : i < S.length) : Wx S (S'.set j o) i b := by
  obtain ⟨x, y, z, e, k⟩ := h.at_
  refine ⟨by simpa using h.len, ⟨x, y, z, by rw [List.getElem?_set_ne (by omega)]; exact e, k⟩, fun o' ho n => ?_, fun k hk hki => by rw [List.getElem?_set_ne (by omega)]; exact h.oth k hk hki⟩
  rw [List.take_set_of_le hj] at ho
  exact h.old o' ho n
theorem Wx.add {S S' : Sto} {i b : Nat} {o : Ob} (h : Wx S S' i b) : Wx S (S' ++ [o]) i b := by
  obtain ⟨x, y, z, e, k⟩ := h.at_
  have hi := (List.getElem?_eq_some_iff.mp e).1
  refine ⟨by simp; have := h.len; omega, ⟨x, y, z, by rw [List.getElem?_append_left hi]; exact e, k⟩, fun o' ho n => ?_, fun k hk hki => by rw [List.getElem?_append_left (by have := h.len; omega)]; exact h.oth k hk hki⟩
  rw [List.take_append_of_le_length h.len] at ho
  exact h.old o' ho n
theorem Wx.get {S S1 S2 : Sto} {i b : Nat} {j : Nat} {o : Ob} (g : Wo S1 S2 i b) (hj : j ≠ i) (h : S1[j]? = some o) : S2[j]? = some o := by rw [g.oth j hj]; exact h
end Ag

namespace Ag
open PySem
/-! ### what is left -/
/-! ### the greatest of all pairs, the first of these -/
/-! ### of shares -/
end Ag

namespace Ag
open PySem PySem.Spec PyProof.Rows L2
/-! ### a method's call by keywords -/
section
variable {X : Cx} {W : WX} {e o : Expr} {pos p apos : Pos} {mr : AM} {k n j : Nat} {f : Addr} {fd : FuncData} {ps : List Str} {fm : List D → Sto → Res D} {ma : EM} {c : Str}
theorem kwb_ofM {K : PySem.W.Frag} {x qual : Str} {params : Arguments} {body : List Stmt} {scope : Scope} {f : Addr} {fd : FuncData} {ps : List Str} (F : FunD K x qual params body scope [] [] f fd) (ks : List Str) (ix : List Nat)
    (h : ∀ (v kV doc pm : Value) (an : Option Addr) (cdv ct : Value) (ws : List Value), ws.length = ks.length → bindArgs (PySem.W.fnOf x qual params body scope .none kV doc pm an cdv ct) ⟨[v], ks.zip ws⟩ = pure (ps.zip (v :: pick ix ws))) : ∀ v, KwB K fd ps ks ix (v :: ·) := by
  obtain ⟨oc, od, dV, kV, doc, pm, an, cdv, ct, osl, rfl, lk, hcd, hD, hK⟩ := F.ex
  rcases hD with ⟨_, rfl⟩ | ⟨e, _⟩
  · intro v s ws _ hl
    exact .of_eq (h v kV doc pm an cdv ct ws hl)
  · exact absurd rfl e
end
section
variable {mo : EM} {mr : AM} {en : List (Option D)} {S : Sto} {P : D → Sto → Prop}
end
end Ag

namespace Ag
open PySem
/-! ### least, greatest, spread -/
/-! ### what days do to a spread -/
section
variable {n : Nat} {ws : List (List (List Int))} {p : List Nat} {ts : List Rat}
/-! ### all rows of 0 and 1 -/
end
end Ag

namespace Ag
open PySem PySem.Spec PyProof.Rows L2
/-! ### xs * n as a cell -/
section
variable {X : Cx} {W : WX} {a b : Expr} {pos : Pos} {ma mb : EM}
end
end Ag

namespace Ag
open PySem PySem.Spec PyProof.Rows L2
/-! ### dicts as cells -/
section
variable {K : PySem.W.Frag} {m : Mp} {H : Hp}
theorem optK_ok {f : D → Option NestedKey} {b : Nat} (hf : ∀ (d : D) (v : V) (k : NestedKey), Rep K m H v d → f d = some k → KeyH K H k v ∧ numK k = true ∧ k.depth ≤ b) : ∀ {vs : List V} {l : List D} {ks : List NestedKey}, Reps K m H vs l → optK f l = some ks → KeyHs K H ks vs ∧ numKs ks = true ∧ NestedKey.depthAll ks ≤ b
  | [], [], ks, _, q => by
    simp only [optK, Option.some.injEq] at q
    subst q
    exact ⟨.nil, rfl, Nat.zero_le _⟩
  | [], _ :: _, _, h, _ => by cases h
  | _ :: _, [], _, h, _ => by cases h
  | v :: vs, d :: l, ks, h, q => by
    cases h with
    | cons h1 h2 =>
      obtain ⟨k, q1, q2⟩ := Option.bind_eq_some_iff.mp (show ((f d).bind fun k => (optK f l).map (k :: ·)) = some ks from q)
      obtain ⟨ks', q3, rfl⟩ := Option.map_eq_some_iff.mp q2
      obtain ⟨a1, a2, a3⟩ := hf d v k h1 q1
      obtain ⟨b1, b2, b3⟩ := optK_ok hf h2 q3
      exact ⟨.cons a1 b1, by simp only [numKs, a2, b2, Bool.and_self], by simp only [NestedKey.depthAll]; omega⟩
theorem keyF_ok : ∀ (f : Nat) (d : D) (v : V) (k : NestedKey), Rep K m H v d → keyF f d = some k → KeyH K H k v ∧ numK k = true ∧ k.depth ≤ f
  | f, .int i, v, k, h, q => by
    have q : some (NestedKey.num i) = some k := by cases f <;> exact q
    cases q
    cases h
    exact ⟨.num i, rfl, Nat.zero_le _⟩
  | f + 1, .tup l, v, k, h, q => by
    obtain ⟨ks, q1, rfl⟩ := Option.map_eq_some_iff.mp (show (optK (keyF f) l).map .tup = some k from q)
    cases h with
    | tup h1 _ h2 =>
      obtain ⟨a, b, c⟩ := optK_ok (fun d v k h q => keyF_ok f d v k h q) h2 q1
      exact ⟨.tup h1 a, b, by simp only [NestedKey.depth]; omega⟩
  | 0, .tup l, v, k, h, q => by simp [keyF] at q
  | 0, .non, v, k, h, q | _ + 1, .non, v, k, h, q => by simp [keyF] at q
  | 0, .bl _, v, k, h, q | _ + 1, .bl _, v, k, h, q => by simp [keyF] at q
  | 0, .str _, v, k, h, q | _ + 1, .str _, v, k, h, q => by simp [keyF] at q
  | 0, .ty _, v, k, h, q | _ + 1, .ty _, v, k, h, q => by simp [keyF] at q
  | 0, .gl _, v, k, h, q | _ + 1, .gl _, v, k, h, q => by simp [keyF] at q
  | 0, .lst _, v, k, h, q | _ + 1, .lst _, v, k, h, q => by simp [keyF] at q
  | 0, .scr _, v, k, h, q | _ + 1, .scr _, v, k, h, q => by simp [keyF] at q
  | 0, .ref _, v, k, h, q | _ + 1, .ref _, v, k, h, q => by simp [keyF] at q
  | 0, .obj _ _ _, v, k, h, q | _ + 1, .obj _ _ _, v, k, h, q => by simp [keyF] at q
  | 0, .dct _, v, k, h, q | _ + 1, .dct _, v, k, h, q => by simp [keyF] at q
theorem DicR.key : ∀ {l : List D} {xs : List (NestedKey × Addr × Value)}, DicR K m H l xs → ∀ x ∈ xs, KeyH K H x.1 (.ref x.2.1) ∧ numK x.1 = true ∧ x.1.depth ≤ 8
  | [], _, h, x, hx => by cases h; cases hx
  | [_], _, h, x, hx => by cases h
  | kd :: vd :: l, _, h, x, hx => by
    cases h with
    | cons a b c d r =>
      rcases List.mem_cons.mp hx with e | hx
      · rw [e]
        obtain ⟨a1, a2, a3⟩ := keyF_ok 4 _ _ _ b a
        exact ⟨a1, a2, Nat.le_trans a3 (by decide)⟩
      · exact DicR.key r x hx
/-- the value at a key -/
def lookK (k : NestedKey) : List D → Option D
  | kd :: vd :: l => if keyD kd = some k then some vd else lookK k l
  | _ => none
theorem DicR.look (k : NestedKey) : ∀ {l : List D} {xs : List (NestedKey × Addr × Value)}, DicR K m H l xs → (lookK k l = none ∧ atKey xs k = none) ∨ ∃ d p v, lookK k l = some d ∧ atKey xs k = some p ∧ RelV v p.2 ∧ Rep K m H v d
  | [], _, h => by cases h; exact .inl ⟨rfl, rfl⟩
  | [_], _, h => by cases h
  | kd :: vd :: l, _, h => by
    cases h with
    | @cons _ _ k' b u v _ xs a b' c d r =>
      simp only [lookK]
      by_cases e : k' = k
      · subst e
        rw [if_pos a]
        exact .inr ⟨vd, (b, u), v, rfl, by simp [atKey], c, d⟩
      · have ne : ¬ keyD kd = some k := fun z => e (by rw [a] at z; exact Option.some.inj z)
        rw [if_neg ne]
        have e2 : atKey ((k', b, u) :: xs) k = atKey xs k := by simp [atKey, e]
        rw [e2]
        exact DicR.look k r
theorem look_some {l : List D} {xs : List (NestedKey × Addr × Value)} (h : DicR K m H l xs) (k : NestedKey) : (atKey xs k).isSome = (lookK k l).isSome := by
  rcases h.look k with ⟨a, b⟩ | ⟨d, p, v, a, b, _⟩ <;> rw [a, b] <;> rfl
theorem DicR.len : ∀ {l : List D} {xs : List (NestedKey × Addr × Value)}, DicR K m H l xs → l.length / 2 = xs.length
  | [], _, h => by cases h; rfl
  | [_], _, h => by cases h
  | kd :: vd :: l, _, h => by
    cases h with
    | cons a b c d r =>
      have := DicR.len r
      simp only [List.length_cons]
      omega
end
section
variable {X : Cx}
/-- d[k] = v -/
def putK (k : NestedKey) (v : D) : List D → List D
  | kd :: vd :: l => kd :: (if keyD kd = some k then v else vd) :: putK k v l
  | l => l
def storeK (l : List D) (k : NestedKey) (d v : D) : List D := if (lookK k l).isSome = true then putK k v l else l ++ [d, v]
theorem DicR.app {K : PySem.W.Frag} {m : Mp} {H : Hp} : ∀ {l l' : List D} {xs xs' : List (NestedKey × Addr × Value)}, DicR K m H l xs → DicR K m H l' xs' → DicR K m H (l ++ l') (xs ++ xs')
  | [], _, _, _, h, g => by cases h; exact g
  | [_], _, _, _, h, _ => by cases h
  | kd :: vd :: l, _, _, _, h, g => by
    cases h with
    | cons a b c d r => exact .cons a b c d (DicR.app r g)
theorem DicR.put {K : PySem.W.Frag} {m : Mp} {H : Hp} {k : NestedKey} {u : Value} {v : V} {vd : D} (ru : RelV v u) (rv : Rep K m H v vd) : ∀ {l : List D} {xs : List (NestedKey × Addr × Value)}, DicR K m H l xs → DicR K m H (putK k vd l) (xs.map (putAt k u))
  | [], _, h => by cases h; exact .nil
  | [_], _, h => by cases h
  | kd :: vd' :: l, _, h => by
    cases h with
    | @cons _ _ k' b u' v' _ xs a b' c d r =>
      simp only [List.map_cons, putAt, putK]
      by_cases e : k' = k
      · subst e
        rw [if_pos a, if_pos rfl]
        exact .cons a b' ru rv (DicR.put ru rv r)
      · have ne : ¬ keyD kd = some k := fun z => e (by rw [a] at z; exact Option.some.inj z)
        rw [if_neg ne, if_neg e]
        exact .cons a b' c d (DicR.put ru rv r)
theorem DicR.store {K : PySem.W.Frag} {m : Mp} {H : Hp} {l : List D} {xs : List (NestedKey × Addr × Value)} {k : NestedKey} {b : Addr} {u : Value} {v : V} {d vd : D} (h : DicR K m H l xs) (hk : keyD d = some k) (rb : Rep K m H (.ref b) d) (ru : RelV v u) (rv : Rep K m H v vd) : DicR K m H (storeK l k d vd) (storedH xs k b u) := by
  unfold storeK storedH
  rw [look_some h k]
  split
  · exact h.put ru rv
  · exact h.app (.cons hk rb ru rv .nil)
end
end Ag

namespace Ag
open PySem PySem.Spec PyProof.Rows L2
/-! ### d.items(), d a dict that stays -/
end Ag

/-! min and max of two values that are alike; max of a list of ints -/
namespace Ag
open PySem L2
open PySem.W (AlikeAll dataLt alike iter_tupleW cmpIn_gt cmpIn_lt moved_old reads_keeps)
section
variable {prog : Program} {w : World} {A : Around} {E : Value → Shared → Prop} {s : Shared} {a b : Value} {p q : PyData} {as bs : List Addr} {Q : Value → Shared → Prop}
end
section
variable {X : Cx}
end
end Ag

/-! list(d.values()) -/
namespace Ag
open PySem PySem.Spec PyProof.Rows L2
end Ag

/-! lots that hear apart, in plain Lean -/
namespace Ag
open PySem
open PySem.W (dataLt alike alikeAll keyToks keyToksAll)
/-- who is heard by some of a lot -/
def earsR (n : Nat) (w : List (List Int)) (A : List Nat) : List Nat := (List.range n).filter fun i => A.any fun m => decide (0 < (w.getD m []).getD i 0)
def meetR (A B : List Nat) : Bool := A.any fun m => decide (m ∈ B)
abbrev Pr := List Nat × List Nat
def lotLt (A B : List Nat) : Bool := dataLt (wordP A) (wordP B)
def joinR (A B : List Nat) : Pr := (if lotLt B A = true then B else A, if lotLt A B = true then B else A)
theorem alike_ints : ∀ A B : List Nat, alikeAll (A.map fun (k : Nat) => PyData.int (k : Int)) (B.map fun (k : Nat) => PyData.int (k : Int)) = true
  | [], [] => rfl
  | [], b :: B => rfl
  | a :: A, [] => rfl
  | a :: A, b :: B => by simp only [List.map_cons, alikeAll, alike, Bool.true_and]; exact alike_ints A B
theorem meet_comm (A B : List Nat) : meetR A B = meetR B A := by
  have : ∀ A B : List Nat, meetR A B = true → meetR B A = true := fun A B h => by
    obtain ⟨m, h1, h2⟩ := List.any_eq_true.mp h
    exact List.any_eq_true.mpr ⟨m, of_decide_eq_true h2, decide_eq_true h1⟩
  cases q : meetR A B with
  | true => rw [this A B q]
  | false =>
    cases p : meetR B A with
    | false => rfl
    | true => rw [this B A p] at q; cases q
section
variable (n : Nat) (ws : List (List (List Int)))
/-- the steps from a pair -/
def stepR (P : Pr) : List (Nat × Pr) := ((List.range ws.length).filter fun a => !meetR (earsR n (ws.getD a []) P.1) (earsR n (ws.getD a []) P.2)).map fun a => (a, joinR (earsR n (ws.getD a []) P.1) (earsR n (ws.getD a []) P.2))
/-- lots that stay apart through the ways p -/
def Apt (A B : List Nat) : List Nat → Prop
  | [] => meetR A B = false
  | a :: p => meetR A B = false ∧ Apt (earsR n (ws.getD a []) A) (earsR n (ws.getD a []) B) p
/-- there is a row of k steps -/
def Rn : Nat → Pr → Prop
  | 0, _ => True
  | k + 1, P => ∃ a Q, (a, Q) ∈ stepR n ws P ∧ Rn k Q
def startR (n : Nat) : List Pr := (List.range n).flatMap fun j => (List.range j).map fun i => ([i], [j])
/-- two minds are apart after some word of d days -/
def Ap (d : Nat) : Prop := ∃ i j p, i < n ∧ j < n ∧ i ≠ j ∧ p.length = d ∧ (∀ k ∈ p, k < ws.length) ∧ Apt n ws [i] [j] p
inductive Rc : Pr → Prop
  | start {P : Pr} : P ∈ startR n → Rc P
  | step {P Q : Pr} {a : Nat} : Rc P → (a, Q) ∈ stepR n ws P → Rc Q
end
structure Lot (n : Nat) (A : List Nat) : Prop where
  ne : A ≠ []
  lt : ∀ m ∈ A, m < n
  sub : ∃ f : Nat → Bool, A = (List.range n).filter f
structure Pok (n : Nat) (P : Pr) : Prop where
  one : Lot n P.1
  two : Lot n P.2
  ap : meetR P.1 P.2 = false
section
variable {n : Nat} {ws : List (List (List Int))}
theorem Apt.symm : ∀ {p A B : List Nat}, Apt n ws A B p → Apt n ws B A p
  | [], A, B, h => by
    show meetR B A = false
    rw [meet_comm]; exact h
  | a :: p, A, B, h => by
    refine ⟨?_, h.2.symm⟩
    rw [meet_comm]; exact h.1
theorem Apt.head : ∀ {p A B : List Nat}, Apt n ws A B p → meetR A B = false
  | [], _, _, h => h
  | _ :: _, _, _, h => h.1
end
/-! pigeons -/
/-! what the two searches give -/
structure Stp (n : Nat) (ws : List (List (List Int))) (ps : List Pr) : Prop where
  nd : ps.Nodup
  rc : ∀ P ∈ ps, Rc n ws P
  st : ∀ P ∈ startR n, P ∈ ps
  cl : ∀ P ∈ ps, ∀ a Q, (a, Q) ∈ stepR n ws P → Q ∈ ps
structure Lng (n : Nat) (ws : List (List (List Int))) (ps : List Pr) (fs : List (Pr × Nat)) : Prop where
  nd : (fs.map (·.1)).Nodup
  sub : ∀ q ∈ fs, q.1 ∈ ps
  at_ : ∀ q ∈ fs, Rn n ws q.2 q.1 ∧ ¬ Rn n ws (q.2 + 1) q.1
  bd : ∀ q ∈ fs, q.2 < fs.length
/-- the days needed -/
structure Days (n : Nat) (ws : List (List (List Int))) (r : Option Nat) : Prop where
  non : r = none → ∀ d, Ap n ws d
  som : ∀ D, r = some D → ¬ Ap n ws D ∧ (D = 0 ∨ Ap n ws (D - 1))
  le : ∀ D, r = some D → D ≤ 5000
end Ag

/-! dicts of pairs of lots, as plain data -/
namespace Ag
open PySem
theorem scop_lst {f : List D → Sto → Res D} {ds : List D} {S : Sto} {l : List D} (hS : Cl S) (hl : ∀ d ∈ l, Nr d) (h : (f ds S).sat fun d S' => ∃ j, d = .ref j ∧ S.length ≤ j ∧ S'[j]? = some (.lst l) ∧ S'.take S.length = S) : scop f ds S = .ok (.lst l) S := by
  refine sat_eq (f_scop (h.mono ?_))
  rintro d S' ⟨j, rfl, h1, h2, h3⟩
  rw [h3, frz_cell h1 h2 hl, os_some]
  exact ⟨cl_all hS _, rfl, rfl⟩
theorem scop_dic {f : List D → Sto → Res D} {ds : List D} {S : Sto} {P : List D → Prop} (hS : Cl S) (h : (f ds S).sat fun d S' => ∃ j l, d = .ref j ∧ S.length ≤ j ∧ S'[j]? = some (.dic l) ∧ (∀ d ∈ l, Nr d) ∧ P l ∧ S'.take S.length = S) : ∃ l, scop f ds S = .ok (.dct l) S ∧ P l := by
  suffices q : (scop f ds S).sat fun d S' => ∃ l, d = .dct l ∧ P l ∧ S' = S by
    obtain ⟨d, S', e, l, rfl, hp, rfl⟩ := q.eq
    exact ⟨l, e, hp⟩
  refine f_scop (h.mono ?_)
  rintro d S' ⟨j, l, rfl, h1, h2, h4, hp, h3⟩
  have e : frzD S.length S' (.ref j) = some (.dct l) := by
    simp only [frzD, frzF, if_neg (Nat.not_lt.mpr h1), h2, nrs h4 S.length, if_true]
  rw [h3, e, os_some]
  exact ⟨cl_all hS _, l, rfl, hp, rfl⟩
theorem bls_map {α : Type} (f : α → Bool) : ∀ l : List α, isBls (l.map fun x => .bl (f x)) = some (l.map f)
  | [] => rfl
  | x :: l => by simp [isBls, bls_map f l]
theorem any_map {α : Type} (f : α → Bool) (l : List α) (S : Sto) : gAny (.lst (l.map fun x => .bl (f x))) S = some (.bl (l.any f)) := by
  have e : gAny (.lst (l.map fun x => .bl (f x))) S = ((rdOf (.lst (l.map fun x => .bl (f x))) S).bind isBls).map fun bs => .bl (bs.any id) := rfl
  rw [e]
  simp [rdOf, lstOf, bls_map]
theorem all_map {α : Type} (f : α → Bool) (l : List α) (S : Sto) : gAll (.lst (l.map fun x => .bl (f x))) S = some (.bl (l.all f)) := by
  have e : gAll (.lst (l.map fun x => .bl (f x))) S = ((rdOf (.lst (l.map fun x => .bl (f x))) S).bind isBls).map fun bs => .bl (bs.all id) := rfl
  rw [e]
  simp [rdOf, lstOf, bls_map]
/-! keys -/
/-! the entries -/
section
variable {c : D} {S : Sto} {xs : List (Pr × D)}
end
end Ag
namespace Ag
open PySem
end Ag

/-! set(x): what is walked is put into a new set -/
namespace Ag
open PySem PySem.Spec PyProof.Rows L2
/-- an empty set, as the World says -/
def set0 (w : World) : Obj := { cls := .type "set", dict := none, data := .set #[] 0 (.fresh 0 0 (!w.params.followText "set-order")) }
section
variable {P : Program} {w : World} {A : Around} {E : Value → Shared → Prop} {s : Shared}
set_option maxHeartbeats 6400000 in
theorem set_from {T : String} {l : Addr} {od : Option Addr} {da : Data} {sl : Array (Option Value)} {it : Obj} {Fin : Heap → Prop} {Q : Value → Shared → Prop} (ho : s.heap.get? l = some { cls := .type T, dict := od, data := da, slots := sl })
    (n1 : isSubtype (.type T) (.type "set") = pure false) (n2 : isSubtype (.type T) (.type "frozenset") = pure false) (n3 : (Value.type T == Value.type "dict") = false)
    (begins : ∀ (A' : Around) (E' : Value → Shared → Prop) (s' : Shared) (Q' : Value → Shared → Prop), s'.heap.get? l = some { cls := .type T, dict := od, data := da, slots := sl } → Q' (.ref s'.heap.objs.size) { s' with heap := s'.heap.push it } → wpAny (model P w) A' (pyIter (.ref l)) Q' E' s')
    (loop : ∀ R : Result → Shared → Prop, (∀ g tk, Fin g → (∀ b o, s.heap.get? b = some o → g.get? b = some o) → R (.ok (.ret .none)) { s with heap := g, toks := tk }) → codeAny (model P w) A.in1.in1 (.builtin "set.update.loop" ⟨[.ref s.heap.objs.size, .ref (s.heap.push (set0 w)).objs.size], []⟩) R { s with heap := (s.heap.push (set0 w)).push it })
    (fin : ∀ g tk, Fin g → (∀ b o, s.heap.get? b = some o → g.get? b = some o) → Q (.ref s.heap.objs.size) { s with heap := g, toks := tk }) : wpAny (model P w) A (call (.type "set") [.ref l]) Q E s := by
  obtain ⟨c, tl, mro⟩ := F.called_set.mro
  have made := F.called_set.made
  have sub := F.called_set.sub
  have nt := F.called_set.notType
  have cc := F.called_set.canCreate
  have ct := F.typeCall_set_1 (.ref l)
  refine wpAny_call (codeAny_of_tree (show wpAny _ _ (callAny (.type "set") _) _ _ _ from wpAny_pure ⟨Code.quiet_builtin _ (by decide +kernel), codeAny_builtin F.entry_type_call ?_⟩))
  rw [Around.under_plain (weight_type_call_type "set" [.ref l] []) rfl]
  repeat (any_goals (first | assumption | wp_step))
  refine codeAny_mono (code_set_led1 (.ref l) (E := E) (Q₁ := fun u t => u = .ref s.heap.objs.size ∧ t = { s with heap := s.heap.push (set0 w) }) ⟨rfl, rfl⟩) ?_
  intro r t hr
  cases r with
  | error e => exact hr
  | ok fl =>
  cases fl with
  | ret u =>
    obtain ⟨rfl, rfl⟩ := hr
    have hS : (s.heap.push (set0 w)).get? s.heap.objs.size = some (set0 w) := Heap.get?_push_size _ rfl
    have ty : Shared.TypeIs { s with heap := s.heap.push (set0 w) } (.ref s.heap.objs.size) "set" := ⟨_, hS, rfl⟩
    have hi1 := F.called_set.init.lookup
    have hi2 := F.called_set.init.bind (.ref s.heap.objs.size)
    repeat (any_goals (first | assumption | wp_step))
    refine codeAny_mono (codeAny_call_builtin (R := wants (fun r t => r = .none ∧ ∃ g tk, t = { s with heap := g, toks := tk } ∧ Fin g ∧ ∀ b o, s.heap.get? b = some o → g.get? b = some o) E) F.called_set.init.plain F.entry_set_init (check_set_init_1 ty ?_)) ?_
    · have ho' : (s.heap.push (set0 w)).get? l = some { cls := .type T, dict := od, data := da, slots := sl } := Heap.get?_push_of_some _ ho
      unfold Builtin.«set.__init__» noKeywords Builtin.Frozenset.updateFrom
      generalize hp : pyIter = pI
      wp_walk
      subst hp
      refine begins _ _ { s with heap := s.heap.push (set0 w) } _ ho' (wpAny_bind (wpAny_runValue (loop _ ?_)))
      intro g tk hg kp
      exact (show wpAny _ _ _ _ _ _ from wpAny_pure (wpAny_pure ⟨rfl, g, tk, rfl, hg, kp⟩))
    · intro r2 t2 hr2
      cases r2 with
      | error e => exact hr2
      | ok fl =>
      cases fl with
      | ret v =>
        obtain ⟨rfl, g, tk, rfl, hg, kp⟩ := hr2
        repeat (any_goals (first | assumption | wp_step))
        exact fin g tk hg kp
      | _ => exact hr2.elim
  | _ => exact hr.elim
end
end Ag

/-! sorted(set(x)), len(set(x)) of ints -/
namespace Ag
open PySem PySem.Spec PyProof.Rows L2
section
variable {P : Program} {w : World} {A : Around} {E : Value → Shared → Prop} {s : Shared}
end
/-! ints in rising order, each once -/
section
variable {X : Cx} {W : WX} {e : Expr} {me : EM} {p1 pos1 p2 pos2 : Pos}
end
/-! facts for the mathematics -/
end Ag

/-! len(set(x)) of truth values -/
namespace Ag
open PySem PySem.Spec PyProof.Rows L2 PpSet
section
variable {P : Program} {w : World} {A : Around}
end
section
variable {P : Program} {w : World} {A : Around} {E : Value → Shared → Prop} {s : Shared}
end
section
variable {X : Cx} {W : WX} {e : Expr} {me : EM} {p1 pos1 p2 pos2 : Pos}
end
section
variable {X : Cx} {W : WX} {e : Expr} {ma : EM} {p pos : Pos}
end
section
open PySem.W (AlikeAll alike max_tuple_data maxD_ints)
variable {X : Cx}
theorem reads_ints {h : Heap} : ∀ {ns : List Int} {us : List Value}, Vals (ns.map V.int) us → ∃ as, ReadsAll h us (ns.map PyData.int) as
  | [], _, r => by cases r; exact ⟨_, .nil⟩
  | n :: ns, _, r => by
    cases r with
    | cons h1 h2 =>
      obtain ⟨t, rfl⟩ := h1
      obtain ⟨as, k⟩ := reads_ints h2
      exact ⟨_, .cons (.int n t) k⟩
theorem depth_ints : ∀ ns : List Int, PyData.depthAll (ns.map PyData.int) ≤ 1
  | [] => by simp [PyData.depthAll]
  | n :: ns => by
    have := depth_ints ns
    simp only [List.map_cons, PyData.depthAll, PyData.depth]
    omega
end
end Ag

/-! len(set(x)), x a tuple of tuples of ints -/
namespace Ag
open PySem PySem.Spec PyProof.Rows L2
section
variable {P : Program} {w : World} {A : Around} {E : Value → Shared → Prop} {s : Shared}
end
section
variable {X : Cx} {W : WX} {e : Expr} {me : EM} {p1 pos1 p2 pos2 : Pos} {K : PySem.W.Frag} {m : Mp} {H : Hp}
end
end Ag

/-! {k: v}; d.get(k, v) -/
namespace Ag
open PySem PySem.Spec PyProof.Rows L2
section
variable {X : Cx} {k v : Expr} {tk tv : TE} {pos : Pos}
section
variable {name : Str} {id : String} {o e : Expr} {es : List Expr} {apos cpos : Pos}
end
end
end Ag

/-! sorted(t), t a tuple -/
namespace Ag
open PySem PySem.Spec PyProof.Rows L2
section
variable {prog : Program} {w : World} {A : Around} {E : Value → Shared → Prop} {s : Shared}
open PySem.W (SortsAt sortingHeap copyHeap copyHeap_at sortVals list_sort_vals)
end
section
open PySem.W (SortsAt EachIs AllAlike Sortable dataLe dataLe_str sortVals_data sortVals_length sorting_copy_old sortVals sorted_data each_map)
variable {X : Cx}
end
end Ag

namespace Ag
open PySem L2
/-! ### str(x) of an own class with __str__ -/
section
variable {X : Cx} {W : WX} {j : Nat}
/-! ### operators that run a def -/
end
section
variable {M : Model} {A : Around} {E : Value → Shared → Prop} {s : Shared} {K : PySem.W.Frag} {x C : Addr} {ox : Obj} {od : Option Obj}
end
section
variable {prog : Program} {w : World} {A : Around} {E : Value → Shared → Prop} {s : Shared} {K : PySem.W.Frag} {x y C f : Addr} {ox oy : Obj} {od od' : Option Obj}
end
section
variable {X : Cx} {W : WX} {j : Nat}
end
section
variable {X : Cx} {W : WX} {j k n : Nat} {f : Addr} {fd : FuncData} {ps : List Str} {fm : List D → Sto → Res D}
end
section
variable {en : En} {S : Sto} {P : D → Sto → Prop} {ma mb : EM} {mr : AM}
end
end Ag

namespace Ag
open PySem
open TL (tl joinL numL)
/-! ### the text of a council -/
section
variable {n : Nat} {r : List Int} {w : List (List Int)} {hs : List Str} {ws : List (List (List Int))}
/-- names that are whole words -/
structure Wd (hs : List Str) : Prop where
  ne : hs ≠ []
  six : hs.length ≤ 6
  len : ∀ h ∈ hs, h.length ≤ 8
  fr : ∀ h ∈ hs, 32 ∉ tl h ∧ 10 ∉ tl h
end
end Ag

namespace Ag
open PySem L2
/-! ### bool(x) of an own class with __bool__ -/
section
variable {prog : Program} {w : World} {A : Around} {E : Value → Shared → Prop} {s : Shared} {K : PySem.W.Frag} {x C L f : Addr} {h₀ : Heap} {m : Str → Option Value} {ox : Obj} {od : Option Obj}
end
section
variable {X : Cx} {W : WX} {j : Nat}
end
/-! ### making by keywords -/
section
variable {X : Cx} {W : WX} {pos p : Pos} {mr : AM} {k n j : Nat} {f : Addr} {fd : FuncData} {ps : List Str} {fm : List D → Sto → Res D} {c : Str}
def mMakeK (c : Str) (frz : Bool) (n : Nat) (ix : List Nat) (fm : List D → Sto → Res D) (mr : AM) : EM := fun en S => (mr en S).bind fun ds S1 => if ds.length = n then (if (pick ix ds).length = n then mkD c frz fm (pick ix ds) S1 else .stuck) else .stuck
theorem e_makeK {frz : Bool} {kws : List Keyword} {ks : List Str} {ix : List Nat} (B : Bd X W j) (M : Mk X.K (He.ga X.K c) f) (F : FnG X.prog X.w X.K X.mg X.base k f fd ps (spOf X.K (n + 1) fm)) (hk : k + 1 ≤ j) (hg : Gl X c) (hm : X.mg c = some (.ref (He.ga X.K c)))
    (hb : ∀ v, KwB X.K fd ps ks ix (v :: ·)) (hkw : PK X kws (tA X.K W mr)) (hll : ks.length = n) (hall : (backToKw pos (keywordEach kws X.env)).all (·.1.isSome) = true := by rfl) (hks : (backToKw pos (keywordEach kws X.env)).filterMap (·.1) = ks := by rfl)
    (hdb : (c == ("__debug__" : Str)) = false := by decide) (hpl : ((backTo pos (starEach [] X.env)).any (·.1) || (backToKw pos (keywordEach kws X.env)).any (·.1.isNone)) = false := by rfl) :
    PE X (.Call (.Name c p) [] kws pos) (tE X.K W (mMakeK c frz n ix fm mr)) :=
  e_makeKw (frz := frz) B M F hk hg hm (fun s a ws h1 h2 => hb a s ws h1 h2) hkw hll hall hks hdb hpl
/-! ### a class method by keywords -/
end
section
variable {en : En} {S : Sto} {P : D → Sto → Prop} {mr : AM} {c : Str} {n : Nat} {ix : List Nat} {fm : List D → Sto → Res D}
end
/-! ### texts in a repr -/
end Ag

namespace Ag
open PySem L2
/-! ### a thing that this law's runs never come to -/
section
variable {X : Cx} {W : WX}
end
end Ag

namespace Ag
open PySem
/-! ### ways whose weights have no bound -/
structure RowP (n : Nat) (r : List Int) : Prop where
  len : r.length = n
  nn : ∀ w ∈ r, 0 ≤ w
  pos : 0 < r.sum
structure WayP (n : Nat) (w : List (List Int)) : Prop where
  len : w.length = n
  row : ∀ r ∈ w, RowP n r
theorem RowOk.p {n : Nat} {r : List Int} (h : RowOk n r) : RowP n r := ⟨h.len, fun w hw => (h.in_ w hw).1, h.pos⟩
theorem WayOk.p {n : Nat} {w : List (List Int)} (h : WayOk n w) : WayP n w := ⟨h.len, fun r hr => (h.row r hr).p⟩
section
variable {n : Nat} {ws : List (List (List Int))}
end
end Ag

namespace Ag
open PySem PySem.Spec PyProof.Rows L2
/-! ### bits of ints -/
section
variable {X : Cx}
end
/-! ### for k in d, d a dict that stays -/
/-! ### list(d) -/
end Ag

namespace Ag
open PySem PySem.Spec PyProof.Rows L2
/-! ### sorted(l), l a list of alike data -/
open PySem.W (SortsAt EachIs AllAlike Sortable dataLe sorted_data alike)
def pyOf (S : Sto) (d : D) : PyData := (pyS d S).getD .none
def isTup1 : PyData → Bool
  | .tuple (_ :: _) => true
  | _ => false
def notTN : PyData → Bool
  | .none => false
  | .tuple _ => false
  | _ => true
def sortOk (l : List D) (S : Sto) : Bool := (l.all fun d => (pyS d S).isSome) && (l.all fun d => l.all fun e => alike (pyOf S d) (pyOf S e)) && ((l.all fun d => isTup1 (pyOf S d)) || (l.all fun d => notTN (pyOf S d))) && (l.all fun d => decide ((pyOf S d).depth ≤ 60)) && decide (l.length ≤ lineN)
def gSortD (d : D) (S : Sto) : Option D := (rdOf d S).bind fun l => if sortOk l S = true then some (.lst (l.mergeSort (dataLe false (pyOf S)))) else none
section
variable {X : Cx} {m : Mp} {H : Hp}
end
end Ag

namespace Ag
open PySem PySem.Spec PyProof.Rows L2 PpSet
/-! ### how many different things there are in a list -/
section
variable {α : Type} [DecidableEq α]
end
/-! ### sets of texts -/
section
variable {P : Program} {w : World} {A : Around} {E : Value → Shared → Prop} {s : Shared}
end
section
variable {X : Cx} {W : WX} {e : Expr} {me : EM} {p1 pos1 p2 pos2 : Pos}
end
/-! ### d == {}, two dicts of which one is empty -/
section
variable {P : Program} {w : World} {A : Around} {E : Value → Shared → Prop} {s : Shared}
end
end Ag

namespace Ag
open PySem
/-! ### sets of minds as bits -/
/-! ### what is reached after t days -/
section
variable (n : Nat) (ws : List (List (List Int)))
def earsAll (r : List Nat) (A : List Nat) : List Nat := r.foldl (fun X a => earsR n (ws.getD a []) X) A
/-- a walk of steps -/
inductive Wlk : Pr → List Nat → Pr → Prop
  | nil {P : Pr} : Wlk P [] P
  | cons {P Q R : Pr} {a : Nat} {r : List Nat} : (a, Q) ∈ stepR n ws P → Wlk Q r R → Wlk P (a :: r) R
end
section
variable {n : Nat} {ws : List (List (List Int))}
/-! ### the pairs, each once -/
/-! ### rings -/
/-- a ring of steps, and its pair -/
structure Ring (n : Nat) (ws : List (List (List Int))) (r : List Nat) (P : Pr) : Prop where
  ne : r ≠ []
  few : r.length ≤ 5000
  ok : Pok n P
  wlk : Wlk n ws P r P
/-- lots that the ways r lead to themselves -/
structure Kpt (n : Nat) (ws : List (List (List Int))) (r : List Nat) (A B : List Nat) : Prop where
  ne : r ≠ []
  few : r.length ≤ 10000
  lt : ∀ a ∈ r, a < ws.length
  one : Lot n A
  two : Lot n B
  ap : meetR A B = false
  ea : earsAll n ws r A = A
  eb : earsAll n ws r B = B
end
/-! ### dicts of pairs of numbers -/
section
variable {j : Nat} {S : Sto} {xs : List (Nat × Nat)}
end
end Ag

namespace Ag
open PySem
/-! ### plain data of one kind: compared, sought, sorted -/
structure Cod {α : Type} [DecidableEq α] (e : α → D) (f : α → PyData) (k : Nat) : Prop where
  py : ∀ a, (e a).py = some (f a)
  eqv : ∀ a b, PyData.eqv (f a) (f b) = decide (a = b)
  dp : ∀ a, Dp k (e a)
  ns : ∀ a, (e a).isS = false
theorem eq_ns {x y : D} (h : x.isS = false) (S : Sto) : fEq x y S = eqD x y S := by
  cases x <;> first | rfl | cases h
theorem nq_ns {x y : D} (h : x.isS = false) (S : Sto) : fNe x y S = neD x y S := by
  cases x <;> first | rfl | cases h
theorem sh_of {d : D} {p : PyData} {k : Nat} (h : Dp k d) (hk : k ≤ 64) (e : d.py = some p) : SeqAt.shaped p = true := by
  obtain ⟨q, h1, h2⟩ := h.pl hk
  rw [e] at h1; cases h1; exact h2
theorem in_ns {x y : D} {p : PyData} {qs : List PyData} {S : Sto} (h : x.isS = false) (e1 : pyS x S = some p) (e2 : pyS y S = some (.list qs) ∨ pyS y S = some (.tuple qs)) (s1 : SeqAt.shaped p = true) (s2 : SeqAt.shaped (.list qs) = true) (s3 : SeqAt.shaped (.tuple qs) = true) : inD x y S = some (qs.any fun z => PyData.eqv z p) := by
  have e : inD x y S = (match pyS x S, pyS y S with
      | some p, some (.tuple qs) => if SeqAt.shaped p = true ∧ SeqAt.shaped (.tuple qs) = true then some (qs.any fun z => PyData.eqv z p) else none
      | some p, some (.list qs) => if SeqAt.shaped p = true ∧ SeqAt.shaped (.list qs) = true then some (qs.any fun z => PyData.eqv z p) else none
      | _, _ => none) := by
    cases x <;> first | rfl | cases h
  rw [e, e1]
  rcases e2 with e2 | e2 <;> rw [e2] <;> simp only [s1, s2, s3, and_self, if_true]
section
variable {α : Type} [DecidableEq α] {e : α → D} {f : α → PyData} {k : Nat}
theorem Cod.pys (c : Cod e f k) : ∀ l : List α, D.pys (l.map e) = some (l.map f)
  | [] => rfl
  | a :: l => by simp only [List.map_cons, D.pys, c.py, c.pys l]
theorem Cod.sh (c : Cod e f k) (hk : k ≤ 64) (a : α) : SeqAt.shaped (f a) = true := sh_of (c.dp a) hk (c.py a)
theorem Cod.eq (c : Cod e f k) (hk : k ≤ 64) (a b : α) (S : Sto) : fEq (e a) (e b) S = some (.bl (decide (a = b))) := by
  rw [eq_ns (c.ns a)]
  simp only [eqD, pyS_py (c.py a), pyS_py (c.py b), c.sh hk, and_self, if_true, c.eqv]
theorem Cod.ne (c : Cod e f k) (hk : k ≤ 64) (a b : α) (S : Sto) : fNe (e a) (e b) S = some (.bl (!decide (a = b))) := by
  rw [nq_ns (c.ns a)]
  simp only [neD, pyS_py (c.py a), pyS_py (c.py b), c.sh hk, and_self, if_true, c.eqv]
theorem Cod.eqvs (c : Cod e f k) : ∀ a b : List α, PyData.eqvAll (a.map f) (b.map f) = decide (a = b)
  | [], [] => rfl
  | [], _ :: _ => rfl
  | _ :: _, [] => rfl
  | x :: a, y :: b => by
    simp only [List.map_cons, PyData.eqvAll, c.eqv, c.eqvs a b, List.cons.injEq, Bool.decide_and]
theorem Cod.lst (c : Cod e f k) : Cod (fun l : List α => .lst (l.map e)) (fun l => .list (l.map f)) (k + 1) where
  py := fun l => by show (D.pys _).map PyData.list = _; rw [c.pys]; rfl
  eqv := fun a b => by simp only [PyData.eqv, c.eqvs]
  dp := fun l => dp_lst fun d hd => by obtain ⟨a, _, rfl⟩ := List.mem_map.mp hd; exact c.dp a
  ns := fun _ => rfl
theorem Cod.tup (c : Cod e f k) : Cod (fun l : List α => .tup (l.map e)) (fun l => .tuple (l.map f)) (k + 1) where
  py := fun l => by show (D.pys _).map PyData.tuple = _; rw [c.pys]; rfl
  eqv := fun a b => by simp only [PyData.eqv, c.eqvs]
  dp := fun l => dp_tup fun d hd => by obtain ⟨a, _, rfl⟩ := List.mem_map.mp hd; exact c.dp a
  ns := fun _ => rfl
theorem Cod.any (c : Cod e f k) (a : α) (l : List α) : ((l.map f).any fun z => PyData.eqv z (f a)) = decide (a ∈ l) := by
  rw [List.any_map]
  have : ((fun z => PyData.eqv z (f a)) ∘ f) = fun z => decide (z = a) := funext fun z => c.eqv z a
  rw [this, Bool.eq_iff_iff, List.any_eq_true, decide_eq_true_eq]
  simp
theorem Cod.inD (c : Cod e f k) (hk : k < 64) (a : α) (l : List α) {y : D} {S : Sto} (hy : pyS y S = some (.list (l.map f)) ∨ pyS y S = some (.tuple (l.map f))) : inD (e a) y S = some (decide (a ∈ l)) := by
  rw [in_ns (c.ns a) (pyS_py (c.py a)) hy (c.sh (by omega) a) (c.lst.sh (by omega) l) (c.tup.sh (by omega) l), c.any]
theorem Cod.ref (c : Cod e f k) {j : Nat} {l : List α} {S : Sto} (h : S[j]? = some (.lst (l.map e))) : pyS (.ref j) S = some (.list (l.map f)) := by
  simp only [pyS, h, c.pys, Option.map_some]
theorem Cod.inl (c : Cod e f k) (hk : k < 64) (a : α) (l : List α) (S : Sto) : fIn (e a) (.lst (l.map e)) S = some (.bl (decide (a ∈ l))) := by
  unfold fIn
  rw [c.inD hk a l (.inl (pyS_py (c.lst.py l)))]; rfl
theorem Cod.int (c : Cod e f k) (hk : k < 64) (a : α) (l : List α) (S : Sto) : fIn (e a) (.tup (l.map e)) S = some (.bl (decide (a ∈ l))) := by
  unfold fIn
  rw [c.inD hk a l (.inr (pyS_py (c.tup.py l)))]; rfl
theorem Cod.pos (c : Cod e f k) {a : α} : ∀ {l : List α} {j : Nat}, l[j]? = some a → (∀ m, m < j → l[m]? ≠ some a) → posBy (f a) (l.map f) = some j
  | [], j, h, _ => by simp at h
  | b :: l, 0, h, _ => by
    have : b = a := by simpa using h
    subst this
    simp only [List.map_cons, posBy, c.eqv, decide_true, if_true]
  | b :: l, j + 1, h, hn => by
    have h0 : b ≠ a := fun z => hn 0 (by omega) (by rw [z]; rfl)
    simp only [List.map_cons, posBy, c.eqv, decide_eq_false h0, Bool.false_eq_true, if_false]
    rw [c.pos (l := l) (j := j) (by simpa using h) (fun m hm => by simpa using hn (m + 1) (by omega))]
    rfl
open PySem.W (dataLe alike) in
theorem Cod.sortG (c : Cod e f k) (hk : k ≤ 60) (al : ∀ a b, alike (f a) (f b) = true) (tu : (∀ a, isTup1 (f a) = true) ∨ ∀ a, notTN (f a) = true) {l : List α} (hl : l.length ≤ lineN) (S : Sto) : f1 gSortD [.lst (l.map e)] S = some (.lst ((l.mergeSort (dataLe false f)).map e)) := by
  have po : ∀ a, pyOf S (e a) = f a := fun a => by unfold pyOf; rw [pyS_py (c.py a)]; rfl
  have ok : sortOk (l.map e) S = true := by
    simp only [sortOk, Bool.and_eq_true, Bool.or_eq_true, List.all_eq_true, decide_eq_true_eq]
    refine ⟨⟨⟨⟨fun d hd => ?_, fun d hd d' hd' => ?_⟩, ?_⟩, fun d hd => ?_⟩, by rw [List.length_map]; exact hl⟩
    · obtain ⟨a, _, rfl⟩ := List.mem_map.mp hd
      rw [pyS_py (c.py a)]; rfl
    · obtain ⟨a, _, rfl⟩ := List.mem_map.mp hd
      obtain ⟨b, _, rfl⟩ := List.mem_map.mp hd'
      rw [po, po]; exact al a b
    · rcases tu with tu | tu
      · exact .inl fun d hd => by
          obtain ⟨a, _, rfl⟩ := List.mem_map.mp hd
          rw [po]; exact tu a
      · exact .inr fun d hd => by
          obtain ⟨a, _, rfl⟩ := List.mem_map.mp hd
          rw [po]; exact tu a
    · obtain ⟨a, _, rfl⟩ := List.mem_map.mp hd
      rw [po]
      obtain ⟨p, h1, _, h3⟩ := c.dp a
      rw [c.py] at h1; cases h1
      omega
  have e0 : f1 gSortD [.lst (l.map e)] S = gSortD (.lst (l.map e)) S := rfl
  have e1 : rdOf (.lst (l.map e)) S = some (l.map e) := rfl
  rw [e0, gSortD, e1, Option.bind_some, if_pos ok]
  congr 2
  refine (List.map_mergeSort fun a _ b _ => ?_).symm
  show dataLe false f a b = dataLe false (pyOf S) (e a) (e b)
  simp only [dataLe, PySem.W.sortLe, po]
open PySem.W (dataLe alike) in
theorem Cod.sort (c : Cod e f k) (hk : k ≤ 60) (al : ∀ a b, alike (f a) (f b) = true) (tu : ∀ a, isTup1 (f a) = true) {l : List α} (hl : l.length ≤ lineN) (S : Sto) : f1 gSortD [.lst (l.map e)] S = some (.lst ((l.mergeSort (dataLe false f)).map e)) := c.sortG hk al (.inl tu) hl S
open PySem.W (dataLe alike) in
theorem Cod.sortN (c : Cod e f k) (hk : k ≤ 60) (al : ∀ a b, alike (f a) (f b) = true) (tu : ∀ a, notTN (f a) = true) {l : List α} (hl : l.length ≤ lineN) (S : Sto) : f1 gSortD [.lst (l.map e)] S = some (.lst ((l.mergeSort (dataLe false f)).map e)) := c.sortG hk al (.inr tu) hl S
end
def pairP (P : Pr) : PyData := .tuple [wordP P.1, wordP P.2]
open PySem.W (alike alikeAll) in
theorem pair_alike (P Q : Pr) : alike (pairP P) (pairP Q) = true := by
  have h : ∀ A B : List Nat, alike (wordP A) (wordP B) = true := fun A B => (show alike (wordP A) (wordP B) = alikeAll _ _ from rfl).trans (alike_ints A B)
  simp only [pairP, alike, alikeAll, h, Bool.and_self]
end Ag

namespace Ag
open PySem
/-! ### lots in any order -/
open PySem.W (dataLe)
end Ag

namespace Ag
open PySem PySem.Spec PyProof.Rows L2
/-! ### a sum of two lists as a cell -/
section
variable {X : Cx} {W : WX}
end
end Ag

namespace Ag
open PySem PySem.Spec PyProof.Rows L2
/-! ### an empty dict as a value: its repr, its class -/
section
variable {X : Cx} {W : WX} {j : Nat}
/-- what stands of an empty dict -/
theorem dct0 {m : Mp} {H : Hp} {v : V} {pins : List (Addr × Obj)} {σ : L2.St} {s : Shared} (I : L2.Inv X pins σ H s) (r : Rep X.K m H v (.dct [])) : ∃ a o es ep, v = .ref a ∧ (a == sysModules) = false ∧ s.heap.get? a = some o ∧ o.ExactDict ∧ o.data = .dict es ep ∧ es.toList = [] := by
  cases r with
  | dct h1 h2 h3 h4 =>
    rename_i a o xs
    obtain ⟨h0, ho, es, ep, hx, hd, he⟩ := (I.hok a _ h1).1
    have : xs = [] := by
      cases xs with
      | nil => rfl
      | cons x xs => cases h3
    subst this
    exact ⟨a, o, es, ep, rfl, h0, ho, hx, hd, by simpa using he⟩
def fIsiX (cs : List Str) (tab : List (Ty × Ty × Bool)) (ds : List D) (S : Sto) : Option D := match ds with
  | [.dct [], c] => (clD c).bind fun u => (look2 (.b "dict") u tab).map .bl
  | ds => fIsi cs tab ds S
theorem b_isiX {cs : List Str} {tab : List (Ty × Ty × Bool)} (is : Iso X.K cs tab) : CallR X (.builtin "isinstance") (rOL X.K (fIsiX cs tab)) := by
  intro pins s σ H xs us Q I rx ⟨ds, S, m, r, si, hx, hf, hq⟩
  by_cases e : ∃ c, ds = [.dct [], c]
  · obtain ⟨c, rfl⟩ := e
    cases hx with
    | cons r1 b =>
      cases b with
      | cons r2 b =>
        cases b
        rename_i x y
        obtain ⟨a, o, es, ep, rfl, h0, ho, hx', hd, he⟩ := dct0 I r1
        have hf : ((clD c).bind fun u => (look2 (.b "dict") u tab).map D.bl) = some r := hf
        cases q1 : clD c with
        | none => rw [q1] at hf; cases hf
        | some w =>
          rw [q1, Option.bind_some] at hf
          cases q2 : look2 (.b "dict") w tab with
          | none => rw [q2] at hf; cases hf
          | some b =>
            rw [q2] at hf
            cases hf
            have cl : ClsV y (w.val X.K) := by
              cases r2 with
              | ty n => cases q1; exact .ty n
              | gl z => cases q1; exact .own _
              | _ => cases q1
            obtain ⟨u1, u2, rfl, v1, v2⟩ := vals2 rx
            have e2 := cl.eq v2
            subst e2
            cases (show u1 = Value.ref a from v1)
            have an := is.ans _ (look2_mem q2)
            exact PySem.W.kia_one PySem.W.kitx_dict I.kIn ⟨o, ho, hx'.1⟩ an (fun z => nomatch z) fun tk => ⟨.bl b, H, I.tok tk, rfl, hq _ H .refl si (.bl b)⟩
  · have : fIsiX cs tab ds S = fIsi cs tab ds S := by
      unfold fIsiX
      split
      · exact absurd ⟨_, rfl⟩ e
      · rfl
    rw [this] at hf
    exact b_isi is pins s σ H xs us Q I rx ⟨ds, S, m, r, si, hx, hf, hq⟩
end
end Ag

namespace Ag
open PySem PySem.Spec PyProof.Rows L2
open PySem.SeqAt PySem.MeetsSeq AutoSeq1
/-! ### a text beside a dict: never the same -/
section
variable {A : Around} {s : Shared} {d : Addr} {o : Obj} {es : Array DictEntry} {ep : Nat}
end
/-! ### an empty dict sought among texts; a list beside [] -/
section
variable {X : Cx}
def fNeN (x y : D) (S : Sto) : Option D := match lstOf x S, y with
  | some l, .lst [] => some (.bl (!l.isEmpty))
  | _, _ => fNe x y S
theorem o_neN (hu : X.A.units + 64 < cLine) : OpR X (compareOp .NotEq) (rO2 X.K fNeN) := by
  intro pins s σ H x y v u Q I rx ry ⟨d, e, S, m, r, si, hx, hy, hf, hq⟩
  by_cases c : ∃ l, lstOf d S = some l ∧ e = .lst []
  · obtain ⟨l, q1, rfl⟩ := c
    have e1 : fNeN d (.lst []) S = some (.bl (!l.isEmpty)) := by unfold fNeN; rw [q1]
    have hf : some (D.bl (!l.isEmpty)) = some r := e1.symm.trans hf
    cases hf
    obtain ⟨a, vs, rfl, h1, h2⟩ := lst_at si hx q1
    obtain ⟨b, us, rfl, h3, h4⟩ := lst_at si hy (l := []) rfl
    cases rx; cases ry
    cases h4
    obtain ⟨xs, v1, ⟨o1, n1, a1, a2, _, a3⟩, _⟩ := I.list (X := X) (xs := vs) (.inl (.inl h1))
    obtain ⟨ys, v2, ⟨o2, n2, b1, b2, _, b3⟩, _⟩ := I.list (X := X) (xs := []) (.inl (.inl h3))
    have pa : s.heap.IsList a xs.toArray := ⟨o1, a1, a2, n1, a3⟩
    have pb : s.heap.IsList b ys.toArray := ⟨o2, b1, b2, n2, b3⟩
    have la : xs.length = l.length := by rw [← v1.length, h2.len]
    have lb : ys.length = 0 := by rw [← v2.length]; rfl
    have done : EP X pins σ Q (.bool (!l.isEmpty)) s := ⟨.bl (!l.isEmpty), H, I, rfl, hq _ H .refl si (.bl _)⟩
    cases l with
    | nil =>
      have sa : xs.toArray.size = 0 := by simp; simp at la; exact la
      have sb : ys.toArray.size = 0 := by simp; exact List.eq_nil_of_length_eq_zero lb
      have h := RcNeAt.lists (A := X.A) (s := s) (e := fun _ => true) pa pb (by omega) (by omega) (fun j h1 h2 => by omega) X.prog X.w X.xe (fun v s' => EP X pins σ Q v s')
      have e : (List.range xs.toArray.size).all (fun _ => true) = true := by simp
      exact h (by rw [e]; exact done)
    | cons z l => exact RcNeAt.lists_lengths pa pb (by simp; simp at la; omega) (by omega) X.prog X.w X.xe _ done
  · have : fNeN d e S = fNe d e S := by
      unfold fNeN
      split
      · rename_i l q
        exact absurd ⟨l, q, rfl⟩ c
      · rfl
    rw [this] at hf
    exact o_ne hu pins s σ H x y v u Q I rx ry ⟨d, e, S, m, r, si, hx, hy, hf, hq⟩
end
end Ag

namespace Ag
open PySem PySem.Spec PyProof.Rows L2
open PySem.SeqAt PySem.MeetsSeq AutoSeq1
/-! ### an instance of an own class beside a value of a built-in one -/
section
variable {C dx : Addr}
end
section
variable {prog : Program} {w : World} {A : Around} {E : Value → Shared → Prop} {s : Shared} {K : PySem.W.Frag} {y C f : Addr} {oy : Obj} {od : Option Obj} {u : Value} {T id : String}
end
/-- the class stands beside the built-in ones -/
structure Unl (K : PySem.W.Frag) (C : Addr) : Prop where
  fore : ∀ T ∈ kindsT, PySem.W.subIn K (.type T) (.ref C) = some false
  aft : ∀ T ∈ kindsT, PySem.W.mroIn K C (.type T) = some false
def kd : D → Sto → Bool
  | .non, _ | .bl _, _ | .int _, _ | .str _, _ | .tup _, _ | .lst _, _ | .dct _, _ => true
  | .ref i, S => match S[i]? with
    | some (.dic _) => true
    | _ => false
  | _, _ => false
/-- a value of a built-in kind, which declines -/
structure Dec (prog : Program) (w : World) (s : Shared) (y : Addr) (u : Value) (T : String) : Prop where
  mem : T ∈ kindsT
  ty : s.TypeIs u T
  look : PySem.W.Looks (model prog w) s.heap (typeOf u) (.type T)
  eq : ∃ id, Slot T (cmpInfo .Eq).2.1 id ∧ ∀ (A : Around) (E Q : Value → Shared → Prop), Q .notImplemented s → wpAny (model prog w) A (call (.builtin id) [u, .ref y]) Q E s
  ne : ∃ id, Slot T (cmpInfo .NotEq).2.1 id ∧ ∀ (A : Around) (E Q : Value → Shared → Prop), Q .notImplemented s → wpAny (model prog w) A (call (.builtin id) [u, .ref y]) Q E s
section
variable {X : Cx} {pins : List (Addr × Obj)} {σ : L2.St} {H : Hp} {s : Shared} {m : Mp} {v : V} {u : Value} {d : D} {y C dx : Addr}
end
section
variable {X : Cx} {W : WX} {j : Nat}
variable {k : Nat} {c : Str} {f : Addr} {fd : FuncData} {ps : List Str} {fm : List D → Sto → Res D}
end
section
variable {X : Cx} {W : WX} {j : Nat}
end
end Ag

/-! dicts whose keys are ints and texts -/
namespace Ag
open PySem PySem.Spec PyProof.Rows L2
/-- what stands at a key -/
def valD (l : List (Key × D)) (k : Key) : Option D := (l.find? fun p => decide (p.1 = k)).map (·.2)
def putD (l : List (Key × D)) (k : Key) (v : D) : List (Key × D) := if (l.any fun p => decide (p.1 = k)) = true then l.map (fun p => if p.1 = k then (p.1, v) else p) else l ++ [(k, v)]
section
variable {K : PySem.W.Frag} {m : Mp} {H : Hp} {S : Sto} {v : V} {d : D} {k : Key}
def KvR (K : PySem.W.Frag) (m : Mp) (H : Hp) (kvs : List (Key × V)) (l : List (Key × D)) : Prop := kvs.map (·.1) = l.map (·.1) ∧ Reps K m H (kvs.map (·.2)) (l.map (·.2))
theorem KvR.cons {p : Key × V} {q : Key × D} {kvs : List (Key × V)} {l : List (Key × D)} : KvR K m H (p :: kvs) (q :: l) ↔ p.1 = q.1 ∧ Rep K m H p.2 q.2 ∧ KvR K m H kvs l := by
  constructor
  · rintro ⟨h1, h2⟩
    simp only [List.map_cons, List.cons.injEq] at h1
    cases h2 with
    | cons a b => exact ⟨h1.1, a, h1.2, b⟩
  · rintro ⟨h1, h2, h3, h4⟩
    exact ⟨by simp only [List.map_cons, h1, h3], .cons h2 h4⟩
theorem KvR.nil_iff {l : List (Key × D)} (h : KvR K m H [] l) : l = [] := by
  cases l with
  | nil => rfl
  | cons a l => cases h.1
theorem KvR.look : ∀ {kvs : List (Key × V)} {l : List (Key × D)}, KvR K m H kvs l → (valD l k = none ∧ valV kvs k = none) ∨ ∃ d v, valD l k = some d ∧ valV kvs k = some v ∧ Rep K m H v d
  | [], _, h => by cases h.nil_iff; exact .inl ⟨rfl, rfl⟩
  | p :: kvs, [], h => by cases h.1
  | p :: kvs, q :: l, h => by
    obtain ⟨h1, h2, h3⟩ := KvR.cons.mp h
    by_cases e : q.1 = k
    · exact .inr ⟨q.2, p.2, by simp [valD, List.find?_cons, e], by simp [valV, List.find?_cons, h1, e], h2⟩
    · have a : valD (q :: l) k = valD l k := by simp [valD, List.find?_cons, e]
      have b : valV (p :: kvs) k = valV kvs k := valV_neg (by rw [h1]; exact e)
      rw [a, b]
      exact KvR.look h3
theorem KvR.some_eq {kvs : List (Key × V)} {l : List (Key × D)} (h : KvR K m H kvs l) : (valV kvs k).isSome = (valD l k).isSome := by
  rcases h.look (k := k) with ⟨a, b⟩ | ⟨d, v, a, b, _⟩ <;> rw [a, b] <;> rfl
theorem KvR.len {kvs : List (Key × V)} {l : List (Key × D)} (h : KvR K m H kvs l) : kvs.length = l.length := by
  have := congrArg List.length h.1
  simpa using this
theorem KvR.app : ∀ {kvs kvs' : List (Key × V)} {l l' : List (Key × D)}, KvR K m H kvs l → KvR K m H kvs' l' → KvR K m H (kvs ++ kvs') (l ++ l')
  | [], _, _, _, h, g => by cases h.nil_iff; exact g
  | p :: kvs, _, [], _, h, _ => by cases h.1
  | p :: kvs, _, q :: l, _, h, g => by
    obtain ⟨h1, h2, h3⟩ := KvR.cons.mp h
    exact KvR.cons.mpr ⟨h1, h2, KvR.app h3 g⟩
theorem KvR.mapP (rv : Rep K m H v d) : ∀ {kvs : List (Key × V)} {l : List (Key × D)}, KvR K m H kvs l → KvR K m H (kvs.map fun p => if p.1 = k then (p.1, v) else p) (l.map fun p => if p.1 = k then (p.1, d) else p)
  | [], _, h => by cases h.nil_iff; exact ⟨rfl, .nil⟩
  | p :: kvs, [], h => by cases h.1
  | p :: kvs, q :: l, h => by
    obtain ⟨h1, h2, h3⟩ := KvR.cons.mp h
    rw [List.map_cons, List.map_cons]
    refine KvR.cons.mpr ⟨?_, ?_, KvR.mapP rv h3⟩
    · by_cases e : q.1 = k
      · rw [if_pos (by rw [h1]; exact e), if_pos e]; exact h1
      · rw [if_neg (by rw [h1]; exact e), if_neg e]; exact h1
    · by_cases e : q.1 = k
      · rw [if_pos (by rw [h1]; exact e), if_pos e]; exact rv
      · rw [if_neg (by rw [h1]; exact e), if_neg e]; exact h2
theorem valD_any (k : Key) (l : List (Key × D)) : (l.any fun p => decide (p.1 = k)) = (valD l k).isSome := by
  unfold valD
  rw [Option.isSome_map]
  induction l with
  | nil => rfl
  | cons p l ih => by_cases e : p.1 = k <;> simp_all
theorem KvR.put {kvs : List (Key × V)} {l : List (Key × D)} (h : KvR K m H kvs l) (rv : Rep K m H v d) : KvR K m H (L2.putK kvs k v) (putD l k d) := by
  unfold L2.putK putD
  rw [valV_any, valD_any, h.some_eq]
  split
  · exact h.mapP rv
  · exact h.app (KvR.cons.mpr ⟨rfl, rv, rfl, .nil⟩)
theorem KvR.ext {m' : Mp} {H' : Hp} (e : Tr m H m' H') {kvs : List (Key × V)} {l : List (Key × D)} (h : KvR K m H kvs l) : KvR K m' H' kvs l := ⟨h.1, h.2.tr e⟩
end
section
variable {X : Cx}
end
/-! at a cell -/
/-! dict(list of pairs) -/
section
variable {X : Cx} {W : WX} {e : Expr} {ma : EM} {p pos : Pos}
end
end Ag

/-! errors of an own class raised and caught; list(text), min of a tuple, texts by order -/
namespace Ag
open PySem PySem.Spec PyProof.Rows L2
section
variable {X : Cx} {W : WX}
/-! ### small built-ins -/
/-- min of a tuple of ints -/
def gMinTup (d : D) (S : Sto) : Option D := match d with
  | .tup l => (match isInts l with
    | some (n :: ns) => some (.int (ns.foldl min n))
    | _ => none)
  | _ => none
open PySem.W (AlikeAll alike min_tuple_data minD_ints) in
theorem b_minTup (hc : X.calm = true) (hu : X.A.units + 65 < cLine) : CallR X (.builtin "min") (rOL X.K (f1 gMinTup)) := c1 fun pins s σ H x u Q d S m r I rx si hx hf hq => by
  unfold gMinTup at hf
  split at hf
  · rename_i l
    split at hf
    · rename_i n ns q2
      cases hf
      cases hx with
      | tup g1 hd g2 =>
        obtain rfl := ints_of g2 q2
        obtain ⟨its, rv, pl, _⟩ := I.tuple g1
        obtain ⟨as, rd⟩ := reads_ints (h := s.heap) rv
        rw [Vals.ref1 rx]
        have dp := depth_ints (n :: ns)
        refine min_tuple_data (I.ok.hd hc) pl rd ⟨fun x hx y hy => ?_, fun x hx => ?_⟩ (by simp only [List.map_cons] at dp; omega) fun i v h' tk bs hv rr kp => ?_
        · obtain ⟨a, _, rfl⟩ := List.mem_map.mp (show x ∈ (n :: ns).map PyData.int from hx)
          obtain ⟨b, _, rfl⟩ := List.mem_map.mp (show y ∈ (n :: ns).map PyData.int from hy)
          rfl
        · obtain ⟨a, _, rfl⟩ := List.mem_map.mp (show x ∈ (n :: ns).map PyData.int from hx)
          intro z; cases z
        · rw [minD_ints] at rr
          cases rr with
          | int _ t => exact ⟨.int _, H, I.kept kp, ⟨_, rfl⟩, hq _ H .refl si (.int _)⟩
    · cases hf
  · cases hf
end
/-! ### raise C(x), C's own __init__ keeping x as f -/
/-- what the layer asks of such a class C with the field f -/
structure ErC (K : PySem.W.Frag) (c f : Str) : Prop where
  o : OexC K (He.ga K c)
  x : XfC K (He.ga K c)
  no : PySem.W.findIn K (.ref (He.ga K c)) f = some none
  ini : PySem.W.findIn K (.ref (He.ga K c)) "__init__" = some (some (.ref (He.ma K (He.ga K c) "__init__")))
  fn : PySem.W.typeIn K (.ref (He.ma K (He.ga K c) "__init__")) = some (.type "function")
  me : PySem.W.exmOne K (.ref (He.ga K c)) (.ref (He.ga K c)) = some true
/-- the promise of C.__init__(self, x): self.f = x -/
def spX (K : PySem.W.Frag) (C : Addr) (f : Str) : Sp := fun vs H Q _ => ∃ (a : Addr) (y : V), vs = [.ref a, y] ∧ H a = some (exo a C none) ∧ ∀ dx, H dx = none → dx ≠ a → Q .non (upd (upd H dx (exd dx [(f, y)])) a (exo a C (some dx)))
def sRaise (c f : Str) (ma : EM) : SM := fun en S => eS (ma en S) en fun d S1 => .exc c [(f, d)] en S1
/-! ### try: .. except C as n: .. -/
theorem EnvR.wipe1 {K : PySem.W.Frag} {m : Mp} {H : Hp} {σ : L2.St} {en : En} {i : Nat} {v : Option V} (er : EnvR K m H σ en) : EnvR K m H (σ.set i v) (en.set i none) := by
  refine ⟨by simp [er.len], fun k d q => ?_⟩
  by_cases hk : i = k
  · subst hk
    by_cases hl : i < en.length
    · rw [List.getElem?_set_self hl] at q; cases q
    · rw [List.getElem?_eq_none (by simpa using hl)] at q; cases q
  · rw [List.getElem?_set_ne hk] at q
    obtain ⟨w, h1, h2⟩ := er.at_ k d q
    exact ⟨w, by rw [List.getElem?_set_ne hk]; exact h1, h2⟩
section
variable {X : Cx} {W : WX} {j : Nat} {c n : Str} {i : Nat} {body suite : List Stmt} {b₀ : Stmt} {np pos pos' : Pos} {b : SM} {su : List (Str × D) → SM}
theorem lookup_at {K : PySem.W.Frag} {m : Mp} {H : Hp} {f : Str} {d : D} : ∀ {vs : List (Str × V)} {fs : List (Str × D)}, vs.map (·.1) = fs.map (·.1) → Reps K m H (vs.map (·.2)) (fs.map (·.2)) → fs.lookup f = some d → ∃ v, vs.lookup f = some v ∧ Rep K m H v d
  | [], [], _, _, h => by cases h
  | [], _ :: _, h, _, _ => by simp at h
  | _ :: _, [], h, _, _ => by simp at h
  | (g, v) :: vs, (g', d') :: fs, h, r, l => by
    simp only [List.map_cons, List.cons.injEq] at h
    obtain ⟨rfl, h⟩ := h
    cases r with
    | cons r1 r2 =>
      simp only [List.lookup] at l ⊢
      split at l
      · cases l; exact ⟨v, rfl, r1⟩
      · exact lookup_at h r2 l
variable {eA eB : Expr} {ma mb : EM} {f : Str} {a : Addr} {oe : Obj} {cls : Value} {od : Option Addr} {pn : List (Addr × Obj)} {p1 p2 p3 p4 p5 : Pos}
end
section
variable {X : Cx} {W : WX} {j : Nat} {a : Addr} {pn : List (Addr × Obj)}
structure Bs (X : Cx) : Prop where
  u64 : X.A.units + 64 < cLine
  u65 : X.A.units + 65 < cLine
end
section
variable {P : Program} {w : World} {A : Around} {E : Value → Shared → Prop} {s : Shared}
end
section
variable {X : Cx} {W : WX} {e : Expr} {me : EM} {p1 pos1 p2 pos2 : Pos}
end
end Ag

/-! texts from behind; cells that are dicts, as odd values -/
namespace Ag
open PySem PySem.Spec PyProof.Rows L2
open PySem.SeqAt PySem.MeetsSeq AutoSeq1
section
variable {X : Cx} {W : WX} {e : Expr} {ma : EM}
end
/-! a call without arguments -/
/-- {} as a value that is never written -/
theorem e_dct0 {X : Cx} {W : WX} {pos : Pos} : PE X (.Dict [] [] pos) (tE X.K W (mC (.dct []))) := by
  refine PE.imp pe_dnew ?_
  rintro σ H Q ⟨en, S, m, er, si, h⟩ p o hp
  exact h _ m _ (.new hp) (si.new hp) (.dct upd_same (si.off hp) .nil List.nodup_nil)
/-! a cell that is a dict -/
def isDc (S : Sto) (i : Nat) : Bool := match S[i]? with
  | some (.dic _) => true
  | some (.dik _) => true
  | _ => false
section
variable {X : Cx} {pins : List (Addr × Obj)} {σ : L2.St} {H : Hp} {s : Shared} {m : Mp} {S : Sto} {v : V} {i : Nat}
theorem dc_at (I : L2.Inv X pins σ H s) (si : Sim X.K m S H) (r : Rep X.K m H v (.ref i)) (h : isDc S i = true) : ∃ a o es ep, v = .ref a ∧ s.heap.get? a = some o ∧ o.ExactDict ∧ o.data = .dict es ep := by
  cases r with
  | ref h1 =>
    rename_i a
    unfold isDc at h
    cases q : S[i]? with
    | none => rw [q] at h; cases h
    | some ob =>
      rw [q] at h
      cases ob with
      | dic l =>
        obtain ⟨o, xs, g1, _, _⟩ := si.cell i a _ h1 q
        obtain ⟨h0, ho, es, ep, hx', hd, he⟩ := (I.hok a _ g1).1
        exact ⟨a, o, es, ep, rfl, ho, hx', hd⟩
      | dik l =>
        obtain ⟨kvs, g1, _, _⟩ := si.cell i a _ h1 q
        obtain ⟨_, _, vs, _, o, es, ep, ho, hx', hd, _⟩ := dk_of I.hok g1
        exact ⟨a, o, es, ep, rfl, ho, hx', hd⟩
      | lst l => cases h
      | ins c ns l => cases h
      | tab _ _ => cases h
      | err _ _ => cases h
      | clo _ _ _ _ => cases h
      | fz => cases h
end
def fIsiZ (cs : List Str) (tab : List (Ty × Ty × Bool)) (ds : List D) (S : Sto) : Option D := match ds with
  | [.ref i, c] => if isDc S i = true then (clD c).bind fun u => (look2 (.b "dict") u tab).map .bl else fIsiX cs tab ds S
  | ds => fIsiX cs tab ds S
section
variable {X : Cx}
theorem b_isiZ {cs : List Str} {tab : List (Ty × Ty × Bool)} (is : Iso X.K cs tab) : CallR X (.builtin "isinstance") (rOL X.K (fIsiZ cs tab)) := by
  intro pins s σ H xs us Q I rx ⟨ds, S, m, r, si, hx, hf, hq⟩
  by_cases e : ∃ i c, ds = [.ref i, c] ∧ isDc S i = true
  · obtain ⟨i, c, rfl, hi⟩ := e
    have hf : ((clD c).bind fun u => (look2 (.b "dict") u tab).map D.bl) = some r := by
      simp only [fIsiZ, hi, if_true] at hf
      exact hf
    cases hx with
    | cons r1 b =>
      cases b with
      | cons r2 b =>
        cases b
        rename_i x y
        obtain ⟨a, o, es, ep, rfl, ho, hx', hd⟩ := dc_at I si r1 hi
        cases q1 : clD c with
        | none => rw [q1] at hf; cases hf
        | some w =>
          rw [q1, Option.bind_some] at hf
          cases q2 : look2 (.b "dict") w tab with
          | none => rw [q2] at hf; cases hf
          | some b =>
            rw [q2] at hf
            cases hf
            have cl : ClsV y (w.val X.K) := by
              cases r2 with
              | ty n => cases q1; exact .ty n
              | gl z => cases q1; exact .own _
              | _ => cases q1
            obtain ⟨u1, u2, rfl, v1, v2⟩ := vals2 rx
            have e2 := cl.eq v2
            subst e2
            cases (show u1 = Value.ref a from v1)
            exact PySem.W.kia_one PySem.W.kitx_dict I.kIn ⟨o, ho, hx'.1⟩ (is.ans _ (look2_mem q2)) (fun z => nomatch z) fun tk => ⟨.bl b, H, I.tok tk, rfl, hq _ H .refl si (.bl b)⟩
  · have : fIsiZ cs tab ds S = fIsiX cs tab ds S := by
      unfold fIsiZ
      split
      · rename_i i c
        rw [if_neg fun z => e ⟨i, c, rfl, z⟩]
      · rfl
    rw [this] at hf
    exact b_isiX is pins s σ H xs us Q I rx ⟨ds, S, m, r, si, hx, hf, hq⟩
end
end Ag

/-! dict(d), dict(list of pairs): keys that are tuples -/
namespace Ag
open PySem PySem.Spec PyProof.Rows L2
section
variable {prog : Program} {w : World} {A : Around} {E : Value → Shared → Prop} {s : Shared}
end
section
variable {X : Cx}
end
/-! over the layer -/
def keysD : List D → List NestedKey
  | kd :: vd :: l => match keyD kd with
    | some k => k :: keysD l
    | none => keysD l
  | _ => []
theorem DicR.keys {K : PySem.W.Frag} {m : Mp} {H : Hp} : ∀ {l : List D} {xs : List (NestedKey × Addr × Value)}, DicR K m H l xs → xs.map (·.1) = keysD l
  | [], _, h => by cases h; rfl
  | [_], _, h => by cases h
  | kd :: vd :: l, _, h => by
    cases h with
    | cons a b c d r =>
      simp only [List.map_cons, keysD, a]
      rw [DicR.keys r]
section
variable {X : Cx} {W : WX} {e : Expr} {ma : EM} {p pos : Pos}
end
/-! ### for p in d.items(): the pair stays a tuple -/
section
variable {prog : Program} {w : World} {A : Around} {E : Value → Shared → Prop} {s : Shared}
end
/-! ### sorted(set(t)), t a tuple of whole numbers -/
section
variable {X : Cx} {W : WX} {e : Expr} {me : EM} {p1 pos1 p2 pos2 : Pos}
end
end Ag

/-! x(lambda: body): the code's table is a cell of the store -/
namespace Ag
open PySem PySem.Spec PyProof.Rows L2
/-! ### the lambda made, with the heap told in full -/
/-- the heap behind the making: as before, or with one code more in the table -/
def MadeL (H : Hp) (P : Addr) (ps : Array Value) (q : Str) (d : Addr) (G : Hp) : Prop :=
  G = H ∨ (H d = none ∧ ∃ more : Array Value, G = upd (upd H P (.tbl (ps ++ more))) d (LamX.CodeO d q))
theorem MadeL.ext {H G : Hp} {P d : Addr} {ps : Array Value} {q : Str} {m : Mp} (w : MadeL H P ps q d G) (hP : H P = some (.tbl ps)) (inc : P ∈ m.c) : Ext m H m G := by
  rcases w with rfl | ⟨new, more, rfl⟩
  · exact .refl
  · have at_ : ∀ b o, H b = some o → b ≠ P → (upd (upd H P (.tbl (ps ++ more))) d (LamX.CodeO d q)) b = some o := fun b o h hb => by
      rw [upd_ne (ne_of_none h new), upd_ne hb]; exact h
    refine ⟨⟨[], by simp, by simp⟩, rfl, fun b o h => ?_, fun b o h n => at_ b o h fun z => n (by rw [z]; exact inc), fun b xs h => at_ b _ h fun z => ?_, fun b o u h => at_ b _ h fun z => ?_, fun b c h => at_ b _ h fun z => ?_⟩
    · by_cases hb : b = P
      · subst hb
        exact ⟨_, by rw [upd_ne (ne_of_none h new), upd_same]⟩
      · exact ⟨o, at_ b o h hb⟩
    all_goals (rw [z, hP] at h; cases h)
section
variable {K : PySem.W.Frag} {m : Mp} {S : Sto} {H G : Hp} {P d : Addr} {ps : Array Value} {q : Str} {i : Nat}
theorem Sim.tab_at (si : Sim K m S H) (h : S[i]? = some (.tab P q)) : m.c[i]? = some P ∧ LamX.TabS H P q := by
  have li : i < m.c.length := by rw [si.len]; exact (List.getElem?_eq_some_iff.mp h).1
  have e : m.c[i]? = some m.c[i] := List.getElem?_eq_getElem li
  obtain ⟨e2, t⟩ := si.cell i _ _ e h
  exact ⟨by rw [e, e2], t⟩
theorem MadeL.sim (w : MadeL H P ps q d G) (si : Sim K m S H) (h : S[i]? = some (.tab P q)) (hP : H P = some (.tbl ps)) (t : LamX.TabS G P q) : Sim K m S G := by
  obtain ⟨ci, _⟩ := si.tab_at h
  have inc : P ∈ m.c := List.mem_of_getElem? ci
  have e := w.ext hP inc
  refine ⟨si.len, si.nd, fun j a o h1 h2 => ?_, fun a ha => ?_, si.dis⟩
  · by_cases ha : a = P
    · subst ha
      have : j = i := (List.getElem?_inj (List.getElem?_eq_some_iff.mp h1).1 si.nd).mp (h1.trans ci.symm)
      subst this
      rw [h] at h2
      cases h2
      exact ⟨rfl, t⟩
    · refine (si.cell j a o h1 h2).tr e.tr ?_
      rcases w with rfl | ⟨new, more, rfl⟩
      · rfl
      · obtain ⟨u, hu, _⟩ := si.trk (List.mem_of_getElem? h1)
        rw [upd_ne (ne_of_none hu new), upd_ne ha]
  · obtain ⟨u, hu⟩ := si.hid a ha
    exact e.trk a u hu
end
section
variable {X : Cx} {pins : List (Addr × Obj)} {σ : L2.St} {H : Hp} {s : Shared}
end
/-! ### the call x(lambda: body) -/
section
variable {X : Cx} {pins : List (Addr × Obj)} {σ : L2.St} {H HZ : Hp} {s s1 : Shared}
end
def isTab (S : Sto) (i : Nat) (P : Addr) (q : Str) : Bool := match S[i]? with
  | some (.tab P' q') => decide (P' = P) && decide (q' = q)
  | _ => false
theorem tab_of {S : Sto} {i : Nat} {P : Addr} {q : Str} (h : isTab S i P q = true) : S[i]? = some (.tab P q) := by
  unfold isTab at h
  split at h
  · rename_i e
    simp only [Bool.and_eq_true, decide_eq_true_eq] at h
    rw [e, h.1, h.2]
  · cases h
theorem post_σ {K : PySem.W.Frag} {E : XK} {σ : L2.St} {m : Mp} {H : Hp} {r : Res D} {Q : VK} (h : Post K (WofE E) [] m H r Q) : Post K (WofE E) σ m H r Q := by
  cases r with
  | ok d S => exact h
  | exc c fs S => exact h
  | stuck => exact h
/-! ### try with several except clauses: one takes the error, those ahead of it let it by -/
/-- the clauses: those of other classes, then the one that takes errors of the class cv; what follows is not looked at -/
inductive HdsOne (X : Cx) (cv : Value) (ts : Addr → Value → Option Addr → TS) : List ExceptHandler → Prop
  | take {x : Str} {c : Value} {np pos' : Pos} {b₀ : Stmt} {su : List Stmt} {post : List ExceptHandler} (hc : Names X x c) (hit : PySem.W.exmOne X.K cv c = some true)
      (hsu : ∀ (a : Addr) (oe : Obj) (cls : Value) (d : Option Addr) (pn : List (Addr × Obj)), L2N.Zn cls d oe → (∃ vs, oe.data = .fields vs) → PSs (X.suite a ((a, oe) :: pn)) (b₀ :: su) (ts a cls d)) :
      HdsOne X cv ts (.ExceptHandler (some (.Name x np)) none (b₀ :: su) pos' :: post)
  | miss {x : Str} {c : Value} {np pos' : Pos} {nm : Option Str} {b₀ : Stmt} {su : List Stmt} {hds : List ExceptHandler} (hc : Names X x c) (no : PySem.W.exmOne X.K cv c = some false) (r : HdsOne X cv ts hds) :
      HdsOne X cv ts (.ExceptHandler (some (.Name x np)) nm (b₀ :: su) pos' :: hds)
section
variable {X : Cx} {body : List Stmt} {h1 : ExceptHandler} {hr : List ExceptHandler} {pos : Pos} {cv : Value} {tb : WX → TS} {ts : Addr → Value → Option Addr → TS}
end
/-! ### defs that call what they get in a try -/
section
variable {P : Program} {w : World} {K : PySem.W.Frag} {mg : Str → Option Value} {base : Heap} {N : List Str} {x : Str} {sg : Scope} {g : Addr} {cdg : Value} {a : Str} {k : Nat}
end
/-! ### raise C(), C a class without an own __init__ -/
/-! ### the law's end, with tables of code -/
theorem law_GT {Pg : Program} {wd : World} {Kf : PySem.W.Frag} {gm bm : Str → Option Value} {lv : Nat} {fa sa : Addr} {fd : FuncData} {par : Str} {pr : Sp} {t : Shared} {us : List Value} {ns : List Int} {cs : List (Addr × Addr)}
    (kin : Kf.In t.heap) (gns : t.heap.Ns mainGlobals gm) (bns : t.heap.Ns builtinsNs bm) (bbt : ∀ z : Str, z ≠ "__name__" → bm z = bootBuiltins z) (nol : t.heap.NoLimit) (nod : t.heap.NoDigits) (gens : t.gens = #[])
    (tabs : ∀ p ∈ cs, t.heap.get? p.2 = some { cls := .none, data := .fields #[] }) (alien2 : ∀ p ∈ cs, Kf.lookup p.2 = none) (codes : ∀ p ∈ cs, PySem.W.CodeHd t.heap p.1 p.2)
    (bmod : ∃ (b : Addr) (ob : Obj), gm "__builtins__" = some (.ref b) ∧ b ≠ builtinsNs ∧ t.heap.get? b = some ob ∧ ob.cls = .type "module" ∧ ob.dict = some builtinsNs ∧ ob.data = .plain)
    (obj : t.heap.get? sa = some { cls := .type "list", data := .seq us.toArray }) (isn : IntsAre us ns) (len : ns.length ≤ sizeLine) (room : Room lv callerA)
    (prom : ∀ low : Heap, Kf.In low → low.Ns mainGlobals gm → (∀ p ∈ cs, LamX.TabB low gm p.1 p.2) → low.NoDigits → FnG Pg wd Kf gm low lv fa fd [par] pr) (bind : ∀ (z : Shared) (u : Value), BindsTo z fd ⟨[u], []⟩ [(par, u)])
    (good : ∀ A : Hp, (∀ p ∈ cs, A p.2 = some (.tbl #[])) → (∀ c, A c = none ∨ c ∈ cs.map (·.2) ∨ ∃ o xs, A c = some (.frz o (.lst xs))) → SqL Kf A sa (ns.map V.int) → pr [.ref sa] A (fun v _ => v = .bl true) fun _ _ _ => False) :
    codeAny (model Pg wd) callerA (.call (.ref fa) ⟨[.ref sa], []⟩) (fun r z => r = .ok (.ret (.bool true)) ∧ OldK t.heap z.heap ∧ z.os = t.os ∧ AllBare z.gens) t := by
  have tabOf : ∀ c : Addr, c ∈ cs.map (·.2) → t.heap.get? c = some { cls := .none, data := .fields #[] } := fun c hc => by
    obtain ⟨p, hp, rfl⟩ := List.mem_map.mp hc
    exact tabs p hp
  have inT : ∀ p ∈ cs, p.2 ∈ cs.map (·.2) := fun p hp => List.mem_map.mpr ⟨p, hp, rfl⟩
  have scrT : sa ∉ cs.map (·.2) := fun y => by
    have e := tabOf sa y
    rw [obj] at e
    nomatch (show Data.seq us.toArray _ = Data.fields #[] from congrArg Obj.data (Option.some.inj e))
  have start : ∀ A : Hp, (∀ p ∈ cs, A p.2 = some (.tbl #[])) → (∀ c, A c = none ∨ c ∈ cs.map (·.2) ∨ ∃ o xs, A c = some (.frz o (.lst xs))) → SqL Kf A sa (ns.map V.int) → HOk Pg wd A t.heap → (∀ c, A c ≠ none → c = sa ∨ c ∈ cs.map (·.2)) → (A sa ≠ none → Kf.lookup sa = none) →
      codeAny (model Pg wd) callerA (.call (.ref fa) ⟨[.ref sa], []⟩) (fun r z => r = .ok (.ret (.bool true)) ∧ OldK t.heap z.heap ∧ z.os = t.os ∧ AllBare z.gens) t := by
    intro A tb only sq ok one alien
    have stay : ∀ {c : Addr} {u : Obj}, t.heap.get? c = some u → A c = none → (hidT t.heap A).get? c = some u := fun e n => hidT_get e n
    have clean : ∀ {c : Addr} {u : Obj}, t.heap.get? c = some u → (∀ vs n, u.data ≠ .seq vs n) → u.data ≠ .fields #[] → A c = none := fun {c u} e y1 y2 => by
      cases q : A c with
      | none => rfl
      | some z =>
        rcases one c (by rw [q]; simp) with rfl | y
        · rw [obj] at e; cases e
          exact absurd rfl (y1 _ _)
        · rw [tabOf c y] at e; cases e
          exact absurd rfl y2
    have dictOut : ∀ {c : Addr} {u : Obj} {es : Array DictEntry} {n : Nat}, t.heap.get? c = some u → u.data = .dict es n → A c = none := fun {c u es n} e d =>
      clean e (fun vs k y => by rw [d] at y; cases y) fun y => by rw [d] at y; cases y
    have under : ∀ {c : Addr} {g : Str → Option Value}, t.heap.Ns c g → (hidT t.heap A).Ns c g := fun {c g} ⟨u, es, n, e, d, r⟩ => ⟨u, es, n, stay e (dictOut e d), d, r⟩
    have kin2 : Kf.In (hidT t.heap A) := fun c u e => stay (kin c u e) (by
      cases q : A c with
      | none => rfl
      | some z =>
        rcases one c (by rw [q]; simp) with rfl | y
        · rw [alien (by rw [q]; simp)] at e; cases e
        · obtain ⟨p, hp, rfl⟩ := List.mem_map.mp y
          rw [alien2 p hp] at e; cases e)
    obtain ⟨lc, n1, n2⟩ := nol
    have nd2 : (hidT t.heap A).NoDigits := let ⟨mc, d1, d2⟩ := nod; ⟨mc, under d1, d2⟩
    have md : Mod Kf gm (hidT t.heap A) := ⟨kin2, under gns, ⟨bm, under bns, bbt⟩, lc, under n1, n2⟩
    have tab : ∀ p ∈ cs, LamX.TabB (hidT t.heap A) gm p.1 p.2 := fun p hp => by
      have raw := tabs p hp
      refine ⟨?_, ?_, fun y => ?_⟩
      · obtain ⟨o, vs, file, tf, flags, tg, inF, text, tt, e, f1, f2, f3, f4, f5, f6, f7, f8, ne⟩ := codes p hp
        refine ⟨o, vs, file, tf, flags, tg, inF, text, tt, stay e (clean e (fun ws k y => ?_) fun y => ?_), f1, f2, f3, f4, f5, f6, f7, f8, ne⟩
        · rw [f2] at y; cases y
        · rw [f2] at y; cases y
          simp at f3
      · obtain ⟨b, ob, b1, b2, b3, b4, b5, b6⟩ := bmod
        have noG : b ≠ mainGlobals := fun y => by
          obtain ⟨o, es, ep, e, hd, _⟩ := gns
          rw [y, e] at b3; cases b3
          rw [hd] at b6; cases b6
        have noP : b ≠ p.2 := fun y => by
          rw [y, raw] at b3; cases b3
          cases b6
        exact ⟨b, ob, b1, b2, noG, noP, stay b3 (clean b3 (fun ws k y => by rw [b6] at y; cases y) fun y => by rw [b6] at y; cases y), b4, b5, b6⟩
      · obtain ⟨o, es, ep, e, hd, _⟩ := gns
        rw [y, raw] at e; cases e
        cases hd
    have ev : Env0 Pg wd Kf gm (hidT t.heap A) callerA [] t A := ⟨rfl, md, fun c u e => of_hidT e, Nat.le_of_eq (hidT_size _ _), trivial, fun c hc => (nomatch (show c ∈ ([] : List Addr) from hc)), ok, .of_eq gens⟩
    refine codeAny_mono ((prom _ kin2 (under gns) tab nd2).run callerA [] t A ⟨[.ref sa], []⟩ [.ref sa] [.ref sa] _ _ rfl room ev (bind t (.ref sa)) (.cons rfl .nil) (good A tb only sq)) fun r z h => ?_
    cases r with
    | error e =>
      obtain ⟨_, _, _, _, _, _, _, _, _, _, _, _, no⟩ := (show L2N.CX Pg wd [] A t (fun _ _ _ => False) e z from h)
      exact no.elim
    | ok fl =>
      cases fl with
      | next => exact False.elim h
      | brk => exact False.elim h
      | cont => exact False.elim h
      | ret u =>
        obtain ⟨v, A2, os, bare, un, ok2, rel, q⟩ := h
        obtain rfl : v = .bl true := q
        obtain rfl : u = Value.bool true := rel
        have old : ∀ c o, c ∉ cs.map (·.2) → t.heap.get? c = some o → z.heap.get? c = some o := fun c o nt e => by
          cases q : A c with
          | none => exact un.keep c o e q (fun y => nomatch (show c ∈ ([] : List Addr) from y)) (by simp)
          | some z2 =>
            rcases only c with y | y | ⟨ob, xs, y⟩
            · rw [q] at y; cases y
            · exact absurd y nt
            · obtain ⟨e1, _⟩ := ok c _ y
              obtain ⟨e2, _⟩ := ok2 c _ (un.frzs c ob _ y)
              rw [e] at e1; cases e1
              exact e2
        have more : ∀ p ∈ cs, ∃ w : Array Value, z.heap.get? p.2 = some { cls := .none, data := .fields w } := fun p hp => by
          obtain ⟨w, y⟩ := un.tbls p.2 #[] (tb p hp)
          exact ⟨_, ok2 p.2 _ y⟩
        refine ⟨rfl, ⟨fun c o e => ?_, fun c o e => ?_⟩, os, bare⟩ <;> by_cases hc : c ∈ cs.map (·.2)
        · obtain ⟨p, hp, ep⟩ := List.mem_map.mp hc
          obtain ⟨w, hw⟩ := more p hp
          subst ep
          rw [tabs p hp] at e; cases e
          exact .inr (.inl ⟨((codes p hp).tab (tabs p hp)).isCodeTable, rfl, #[], w, rfl, by rw [Array.empty_append]; exact hw⟩)
        · exact .inl (old c o hc e)
        · obtain ⟨p, hp, ep⟩ := List.mem_map.mp hc
          obtain ⟨w, hw⟩ := more p hp
          subst ep
          exact ⟨_, hw⟩
        · exact ⟨o, old c o hc e⟩
  cases hk : Kf.lookup sa with
  | some o =>
    have e := kin sa o hk
    rw [obj] at e
    cases e
    refine start (fun c => if c ∈ cs.map (·.2) then some (.tbl #[]) else none) (fun p hp => if_pos (inT p hp)) (fun c => ?_) (.inr ⟨_, us.toArray, _, hk, rfl, rfl, rfl, by rw [List.size_toArray, isn.length]; exact len, by simpa using vals_ints isn⟩) (fun c u y => ?_) (fun c y => ?_) fun y => absurd (if_neg scrT) y
    all_goals by_cases hc : c ∈ cs.map (·.2)
    · exact .inr (.inl hc)
    · exact .inl (if_neg hc)
    · have y2 := (if_pos hc).symm.trans y
      cases y2
      exact tabOf c hc
    · nomatch (if_neg hc).symm.trans y
    · exact .inr hc
    · exact absurd (if_neg hc) y
  | none =>
    refine start (fun c => if c = sa then some (.frz { cls := .type "list", data := .seq us.toArray } (.lst (ns.map V.int))) else if c ∈ cs.map (·.2) then some (.tbl #[]) else none) (fun p hp => (if_neg (show ¬ p.2 = sa from fun y => scrT (y ▸ inT p hp))).trans (if_pos (inT p hp))) (fun c => ?_)
      (.inl (.inr ⟨{ cls := .type "list", data := .seq us.toArray }, if_pos rfl⟩)) (fun c u y => ?_) (fun c y => ?_) fun _ => hk
    all_goals by_cases hc : c = sa
    · exact .inr (.inr ⟨_, _, if_pos hc⟩)
    · by_cases h2 : c ∈ cs.map (·.2)
      · exact .inr (.inl h2)
      · exact .inl ((if_neg hc).trans (if_neg h2))
    · have y2 := (if_pos hc).symm.trans y
      cases y2
      subst hc
      exact ⟨obj, by rw [List.length_map]; exact len, us, _, vals_ints isn, obj⟩
    · have y1 := (if_neg hc).symm.trans y
      by_cases h2 : c ∈ cs.map (·.2)
      · have y2 := (if_pos h2).symm.trans y1
        cases y2
        exact tabOf c h2
      · nomatch (if_neg h2).symm.trans y1
    · exact .inl hc
    · by_cases h2 : c ∈ cs.map (·.2)
      · exact .inr h2
      · exact absurd ((if_neg hc).trans (if_neg h2)) y
theorem walk_GT {l : PySem.W.OpenLaw} {n lv : Nat} {q : Program} {loose : List Str} {XP : (Str → Option Value) → Heap → Prop} {YP : World → Heap → Prop} {d : DefRec} {par : Str}
    (hn : l.most = some n) (hn2 : n ≤ sizeLine) (hdf : d.params.defaults = []) (hr : Room lv callerA)
    (F : ∀ (wd : World) (gm : Str → Option Value) (fa : Addr) (h : Heap), YP wd h → h.Ns mainGlobals gm → gm d.name = some (.ref fa) →
      ∃ (Kf : PySem.W.Frag) (cs : List (Addr × Addr)) (fd : FuncData) (pr : Sp), Kf.In h ∧ (∀ p ∈ cs, h.get? p.2 = some { cls := .none, data := .fields #[] }) ∧ (∀ p ∈ cs, Kf.lookup p.2 = none) ∧ (∀ p ∈ cs, PySem.W.CodeHd h p.1 p.2) ∧ (∀ (s : Shared) (u : Value), BindsTo s fd ⟨[u], []⟩ [(par, u)]) ∧
        (∀ (A : Hp) (a : Addr) (ns : List Int), ns.length ≤ n → (∀ p ∈ cs, A p.2 = some (.tbl #[])) → (∀ c, A c = none ∨ c ∈ cs.map (·.2) ∨ ∃ o xs, A c = some (.frz o (.lst xs))) → SqL Kf A a (ns.map V.int) → pr [.ref a] A (fun v _ => v = .bl true) fun _ _ _ => False) ∧
        ∀ low : Heap, Kf.In low → low.Ns mainGlobals gm → (∀ p ∈ cs, LamX.TabB low gm p.1 p.2) → low.NoDigits → FnG l.prog wd Kf gm low lv fa fd [par] pr) :
    PySem.W.WalkO q loose XP YP l.row.toRowW d [] (fun f vs => PySem.call f vs) := by
  refine Att.attach_call hn hdf fun w s₀ s₁ gm bm fa o pm cd doc a vs ns G Y ho hd hcd hmg hobj hints hlen hg => ?_
  obtain ⟨Kf, cs, fd, pr, KX, hT, nT, hC, hb, hsp, hF⟩ := F w gm fa _ Y G.T.g hmg
  exact law_GT KX G.T.g G.T.b G.T.builtins G.T.nolimit G.T.nodigits hg hT nT hC G.T.bmain hobj hints (Nat.le_trans hlen hn2) hr hF hb fun A hO hP hS => hsp A a ns hlen hO hP hS
/-- the promise at the script; ts: the tables, with the names of the lambdas -/
theorem law_spT {K : PySem.W.Frag} {f : List D → Sto → Res D} {ts : List (Addr × Str)} (nd : (ts.map (·.1)).Nodup) (h : ∀ ns : List Int, ns.length ≤ 63 → ∃ S, f [.scr (ns.map .int)] (ts.map fun p => .tab p.1 p.2) = .ok (.bl true) S) {A : Hp} {a : Addr} {ns : List Int} (hl : ns.length ≤ 63) (ho : ∀ p ∈ ts, A p.1 = some (.tbl #[])) (only : ∀ c, A c = none ∨ c ∈ ts.map (·.1) ∨ ∃ o xs, A c = some (.frz o (.lst xs))) (sq : SqL K A a (ns.map V.int)) :
    spOf K 1 f [.ref a] A (fun v _ => v = .bl true) fun _ _ _ => False := by
  obtain ⟨S, e⟩ := h ns hl
  have ri : ∀ l : List Int, Reps K ⟨ts.map (·.1), []⟩ A (l.map V.int) (l.map D.int) := fun l => by
    induction l with
    | nil => exact .nil
    | cons i l ih => exact .cons (.int i) ih
  refine ⟨rfl, [.scr (ns.map .int)], ts.map fun p => .tab p.1 p.2, ⟨ts.map (·.1), []⟩, .cons (.scr ?_ (ri ns)) .nil, ⟨by simp, nd, fun i a o y1 y2 => ?_, fun a z => (by simp at z), fun a _ z => (by simp at z)⟩, ?_⟩
  · rcases sq with (q | q) | q
    · rcases only a with y | y | ⟨o, xs, y⟩
      · rw [y] at q; cases q
      · obtain ⟨p, hp, rfl⟩ := List.mem_map.mp y
        rw [ho p hp] at q; cases q
      · rw [y] at q; cases q
    · exact .inl q
    · exact .inr fun _ => .inr q
  · simp only [List.getElem?_map] at y1 y2
    cases q : ts[i]? with
    | none => rw [q] at y1; cases y1
    | some p =>
      rw [q] at y1 y2
      cases y1; cases y2
      exact ⟨rfl, LamX.TabS.nil (ho p (List.mem_of_getElem? q))⟩
  · rw [e]
    intro v m' H' _ _ r
    cases r with
    | bl b => rfl
/-! ### a def whose code has a table -/
theorem fn_okC {P : Program} {w : World} {K : PySem.W.Frag} {mg : Str → Option Value} {base : Heap} {x qual : Str} {params : Arguments} {body : List Stmt} {scope : Scope} {kws : List (Str × V)} {f c : Addr} {fd : FuncData} {N ps : List Str} {k : Nat} {s : SM} (F : FunD K x qual params body scope [] kws f fd) (hc : codeRefB K f c = true) (S : FnScope N ps scope)
    (hb : ∀ (A : Around) (outer : List Env) (s0 : Shared) (H : Hp) (E : XK), Bd (cxOf (L2N.CX P w) P w K mg base N qual scope f (.ref c) A outer s0 H E) (WofE E) k → PSs (cxOf (L2N.CX P w) P w K mg base N qual scope f (.ref c) A outer s0 H E) body (tS K (WofE E) s)) :
    FnG P w K mg base (k + 1) f fd ps (spOf K ps.length (runB N.length s)) := by
  obtain ⟨oc, od, dV, kV, doc, pm, an, cdv, ct, osl, rfl, lk, hcd, dd, kd⟩ := F.ex
  have ec : cdv = .ref c := by
    unfold codeRefB at hc
    rw [lk] at hc
    cases cdv with
    | ref d =>
      have : d = c := by simpa using hc
      rw [this]
    | _ => cases hc
  subst ec
  refine ⟨fun vs H Q E h => h.1, fun A outer s0 H args us vs Q E hg hr e0 hbi rv h => ?_⟩
  have hl : vs.length = ps.length := h.1
  have st : ∀ b o, base.get? b = some o → s0.heap.get? b = some o := fun b o e => (e0.bs b o e).1
  have KX : K.In s0.heap := e0.mod.kin.keeps st
  have kinds : ∀ y ∈ ps.zip us, scope.names.lookup y.1 = some .local ∨ (scope.names.lookup y.1 = some .cell ∧ ((PySem.cellsFrom (s0.heap.objs.size + 1) scope.names []).lookup y.1).isSome = true) := fun y hy =>
    (S.par y.1 (List.of_mem_zip hy).1).elim .inl fun q => .inr ⟨q, PySem.W.cellsFrom_some _ _ _ (.inl q)⟩
  refine codeAny_call_function hr.depth (KX _ _ lk) rfl S.co S.gen rfl (PySem.W.codeRec_of KX hcd) (hbi _ _ _ _ ?_)
  refine wpAny_newFunctionEnv_cells S.kind kinds fun env he s1 y => ?_
  subst he
  refine ⟨(e0.mod.nolimit.keeps st).keeps y.toInCall.keep, codeAny_func ?_⟩
  have I : L2.Inv (cxOf (L2N.CX P w) P w K mg base N qual scope f (.ref c) A outer s0 H E) [] (L2.start N vs) H s1 := inv_start S hr.hd e0 hl rv y
  have bd : Bd (cxOf (L2N.CX P w) P w K mg base N qual scope f (.ref c) A outer s0 H E) (WofE E) k := ⟨L2N.takes_of rfl rfl rfl rfl, passes_of rfl, rfl, hr.deeper _, hg⟩
  obtain ⟨_, ds, S0, m, r, si, h⟩ := h
  refine wpAny_mono ((hb A outer s0 H E bd).run [] s1 (L2.start N vs) H { nx := fun _ H' => Q .non H', rt := Q } I ⟨_, S0, m, env_start r, si, ?_⟩) (fun fl s' hs => ?_) fun e s' hs => hs
  · unfold runB at h
    cases q : s (ds.map some ++ List.replicate (N.length - ds.length) none) S0 with
    | next en S' => rw [q] at h; exact fun σ' m' H' e s' _ => h _ m' H' e s' .non
    | ret d S' => rw [q] at h; exact h
    | brk en S' => rw [q] at h; exact h.elim
    | cnt en S' => rw [q] at h; exact h.elim
    | exc c fs en S' => rw [q] at h; exact fun σ' od m' H' e s' _ z => h od m' H' e s' z
    | stuck => rw [q] at h; exact h
  · cases fl with
    | ret u =>
      obtain ⟨v, σ', H', J, r1, q⟩ := hs
      exact ⟨v, H', J.os, J.bare, J.base, J.hok, r1, q⟩
    | next =>
      obtain ⟨σ', H', J, q⟩ := hs
      exact ⟨V.non, H', J.os, J.bare, J.base, J.hok, rfl, q⟩
    | brk => obtain ⟨_, _, _, q⟩ := hs; exact q.elim
    | cont => obtain ⟨_, _, _, q⟩ := hs; exact q.elim
end Ag

namespace Ag
open PySem PySem.Spec PyProof.Rows L2 Sem Builtin
/-! ### == and != of things of a class without own __eq__: the same thing -/
section
variable {prog : Program} {w : World} {A : Around} {E : Value → Shared → Prop} {s : Shared} {K : PySem.W.Frag} {x y C : Addr} {ox oy : Obj} {od od' : Option Obj} {u : Value} {T : String}
end
section
variable {X : Cx} {W : WX} {j : Nat} {c : Str}
end
/-! ### bool(x) of a class with neither __bool__ nor __len__ -/
section
variable {prog : Program} {w : World} {A : Around} {E : Value → Shared → Prop} {s : Shared} {K : PySem.W.Frag} {x C L f : Addr} {h₀ : Heap} {m : Str → Option Value} {ox : Obj} {od : Option Obj}
end
section
variable {X : Cx} {W : WX} {j : Nat} {c : Str}
end
section
variable {X : Cx}
end
end Ag

/-! repr of data with great ints -/
namespace Ag
open PySem PySem.Spec PyProof.Rows L2
mutual
def bigS : PyData → Bool
  | .none => true
  | .bool _ => true
  | .int i => decide (i.natAbs < 2 ^ 4000)
  | .str _ => true
  | .list xs => bigSs xs
  | .tuple xs => bigSs xs
  | .dict _ => false
def bigSs : List PyData → Bool
  | [] => true
  | x :: xs => bigS x && bigSs xs
end
section
open PySem.Builtin PySem.Builtin.Str PySem.Builtin.Int
variable {prog : Program} {w : World} {A : Around} {E : Value → Shared → Prop} {s : Shared}
theorem big_lt {n : Nat} (h : n < 2 ^ 4000) : n < 10 ^ 4300 :=
  Nat.lt_of_lt_of_le h (Nat.le_trans (Nat.pow_le_pow_left (by decide : 2 ≤ 10) 4000) (Nat.pow_le_pow_right (by decide : 0 < 10) (by decide : 4000 ≤ 4300)))
theorem int_big {a : Int} {t : Tok} {Q : Value → Shared → Prop} (hn : s.heap.NoDigits) (hlt : a.natAbs < 10 ^ 4300) (h : Q (.str (toString a) s.toks) { s with toks := s.toks + 1 }) :
    wpAny (model prog w) A (call (.builtin "int.__repr__") [.int a t]) (fun v s' => ∃ u, v = .str (toString a) u ∧ Q v s') E s := by
  refine wpAny_call_entry F.slot_int_repr (typeIs_int s a t) F.entry_int_repr ?_ (F.args_int_repr_1 _)
  unfold Builtin.«int.__repr__»
  show wpAny _ _ (do let r ← Builtin.overDigitLimit? a; _) _ _ s
  refine wpAny_bind (overDigitLimit_any hn (fun hl => ?_) (fun hge => absurd hlt (Nat.not_lt.mpr hge)))
  exact wpAny_bind (wpAny_mkStr (wpAny_pure ⟨_, rfl, ⟨_, rfl, h⟩⟩) (int_text_fits10 hl))
theorem reprObj_big {a : Int} {t : Tok} {Q : Value → Shared → Prop} (hn : s.heap.NoDigits) (hlt : a.natAbs < 10 ^ 4300) (h : Q (.str (toString a) s.toks) { s with toks := s.toks + 1 }) : wpAny (model prog w) A (pyReprObj (.int a t)) Q E s := by
  have hv : [Value.int a t].any Value.onHeap = false := rfl
  unfold pyReprObj
  simp only [cRoomFor, hv, Bool.false_eq_true, if_false, pure_bind]
  refine wpAny_bind (wpAny_specialOf (name := Str.ofString "__repr__") (typeIs_int s a t) F.slot_int_repr.lookup ?_)
  refine wpAny_bind (m := callSpecialIfBound? (.int a t) (Str.ofString "__repr__")) (wpAny_callSpecialIfBound?_slot (name := Str.ofString "__repr__") (typeIs_int s a t) F.slot_int_repr (wpAny_mono (int_big (Q := Q) hn hlt h) (fun v s1 hq => ?_) fun _ _ e => e))
  obtain ⟨u, rfl, q⟩ := hq
  exact wpAny_bind (wpAny_isInstance (T := "str") (b := true) rfl isSubtype_str_str (wpAny_pure q))
end
section
variable {prog : Program} {w : World} {h₀ : Heap}
theorem rk_int {a : Int} (t : Tok) (hn : h₀.NoDigits) (hlt : a.natAbs < 10 ^ 4300) (as : List Addr) (d : Nat) : ReprK prog w as h₀ d (.int a t) (toString a) := fun n hz A g E s Q hg hcl hu hk hQ => by
  have hn' : n ≤ sizeLine := by omega
  rw [pyReprUnder_leaf (v := .int a t) hn' (fun _ e => nomatch e)]
  unfold pyRepr
  exact wpAny_bind (reprObj_big (hn.keeps hk) hlt (wpAny_pure (hQ s.heap _ fun _ _ e => e)))
mutual
theorem rk_of : ∀ {v : Value} {d : PyData} {as : List Addr}, h₀.NoDigits → Reads h₀ v d as → bigS d = true → d.shown.length ≤ sizeLine → ∃ bs, ReadAtMost h₀ d.depth bs ∧ ReprK prog w bs h₀ d.depth v d.shown
  | _, _, _, _, .none, _, _ => ⟨[], (fun _ h => nomatch h), by simp only [PyData.shown]; exact .of_is ReprIs.none _ _ _⟩
  | _, _, _, _, .bool b, _, _ => ⟨[], (fun _ h => nomatch h), by simp only [PyData.shown]; exact .of_is (ReprIs.bool b) _ _ _⟩
  | _, _, _, hn, .int i t, hs, _ => ⟨[], (fun _ h => nomatch h), by simp only [PyData.shown]; exact rk_int t hn (big_lt (of_decide_eq_true (by simpa only [bigS] using hs))) _ _⟩
  | _, _, _, _, .str x t, _, hz => ⟨[], (fun _ h => nomatch h), by simp only [PyData.shown]; exact .of_is (ReprIs.str x t (by simpa only [PyData.shown] using hz)) _ _ _⟩
  | _, _, _, hn, .list (a := a) (vs := vs) (xs := xs) h1 h2 h3 h4, hs, hz => by
    have hz' : (listText (PyData.shownAll xs)).length ≤ sizeLine := by simpa only [PyData.shown] using hz
    obtain ⟨bs, hb, hk⟩ := rks_of hn h4 (by simpa [bigS] using hs) (fun t ht => Nat.le_trans (listText_mem_le ht) hz')
    have r : Reads h₀ (.ref a) (.list xs) _ := .list h1 h2 h3 h4
    have hna : a ∉ bs := not_mem_of_deeper r (by simp only [PyData.depth]; omega) hb
    refine ⟨a :: bs, ReadAtMost.cons r (by simp only [PyData.depth]; omega) hb, ?_⟩
    simp only [PyData.depth, PyData.shown]
    obtain ⟨l⟩ := vs
    cases l with
    | nil =>
      have h4' : ReadsAll h₀ [] xs _ := h4
      cases h4'
      simp only [PyData.shownAll, listText_nil]
      exact ReprK.listEmpty h1 h2 h3
    | cons x l => exact ReprK.list h1 h2 h3 hna (by simpa using hk.length_eq) (fun i y e => hk.item i y (by simpa using e))
  | _, _, _, hn, .tuple (a := a) (xs := xs) h1 h2 h3 h4, hs, hz => by
    have hz' : (tupleText (PyData.shownAll xs)).length ≤ sizeLine := by simpa only [PyData.shown] using hz
    obtain ⟨bs, hb, hk⟩ := rks_of hn h4 (by simpa [bigS] using hs) (fun t ht => Nat.le_trans (tupleText_mem_le ht) hz')
    have r : Reads h₀ (.ref a) (.tuple xs) _ := .tuple h1 h2 h3 h4
    have hna : a ∉ bs := not_mem_of_deeper r (by simp only [PyData.depth]; omega) hb
    refine ⟨a :: bs, ReadAtMost.cons r (by simp only [PyData.depth]; omega) hb, ?_⟩
    simp only [PyData.depth, PyData.shown]
    exact ReprK.tuple h1 h2 h3 hna hk
  | _, _, _, _, .dict h1 h2 h3 h4 h5, hs, hz => by simp only [bigS] at hs; cases hs
theorem rks_of : ∀ {vs : List Value} {ds : List PyData} {as : List Addr}, h₀.NoDigits → ReadsAll h₀ vs ds as → bigSs ds = true → (∀ t ∈ PyData.shownAll ds, t.length ≤ sizeLine) →
    ∃ bs, ReadAtMost h₀ (PyData.depthAll ds) bs ∧ ReprAllK prog w bs h₀ (PyData.depthAll ds) vs (PyData.shownAll ds)
  | _, _, _, _, .nil, _, _ => ⟨[], (fun _ h => nomatch h), by simp only [PyData.shownAll]; exact .nil⟩
  | _, _, _, hn, .cons (d := d) (ds := ds) r rs, hs, hz => by
    have hs' : bigS d = true ∧ bigSs ds = true := by simpa [bigSs] using hs
    obtain ⟨b1, hb1, k1⟩ := rk_of hn r hs'.1 (hz _ (by simp only [PyData.shownAll]; exact List.mem_cons_self ..))
    obtain ⟨b2, hb2, k2⟩ := rks_of hn rs hs'.2 (fun t ht => hz t (by simp only [PyData.shownAll]; exact List.mem_cons_of_mem _ ht))
    refine ⟨b1 ++ b2, ?_, ?_⟩
    · intro b hm
      simp only [PyData.depthAll]
      rcases List.mem_append.mp hm with hm | hm
      · obtain ⟨d', as', r', hd'⟩ := hb1 b hm
        exact ⟨d', as', r', Nat.le_trans hd' (Nat.le_max_left _ _)⟩
      · obtain ⟨d', as', r', hd'⟩ := hb2 b hm
        exact ⟨d', as', r', Nat.le_trans hd' (Nat.le_max_right _ _)⟩
    · simp only [PyData.depthAll, PyData.shownAll]
      exact .cons ((k1.more fun b hb => List.mem_append_left _ hb).level_le (Nat.le_max_left _ _)) (k2.more_le (fun b hb => List.mem_append_right _ hb) (Nat.le_max_right _ _))
end
end
section
variable {X : Cx} {W : WX} {j : Nat}
end
end Ag

/-! x == y, y of a class with own __eq__, x of one without -/
namespace Ag
open PySem PySem.Spec PyProof.Rows L2 Sem Builtin
section
variable {prog : Program} {w : World} {A : Around} {E : Value → Shared → Prop} {s : Shared} {K : PySem.W.Frag} {x y C C' f : Addr} {ox oy : Obj} {od od' : Option Obj}
end
section
variable {X : Cx} {W : WX} {j k : Nat} {c c' : Str} {f : Addr} {fd : FuncData} {ps : List Str} {fm : List D → Sto → Res D}
end
end Ag

/-! try: .. except (A, B, C) as n: .., the error a cell of the store -/
namespace Ag
open PySem PySem.Spec PyProof.Rows L2
section
variable {X : Cx} {pins : List (Addr × Obj)} {σ : L2.St} {H : Hp} {s : Shared} {a : Addr} {oe : Obj} {vs : Array Value}
theorem inv_track (I : Inv X pins σ H s) (ha : s.heap.get? a = some oe) (hd : oe.data = .fields vs) (na : H a = none) (n0 : X.s_0.heap.get? a = none) (nL : a ≠ X.env.locals) (np : ∀ p ∈ X.pn ++ pins, p.1 ≠ a) : Inv X pins σ (upd H a (.frz oe (ErO a oe))) s := by
  have ne : ∀ {b : Addr} {o : HO}, H b = some o → (upd H a (.frz oe (ErO a oe))) b = some o := fun {b o} h => by rw [upd_ne (ne_of_none h na)]; exact h
  have nn : ∀ {b : Addr}, b ≠ a → H b = none → (upd H a (.frz oe (ErO a oe))) b = none := fun {b} hb h => by rw [upd_ne hb]; exact h
  refine ⟨I.ok, I.os, I.bare, ⟨I.base.keep, I.base.slot, fun b o e n hx => nn (fun z => ?_) (I.base.free b o e n hx), I.base.there, fun b xs h => ne (I.base.tups b xs h), fun b o u h => ne (I.base.frzs b o u h), fun b ps h => ?_⟩, I.loc, I.cell, nn (Ne.symm nL) I.free, fun x c h => nn (fun z => ?_) (I.freeC x c h), fun p hp => ?_, fun b o h => ?_, I.len⟩
  · subst z; rw [n0] at e; cases e
  · obtain ⟨more, q⟩ := I.base.tbls b ps h
    exact ⟨more, ne q⟩
  · obtain ⟨v, o, ho, hc⟩ := I.cell x c h
    rw [z, ha] at ho
    cases ho
    rw [hd] at hc
    cases hc
  · obtain ⟨p1, p2, p3, p4, p5⟩ := I.pin p hp
    exact ⟨p1, nn (np p hp) p2, p3, p4, p5⟩
  · by_cases hb : b = a
    · subst hb
      rw [upd_same] at h
      cases h
      exact ⟨ha, erO_ok ha⟩
    · rw [upd_ne hb] at h
      exact (I.hok b o h).stay (fun _ _ _ q => q) (fun _ q => ne q) fun _ _ q => ne q
end
/-- the suite's context: the error stands in its ground -/
def suiteF (X : Cx) (a : Addr) (pn : List (Addr × Obj)) (o : Obj) : Cx := { X.suite a pn with H_0 := upd X.H_0 a (.frz o (ErO a o)) }
section
variable {X : Cx} {pins : List (Addr × Obj)} {σ : L2.St} {H : Hp} {s : Shared} {a : Addr} {oe : Obj} {vs : Array Value}
theorem inv_suiteT (I : Inv X pins σ H s) (ha : H a = some (.frz oe (ErO a oe))) (n0 : X.s_0.heap.get? a = none) (nF : a ∉ X.fs) : Inv (suiteF X a (X.pn ++ pins) oe) [] σ H s := by
  have ok := I.ok.suite a (X.pn ++ pins)
  have out : ∀ {b : Addr} {o : Obj}, X.s_0.heap.get? b = some o → b ≠ a := fun {b o} h z => by rw [z, n0] at h; cases h
  refine ⟨⟨ok.mod, ok.kind, ok.glob, ok.blt, ok.above, ok.inj, ok.has, ok.cab, ok.hd, ok.frames, ok.stk, ok.exf, fun b o h => ?_, ok.bsz, ok.noex, ok.exfs, ok.funs, fun b hb => ?_⟩, I.os, I.bare,
    ⟨fun b o h n => I.base.keep b o h (by rw [← n]; exact (upd_ne (out h)).symm), fun b o h n => I.base.slot b o h (by rw [← n]; exact (upd_ne (out h)).symm), fun b o h n => I.base.free b o h (by rw [← n]; exact (upd_ne (out h)).symm), I.base.there, fun b xs h => ?_, fun b o u h => ?_, fun b ps h => ?_⟩,
    I.loc, I.cell, I.free, I.freeC, fun p hp => I.pin p (by rw [List.append_nil] at hp; exact hp), I.hok, I.len⟩
  · obtain ⟨h1, h2⟩ := ok.bs b o h
    exact ⟨h1, (upd_ne (out h1)).trans h2⟩
  · exact (upd_ne fun z => nF (by rw [← z]; exact hb)).trans (ok.frf b hb)
  · have h : upd X.H_0 a (.frz oe (ErO a oe)) b = some (.tup xs) := h
    by_cases z : b = a
    · rw [z, upd_same] at h; cases h
    · rw [upd_ne z] at h; exact I.base.tups b xs h
  · have h : upd X.H_0 a (.frz oe (ErO a oe)) b = some (.frz o u) := h
    by_cases z : b = a
    · rw [z, upd_same] at h
      cases h
      rw [z]; exact ha
    · rw [upd_ne z] at h; exact I.base.frzs b o u h
  · have h : upd X.H_0 a (.frz oe (ErO a oe)) b = some (.tbl ps) := h
    by_cases z : b = a
    · rw [z, upd_same] at h; cases h
    · rw [upd_ne z] at h; exact I.base.tbls b ps h
theorem inv_unsuiteT {pn' : List (Addr × Obj)} {G : Hp} {t : Shared} (I : Inv (suiteF X a (X.pn ++ pins) oe) pn' σ H s) {τ : L2.St} (J : Inv X pins τ G t) (na : G a = none) (n0 : X.s_0.heap.get? a = none) : Inv X pins σ H s := by
  have out : ∀ {b : Addr} {o : Obj}, X.s_0.heap.get? b = some o → b ≠ a := fun {b o} h z => by rw [z, n0] at h; cases h
  have same : ∀ {b : Addr}, b ≠ a → (suiteF X a (X.pn ++ pins) oe).H_0 b = X.H_0 b := fun {b} z => upd_ne z
  refine ⟨J.ok, I.os, I.bare, ⟨fun b o h n => I.base.keep b o h ((same (out h)).trans n), fun b o h n => I.base.slot b o h ((same (out h)).trans n), fun b o h n => I.base.free b o h ((same (out h)).trans n), I.base.there, fun b xs h => I.base.tups b xs ((same fun z => ?_).trans h), fun b o u h => I.base.frzs b o u ((same fun z => ?_).trans h), fun b ps h => I.base.tbls b ps ((same fun z => ?_).trans h)⟩,
    I.loc, I.cell, I.free, I.freeC, fun p hp => I.pin p (List.mem_append_left _ hp), I.hok, I.len⟩
  · have q := J.base.tups b xs h
    rw [z, na] at q; cases q
  · have q := J.base.frzs b o u h
    rw [z, na] at q; cases q
  · obtain ⟨more, q⟩ := J.base.tbls b ps h
    rw [z, na] at q; cases q
theorem flyZ_keeps {B : Heap} {l : List Env} {e : Addr} {Z : Obj → Prop} {h h' : Heap} (R : HandSPX.FlyingZ B l e Z h) (k : ∀ b o, h.get? b = some o → h'.get? b = some o) : HandSPX.FlyingZ B l e Z h' := by
  obtain ⟨f1, f2, f3, oe, vs, T, oT, ts, he, hz, hd, h1, hn, hne, hT, hdT, h3⟩ := R
  exact ⟨fun b o q => k b o (f1 b o q), f2, f3.of_keeps fun b o q _ => ⟨o, k b o q, rfl⟩, oe, vs, T, oT, ts, k _ _ he, hz, hd, h1, hn, hne, k _ _ hT, hdT, h3⟩
end
/-- what the clause wishes of an error of the body -/
def wTup (K : PySem.W.Frag) (len : Nat) (cs : List Value) (i : Nat) (ts : TS) (Wout : WX) (D : Ends) : WX := fun cls d σ H =>
  ∃ b, PySem.W.exmAny K cls cs = some b ∧ (b = true → σ.length = len → ∀ a o, H a = none → o.cls = cls → o.dict = d → (∃ vs, o.data = .fields vs) → PXN.CtxN o → ts { nx := fun σ' H' => D.nx (σ'.set i none) H', rt := D.rt, bk := fun σ' H' => D.bk (σ'.set i none) H', ct := fun σ' H' => D.ct (σ'.set i none) H' } (σ.set i (some (.ref a))) (upd H a (.frz o (ErO a o)))) ∧
    (b = false → Wout cls d σ H)
section
variable {X : Cx} {x1 x2 x3 n : Str} {c1 c2 c3 : Value} {i kk : Nat} {body suite : List Stmt} {b₀ : Stmt} {p1 p2 p3 tpos pos pos' : Pos} {tb : WX → TS} {ts : TS} {Wout : WX}
theorem ps_try_tup (hs : X.stack = X.env :: X.outer) (hf : X.env.frame = some X.env.locals) (hex : X.ex = []) (hN : X.N.Nodup) (hi : X.N[i]? = some n) (hln : X.env.kindOf n = some .local) (hc1 : Names X x1 c1) (hc2 : Names X x2 c2) (hc3 : Names X x3 c3) (tk : L2N.Takes X Wout)
    (hb : ∀ (W : WX) (pn : List (Addr × Obj)) (xe : Value → Shared → Prop), L2N.Takes (X.tr pn xe) W → PassesOwn (model X.prog X.w) X.A X.env xe → PSs (X.tr pn xe) body (tb W))
    (hsu : ∀ (a : Addr) (pn : List (Addr × Obj)) (o : Obj), PXN.CtxN o → (∃ vs, o.data = .fields vs) → PSs (suiteF X a pn o) (b₀ :: suite) ts) :
    PS X (.Try body [.ExceptHandler (some (.Tuple [.Name x1 p1, .Name x2 p2, .Name x3 p3] kk tpos)) (some n) (b₀ :: suite) pos'] [] [] pos) (fun D σ H => tb (wTup X.K X.N.length [c1, c2, c3] i ts Wout D) D σ H) := by
  refine ⟨fun pins s σ H D I h => ?_⟩
  have ok := I.ok
  have hfr : X.A.frames = some (X.env :: X.outer) := by rw [ok.frames, hs]
  have hloc : Loc X.env.scope n := .inl hln
  refine wpAny_Try_except ?_
  refine wpAny_mono ((hb (wTup X.K X.N.length [c1, c2, c3] i ts Wout D) (X.pn ++ pins) (fun e s₁ => wpAny (model X.prog X.w) X.A (noteFrame e X.env) (fun _ s₂ => wpAny (model X.prog X.w) X.A (setFlight e none) (fun _ s₃ =>
    wpAny (model X.prog X.w) X.A (handleBy e X.env [.ExceptHandler (some (.Tuple [.Name x1 p1, .Name x2 p2, .Name x3 p3] kk tpos)) (some n) (b₀ :: suite) pos']) (SP X pins D) X.xe s₃) X.xe s₂) X.xe s₁) (fun u s' xx => ?_) PassesOwn.looking).run [] s σ H D (I.toTry _) h) (fun f s1 hsp => ?_) (fun e s1 he => he)
  · obtain ⟨a, B, sI, pins', σ', H', cls, d, rfl, J', nb, up, sky, na, os, ag, b, hb1, hyes, hno⟩ := xx
    have J : Inv X pins σ' H' sI := J'.ofTry ok
    have sky' : Sky B (X.env :: X.outer) a (L2N.Zn cls d) X.env.locals s'.heap := by rw [← hs]; exact sky
    show wpAny (model X.prog X.w) X.A (noteFrame (.ref a) X.env) _ _ _
    refine L2N.Sky.land L2N.Zn.steady hfr hf sky' fun h3 fl3 up3 => ?_
    have J3 : Inv X pins σ' H' { s' with heap := h3 } := J.landed nb fl3.1 (up.trans up3) os ag
    obtain ⟨oe3, vs3, he3, hz3, hd3⟩ := fl3.there
    have notFr : ∀ {h : Heap} {o : Obj} {vs : Array Value}, h.FunFrames B (X.env :: X.outer) → h.get? a = some o → o.data = .fields vs → a ∉ frs (X.env :: X.outer) := fun {h o vs} ff e dd hm => by
      obtain ⟨_, o', e', hnf⟩ := ff.mem hm
      rw [e] at e'; cases e'
      exact hnf _ dd
    have nfr := notFr fl3.2.2.1 he3 hd3
    have nL : a ≠ X.env.locals := fun z => nfr (List.mem_filterMap.mpr ⟨X.env, List.mem_cons_self, by rw [hf, z]⟩)
    have nF : a ∉ X.fs := fun hm => by
      obtain ⟨e, he, q⟩ := List.mem_filterMap.mp hm
      exact nfr (List.mem_filterMap.mpr ⟨e, List.mem_cons_of_mem _ he, q⟩)
    have sI0 : sI.heap.get? a = none := by
      cases q : sI.heap.get? a with
      | none => rfl
      | some o =>
        have := nb a o q (by rw [hs]; exact nfr)
        rw [fl3.2.1] at this
        cases this
    have s00 : X.s_0.heap.get? a = none := by
      cases q : X.s_0.heap.get? a with
      | none => rfl
      | some o =>
        obtain ⟨o', e'⟩ := J.base.there a o q (by rw [hex]; simp)
        rw [sI0] at e'
        cases e'
    have npp : ∀ p ∈ X.pn ++ pins, p.1 ≠ a := fun p hp z => by
      have := (J.pin p hp).1
      rw [z, sI0] at this
      cases this
    have S3 : Inv (X.suite a (X.pn ++ pins)) [] σ' H' { s' with heap := h3 } := ⟨J3.ok.suite _ _, J3.os, J3.bare, J3.base, J3.loc, J3.cell, J3.free, J3.freeC, fun p hp => J3.pin p (by rw [List.append_nil] at hp; exact hp), J3.hok, J3.len⟩
    refine wpAny_handleBy_cons (codeAny_handlers_test ?_) (by intro q; cases q)
    have LT : PySem.W.Looks (model X.prog X.w) h3 (typeOf (.ref a)) cls := fun A Q E s k q => wpAny_typeOf_ref (k _ _ he3) (by rw [hz3.1]; exact q)
    have name : ∀ {x : Str} {c : Value} {np : Pos} {Q : Value → Shared → Prop} {E : Value → Shared → Prop}, Names X x c → Q c { s' with heap := h3 } → wpAny (model X.prog X.w) (X.A.mark (some (.ref a))) (eval (.Name x np) X.env) Q E { s' with heap := h3 } := fun {x c np Q E} hc q => by
      obtain ⟨hg, hdbg, hm | ⟨hm, hv, hnn⟩⟩ := hc
      · exact ld_glob (X := X.suite a (X.pn ++ pins)) S3 hg hm q hdbg
      · exact ld_blt (X := X.suite a (X.pn ++ pins)) S3 hg hm hv q hnn hdbg
    have kp : ∀ q o, h3.get? q = some o → (h3.push { cls := .type "tuple", data := .seq [c1, c2, c3].toArray }).get? q = some o := fun _ _ z => Heap.get?_push_of_some _ z
    refine wpAny_Tuple ?_
    refine wpAny_items_cons (name hc1 ?_)
    refine wpAny_items_cons (name hc2 ?_)
    refine wpAny_items_cons (name hc3 ?_)
    refine wpAny_items_nil ⟨by size_fits, ?_⟩
    have LM := PySem.W.exm_tup3 (M := model X.prog X.w) (J3.kIn.keeps kp) (LT.keeps kp) (Heap.get?_push_size h3 rfl) hb1
    refine LM.here ?_
    have fl3' := flyZ_keeps fl3 kp
    have up3' : h3.UpToSlots (h3.push { cls := .type "tuple", data := .seq [c1, c2, c3].toArray }) := Heap.UpToSlots.of_keeps kp
    cases b with
    | true =>
      refine codeAny_handlers_suite_as ?_
      refine HandSPX.lands_againZ fl3' fun h4 fl4 up4 => ?_
      have J4 : Inv X pins σ' H' { s' with heap := h4 } := J.landed nb fl4.1 (((up.trans up3).trans up3').trans up4) os ag
      obtain ⟨oe4, vs4, he4, hz4, hd4⟩ := fl4.there
      have S4 := inv_suiteT (inv_track J4 he4 hd4 na s00 nL npp) upd_same s00 nF
      refine store_ok (X := suiteF X a (X.pn ++ pins) oe4) (v := .ref a) S4 hN hi hloc rfl (fun s5 S5 => ?_) (.inr hln)
      refine wpAny_mono ((hsu a (X.pn ++ pins) oe4 hz4.2.2 ⟨_, hd4⟩).run [] s5 _ _ _ S5 (hyes rfl J.len a oe4 na hz4.1 hz4.2.1 ⟨_, hd4⟩ hz4.2.2)) (fun f s6 hsp => ?_) (fun _ _ z => False.elim z)
      have end_ : ∀ {σ6 : L2.St} {H6 : Hp} {Q : Shared → Prop}, Inv (suiteF X a (X.pn ++ pins) oe4) [] σ6 H6 s6 → (∀ s7, Inv X pins (σ6.set i none) H6 s7 → Q s7) →
          wpAny (model X.prog X.w) X.A (do bindName X.env n .none; unbindBehindTheSuite X.env n pos') (fun _ s7 => Q s7) X.xe s6 := fun {σ6 H6 Q} S6 hq => gone_ok (inv_unsuiteT S6 J na s00) hN hi hln hq
      cases f with
      | next =>
        obtain ⟨σ6, H6, S6, q6⟩ := hsp
        exact end_ S6 fun s7 J7 => ⟨_, _, J7, q6⟩
      | brk =>
        obtain ⟨σ6, H6, S6, q6⟩ := hsp
        exact end_ S6 fun s7 J7 => ⟨_, _, J7, q6⟩
      | cont =>
        obtain ⟨σ6, H6, S6, q6⟩ := hsp
        exact end_ S6 fun s7 J7 => ⟨_, _, J7, q6⟩
      | ret u =>
        obtain ⟨v6, σ6, H6, S6, r6, q6⟩ := hsp
        exact end_ S6 fun s7 J7 => ⟨_, _, _, J7, r6, q6⟩
    | false =>
      show wpAny _ X.A (handleBy (.ref a) X.env []) _ _ _
      refine wpAny_handleBy_nil ?_
      obtain ⟨k1, k2, k3, oe, vs, T, oT, ts', he, hz, hd, h1, hr⟩ := id fl3'
      unfold PySem.passOn
      refine wpAny_bind (wpAny_field he hd h1 ?_)
      rw [if_neg (show ¬ ((Value.ref T == Value.none) = true) from by simp)]
      have fin : ∀ tk', wpAny (model X.prog X.w) X.A (setFlight (.ref a) X.env.frame) (fun _ s4 => wpAny (model X.prog X.w) X.A (throw (.ref a) : Sem Flow) (SP X pins D) X.xe s4) X.xe { s' with heap := h3.push { cls := .type "tuple", data := .seq [c1, c2, c3].toArray }, toks := tk' } := fun tk' => by
        rw [hf]
        refine HandSPX.setFlight_upZ fl3' fun h4 hh4 up4 => wpAny_throw (tk _ _ ?_)
        exact ⟨a, B, sI, pins, σ', H', cls, d, rfl, J, nb, ((up.trans up3).trans up3').trans up4, .inr (.inr (by rw [hs]; exact hh4)), na, os, ag, hno rfl⟩
      first
        | exact wpAny_bind (wpAny_pure (wpAny_bind (fin _)))
        | exact wpAny_bind (fin _)
  · cases f with
    | next =>
      obtain ⟨σ', H', J', q⟩ := hsp
      exact wpAny_execs_nil ⟨σ', H', J'.ofTry ok, q⟩
    | brk =>
      obtain ⟨σ', H', J', q⟩ := hsp
      exact ⟨σ', H', J'.ofTry ok, q⟩
    | cont =>
      obtain ⟨σ', H', J', q⟩ := hsp
      exact ⟨σ', H', J'.ofTry ok, q⟩
    | ret u =>
      obtain ⟨v, σ', H', J', r, q⟩ := hsp
      exact ⟨v, σ', H', J'.ofTry ok, r, q⟩
end
end Ag

/-! isinstance of errors, their fields; defs called while an error is handled; list.count -/
namespace Ag
open PySem PySem.Spec PyProof.Rows L2
/-! ### isinstance(e, C) -/
section
open PySem.W PySem.Calls
variable {prog : Program} {w : World} {A : Around} {E : Value → Shared → Prop} {s : Shared} {K : Frag} {x D : Addr} {ox : Obj} {od : Option Obj}
theorem kin_classO {Q : Option Value → Shared → Prop} (hga : findIn K (.ref D) "__getattribute__" = some (some (.builtin "BaseException.__getattribute__"))) (hgt : findIn K (.ref D) "__getattr__" = some none) (hsub : subIn K (.ref D) (.type "BaseException") = some true)
    (hdct : hasDictIn K D = true) (ha : findIn K (.ref D) "__class__" = some (some (.builtin "object.__class__")))
    (hn : specialIn K (.builtin "object.__class__") "__get__" = some (some (.builtin "getset_descriptor.__get__"))) (htk : takesIn K (.builtin "object.__class__") = some true) (hm : mroIn K D (.type "object") = some true)
    (X : K.In s.heap) (I : InstAt s.heap x ox D od) (h : Q (some (.ref D)) { s with toks := s.toks + 1 }) : wpAny (model prog w) A (getAttr? (.ref x) "__class__") Q E s := by
  have hf : findObj K D od "__class__" = some (.bind (.builtin "getset_descriptor.__get__") (.builtin "object.__class__")) := by
    obtain ⟨cd, hc⟩ := Option.isSome_iff_exists.mp (show (clsIn K D).isSome = true by obtain ⟨cd, hc, _⟩ := any_some hdct; rw [hc]; rfl)
    unfold findObj
    rw [hc, Option.bind_some, ha, Option.bind_some]
    simp [hn, htk]
  obtain ⟨hp, g, d, t, os⟩ := s
  have L0 := I.type (M := model prog w)
  have L1 := looks_findIn (M := model prog w) X hga
  have L2 := looks_findIn (M := model prog w) X hgt
  have L3 := looks_find (M := model prog w) X I hf
  have sub : Looks (model prog w) hp (isInstance (.ref x) (.type "BaseException")) true := L0.andThen (looks_subIn X hsub)
  have hx0 : (false && onTheHeap (Value.builtin "BaseException.__getattribute__")) = false := rfl
  have hx2 : (Value.builtin "BaseException.__getattribute__" == Value.builtin "object.__getattribute__") = false := by decide +kernel
  have hx1 : (onTheHeap (Value.ref D) && Value.builtin "BaseException.__getattribute__" == Value.builtin "object.__getattribute__") = false := by rw [hx2]; rfl
  unfold getAttr? getAttrBy? getAttrBy
  refine wpAny_bind (wpAny_mkText (wpAny_bind (wpAny_attempt (wpAny_holding (wpAny_bind (L0.at (wpAny_bind (L1.at ?_))))))))
  show wpAny _ _ (if (onTheHeap (Value.ref D) && Value.builtin "BaseException.__getattribute__" == Value.builtin "object.__getattribute__") = true then _ else _) _ _ _
  rw [hx1, if_neg Bool.false_ne_true]
  unfold getAttrByItsOwn hookBefore
  refine wpAny_bind ?_
  rw [if_pos (show onTheHeap (Value.ref D) = true from rfl)]
  refine L2.at ?_
  refine wpAny_bind (wpAny_attempt (wpAny_holding ?_))
  unfold callGetattribute
  rw [hx0, if_neg Bool.false_ne_true]
  unfold boundAndCalled
  rw [PySem.F.excAttr_ValueError.ga.bind (.ref x)]
  refine wpAny_bind (wpAny_pure ?_)
  show wpAny _ _ (call (.builtin "BaseException.__getattribute__") [.ref x, .str "__class__" t]) _ _ _
  refine wpAny_call (codeAny_call_builtin PySem.F.excAttr_ValueError.ga.plain PySem.F.entry_bexc_ga ?_)
  refine @check_slot (model prog w) _ _ ⟨hp, g, d, t + 1, os⟩ "BaseException.__getattribute__" "BaseException" "__getattribute__" (.ref x) [.str "__class__" t] [] _ (by decide +kernel) (by decide +kernel) sub (PySem.F.args_bexc_ga (.ref x) (.str "__class__" t)) ?_
  unfold Builtin.«object.__getattribute__»
  refine wpAny_bind (wpAny_of_eq (a := ((Value.ref x : Value), [Value.str "__class__" t])) (by first | rfl | (simp only [slotArgs]; rfl)) ?_)
  refine wpAny_bind (wpAny_pure (wpAny_bind (L0.at (wpAny_bind (L3.at ?_)))))
  show wpAny _ _ (holding [Value.builtin "object.__class__"] (call (.builtin "getset_descriptor.__get__") [.builtin "object.__class__", .ref x, .ref D]) >>= ret) _ _ _
  refine wpAny_bind (wpAny_holding (wpAny_call (class_get (s := ⟨hp, g, d, t + 1, os⟩) (ox := ox) (od := od) X I hm ?_)))
  refine wpAny_pure ?_
  show wpAny _ _ (handedOut (.ref D)) _ _ _
  rw [handedOut_of (v := .ref D) rfl]
  first
    | exact wpAny_pure (wpAny_pure h)
    | exact wpAny_pure h
    | exact wpAny_pure (wpAny_bind (wpAny_pure (wpAny_pure h)))
theorem kitx_err (C : L2.ExcC K D) : KitX K (.ref x) (.ref D) (fun h => InstAt h x ox D od) where
  ty := fun _ _ _ I => I.type
  it := fun _ _ X _ => by
    obtain ⟨cdD, hcD, _⟩ := any_some C.hd
    unfold clsIn at hcD
    split at hcD
    · rename_i c' d' cd' sl' ho
      intro A' Q' E' s' k q
      unfold isType loadHead
      exact wpAny_bind (wpAny_loadPart (k _ _ (X _ _ ho)) (wpAny_pure q))
    · cases hcD
  ne := fun h tp dd its n sl X htp => by
    obtain ⟨cdD, hcD, _⟩ := any_some C.hd
    refine Bool.eq_false_iff.mpr fun q => ?_
    have e : D = tp := Value.ref.inj (beq_iff_eq.mp q)
    subst e
    unfold clsIn at hcD
    split at hcD
    · rename_i c' d' cd' sl' ho
      have z := (X _ _ ho).symm.trans htp
      cases z
    · cases hcD
  ca := fun X I k => kin_classO C.hg C.hk C.hs C.hd C.ha C.hn C.ht C.hm X I k
end
section
variable {X : Cx} {pins : List (Addr × Obj)} {σ : L2.St} {H : Hp} {s : Shared} {m : Mp} {S : Sto} {v : V} {i : Nat} {c : Str} {fs : List (Str × D)}
/-- the object of an error that stands in the store -/
theorem err_at (I : L2.Inv X pins σ H s) (si : Sim X.K m S H) (r : Rep X.K m H v (.ref i)) (h : S[i]? = some (.err c fs)) :
    ∃ a o od, v = .ref a ∧ PySem.W.InstAt s.heap a o (He.ga X.K c) od ∧ ∀ f d, fs.lookup f = some d → ∃ u y oo, Rep X.K m H y d ∧ RelV y u ∧ od = some oo ∧ PySem.W.lookIn f oo = some (some u) := by
  cases r with
  | ref h1 =>
    rename_i a
    obtain ⟨o, g1, g2, ⟨vs, g3⟩, _, g4⟩ := si.cell i a _ h1 h
    have ho : s.heap.get? a = some o := (I.hok a _ g1).1
    have nc : PySem.W.notCls o = true := by unfold PySem.W.notCls; rw [g3] <;> rfl
    cases q : o.dict with
    | none =>
      rw [q] at g4
      have e0 : fs = [] := g4
      subst e0
      exact ⟨a, o, none, rfl, ⟨ho, g2, nc, by rw [q]; trivial⟩, fun f d hl => by cases hl⟩
    | some dd =>
      rw [q] at g4
      obtain ⟨ws, x1, _, x2, x3⟩ := g4
      obtain ⟨mA, hns, hr⟩ := (show ObjOk X.prog X.w H s.heap dd (.xd ws) from I.hok dd _ x1)
      obtain ⟨od, hod, hl⟩ := lookIn_ns hns
      refine ⟨a, o, some od, rfl, ⟨ho, g2, nc, by rw [q]; exact hod⟩, fun f d hf => ?_⟩
      obtain ⟨y, l1, l2⟩ := lookup_at x2 x3 hf
      obtain ⟨u, hu, ru⟩ := RelO.some_of (v := y) (o := mA f) (by rw [← l1]; exact hr f)
      exact ⟨u, y, od, l2, ru, rfl, by rw [hl, hu]⟩
end
def lookE (c : Str) (t : Ty) : List (Str × Ty × Bool) → Option Bool
  | [] => none
  | r :: l => if r.1 = c ∧ r.2.1 = t then some r.2.2 else lookE c t l
theorem lookE_mem {c : Str} {t : Ty} {b : Bool} : ∀ {l : List (Str × Ty × Bool)}, lookE c t l = some b → (c, t, b) ∈ l
  | [], h => by cases h
  | r :: l, h => by
    unfold lookE at h
    by_cases e : r.1 = c ∧ r.2.1 = t
    · rw [if_pos e] at h
      obtain ⟨r1, r2, r3⟩ := r
      simp only at e
      obtain ⟨rfl, rfl⟩ := e
      cases h
      exact List.mem_cons_self
    · rw [if_neg e] at h
      exact List.mem_cons_of_mem _ (lookE_mem h)
/-- isinstance, of errors too -/
def fIsiE (es : List (Str × Ty × Bool)) (base : List D → Sto → Option D) (ds : List D) (S : Sto) : Option D := match ds with
  | [.ref i, u] => (match S[i]? with
    | some (.err c _) => (clD u).bind fun t => (lookE c t es).map .bl
    | _ => base ds S)
  | _ => base ds S
/-- what is known of the errors: their classes, the answers -/
def ErrsT (K : PySem.W.Frag) (es : List (Str × Ty × Bool)) : Prop := ∀ r ∈ es, L2.ExcC K (He.ga K r.1) ∧ PySem.W.kitOne K (.ref (He.ga K r.1)) (r.2.1.val K) = some r.2.2
theorem clD_val {K : PySem.W.Frag} {m : Mp} {H : Hp} {v : V} {d : D} {t : Ty} (r : Rep K m H v d) (h : clD d = some t) {u : Value} (rv : RelV v u) : u = t.val K := by
  cases r with
  | ty n => cases h; cases rv; rfl
  | gl x => cases h; cases rv; rfl
  | _ => cases h
theorem b_isiE {X : Cx} {es : List (Str × Ty × Bool)} {base : List D → Sto → Option D} (T : ErrsT X.K es) (hb : CallR X (.builtin "isinstance") (rOL X.K base)) : CallR X (.builtin "isinstance") (rOL X.K (fIsiE es base)) := by
  intro pins s σ H xs us Q I rx ⟨ds, S, m, r, si, hx, hf, hq⟩
  have other : base ds S = some r → wpAny (model X.prog X.w) X.A (call (.builtin "isinstance") us) (EP X pins σ Q) X.xe s := fun e => hb pins s σ H xs us Q I rx ⟨ds, S, m, r, si, hx, e, hq⟩
  unfold fIsiE at hf
  split at hf
  · rename_i i u
    split at hf
    · rename_i c fs q
      obtain ⟨t, h1, h2⟩ := Option.bind_eq_some_iff.mp hf
      obtain ⟨b, h3, rfl⟩ := Option.map_eq_some_iff.mp h2
      obtain ⟨C, e⟩ := T _ (lookE_mem h3)
      cases hx with
      | cons r1 hx =>
        cases hx with
        | cons r2 hx =>
          cases hx
          obtain ⟨a, o, od, rfl, J, _⟩ := err_at I si r1 q
          cases rx with
          | cons x1 rx =>
            cases rx with
            | cons x2 rx =>
              cases rx
              cases x1
              have eu := clD_val r2 h1 x2
              subst eu
              exact PySem.W.kia_one (kitx_err C) I.kIn J e (fun z => by cases t <;> cases z) fun tk => ⟨.bl b, H, I.kept (t' := tk) fun _ _ z => z, rfl, hq _ H .refl si (.bl b)⟩
    · exact other hf
  · exact other hf
/-! ### e.f -/
def fXf (cs : List Str) (f : Str) : D → Sto → Option D
  | .ref i, S => match S[i]? with
    | some (.err c fs) => if c ∈ cs then fs.lookup f else none
    | _ => none
  | _, _ => none
theorem e_xf {X : Cx} {W : WX} {e : Expr} {ma : EM} {pos : Pos} {cs : List Str} {f : Str} (hc : ∀ c ∈ cs, XfC X.K (He.ga X.K c) ∧ PySem.W.findIn X.K (.ref (He.ga X.K c)) f = some none) (ha : PE X e (tE X.K W ma)) (hab : attributeBase e f X.env (eval e X.env) = eval e X.env := by rfl) :
    PE X (.Attribute e f pos) (tE X.K W (mUn (fXf cs f) ma)) := by
  refine ⟨fun pins s σ H Q I h => ?_⟩
  obtain ⟨en, S, m, er, si, h⟩ := h
  refine attr_of hab (thn (ha.run pins s σ H _ I ⟨en, S, m, er, si, h.bind⟩) fun u s1 ⟨x, H1, I1, rx, d, S1, m1, e1, sm, r1, h1⟩ => ?_)
  cases q : fXf cs f d S1 with
  | none => rw [q] at h1; exact h1.elim
  | some r =>
    rw [q] at h1
    unfold fXf at q
    split at q
    · rename_i i
      split at q
      · rename_i c fs qs
        by_cases hcs : c ∈ cs
        · rw [if_pos hcs] at q
          obtain ⟨a, o, od, rfl, J, lk⟩ := err_at I1 sm r1 qs
          obtain ⟨w, y, oo, l1, l2, rfl, l3⟩ := lk _ _ q
          obtain ⟨T, hno⟩ := hc c hcs
          cases rx
          exact HandSPX.exc_get I1.kIn J T.ga T.gg T.exC (PySem.W.findObj_own T.hdC hno rfl l3) (handed_of l2) ⟨y, H1, I1.tok _, l2, h1 y m1 H1 .refl sm l1⟩
        · rw [if_neg hcs] at q; cases q
      · cases q
    · cases q
/-! ### list.count -/
end Ag

/-! defs that raise nothing, called while an error is handled -/
namespace Ag
open PySem PySem.Spec PyProof.Rows L2
structure RoomW (k : Nat) (A : Around) : Prop where
  dp : A.depth + 3 * k + 5 < recursionLimit
  un : A.units + 16 * k + 200 < cLine
theorem RoomW.mono {j k : Nat} {A : Around} (r : RoomW k A) (h : j ≤ k) : RoomW j A := ⟨by have := r.dp; omega, by have := r.un; omega⟩
theorem RoomW.deeper {k : Nat} {A : Around} (r : RoomW (k + 1) A) (env : Env) : RoomW k (A.deeper env) :=
  ⟨by have := r.dp; show A.depth + 1 + 3 * k + 5 < _; omega, by have := r.un; show A.units + 3 + 16 * k + 200 < _; omega⟩
theorem RoomW.depth {k : Nat} {A : Around} (r : RoomW k A) : A.depth < recursionLimit := by have := r.dp; omega
theorem RoomW.of {k : Nat} {A : Around} (r : Room k A) : RoomW k A := ⟨r.dp, r.un⟩
/-- the context of a suite, and of the defs called there -/
structure Bw (X : Cx) (k : Nat) : Prop where
  room : RoomW k X.A
  gd : X.A.guards = some []
theorem Bw.u64 {X : Cx} {k : Nat} (B : Bw X k) : X.A.units + 64 < cLine := by have := B.room.un; omega
theorem Bw.u65 {X : Cx} {k : Nat} (B : Bw X k) : X.A.units + 65 < cLine := by have := B.room.un; omega
theorem Bd.suite {X : Cx} {W : WX} {k : Nat} (B : Bd X W k) (a : Addr) (pn : List (Addr × Obj)) (o : Obj) : Bw (suiteF X a pn o) k := ⟨⟨B.room.dp, B.room.un⟩, B.gd⟩
/-- what a def promises that raises nothing, whatever is handled -/
structure FnW (P : Program) (w : World) (K : PySem.W.Frag) (mg : Str → Option Value) (base : Heap) (k : Nat) (f : Addr) (fd : FuncData) (ps : List Str) (sp : Sp) : Prop where
  len : ∀ vs H Q E, sp vs H Q E → vs.length = ps.length
  run : ∀ (A : Around) (outer : List Env) (s : Shared) (H : Hp) (args : Args) (us : List Value) (vs : List V) (Q : VK), A.guards = some [] → RoomW k A → Env0 P w K mg base A outer s H → BindsTo s fd args (ps.zip us) → Vals vs us → sp vs H Q (fun _ _ _ => False) →
    codeAny (model P w) A (.call (.ref f) args) (CR (L2N.CX P w) outer P w H s Q fun _ _ _ => False) s
section
variable {P : Program} {w : World} {K : PySem.W.Frag} {mg : Str → Option Value} {base : Heap} {x qual : Str} {params : Arguments} {body : List Stmt} {scope : Scope} {kws : List (Str × V)} {f : Addr} {fd : FuncData}
end
section
variable {X : Cx} {W : WX} {e : Expr} {es : List Expr} {pos p : Pos} {mr : AM} {k n j : Nat} {f : Addr} {fd : FuncData} {ps : List Str} {fm : List D → Sto → Res D} {x : Str}
theorem b_reprW (B : Bw X j) : CallR X (.builtin "repr") (rOL X.K (f1 gRepr)) := c1 fun pins s σ H x u Q d S m r I rx si hx hf hq => by
  unfold gRepr at hf
  cases q : pyS d S with
  | none => rw [q] at hf; cases hf
  | some p =>
    rw [q] at hf
    simp only at hf
    by_cases hl : p.showable = true ∧ p.hasDict = false ∧ p.depth ≤ 60 ∧ p.shown.length ≤ lineN
    · rw [if_pos hl] at hf
      cases hf
      have hsz : p.shown.length ≤ sizeLine := by rw [← line_eq]; exact hl.2.2.2
      have fin : ∀ {s' : Shared} {t : Tok}, L2.Inv X pins σ H s' → EP X pins σ Q (.str p.shown t) s' := fun I' => ⟨.str _, H, I', ⟨_, rfl⟩, hq _ H .refl si (.str _)⟩
      have hun := B.u65
      have dp := dpS_of si hx q
      cases rx with
      | cons rx _ =>
        cases dp with
        | non => cases rx; exact PySem.P.repr_of_none (fin (I.tok _))
        | bl b => cases rx; exact PySem.P.repr_of_bool (fin (I.tok _))
        | int i =>
          obtain ⟨t, rfl⟩ := rx
          have h1 : i.natAbs.log2 < 1920 := by have := hl.1; simpa [PyData.showable] using this
          exact PySem.P.repr_of_int h1 (fin (I.tok _))
        | str z => obtain ⟨t, rfl⟩ := rx; exact PySem.P.repr_of_str (fin (I.tok _)) hsz
        | lst h1 h2 =>
          obtain ⟨as, rd⟩ := Dp.reads I _ _ _ (.lst h1 h2) rx
          cases rx
          exact repr_of_reads' rd hl.1 (fun z => by rw [hl.2.1] at z; cases z) B.gd (by have := hl.2.2.1; omega) (fun _ _ e => e) (fun h' u tk hk => fin (I.kept hk)) hsz
        | tup h1 h2 =>
          obtain ⟨as, rd⟩ := Dp.reads I _ _ _ (.tup h1 h2) rx
          cases rx
          exact repr_of_reads' rd hl.1 (fun z => by rw [hl.2.1] at z; cases z) B.gd (by have := hl.2.2.1; omega) (fun _ _ e => e) (fun h' u tk hk => fin (I.kept hk)) hsz
    · rw [if_neg hl] at hf; cases hf
end
/-! ### try: .. except (A, B, C) as n: .. -/
def sTryE (cs : List Str) (i : Nat) (b su : SM) : SM := fun en S => match b en S with
  | .exc c fs en1 S1 => if c ∈ cs ∧ i < en1.length then (match su (en1.set i (some (.ref S1.length))) (S1 ++ [.err c fs]) with
    | .ret d S2 => .ret d S2
    | .next en2 S2 => .next (en2.set i none) S2
    | _ => .stuck) else .stuck
  | r => r
section
variable {K : PySem.W.Frag} {m : Mp} {H : Hp} {σ : L2.St} {en : En} {S : Sto} {a : Addr} {o : Obj} {c : Str} {fs : List (Str × D)} {od : Option Addr}
/-- the caught error as a cell of the store -/
theorem caught (si : Sim K m S H) (er : EnvR K m H σ en) (x : ExR K m H od fs) (na : H a = none) (hc : o.cls = .ref (He.ga K c)) (hd : o.dict = od) (hv : ∃ vs, o.data = .fields vs) (hx : PXN.CtxN o) (i : Nat) :
    Ext m H (m.add a) (upd H a (.frz o (ErO a o))) ∧ EnvR K (m.add a) (upd H a (.frz o (ErO a o))) (σ.set i (some (.ref a))) (en.set i (some (.ref S.length))) ∧ Sim K (m.add a) (S ++ [.err c fs]) (upd H a (.frz o (ErO a o))) := by
  have e : Ext m H (m.add a) (upd H a (.frz o (ErO a o))) := .cell na
  exact ⟨e, (er.to e).set (.ref (si.last a)), si.grow na ⟨o, upd_same, hc, hv, hx, by rw [hd]; exact x.tr e.tr⟩⟩
end
section
variable {X : Cx} {W : WX} {j : Nat} {x1 x2 x3 n : Str} {c1 c2 c3 : Value} {i kk : Nat} {body suite : List Stmt} {b₀ : Stmt} {p1 p2 p3 tpos pos pos' : Pos} {b su : SM} {cs : List Str}
theorem s_tryE (B : Bd X W j) (hx : ∀ c ∈ cs, PySem.W.exmAny X.K (.ref (He.ga X.K c)) [c1, c2, c3] = some true) (hs : X.stack = X.env :: X.outer) (hf : X.env.frame = some X.env.locals) (hex : X.ex = []) (hN : X.N.Nodup) (hi : X.N[i]? = some n) (hln : X.env.kindOf n = some .local)
    (hc1 : Names X x1 c1) (hc2 : Names X x2 c2) (hc3 : Names X x3 c3)
    (hb : ∀ (W' : WX) (pn : List (Addr × Obj)) (xe : Value → Shared → Prop), Bd (X.tr pn xe) W' j → PSs (X.tr pn xe) body (tS X.K W' b))
    (hsu : ∀ (a : Addr) (pn : List (Addr × Obj)) (o : Obj), PXN.CtxN o → (∃ vs, o.data = .fields vs) → Bw (suiteF X a pn o) j → PSs (suiteF X a pn o) (b₀ :: suite) (tS X.K W0 su)) :
    PS X (.Try body [.ExceptHandler (some (.Tuple [.Name x1 p1, .Name x2 p2, .Name x3 p3] kk tpos)) (some n) (b₀ :: suite) pos'] [] [] pos) (tS X.K W (sTryE cs i b su)) := by
  refine PS.imp (ps_try_tup (tb := fun W' => tS X.K W' b) hs hf hex hN hi hln hc1 hc2 hc3 B.tk (fun W' pn xe tk po => hb W' pn xe ⟨tk, po, B.calm, B.room, B.gd⟩) (fun a pn o hc hv => hsu a pn o hc hv (B.suite a pn o))) ?_
  rintro D σ H ⟨en, S, m, er, si, h⟩
  refine ⟨en, S, m, er, si, ?_⟩
  unfold sTryE at h
  cases q : b en S with
  | next en1 S1 => rw [q] at h; exact h
  | ret d S1 => rw [q] at h; exact h
  | brk en1 S1 => rw [q] at h; exact h
  | cnt en1 S1 => rw [q] at h; exact h
  | stuck => rw [q] at h; exact h
  | exc c' fs en1 S1 =>
    rw [q] at h
    simp only at h
    by_cases hcc : c' ∈ cs ∧ i < en1.length
    · rw [if_pos hcc] at h
      intro σ' od m' H' e' s' er' x'
      refine ⟨true, hx c' hcc.1, fun _ _ a o na hc hd hv hx => ?_, fun z => by cases z⟩
      obtain ⟨e2, er2, si2⟩ := caught s' er' x' na hc hd hv hx i
      refine ⟨_, _, _, er2, si2, ?_⟩
      cases q2 : su (en1.set i (some (.ref S1.length))) (S1 ++ [.err c' fs]) with
      | ret d S2 =>
        rw [q2] at h
        exact fun v m2 H2 e3 s3 r3 => h v m2 H2 (e'.trans (e2.trans e3)) s3 r3
      | next en2 S2 =>
        rw [q2] at h
        exact fun σ2 m2 H2 e3 s3 r3 => h (σ2.set i none) m2 H2 (e'.trans (e2.trans e3)) s3 r3.wipe1
      | _ => rw [q2] at h; exact h.elim
    · rw [if_neg hcc] at h; exact h.elim
end
end Ag

/-! defs that call what they get in a try, and look at the error -/
namespace Ag
open PySem PySem.Spec PyProof.Rows L2
section
variable {P : Program} {w : World} {K : PySem.W.Frag} {mg : Str → Option Value} {base : Heap} {N : List Str} {x : Str} {sg : Scope} {g : Addr} {cdg : Value} {a : Str} {k : Nat}
end
end Ag

/-! raise C(x), C over LookupError or ArithmeticError, with an own __init__ that keeps x -/
namespace Ag
open PySem PySem.Spec PyProof.Rows L2
abbrev btB (b : String) : List Value := [.type b, .type "Exception", .type "BaseException", .type "object"]
/-- what is known of the built-in base -/
structure Bas (b ni : String) : Prop where
  F : ∃ ii, ExcBaseFacts b ni ii (btB b)
  pass : ∀ self, refuseLoop self "__setattr__" (btB b) = pure ()
theorem bas_V : Bas "ValueError" "ValueError.__new__" := ⟨⟨_, F.excBase_ValueError⟩, fun self => by kernel_rfl⟩
theorem refsB_cases {b : String} : ∀ l : List Value, refsB b l = true → (∃ c r, l = .ref c :: r ∧ refsB b r = true) ∨ l = btB b
  | [], e => .inr (beq_iff_eq.mp e)
  | .ref c :: r, e => .inl ⟨c, r, rfl, e⟩
  | .none :: _, e => .inr (beq_iff_eq.mp e)
  | .ellipsis :: _, e => .inr (beq_iff_eq.mp e)
  | .notImplemented :: _, e => .inr (beq_iff_eq.mp e)
  | .bool _ :: _, e => .inr (beq_iff_eq.mp e)
  | .int _ _ :: _, e => .inr (beq_iff_eq.mp e)
  | .float _ _ :: _, e => .inr (beq_iff_eq.mp e)
  | .str _ _ :: _, e => .inr (beq_iff_eq.mp e)
  | .bytes _ _ :: _, e => .inr (beq_iff_eq.mp e)
  | .type _ :: _, e => .inr (beq_iff_eq.mp e)
  | .builtin _ :: _, e => .inr (beq_iff_eq.mp e)
theorem refsB_pass {b ni : String} (T : Bas b ni) (self : Value) : ∀ l : List Value, refsB b l = true → refuseLoop self "__setattr__" l = pure () := by
  intro l
  induction l with
  | nil => intro e; rcases refsB_cases _ e with ⟨c, r, q, _⟩ | q <;> cases q
  | cons a r ih =>
    intro e
    rcases refsB_cases (a :: r) e with ⟨c, r', q, h⟩ | q
    · obtain ⟨rfl, rfl⟩ := List.cons.inj q
      rw [refuseLoop_ref]; exact ih h
    · rw [q]; exact T.pass self
theorem refsB_has {b : String} (Y : String) : ∀ l : List Value, refsB b l = true → l.contains (.type Y) = (btB b).contains (.type Y) := by
  intro l
  induction l with
  | nil => intro e; rcases refsB_cases _ e with ⟨c, r, q, _⟩ | q <;> cases q
  | cons a r ih =>
    intro e
    rcases refsB_cases (a :: r) e with ⟨c, r', q, h⟩ | q
    · obtain ⟨rfl, rfl⟩ := List.cons.inj q
      rw [List.contains_cons, ih h]; rfl
    · rw [q]
theorem refsB_ne {b : String} {l : List Value} (e : refsB b l = true) : l.isEmpty = false := by
  cases l with
  | nil => rcases refsB_cases _ e with ⟨c, r, q, _⟩ | q <;> cases q
  | cons _ _ => rfl
section
open PySem.HandSPX PySem.W PySem.Calls PyProof.Rows Builtin Builtin.ObjectAttr
variable {prog : Program} {w : World} {A : Around} {R : Result → Shared → Prop} {hp : Heap} {g : Array GenState} {d : Drawn} {t : Nat} {os : OsState}
theorem osaB {b ni : String} (T : Bas b ni) {K : W.Frag} {name : Str} {tk : Tok} {v : Value} {x C : Addr} {fv : Array Value} {cd : ClassData}
    (X : K.In hp) (hx : hp.get? x = some { cls := .ref C, data := .fields fv }) (hcd : W.clsIn K C = some cd) (hm : refsB b cd.mro = true) (hh : cd.hasDict = true) (ha : W.findIn K (.ref C) name = some none)
    (hq : ∀ h' tk' dx, (∀ b o, b ≠ x → hp.get? b = some o → h'.get? b = some o) → hp.objs.size ≤ dx → dx ≠ x → h'.get? x = some { cls := .ref C, dict := some dx, data := .fields fv } →
      h'.Ns1 dx (fun y => if y = name then some v else none) → R (.ok (.ret .none)) ⟨h', g, d, tk', os⟩) :
    codeAny (model prog w) A (.call (.builtin "object.__setattr__") ⟨[.ref x, .str name tk, v], []⟩) R ⟨hp, g, d, t, os⟩ := by
  have I : W.InstAt hp x { cls := .ref C, data := .fields fv } C none := ⟨hx, rfl, rfl, trivial⟩
  have SF := F.store_object
  have ne := refsB_ne hm
  have hob : cd.mro.contains (.type "object") = true := (refsB_has "object" _ hm).trans (by simp)
  have hxs : x ≠ hp.objs.size := Nat.ne_of_lt (Heap.lt_size hx)
  have sub : W.Looks (model prog w) hp (isInstance (.ref x) (.type "object")) true := I.type.andThen (W.looks_mroIn X (by unfold W.mroIn; rw [hcd, Option.bind_some, if_neg (by rw [ne]; decide), hob]))
  refine codeAny_call_builtin SF.slot.plain SF.entry (@W.check_slot (model prog w) _ _ ⟨hp, g, d, t, os⟩ "object.__setattr__" "object" "__setattr__" (.ref x) [.str name tk, v] [] _ SF.kind SF.split sub (SF.args (.ref x) (.str name tk) v) ?_)
  have hmr : W.Looks (model prog w) hp (mroOf (.ref C)) cd.mro := (W.looks_clsIn X hcd).andThen .now
  have L3 : W.Looks (model prog w) hp (storeTaker? none) none := .now
  have hcls : W.Looks (model prog w) hp (classData C) cd := W.looks_clsIn X hcd
  rw [W.osa_eq, refuse_eq]
  refine wpAny_bind (wpAny_bind (I.type.at (wpAny_bind (hmr.at ?_))))
  rw [refsB_pass T _ _ hm]
  refine wpAny_pure (wpAny_bind (I.type.at (wpAny_bind ((W.looks_findIn X ha).at (wpAny_bind (L3.at ?_))))))
  show wpAny _ _ (storeInOwnDict (.ref x) (.ref C) (.str name tk) name v false) _ _ _
  obtain ⟨nm, bs, mro, ns, qn, hd, sn, sb, ab, col, del⟩ := cd
  dsimp only at hh
  subst hh
  unfold storeInOwnDict ownDictForStores
  repeat (first | with_reducible refine store_in_new ?_ ?_ | with_reducible refine wpAny_loadPart_at hx ?_ | with_reducible refine hcls.at ?_ | wp_step)
  · exact ⟨_, #[], _, (Heap.get?_update_ne _ _ _ _ hxs.symm).trans (Heap.get?_push_at rfl rfl), rfl, fun e he => absurd he (by simp), fun _ => rfl⟩
  · intro h' tk' hn' hs
    have hx₁ : (hp.push { cls := .type "dict", data := .dict #[] }).get? x = some { cls := .ref C, data := .fields fv } := Heap.get?_push_of_some _ hx
    refine hq h' tk' hp.objs.size (fun b o hb ho => ?_) (Nat.le_refl _) hxs.symm ?_ hn'
    · exact (hs.2 b (Nat.ne_of_lt (Heap.lt_size ho))).trans ((Heap.get?_update_ne _ _ _ _ hb).trans (Heap.get?_push_of_some _ ho))
    · exact (hs.2 x hxs).trans (Heap.get?_update_self _ hx₁ rfl)
end
/-- what the written part says of the class -/
structure OxB (K : PySem.W.Frag) (b ni : String) (C : Addr) : Prop where
  bas : Bas b ni
  cls : ∃ nm q N bs bm sn sub ab col dd k0 k1 k2 k3 k5, K.lookup C = some (excClassObj nm q C N bs bm true sn sub ab col dd k0 k1 k2 k3 k5 ni) ∧ refsB b bm = true
  sa : PySem.W.findIn K (.ref C) "__setattr__" = some (some (.builtin "object.__setattr__"))
  exC : PySem.W.subIn K (.ref C) (.type "BaseException") = some true
  tyC : PySem.W.typeIn K (.ref C) = some (.type "type")
  kC : PySem.W.keepIn K (.ref C) = true
theorem oxB_ok {K : PySem.W.Frag} {b ni : String} {C : Addr} (T : Bas b ni) (h : oxBB b ni K C = true) : OxB K b ni C := by
  unfold oxBB at h
  simp only [Bool.and_eq_true, decide_eq_true_eq] at h
  obtain ⟨q, h1, h2, h3, h4⟩ := h
  refine ⟨T, ?_, h1, h2, h3, h4⟩
  split at q
  · rename_i dd cd sl ho
    split at q
    · rename_i C' bm k0 k1 k2 k3 n k5 hm hs
      simp only [Bool.and_eq_true, beq_iff_eq, Bool.not_eq_true'] at q
      obtain ⟨⟨⟨⟨rfl, rfl⟩, hdel⟩, hdi⟩, ht⟩ := q
      obtain ⟨nm, bs, mro, ns, qn, hd, sn, sub, ab, col, del⟩ := cd
      dsimp only at hm hdel hdi
      subst hm hdel hdi
      have hsl : sl = #[k0, k1, k2, k3, some (.builtin n), k5] := by
        obtain ⟨l⟩ := sl
        simp only at hs
        rw [hs]
      subst hsl
      exact ⟨nm, qn, ns, bs, bm, sn, sub, ab, col, dd, k0, k1, k2, k3, k5, ho, ht⟩
    · cases q
  · cases q
section
variable {X : Cx} {pins : List (Addr × Obj)} {σ : L2.St} {H : Hp} {s : Shared} {a C dx : Addr} {f : Str} {y : V} {u : Value} {Q : Unit → Shared → Prop} {E : Value → Shared → Prop} {A : Around} {b ni : String}
theorem ostB_new (T : OxB X.K b ni C) (I : L2.Inv X pins σ H s) (e : H a = some (exo a C none)) (hno : PySem.W.findIn X.K (.ref C) f = some none) (ry : RelV y u)
    (h : ∀ dx s', H dx = none → dx ≠ a → L2.Inv X pins σ (upd (upd H dx (exd dx [(f, y)])) a (exo a C (some dx))) s' → Q () s') : wpAny (model X.prog X.w) A (setAttr (.ref a) f u) Q E s := by
  obtain ⟨nm, q, N, bs, bm, sn, sub, ab, col, dd, k0, k1, k2, k3, k5, hC, hbm⟩ := T.cls
  have hcl : PySem.W.clsIn X.K C = some { name := nm, bases := bs, mro := .ref C :: bm, ns := N, qualname := q, hasDict := true, slotNames := sn, subclasses := sub, abstract := ab, collection := col, hasDel := false } := by unfold PySem.W.clsIn; rw [hC] <;> rfl
  obtain ⟨t1, ho⟩ := exo_at I.hok e
  obtain ⟨hp, g, d, t, os⟩ := s
  refine PySem.W.set_plain I.kIn (ox := { cls := .ref C, dict := none, data := .fields #[.ref t1, .none, .none, .none, .bool false, .none] }) (od := none) ⟨ho, rfl, rfl, trivial⟩ T.sa ?_
  refine osaB T.bas I.kIn ho hcl (show refsB b (.ref C :: bm) = true from hbm) rfl hno (fun h' tk' dx k dn dne hx hn => ?_)
  have hnd : H dx = none := I.hok.fresh dn
  have nd : ∀ {b : Addr} {o : Obj}, hp.get? b = some o → b ≠ dx := fun {b o} q => Nat.ne_of_lt (Nat.lt_of_lt_of_le (Heap.lt_size q) dn)
  have na : ∀ {b : Addr}, H b = none → b ≠ a := fun {b} n z => by
    rw [z, e] at n
    cases n
  have Un1 : Un X.fs [] H (upd (upd H dx (exd dx [(f, y)])) a (exo a C (some dx))) hp h' := {
    keep := fun b o q n _ _ => k b o (na n) q
    slot := fun b o q n _ _ => ⟨o.slots, k b o (na n) q⟩
    free := fun b o q n _ => by rw [upd_ne (na n), upd_ne (nd q)]; exact n
    there := fun b o q _ => by
      by_cases hb : b = a
      · exact ⟨_, by rw [hb]; exact hx⟩
      · exact ⟨o, k b o hb q⟩
    tups := fun b xs q => by rw [upd_ne (at_ne e q exo_tup), upd_ne (ne_of_none q hnd)]; exact q
    frzs := fun b o v q => by rw [upd_ne (at_ne e q exo_frz), upd_ne (ne_of_none q hnd)]; exact q
    tbls := fun b ps q => ⟨#[], by rw [upd_ne (at_ne e q exo_tbl), upd_ne (ne_of_none q hnd), q]; simp⟩ }
  refine h dx _ hnd dne (I.un (t' := tk') Un1 fun b o q => ?_)
  by_cases hb : b = a
  · subst hb
    rw [upd_same] at q
    cases q
    exact exo_ok hx
  · rw [upd_ne hb] at q
    by_cases hd : b = dx
    · subst hd
      rw [upd_same] at q
      cases q
      exact exd_ok hn (relO_put (fs := []) ry fun g => True.intro)
    · rw [upd_ne hd] at q
      exact (I.hok b o q).stay (fun c v hc z => k c v (by
          rcases hc with hc | hc
          · rw [hc]
            exact hb
          · exact at_ne e hc exo_own) z)
        (fun c hc => by rw [upd_ne (at_ne e hc exo_own), upd_ne (ne_of_none hc hnd)]; exact hc) (fun c xs hc => by rw [upd_ne (at_ne e hc exo_tup), upd_ne (ne_of_none hc hnd)]; exact hc)
end
/-- self.f = e, the first field -/
def tOstB (K : PySem.W.Frag) (b ni : String) (f : Str) (to te : TE) : TS := fun D σ H => te σ H fun y H1 => to σ H1 fun x H2 => ∃ a C : Addr, x = .ref a ∧ OxB K b ni C ∧ PySem.W.findIn K (.ref C) f = some none ∧
  H2 a = some (exo a C none) ∧ ∀ dx, H2 dx = none → dx ≠ a → D.nx σ (upd (upd H2 dx (exd dx [(f, y)])) a (exo a C (some dx)))
section
variable {X : Cx} {o e : Expr} {es : List Expr} {to te : TE} {ta : TA} {f : Str} {p p' p1 p2 pos : Pos} {b ni : String}
theorem ps_ostB (ho : PE X o to) (he : PE X e te) (hs : swapsWith e (some (.Attribute o f p')) pos.line X.env = pure false := by rfl) : PS X (.Assign [.Attribute o f p'] e pos) (tOstB X.K b ni f to te) := by
  refine ⟨fun pins s σ H D I h => ?_⟩
  refine plainObj_wpAny_Assign_Attribute (thn (he.run pins s σ H _ I h) fun v s1 ⟨y, H1, I1, r1, q1⟩ => thn (ho.run pins s1 σ H1 _ I1 q1) fun u s2 ⟨x, H2, I2, r2, a, C, ex, T, hno, ea, q⟩ => ?_) hs
  subst ex
  obtain rfl : u = Value.ref a := r2
  exact ostB_new T I2 ea hno r1 fun dx s' n ne J => ⟨σ, _, J, q dx n ne⟩
theorem pmk_oxB {CX : CXT} {x : Str} {C fI : Addr} {k : Nat} {fd : FuncData} {ps : List Str} {sp : Sp} {ds : List Value} {dvs : List V} (T : OxB X.K b ni C) (iC : PySem.W.findIn X.K (.ref C) "__init__" = some (some (.ref fI))) (tI : PySem.W.typeIn X.K (.ref fI) = some (.type "function"))
    (F1 : FnOk X.prog X.w X.K X.mg X.base CX k fI fd ps sp) (hr : Room (k + 1) X.A) (hb : Binds X.K fd ps ds) (hd : Vals dvs ds) (hx : Passes CX X (fun _ _ _ => False)) (hg : Gl X x) (hm : X.mg x = some (.ref C)) (ha : PA X (e :: es) ta)
    (hdb : (x == ("__debug__" : Str)) = false := by decide) (he : starEach (e :: es) X.env = (false, eval e X.env) :: starEach es X.env := by rfl) (hpl : (backTo pos (starEach es X.env)).any (·.1) = false := by rfl) :
    L2N.PMk X (.Call (.Name x p) (e :: es) [] pos) (tMkO C sp dvs ta) := by
  intro pins s σ H Q I h
  obtain ⟨nm, q, N, bs, bm, sn, sub, ab, col, dd, k0, k1, k2, k3, k5, hC, hbm⟩ := T.cls
  obtain ⟨ii, FB⟩ := T.bas.F
  refine wpAny_Call_Name_kw (ld_glob I hg hm ?_ hdb)
  refine PySem.W.callWith_K (h₀ := X.base) I.ok.mod.kin T.kC (thn (ha.run pos pins s σ H _ I h) fun us s1 ⟨vs, H1, I1, r1, hz, q1⟩ => ⟨I1.kIn, ?_⟩) he hpl
  show wpAny _ _ (call (.ref C) us) _ _ _
  obtain ⟨hp, g, dr, tk, os⟩ := s1
  have hsz : hp.objs.size ≤ hp.objs.size + 1 := Nat.le_succ _
  have hn : H1 (hp.objs.size + 1) = none := I1.hok.fresh hsz
  have hq := q1 (hp.objs.size + 1) hn
  have kk : ∀ b o, hp.get? b = some o → ((hp.push (PySem.W.kdv_tup us)).push (PySem.HandSPX.excO C hp.objs.size)).get? b = some o := fun b o e => Heap.get?_push_of_some _ (Heap.get?_push_of_some _ e)
  have hget : ((hp.push (PySem.W.kdv_tup us)).push (PySem.HandSPX.excO C hp.objs.size)).get? (hp.objs.size + 1) = some (PySem.HandSPX.excO C hp.objs.size) := by heap_get
  have I2 : L2.Inv X pins σ (upd H1 (hp.objs.size + 1) (exo (hp.objs.size + 1) C none)) ⟨(hp.push (PySem.W.kdv_tup us)).push (PySem.HandSPX.excO C hp.objs.size), g, dr, tk, os⟩ :=
    I1.laid (t' := tk) (a := hp.objs.size + 1) (o := exo (hp.objs.size + 1) C none) (h' := (hp.push (PySem.W.kdv_tup us)).push (PySem.HandSPX.excO C hp.objs.size)) kk hsz (exo_ok hget)
  have r2 : Vals (V.ref (hp.objs.size + 1) :: (vs ++ dvs)) (Value.ref (hp.objs.size + 1) :: (us ++ ds)) := .cons rfl (r1.append hd)
  have hl : (Value.ref (hp.objs.size + 1) :: us ++ ds).length = ps.length := by
    have e := r2.length
    rw [F1.len _ _ _ _ hq] at e
    exact e.symm
  have hus : us.length ≤ sizeLine := by
    rw [← Paired.length r1, sizeLine_eq]
    omega
  refine wpAny_call (PySem.HandSPX.call_own FB (fun Y => refsB_has Y bm hbm) (I1.kIn _ _ hC) (PySem.W.looks_findIn I1.kIn iC) (fun self => PySem.W.bind_fn I1.kIn self tI) hus
    (codeAny_mono (F1.run _ X.stack _ _ ⟨Value.ref (hp.objs.size + 1) :: us, []⟩ (Value.ref (hp.objs.size + 1) :: (us ++ ds)) _ _ (fun _ _ _ => False) (hr.make C us []) (I2.env0.make C us []) (hb _ (Value.ref (hp.objs.size + 1) :: us) I2.kIn hl) r2 hq) fun r s' hq' => ?_))
  cases r with
  | error er => exact hx pins σ _ _ er s' I2 hq'
  | ok fl =>
    cases fl with
    | ret u =>
      obtain ⟨v, H2, os2, bare2, un2, hok2, rv, ev, d, fs, ea, ed, hd1, q2⟩ := hq'
      subst ev
      obtain ⟨h2, g2, d2, t2, os'⟩ := s'
      obtain ⟨t1, G, J, kG, nG, at2, no2⟩ := mk_end0 (d2 := d2) (t2 := t2) I1 hsz kk un2 hok2 os2 bare2 ea ed hd1
      exact ⟨rv, hp.objs.size + 1, _, _, ⟨G, g2, d2, t2, os'⟩, _, .ref C, some d, rfl, J, kG, nG, at2, ⟨rfl, rfl, fun vs z => by cases z; rfl⟩, rfl, rfl, no2, rfl, bare2, raises_own T.exC T.tyC, q2⟩
    | next => exact False.elim hq'
    | brk => exact False.elim hq'
    | cont => exact False.elim hq'
end
/-- what the layer asks of such a class c with the field f -/
structure ErB (K : PySem.W.Frag) (b ni : String) (c f : Str) : Prop where
  o : OxB K b ni (He.ga K c)
  no : PySem.W.findIn K (.ref (He.ga K c)) f = some none
  ini : PySem.W.findIn K (.ref (He.ga K c)) "__init__" = some (some (.ref (He.ma K (He.ga K c) "__init__")))
  fn : PySem.W.typeIn K (.ref (He.ma K (He.ga K c) "__init__")) = some (.type "function")
theorem erBB_ok {K : PySem.W.Frag} {b ni : String} {c f : Str} (T : Bas b ni) (h : erBB b ni K c f = true) : ErB K b ni c f := by
  unfold erBB at h
  simp only [Bool.and_eq_true, decide_eq_true_eq] at h
  obtain ⟨h1, h3, h4, h5⟩ := h
  exact ⟨oxB_ok T h1, h3, h4, h5⟩
theorem spXB_ok {P : Program} {w : World} {K : PySem.W.Frag} {mg : Str → Option Value} {base : Heap} {b ni : String} {x qual : Str} {params : Arguments} {scope : Scope} {a : Addr} {fd : FuncData} {c f : Str} {p1 p2 p3 p4 : Pos} (E : ErB K b ni c f)
    (F : FunD K x qual params [.Assign [.Attribute (.Name "self" p1) f p2] (.Name f p3) p4] scope [] [] a fd) (S : FnScope ["self", f] ["self", f] scope) (hv : Vis scope "self") (hw : Vis scope f) (hd : (f == ("__debug__" : Str)) = false) (hcd : (f == ("__classdict__" : Str)) = false) :
    FnOk P w K mg base (L2N.CX P w) 1 a fd ["self", f] (spX K (He.ga K c) f) := by
  refine F.ok S (fun vs H Q E h => by obtain ⟨_, _, rfl, _⟩ := h; rfl) fun cdv A outer s H vs Q E' hr h => ?_
  obtain ⟨e, y, rfl, he, hq⟩ := h
  refine ⟨_, pss_one (ps_ostB (b := b) (ni := ni) (pe_var (i := 0) rfl hv) (pe_var (i := 1) rfl hw hd hcd)), ?_⟩
  exact ⟨y, rfl, .ref e, rfl, e, _, rfl, E.o, E.no, he, fun dx h1 h2 => hq dx h1 h2⟩
section
variable {X : Cx} {W : WX} {e : Expr} {ma : EM} {j : Nat} {c f : Str} {b ni : String}
theorem s_raiseB {p pos pos' : Pos} {fd : FuncData} (B : Bd X W j) (hj : 2 ≤ j) (E : ErB X.K b ni c f) (F : FnOk X.prog X.w X.K X.mg X.base (L2N.CX X.prog X.w) 1 (He.ma X.K (He.ga X.K c) "__init__") fd ["self", f] (spX X.K (He.ga X.K c) f)) (hb : Binds X.K fd ["self", f] []) (hg : Gl X c) (hm : X.mg c = some (.ref (He.ga X.K c)))
    (he : PE X e (tE X.K W ma)) (hdb : (c == ("__debug__" : Str)) = false := by decide) (hs : starEach [e] X.env = (false, eval e X.env) :: starEach [] X.env := by rfl) (hpl : (backTo pos (starEach [] X.env)).any (·.1) = false := by rfl) :
    PS X (.Raise (some (.Call (.Name c p) [e] [] pos)) none pos') (tS X.K W (sRaise c f ma)) := by
  refine PS.imp (L2N.ps_raise B.calm B.tk (pmk_oxB E.o E.ini E.fn F (B.room.mono hj) hb .nil (fun pins s σ H e s' _ h => ?_) hg hm (pa_cons he pa_nil hs) hdb hs hpl)) ?_
  · obtain ⟨_, _, _, _, _, _, _, _, _, _, _, _, z⟩ := h
    exact z.elim
  · rintro D σ H ⟨en, S, m, er, si, h⟩
    refine ⟨en, S, m, er, si, (eS_to er h).mono ?_⟩
    rintro v H1 ⟨d, S1, m1, e1, s1, r1, h1⟩
    refine ⟨by simp, fun a ha => ⟨a, v, rfl, upd_same, fun dx hx ne => ?_⟩⟩
    have hx1 : H1 dx = none := by rw [upd_ne ne] at hx; exact hx
    refine ⟨rfl, dx, [(f, v)], upd_same, by rw [upd_ne ne, upd_same], hx1, ?_⟩
    have eH : upd (del (upd (upd (upd H1 a (exo a (He.ga X.K c) none)) dx (exd dx [(f, v)])) a (exo a (He.ga X.K c) (some dx))) a) dx (.xd [(f, v)]) = upd H1 dx (.xd [(f, v)]) := by
      funext b
      by_cases h1 : b = dx
      · subst h1; rw [upd_same, upd_same]
      · rw [upd_ne h1, upd_ne h1]
        by_cases h2 : b = a
        · subst h2; rw [del_same, ha]
        · rw [del_ne h2, upd_ne h2, upd_ne h1, upd_ne h2]
    rw [eH]
    exact h1 σ (some dx) m1 _ (.new hx1) (s1.new hx1) ((er.to e1).to (.new hx1)) ⟨[(f, v)], upd_same, s1.off hx1, rfl, .cons (r1.to (.new hx1)) .nil⟩
end
end Ag

/-! sorted(xs, key=lambda y: y[0]) of tuples that begin with texts -/
namespace Ag
open PySem PySem.Spec PyProof.Rows L2 PySem.W
section
variable {prog : Program} {w : World} {A : Around} {g : Heap} {s : Shared} {f t d : Addr} {y : Str} {k : Str} {tk : Tok} {its : Array Value}
end
section
variable {X : Cx} {W : WX} {e : Expr} {ma : EM} {y : Str} {i j jj : Nat} {c P : Addr} {q : Str} {params : Arguments} {scope : Scope} {p p1 p2 p3 pos lpos kp : Pos}
end
end Ag

/-! own classes: C(), o[i], o[i] = v, x in o; dicts with text keys: list(d), list(d.items()), dict(pairs) -/
namespace Ag
open PySem PySem.Spec PyProof.Rows L2
theorem errsB_ok {K : PySem.W.Frag} {c : Str} {rows : List (Ty × Bool)} (h : errsB K c rows = true) : L2.ExcC K (He.ga K c) ∧ ∀ r ∈ rows, PySem.W.kitOne K (.ref (He.ga K c)) (r.1.val K) = some r.2 := by
  unfold errsB excCB at h
  simp only [Bool.and_eq_true, decide_eq_true_eq, List.all_eq_true] at h
  obtain ⟨⟨h1, h2, h3, h4, h5, h6, h7, h8⟩, h9⟩ := h
  exact ⟨⟨He.eqO_ok h1, He.eqO_ok h2, h3, h4, He.eqO_ok h5, He.eqO_ok h6, h7, h8⟩, h9⟩
/-- the rows of all classes -/
def rowsE (l : List (Str × List (Ty × Bool))) : List (Str × Ty × Bool) := l.flatMap fun p => p.2.map fun r => (p.1, r)
theorem errsT_of {K : PySem.W.Frag} {l : List (Str × List (Ty × Bool))} (h : (l.all fun p => errsB K p.1 p.2) = true) : ErrsT K (rowsE l) := by
  intro r hr
  obtain ⟨p, hp, hm⟩ := List.mem_flatMap.mp hr
  obtain ⟨q, hq, rfl⟩ := List.mem_map.mp hm
  obtain ⟨h1, h2⟩ := errsB_ok (List.all_eq_true.mp h p hp)
  exact ⟨h1, h2 q hq⟩
theorem xfsB_ok {K : PySem.W.Frag} {cs : List Str} {f : Str} (h : xfsB K cs f = true) : ∀ c ∈ cs, XfC K (He.ga K c) ∧ PySem.W.findIn K (.ref (He.ga K c)) f = some none := fun c hc =>
  have q := He.ba (List.all_eq_true.mp h c hc)
  ⟨xfB_ok q.1, He.eqO_ok q.2⟩
section
variable {X : Cx} {W : WX} {e o i : Expr} {pos p : Pos} {mo mi : EM} {k n j : Nat} {f : Addr} {fd : FuncData} {ps : List Str} {fm : List D → Sto → Res D} {c : Str}
end
/-! ### dicts with int and text keys -/
section
variable {K : PySem.W.Frag} {m : Mp} {H : Hp}
end
section
variable {X : Cx} {W : WX} {e : Expr} {me : EM} {p pos : Pos}
theorem Ext.all {K : PySem.W.Frag} {m : Mp} {S : Sto} {H H' : Hp} (k : ∀ b o, H b = some o → H' b = some o) : Ext m H m H' := ⟨⟨[], by simp, by simp⟩, rfl, fun a o h => ⟨o, k a o h⟩, fun a o h _ => k a o h, fun a xs h => k a _ h, fun a o u h => k a _ h, fun a q h => k a _ h⟩
theorem Sim.all {K : PySem.W.Frag} {m : Mp} {S : Sto} {H H' : Hp} (s : Sim K m S H) (k : ∀ b o, H b = some o → H' b = some o) : Sim K m S H' := s.same rfl (Ext.all (K := K) (S := S) k).tr (fun a ha => by obtain ⟨o, h, _⟩ := s.trk ha; rw [h, k a o h]) (fun a ha => by obtain ⟨o, h⟩ := s.hid a ha; exact ⟨o, k a o h⟩) s.dis
end
/-! dict(pairs), later ones win -/
section
variable {X : Cx}
end
section
variable {X : Cx} {W : WX} {e : Expr} {ma : EM} {p pos : Pos}
end
end Ag

/-! sorted(set(x)), x up to 1000 ints, below 64 of them distinct -/
namespace Ag
open PySem PySem.Spec PyProof.Rows L2 Sem Builtin
section
variable {X : Cx} {W : WX} {e : Expr} {me : EM} {p1 pos1 p2 pos2 : Pos}
end
end Ag

/-! d != {} of a dict with texts as keys -/
namespace Ag
open PySem PySem.Spec PyProof.Rows L2 Sem Builtin
end Ag

namespace Ag
open PySem PySem.Spec PyProof.Rows L2
open PySem.SeqAt PySem.MeetsSeq AutoSeq1
/-! ### empty dicts among the things of a tuple: repr; beside texts: ==, in a list -/
section
variable {A : Around} {s : Shared} {d : Addr} {o : Obj} {es : Array DictEntry} {ep : Nat}
end
section
variable {X : Cx} {W : WX} {j : Nat}
/-! repr -/
end
end Ag

/-! a method that gives a lambda back; the lambda called in a try -/
namespace Ag
open PySem PySem.Spec PyProof.Rows L2
/-! ### try: .. except (A, B, C, D): .. -/
section
variable {X : Cx} {x1 x2 x3 x4 : Str} {c1 c2 c3 c4 : Value} {kk : Nat} {body suite : List Stmt} {b₀ : Stmt} {p1 p2 p3 p4 tpos pos pos' : Pos} {tb : WX → TS} {ts : TS} {Wout : WX}
end
/-! ### what a lambda holds, told by the heap while its maker is gone -/
def CelO (c : Addr) (v : V) : HO := .ext fun h => ∃ u, h.IsCell c (some u) ∧ RelV v u
def trkC (H : Hp) : List (Addr × V) → Hp
  | [] => H
  | (c, v) :: l => upd (trkC H l) c (CelO c v)
def cloH (H : Hp) (f : Addr) (o : Obj) (l : List (Addr × V)) : Hp := upd (trkC H l) f (ErO f o)
section
variable {H : Hp} {f b : Addr} {o : Obj} {l : List (Addr × V)} {u : HO}
end
section
variable {X : Cx} {pins : List (Addr × Obj)} {σ : L2.St} {H : Hp} {s : Shared} {f : Addr} {o : Obj} {l : List (Addr × V)}
end
/-! ### the maker -/
/-- what a maker gives: nothing, or the lambda k with what it holds -/
inductive MkR where
  | non (S : Sto) | clo (k : Nat) (ds : List D) (S : Sto) | stuck
def capD (en : En) : List Nat → Option (List D)
  | [] => some []
  | i :: is => match slotD en i with
    | some d => (capD en is).map (d :: ·)
    | none => none
/-- names, a closure, and cells with what they hold -/
structure CloF (ys : List Str) (cl : List (Str × Addr)) (l : List (Addr × V)) : Prop where
  len : l.length = ys.length
  at_ : ∀ (i : Nat) (y : Str), ys[i]? = some y → ∃ p, l[i]? = some p ∧ cl.lookup y = some p.1
  only : ∀ (y : Str) (c : Addr), cl.lookup y = some c → y ∈ ys
section
variable (K : PySem.W.Frag) (Ls : List LSyn) (q : Str)
def PostM (m : Mp) (H : Hp) (r : MkR) (Q : VK) : Prop := match r with
  | .non S' => ∀ m' H', Ext m H m' H' → Sim K m' S' H' → Q .non H'
  | .clo k ds S' => ∀ (L : LSyn) (m' : Mp) (Hx : Hp) (f d : Addr) (pm ctv : Value) (cl : List (Str × Addr)) (l : List (Addr × V)), Ls[k]? = some L → Ext m H m' Hx → Sim K m' S' Hx → Reps K m' Hx (l.map (·.2)) ds → CloF L.ys cl l → Hx f = none → (∀ p ∈ l, Hx p.1 = none) →
      f ∉ l.map (·.1) → (l.map (·.1)).Nodup → Hx d = some (LamX.CodeO d q) → Q (.ref f) (cloH Hx f (PySem.W.kla_obj "<lambda>" q L.pr L.bd L.sc cl pm d ctv) l)
  | .stuck => False
end
theorem PostM.to {K : PySem.W.Frag} {Ls : List LSyn} {q : Str} {m m' : Mp} {H H' : Hp} {r : MkR} {Q : VK} (h : PostM K Ls q m H r Q) (e : Ext m H m' H') : PostM K Ls q m' H' r Q := by
  cases r with
  | non S => exact fun m2 H2 e2 => h m2 H2 (e.trans e2)
  | clo k ds S => exact fun L m2 Hx f d pm ctv cl l hL e2 => h L m2 Hx f d pm ctv cl l hL (e.trans e2)
  | stuck => exact h
section
variable {X : Cx} {pins : List (Addr × Obj)} {σ : L2.St} {H : Hp} {s : Shared}
theorem mk_lam2 {c P : Addr} {params : Arguments} {body : Expr} {scope : Scope} {pos : Pos} {E : Value → Shared → Prop} {Q : Value → Shared → Prop} {ps : Array Value} (I : L2.Inv X pins σ H s) (TB : LamX.TabB X.base X.mg c P) (hcode : X.env.code = .ref c)
    (hP : H P = some (.tbl ps)) (tr : TriplesOk ps.toList) (told : ∀ (pos : Pos) (cv : Value), codeAmong pos ps.toList = some cv → ∃ d, cv = .ref d ∧ H d = some (LamX.CodeO d (X.env.qual ++ "<lambda>")))
    (nodef : defaultsOf params X.env = ([], [])) (cap : ∀ y ∈ scope.names, y.2 = .free → ∃ c, X.env.cells.lookup y.1 = some c)
    (go : ∀ (f d : Addr) (pm ctv : Value) (G : Hp) (z : Shared), s.heap.objs.size ≤ f → L2.Inv X pins σ G z → MadeL H P ps (X.env.qual ++ "<lambda>") d G → LamX.TabS G P (X.env.qual ++ "<lambda>") → z.heap.get? f = some (PySem.W.kla_obj "<lambda>" (X.env.qual ++ "<lambda>") params body scope (cloFrom X.env.cells scope.names []) pm d ctv) →
      G f = none → G d = some (LamX.CodeO d (X.env.qual ++ "<lambda>")) → Q (.ref f) z) :
    wpAny (model X.prog X.w) X.A (eval (.Lambda params body scope pos) X.env) Q E s := by
  have blt : s.heap.BuiltinsAt X.mg P := TB.bm.keeps I.bk
  have raw : s.heap.get? P = some { cls := .none, data := .fields ps } := I.hok P _ hP
  refine PySem.W.kla_eval nodef ?_
  cases known : codeAmong pos ps.toList with
  | some cv =>
    obtain ⟨d, rfl, hd⟩ := told pos cv known
    refine PySem.W.kla_makeFunctionHit (P := P) (c := c) (ps := ps) (mg := X.mg) (closure_ok cap) I.ok.glob (I.mod.glob.keeps I.bk) hcode (TB.code.keeps I.bk) raw tr known blt fun ctv g tk grow big => ?_
    exact go g.objs.size d _ ctv H _ big (I.kept fun b o e => Heap.get?_push_of_some _ (grow b o e)) (.inl rfl) ⟨ps, hP, tr, told⟩ (Heap.get?_push_size _ rfl) (I.hok.fresh big) hd
  | none =>
    refine PySem.W.kla_makeFunction (P := P) (c := c) (ps := ps) (mg := X.mg) (closure_ok cap) I.ok.glob (I.mod.glob.keeps I.bk) hcode (TB.code.keeps I.bk) raw tr known TB.gP blt fun d ctv g tk but low high rec tab => ?_
    obtain ⟨_, oc, vs, t, e0, at0, fl, nm⟩ := rec
    cases e0
    have big : s.heap.objs.size ≤ g.objs.size := Nat.le_trans low (Nat.le_of_lt high)
    have new : H d = none := I.hok.fresh low
    have dP : P ≠ d := ne_of_none hP new
    let w : Array Value := #[rawInt pos.line, rawInt pos.col, .ref d]
    have J := LamX.inv_table (more := w) (t' := tk) (h' := g.push (PySem.W.kla_obj "<lambda>" (X.env.qual ++ "<lambda>") params body scope (cloFrom X.env.cells scope.names []) ((X.mg "__name__").getD .none) d ctv)) I hP (fun b o ne e => Heap.get?_push_of_some _ (but b o ne e)) (Heap.get?_push_of_some _ tab) low
      ⟨oc, vs, t, Heap.get?_push_of_some _ at0, fl, nm⟩
    have md : MadeL H P ps (X.env.qual ++ "<lambda>") d (upd (upd H P (.tbl (ps ++ w))) d (LamX.CodeO d (X.env.qual ++ "<lambda>"))) := .inr ⟨new, w, rfl⟩
    have keepC : ∀ b u, H b = some (LamX.CodeO b u) → (upd (upd H P (.tbl (ps ++ w))) d (LamX.CodeO d (X.env.qual ++ "<lambda>"))) b = some (LamX.CodeO b u) := fun b u e => by
      rw [upd_ne (ne_of_none e new), upd_ne fun z => by rw [z, hP] at e; cases e]
      exact e
    have lst : (ps ++ w).toList = ps.toList ++ [rawInt pos.line, rawInt pos.col, .ref d] := by simp [w]
    refine go g.objs.size d _ ctv _ _ big J md ⟨ps ++ w, by rw [upd_ne dP, upd_same], by rw [lst]; exact PySem.TriplesOk_snoc _ _ _ _ tr, fun p2 cv hc => ?_⟩ (Heap.get?_push_size _ rfl) ?_ upd_same
    · rw [lst] at hc
      rcases LamX.among_app _ tr hc with y | y
      · obtain ⟨d0, y1, y2⟩ := told p2 cv y
        exact ⟨d0, y1, keepC _ _ y2⟩
      · exact ⟨d, y, upd_same⟩
    · have a1 : g.objs.size ≠ d := Nat.ne_of_gt high
      have a2 : g.objs.size ≠ P := Nat.ne_of_gt (Nat.lt_of_lt_of_le (Heap.lt_size raw) big)
      rw [upd_ne a1, upd_ne a2]
      exact I.hok.fresh big
end
/-- what the maker's run must come to -/
def GoalM (X : Cx) (Ls : List LSyn) (q : Str) (m : Mp) (H : Hp) (r : MkR) (R : Flow → Shared → Prop) : Prop := match r with
  | .non S' => ∀ σ' m' H' s', L2.Inv X [] σ' H' s' → Ext m H m' H' → Sim X.K m' S' H' → R (.ret .none) s'
  | .clo k ds S' => ∀ (L : LSyn) (en : En) (σ' : L2.St) (m' : Mp) (G : Hp) (s' : Shared) (f d : Addr) (pm ctv : Value), Ls[k]? = some L → L2.Inv X [] σ' G s' → Ext m H m' G → Sim X.K m' S' G → EnvR X.K m' G σ' en → capD en L.cp = some ds →
      s'.heap.get? f = some (PySem.W.kla_obj "<lambda>" q L.pr L.bd L.sc (cloFrom X.env.cells L.sc.names []) pm d ctv) → G f = none → G d = some (LamX.CodeO d q) → X.s_0.heap.objs.size ≤ f → R (.ret (.ref f)) s'
  | .stuck => False
theorem GoalM.to {X : Cx} {Ls : List LSyn} {q : Str} {m m' : Mp} {H H' : Hp} {r : MkR} {R : Flow → Shared → Prop} (h : GoalM X Ls q m H r R) (e : Ext m H m' H') : GoalM X Ls q m' H' r R := by
  cases r with
  | non S => exact fun σ2 m2 H2 s2 J e2 => h σ2 m2 H2 s2 J (e.trans e2)
  | clo k ds S => exact fun L en σ2 m2 G s2 f d pm ctv hL J e2 => h L en σ2 m2 G s2 f d pm ctv hL J (e.trans e2)
  | stuck => exact h
section
variable {X : Cx} {W : WX} {Ls : List LSyn} {q : Str} {st : Stmt} {rest : List Stmt} {mm : En → Sto → MkR} {sM : SM}
end
section
variable {X : Cx} {W : WX} {Ls : List LSyn} {q : Str} {rest : List Stmt} {mm : En → Sto → MkR} {bm : BM}
end
/-- what the texts tell of a lambda of the maker -/
structure LOk (N : List Str) (scope : Scope) (L : LSyn) : Prop where
  len : L.ys.length = L.cp.length
  nd : L.ys.Nodup
  at_ : ∀ (i j : Nat) (y : Str), L.ys[i]? = some y → L.cp[i]? = some j → N[j]? = some y ∧ scope.names.lookup y = some .cell
  free : ∀ y ∈ L.ys, (y, NameKind.free) ∈ L.sc.names
  only : ∀ y, (y, NameKind.free) ∈ L.sc.names → y ∈ L.ys
def lokB (N : List Str) (scope : Scope) (L : LSyn) : Bool :=
  decide (L.ys.length = L.cp.length) && decide L.ys.Nodup && (L.ys.zip L.cp).all (fun p => decide (N[p.2]? = some p.1) && decide (scope.names.lookup p.1 = some .cell)) && L.ys.all (fun y => L.sc.names.any fun z => decide (z.1 = y) && decide (z.2 = .free)) && L.sc.names.all fun z => !decide (z.2 = .free) || decide (z.1 ∈ L.ys)
theorem lok_ok {N : List Str} {scope : Scope} {L : LSyn} (h : lokB N scope L = true) : LOk N scope L := by
  unfold lokB at h
  simp only [Bool.and_eq_true, decide_eq_true_eq, List.all_eq_true, List.any_eq_true, Bool.or_eq_true, Bool.not_eq_true', decide_eq_false_iff_not] at h
  obtain ⟨⟨⟨⟨h1, h2⟩, h3⟩, h4⟩, h5⟩ := h
  refine ⟨h1, h2, fun i j y e1 e2 => h3 (y, j) (List.mem_of_getElem? (i := i) ?_), fun y hy => ?_, fun y hy => ?_⟩
  · rw [List.getElem?_zip_eq_some]
    exact ⟨e1, e2⟩
  · obtain ⟨z, hz, z1, z2⟩ := h4 y hy
    obtain ⟨a, b⟩ := z
    simp only at z1 z2
    subst z1 z2
    exact hz
  · rcases h5 _ hy with z | z
    · exact absurd rfl z
    · exact z
section
variable {X : Cx} {σ : L2.St} {G : Hp} {s : Shared} {m : Mp} {en : En}
theorem caps_ok (I : L2.Inv X [] σ G s) (er : EnvR X.K m G σ en) : ∀ (ys : List Str) (cp : List Nat) (ds : List D), ys.length = cp.length → (∀ (i j : Nat) (y : Str), ys[i]? = some y → cp[i]? = some j → X.N[j]? = some y ∧ X.env.scope.names.lookup y = some .cell) → capD en cp = some ds →
    ∃ l : List (Addr × V), l.length = ys.length ∧ Reps X.K m G (l.map (·.2)) ds ∧ (∀ (i : Nat) (y : Str), ys[i]? = some y → ∃ p, l[i]? = some p ∧ X.env.cells.lookup y = some p.1) ∧ ∀ p ∈ l, (∃ y ∈ ys, X.env.cells.lookup y = some p.1) ∧ ∃ u, s.heap.IsCell p.1 (some u) ∧ RelV p.2 u
  | [], cp, ds, hl, _, hd => by
    have : cp = [] := List.eq_nil_of_length_eq_zero hl.symm
    subst this
    cases hd
    exact ⟨[], rfl, .nil, fun i y z => by simp at z, fun p hp => by cases hp⟩
  | y :: ys, [], ds, hl, _, _ => by cases hl
  | y :: ys, c :: cp, ds, hl, ha, hd => by
    unfold capD at hd
    cases hs : slotD en c with
    | none => rw [hs] at hd; cases hd
    | some d =>
      rw [hs] at hd
      cases hr : capD en cp with
      | none => rw [hr] at hd; cases hd
      | some es =>
        rw [hr] at hd
        cases hd
        obtain ⟨l, l1, l2, l3, l4⟩ := caps_ok I er ys cp es (by simpa using hl) (fun i j y e1 e2 => ha (i + 1) j y (by simpa using e1) (by simpa using e2)) hr
        have he : en[c]? = some (some d) := by
          unfold slotD at hs
          split at hs
          · rename_i q; cases hs; exact q
          · cases hs
        obtain ⟨v, hv, rv⟩ := er.at_ c d he
        obtain ⟨hN, hk⟩ := ha 0 c y rfl rfl
        obtain ⟨mm, hn, look⟩ := I.loc
        obtain ⟨u, ru, lk⟩ := look c y v hN hv (.inr (.inl hk))
        rcases lk with ⟨k', _⟩ | ⟨_, a, ea, ic⟩
        · have k' : X.env.scope.names.lookup y = some .local := k'
          rw [hk] at k'; cases k'
        · refine ⟨(a, v) :: l, by simp [l1], .cons rv l2, fun i z hz => ?_, fun p hp => ?_⟩
          · cases i with
            | zero => simp at hz; subst hz; exact ⟨_, rfl, ea⟩
            | succ i => exact l3 i z (by simpa using hz)
          · rcases List.mem_cons.mp hp with rfl | hp
            · exact ⟨⟨y, by simp, ea⟩, u, ic, ru⟩
            · obtain ⟨⟨y', h1, h2⟩, h3⟩ := l4 p hp
              exact ⟨⟨y', by simp [h1], h2⟩, h3⟩
end
theorem ndl {ys : List Str} {l : List (Addr × V)} {cells : List (Str × Addr)} (hl : l.length = ys.length) (nd : ys.Nodup) (inj : ∀ x y c, cells.lookup x = some c → cells.lookup y = some c → x = y) (at_ : ∀ (i : Nat) (y : Str), ys[i]? = some y → ∃ p, l[i]? = some p ∧ cells.lookup y = some p.1) : (l.map (·.1)).Nodup := by
  refine List.pairwise_iff_getElem.mpr fun i j hi0 hj0 hij e => ?_
  rw [List.length_map] at hi0 hj0
  have hi : i < ys.length := by omega
  have hj2 : j < ys.length := by omega
  obtain ⟨p, p1, p2⟩ := at_ i ys[i] (List.getElem?_eq_getElem hi)
  obtain ⟨r, r1, r2⟩ := at_ j ys[j] (List.getElem?_eq_getElem hj2)
  rw [List.getElem_map, List.getElem_map] at e
  have e1 : l[i] = p := by
    have := List.getElem?_eq_getElem hi0
    rw [p1] at this
    exact (Option.some.inj this).symm
  have e2 : l[j] = r := by
    have := List.getElem?_eq_getElem hj0
    rw [r1] at this
    exact (Option.some.inj this).symm
  rw [e1, e2] at e
  rw [e] at p2
  have := inj _ _ _ p2 r2
  have e3 : ys[i]? = ys[j]? := by
    rw [List.getElem?_eq_getElem hi, List.getElem?_eq_getElem hj2, this]
  have := (List.getElem?_inj hi nd).mp e3
  omega
section
variable {P : Program} {w : World} {K : PySem.W.Frag} {mg : Str → Option Value} {base : Heap} {x qual : Str} {params : Arguments} {body : List Stmt} {scope : Scope} {kws : List (Str × V)} {f c : Addr} {fd : FuncData}
end
/-! ### the call of a method that makes lambdas -/
section
variable {X : Cx} {W : WX} {j k n : Nat} {o e : Expr} {es : List Expr} {ma : EM} {mr : AM} {f : Addr} {fd : FuncData} {ps : List Str} {apos pos : Pos} {c : Str} {Ls : List LSyn} {q : Str} {mk : List D → Sto → MkR}
end
/-! ### the lambda called, its maker gone -/
abbrev lamEnvD (q : Str) (sc : Scope) (L f c' : Addr) (cl : List (Str × Addr)) : Env := PySem.W.envX q sc L f (.ref c') cl
def lamCxD (P : Program) (w : World) (K : PySem.W.Frag) (mg : Str → Option Value) (base : Heap) (A : Around) (outer : List Env) (s : Shared) (H : Hp) (E : XK) (N : List Str) (q : Str) (sc : Scope) (f c' : Addr) (cl : List (Str × Addr)) : Cx where
  prog := P
  w := w
  K := K
  mg := mg
  base := base
  A := A.deeper (lamEnvD q sc s.heap.objs.size f c' cl)
  N := N
  s_0 := s
  H_0 := H
  env := lamEnvD q sc s.heap.objs.size f c' cl
  outer := outer
  stack := lamEnvD q sc s.heap.objs.size f c' cl :: outer
  ex := []
  fn := fun _ => false
  calm := true
  pn := []
  xe := fun e s' => wpAny (model P w) (A.deeper (lamEnvD q sc s.heap.objs.size f c' cl)) (leaving (lamEnvD q sc s.heap.objs.size f c' cl) e) (fun _ s'' => L2N.CX P w outer H s E e s'') (fun e' s'' => L2N.CX P w outer H s E e' s'') s'
theorem lam_startD {P : Program} {w : World} {K : PySem.W.Frag} {mg : Str → Option Value} {base : Heap} {A : Around} {outer : List Env} {E : XK} {z : Shared} {H : Hp} {N' : List Str} {sc' : Scope} {L : LSyn} {q : Str} {f c' : Addr} {cl : List (Str × Addr)} {l : List (Addr × V)} {h₁ : Heap} {tk : Nat}
    (LS : LamX.LamS sc' L.sc) (lo : LOk N' sc' L) (cf : CloF L.ys cl l) (nd : (l.map (·.1)).Nodup) (cells : ∀ p ∈ l, ∃ u, z.heap.IsCell p.1 (some u) ∧ RelV p.2 u) (free : ∀ p ∈ l, H p.1 = none) (e0 : Env0 P w K mg base A outer z H) (hd : A.handled = none)
    (hns : h₁.Ns z.heap.objs.size fun y => ([] : List (Str × Value)).reverse.lookup y) (kp : ∀ b o, z.heap.get? b = some o → h₁.get? b = some o) :
    L2.Inv (lamCxD P w K mg base A outer z H E L.ys q L.sc f c' cl) [] (l.map fun p => some p.2) H { z with heap := h₁, toks := tk } := by
  have noA : ∀ b : Addr, b ∉ (lamCxD P w K mg base A outer z H E L.ys q L.sc f c' cl).ex := fun b y => absurd (show b ∈ ([] : List Addr) from y) (by simp)
  have ix : ∀ {y : Str} {c : Addr}, cl.lookup y = some c → ∃ (i : Nat) (p : Addr × V), L.ys[i]? = some y ∧ l[i]? = some p ∧ p.1 = c := fun {y c} e => by
    obtain ⟨i, hi⟩ := List.getElem?_of_mem (cf.only y c e)
    obtain ⟨p, p1, p2⟩ := cf.at_ i y hi
    rw [e] at p2
    exact ⟨i, p, hi, p1, (Option.some.inj p2).symm⟩
  have ic : ∀ {p : Addr × V}, p ∈ l → ∃ u, h₁.IsCell p.1 (some u) ∧ RelV p.2 u := fun {p} hp => by
    obtain ⟨u, ⟨o, ho, hdat⟩, r⟩ := cells p hp
    exact ⟨u, ⟨o, kp _ _ ho, hdat⟩, r⟩
  refine ⟨⟨e0.mod, LS.kind, rfl, rfl, Nat.le_refl _, fun y y2 c e1 e2 => ?_, fun y hy => ?_, fun y c z _ => ?_, fun _ => hd, Around.frames_deeper e0.frames, .inr ⟨rfl, rfl⟩, fun b z => absurd z (noA b), e0.bs, e0.bsz, fun b _ _ => noA b,
      fun b z => absurd z (noA b), e0.funs, e0.frf⟩,
    rfl, e0.bare, Un.kept kp, ⟨_, hns, fun i y v e1 e2 e3 => ?_⟩, fun y c e => ?_, e0.hok.fresh (Nat.le_refl _), fun y c e => ?_, fun q hq => absurd (show q ∈ ([] : List (Addr × Obj)) ++ [] from hq) (by simp), e0.hok.kept kp, by rw [List.length_map]; exact cf.len⟩
  · obtain ⟨i, p, i1, i2, i3⟩ := ix e1
    obtain ⟨j, r, j1, j2, j3⟩ := ix e2
    have hi := (List.getElem?_eq_some_iff.mp i2).1
    have := (List.getElem?_inj (by rw [List.length_map]; exact hi) nd).mp (show (l.map (·.1))[i]? = (l.map (·.1))[j]? by rw [List.getElem?_map, List.getElem?_map, i2, j2]; simp [i3, j3])
    subst this
    rw [i1] at j1
    exact Option.some.inj j1
  · have hy : L.sc.names.lookup y = some .cell ∨ L.sc.names.lookup y = some .free := hy
    rcases hy with hy | hy
    · exact absurd rfl (LS.own _ (PySem.mem_of_lookup hy)).2
    · obtain ⟨i, hi⟩ := List.getElem?_of_mem (lo.only y (PySem.mem_of_lookup hy))
      obtain ⟨p, p1, p2⟩ := cf.at_ i y hi
      exact ⟨p.1, p2⟩
  · have z : false = true := z
    cases z
  · have e3 : Vis L.sc y := e3
    rcases e3 with k | k | k
    · exact absurd rfl (LS.own _ (PySem.mem_of_lookup k)).1
    · exact absurd rfl (LS.own _ (PySem.mem_of_lookup k)).2
    · obtain ⟨p, p1, p2⟩ := cf.at_ i y e1
      rw [List.getElem?_map, p1] at e2
      have e2 : p.2 = v := by simpa using e2
      obtain ⟨u, h1, h2⟩ := ic (List.mem_of_getElem? p1)
      exact ⟨u, e2 ▸ h2, .inr ⟨.inr k, p.1, p2, h1⟩⟩
  · obtain ⟨i, p, i1, i2, i3⟩ := ix e
    obtain ⟨u, h1, _⟩ := ic (List.mem_of_getElem? i2)
    exact ⟨_, i3 ▸ h1⟩
  · obtain ⟨i, p, i1, i2, i3⟩ := ix e
    exact i3 ▸ free p (List.mem_of_getElem? i2)
/-- the lambda's own text -/
structure BodOk (P : Program) (w : World) (K : PySem.W.Frag) (mg : Str → Option Value) (base : Heap) (q : Str) (k : Nat) (L : LSyn) (me : EM) : Prop where
  sc : ∃ N' sc', LamX.LamS sc' L.sc ∧ LOk N' sc' L
  bind : ∀ (cl : List (Str × Addr)) (pm cv ctv : Value), bindArgs (PySem.W.kla_fn "<lambda>" q L.pr L.bd L.sc cl pm cv ctv) ⟨[], []⟩ = pure []
  pe : ∀ (A : Around) (outer : List Env) (s : Shared) (H : Hp) (E : XK) (f d : Addr) (cl : List (Str × Addr)), Bd (lamCxD P w K mg base A outer s H E L.ys q L.sc f d cl) (WofE E) k → PE (lamCxD P w K mg base A outer s H E L.ys q L.sc f d cl) L.bd (tE K (WofE E) me)
theorem env_clo {K : PySem.W.Frag} {m : Mp} {H : Hp} {l : List (Addr × V)} {ds : List D} (r : Reps K m H (l.map (·.2)) ds) : EnvR K m H (l.map fun p => some p.2) (ds.map some) := by
  have hl := r.len
  rw [List.length_map] at hl
  refine ⟨by rw [List.length_map, List.length_map, hl], fun i d q => ?_⟩
  rw [List.getElem?_map] at q
  cases e : ds[i]? with
  | none => rw [e] at q; cases q
  | some c =>
    rw [e] at q
    have e2 : c = d := by simpa using q
    subst e2
    obtain ⟨v, h1, h2⟩ := r.get e
    rw [List.getElem?_map] at h1
    refine ⟨v, ?_, h2⟩
    rw [List.getElem?_map]
    cases e3 : l[i]? with
    | none => rw [e3] at h1; cases h1
    | some p => rw [e3] at h1; cases h1; rfl
/-! ### act = self.f(..); if act is None: return ..; try: act() except (A, B, C, D): return ..; return .. -/
section
variable {X : Cx} {W : WX} {Ls : List LSyn} {bs : List EM} {cs : List Str} {q : Str} {mm : En → Sto → MkR}
end
/-! ### f'{a}..{b}' of two ints -/
section
variable {X : Cx} {W : WX} {e1 e2 : Expr} {ma mb : EM} {sep : Str} {k : Nat} {p1 p2 p3 pos : Pos}
end
end Ag
/-! ### divmod by a great divisor -/
namespace Ag
open PySem PySem.Spec PyProof.Rows L2
end Ag
/-! ### tuple(text) -/
namespace Ag
open PySem PySem.Spec PyProof.Rows L2
end Ag
/-! ### {k: v, l: w}, and dict(list(d.items()) + [..]) -/
namespace Ag
open PySem PySem.Spec PyProof.Rows L2
section
variable {X : Cx} {W : WX}
theorem Paired.mp {α β : Type} {F G : α → β → Prop} (h : ∀ a b, F a b → G a b) : ∀ {xs : List α} {ys : List β}, Paired F xs ys → Paired G xs ys
  | _, _, .nil => .nil
  | _, _, .cons r t => .cons (h _ _ r) (Paired.mp h t)
theorem Paired.app {α β : Type} {F : α → β → Prop} : ∀ {xs zs : List α} {ys ws : List β}, Paired F xs ys → Paired F zs ws → Paired F (xs ++ zs) (ys ++ ws)
  | _, _, _, _, .nil, h => h
  | _, _, _, _, .cons r t, h => .cons r (Paired.app t h)
end
end Ag

/-! comprehensions while an error is handled -/
namespace Ag
open PySem PySem.Spec PyProof.Rows L2
/-- the handled error stands in the context's ground, nothing behind it -/
structure HotF (X : Cx) : Prop where
  ex : ∃ (a : Addr) (o : Obj), X.A.handled = some (.ref a) ∧ X.H_0 a = some (.frz o (ErO a o)) ∧ PXN.CtxN o ∧ ∃ vs, o.data = .fields vs
section
variable {X : Cx} {pins : List (Addr × Obj)} {σ : L2.St} {H : Hp} {s : Shared}
theorem HotF.at_ (h : HotF X) (I : L2.Inv X pins σ H s) : ∃ a, HotX.HotAt X.A a s.heap ∧ ∃ u, H a = some u := by
  obtain ⟨a, o, h1, h2, h3, vs, h4⟩ := h.ex
  have q := I.base.frzs a o _ h2
  exact ⟨a, ⟨h1, o, vs, (I.hok a _ q).1, h4, h3 vs h4⟩, _, q⟩
theorem HotF.blk (h : HotF X) (I : L2.Inv X pins σ H s) (t : Shared) (sc : Scope) (env : Env) (fp : List Addr) : HotF (X.blk t H sc env fp) := by
  obtain ⟨a, o, h1, h2, h3, h4⟩ := h.ex
  exact ⟨a, o, h1, I.base.frzs a o _ h2, h3, h4⟩
theorem HotF.suite {a : Addr} {pn : List (Addr × Obj)} {o : Obj} (hc : PXN.CtxN o) (hv : ∃ vs, o.data = .fields vs) : HotF (suiteF X a pn o) := ⟨a, o, rfl, upd_same, hc, hv⟩
end
/-- a list's iterator at its end -/
theorem lst_end_hot {prog : Program} {w : World} {A : Around} {E : Value → Shared → Prop} {s : Shared} {it l y : Addr} {i : Nat} {xs : Array Value} {Q : Option Value → Shared → Prop} (hot : HotX.HotAt A y s.heap) (hy : y ≠ it) (a1 : s.heap.IsListIter it l i) (a2 : s.heap.IsList l xs) (a3 : xs[i]? = none)
    (fin : ∀ g, (∀ b o, b ≠ it → s.heap.get? b = some o → g.get? b = some o) → Q none { s with heap := g }) : wpAny (model prog w) A (pyNext (.ref it)) Q E s := by
  obtain ⟨oi, at1, cl1, dt1⟩ := id a1
  obtain ⟨ol, at2, _, nl, dt2⟩ := a2
  obtain ⟨hh, oy, vy, at3, dt3, cx3⟩ := hot
  have up : ∀ b o, b ≠ it → s.heap.get? b = some o → (s.heap.update it (Obj.mapFields (·.setIfInBounds 0 Value.none))).get? b = some o := fun b o ne q => (Heap.get?_update_other _ _ (Ne.symm ne)).trans q
  unfold pyNext
  refine wpAny_bind (wpAny_attempt (wpAny_callSpecial?_slot (name := Str.ofString "__next__") a1.typeIs slot_listiter_next (wpAny_call_entry slot_listiter_next a1.typeIs entry_listiter_next ?_ (args_listiter_next _))))
  refine (?_ : wpAny _ _ (field (.ref it) 0 >>= _) _ _ s)
  refine wpAny_bind (wpAny_field at1 dt1 (x := .ref l) rfl ?_)
  refine (?_ : wpAny _ _ (if (Value.ref l == Value.none) = true then _ else _) _ _ s)
  rw [if_neg (by simp)]
  refine (?_ : wpAny _ _ (field (.ref it) 1 >>= _) _ _ s)
  refine wpAny_bind (wpAny_field at1 dt1 (x := .int i 0) rfl ?_)
  refine (?_ : wpAny _ _ (seqItems? (.ref l) >>= _) _ _ s)
  refine wpAny_bind (wpAny_seqItems at2 dt2 ?_)
  simp only [Int.toNat_natCast, a3]
  refine wpAny_bind (wpAny_rule (wpAny_bind (wpAny_setField at1 dt1 (by simp) ?_)))
  refine (?_ : wpAny _ _ (newExc (.type "StopIteration") [] >>= _) _ _ _)
  refine wpAny_bind ?_
  simp only [newExc, newTuple]
  refine wpAny_bind (wpAny_newObj_type ?_ (by size_fits))
  refine wpAny_bind (m := firstArgMember _ _) (wpAny_of_eq (a := Value.none) (by first | rfl | (simp only [firstArgMember]; rfl)) (wpAny_newObj_type ?_ (by size_fits)))
  refine HotX.raiseNew_hot ⟨hh, oy, vy, Heap.get?_push_of_some _ (Heap.get?_push_of_some _ (up y oy hy at3)), dt3, cx3⟩ (Nat.ne_of_lt (Heap.lt_size (Heap.get?_push_of_some _ (up y oy hy at3)))) (Heap.get?_push_size _ rfl) rfl (by first | (simp; done) | (simp; omega)) ?_
  refine wpAny_bind (wpAny_isInstance (T := "StopIteration") (b := true) ⟨_, Heap.get?_update_self _ (Heap.get?_push_size _ rfl) rfl, rfl⟩ isSubtype_stop (wpAny_pure (fin _ fun b o ne q => ?_)))
  rw [Heap.get?_update_other _ _ (Nat.ne_of_gt (Heap.lt_size (Heap.get?_push_of_some _ (up b o ne q))))]
  exact Heap.get?_push_of_some _ (Heap.get?_push_of_some _ (up b o ne q))
/-! ### iterators where an error is handled -/
structure TurnF (P : Program) (w : World) (K : PySem.W.Frag) (tg : Expr) (J : L2.It) (fp : List Addr) (it : Addr) (at_ : Nat → Heap → Prop) : Prop where
  obj : ∀ k g, at_ k g → ∀ c ∈ fp, ∃ o, g.get? c = some o ∧ ∀ v, o.data ≠ .cell v
  keep : ∀ k g g', at_ k g → (∀ c ∈ fp, ∀ o, g.get? c = some o → g'.get? c = some o) → at_ k g'
  item : ∀ (X : Cx), X.prog = P → X.w = w → X.K = K → ∀ (k : Nat) (pins : List (Addr × Obj)) (s : Shared) (σ : L2.St) (H : Hp) (E : Value → Shared → Prop), L2.Inv X pins σ H s → (∀ c ∈ fp, FpOk X pins H c) → at_ k s.heap → J.go k H →
    wpAny (model P w) X.A (pyNext (.ref it)) (fun r t => ∃ u, r = some u ∧ wpAny (model P w) X.A (letOwnedTupleGo tg (.ref it) u) (fun _ t' => ∃ x G, L2.Inv X pins σ G t' ∧ RelV x u ∧ J.yld k H x G ∧ at_ (k + 1) t'.heap ∧ ∀ c ∈ fp, G c = none) E t) E s
  done : ∀ (X : Cx), X.prog = P → X.w = w → X.K = K → HotF X → ∀ (k : Nat) (pins : List (Addr × Obj)) (s : Shared) (σ : L2.St) (H : Hp) (E : Value → Shared → Prop), L2.Inv X pins σ H s → (∀ c ∈ fp, FpOk X pins H c) → at_ k s.heap → J.stop k H →
    wpAny (model P w) X.A (pyNext (.ref it)) (fun r t => r = none ∧ L2.Inv X pins σ H t) E s
  self : ∀ (A : Around) (k : Nat) (s : Shared) (Q : Value → Shared → Prop) (E : Value → Shared → Prop), at_ k s.heap → Q (.ref it) s → wpAny (model P w) A (pyIter (.ref it)) Q E s
theorem turn_lstF {P : Program} {w : World} {K : PySem.W.Frag} {tg : Expr} (l it : Addr) : TurnF P w K tg (Itl K l) [it] it (fun k g => g.IsListIter it l k) := by
  have one : ∀ {c : Addr}, c ∈ [it] → c = it := fun h => by simpa using h
  refine ⟨fun k g st c hc => ?_, fun k g g' st kp => st.at fun o e => kp it (by simp) o e, ?_, ?_, fun _ _ _ _ _ st q => wpAny_pyIter_listiter st q⟩
  · obtain ⟨o, e, _, dt⟩ := st
    rw [one hc]
    exact ⟨o, e, fun v z => by rw [dt] at z; cases z⟩
  · rintro X rfl rfl rfl k pins s σ H E I fr st ⟨ys, y, sq, hy⟩
    obtain ⟨us, rv, pl, _⟩ := I.list sq
    obtain ⟨u, hu, ru⟩ := rv.get hy
    obtain ⟨f0, f1, f2, f3, f4, f5⟩ := fr it (by simp)
    refine wpAny_pyNext_list_item st pl.isList (x := u) (by simpa using hu) fun g st2 sb => ?_
    have I2 : L2.Inv X pins σ H { s with heap := g } := I.turned (t' := s.toks) (fun b o ne e => (sb.2 b ne).trans e) f0 f1 f3 f4 f5
    obtain ⟨o, e, cl, dt⟩ := id st2
    exact ⟨u, rfl, go_of (s := { s with heap := g }) e cl dt (by decide) ⟨y, H, I2, ru, ⟨rfl, fun zs hz => by rw [I.list_inj hz sq]; exact hy⟩, st2, fun c hc => (fr c hc).1⟩⟩
  · rintro X rfl rfl rfl hot k pins s σ H E I fr st ⟨ys, sq, hy⟩
    obtain ⟨us, rv, pl, _⟩ := I.list sq
    obtain ⟨f0, f1, f2, f3, f4, f5⟩ := fr it (by simp)
    obtain ⟨y, ha, o, ho⟩ := hot.at_ I
    have le := rv.length
    exact lst_end_hot ha (fun z => by rw [z, f0] at ho; cases ho) st pl.isList (by simp; omega) fun g kp => ⟨rfl, I.turned (t' := s.toks) (fun b o ne e => kp b o ne e) f0 f1 f3 f4 f5⟩
theorem turn_rgF {P : Program} {w : World} {K : PySem.W.Frag} {tg : Expr} (it : Addr) (n : Nat) : TurnF P w K tg (Itr 0 n) [it] it (fun k g => IsRangeIter g it (k : Int) ((n : Int) - (k : Nat)) 1) := by
  have one : ∀ {c : Addr}, c ∈ [it] → c = it := fun h => by simpa using h
  refine ⟨fun k g st c hc => ?_, fun k g g' st kp => kp it (by simp) _ st, ?_, ?_, fun _ _ _ _ _ st q => wpAny_pyIter_rangeiter st q⟩
  · rw [one hc]
    exact ⟨_, st, fun v z => by
      have z2 : Data.fields _ = Data.cell v := z
      cases z2⟩
  · rintro X rfl rfl rfl k pins s σ H E I fr st lt
    obtain ⟨f0, f1, f2, f3, f4, f5⟩ := fr it (by simp)
    have lt : k < n := lt
    refine wpAny_pyNext_range_item st (by omega) fun g st2 sb => ?_
    have st3 : IsRangeIter g it ((k + 1 : Nat) : Int) ((n : Int) - ((k + 1 : Nat) : Int)) 1 := by
      have q2 : (n : Int) - ((k + 1 : Nat) : Int) = (n : Int) - ((k : Nat) : Int) - 1 := by omega
      have q1 : ((k + 1 : Nat) : Int) = ((k : Nat) : Int) + 1 := by omega
      rw [q2, q1]
      exact st2
    have I2 : L2.Inv X pins σ H { s with heap := g, toks := s.toks + 1 } := I.turned (fun b o ne e => (sb.2 b ne).trans e) f0 f1 f3 f4 f5
    refine ⟨_, rfl, go_of (s := { s with heap := g, toks := s.toks + 1 }) (n := "range_iterator") st3 rfl rfl (by decide) ⟨.int (0 + k), H, I2, ⟨s.toks, ?_⟩, ⟨rfl, rfl⟩, st3, fun c hc => (fr c hc).1⟩⟩
    rw [Int.zero_add]
  · rintro X rfl rfl rfl hot k pins s σ H E I fr st le
    obtain ⟨f0, f1, f2, f3, f4, f5⟩ := fr it (by simp)
    obtain ⟨y, ha, _⟩ := hot.at_ I
    have le : n ≤ k := le
    exact HotX.pyNext_range_end_hot ha st (by omega) fun g kp => ⟨rfl, I.turned (t' := s.toks) (fun b o _ e => kp b o e) f0 f1 f3 f4 f5⟩
/-- an iterable -/
structure PIF (X : Cx) (tg iter : Expr) (wi : TI) : Prop where
  run : ∀ (pins : List (Addr × Obj)) (s : Shared) (σ : L2.St) (H : Hp) (R : L2.It → Hp → Prop), L2.Inv X pins σ H s → wi σ H R →
    wpAny (model X.prog X.w) X.A (eval iter X.env) (fun v t => wpAny (model X.prog X.w) X.A (pyIter v) (fun iv t' => ∃ (it : Addr) (fp : List Addr) (at_ : Nat → Heap → Prop) (J : L2.It) (G : Hp), iv = .ref it ∧ L2.Inv X pins σ G t' ∧ TurnF X.prog X.w X.K tg J fp it at_ ∧ at_ 0 t'.heap ∧ (∀ c ∈ fp, FpOk X pins G c) ∧ R J G) X.xe t) X.xe s
theorem PIF.imp {X : Cx} {tg it : Expr} {t t' : TI} (h : PIF X tg it t) (f : ∀ σ H Q, t' σ H Q → t σ H Q) : PIF X tg it t' := ⟨fun pins s σ H R I hw => h.run pins s σ H R I (f _ _ _ hw)⟩
section
variable {X : Cx} {W : WX} {tg e : Expr} {es : List Expr} {pos p : Pos} {me : EM} {ma : AM}
theorem pif_lst {tl : TE} (hl : PE X e tl) : PIF X tg e (iList X.K tl) := by
  refine ⟨fun pins s σ H R I h => thn (hl.run pins s σ H _ I h) fun v t ⟨x, G, J, rx, a, ex, ⟨ys, sq⟩, q⟩ => ?_⟩
  subst ex
  cases rx
  obtain ⟨us, rv, pl, _⟩ := J.list sq
  refine wpAny_pyIter_list pl.isList ⟨t.heap.objs.size, [t.heap.objs.size], _, _, G, rfl, J.kept (t' := t.toks) fun b o z => Heap.get?_push_of_some _ z, turn_lstF a _, ⟨_, Heap.get?_push_size _ rfl, rfl, rfl⟩, fun c hc => ?_, q⟩
  obtain rfl : c = t.heap.objs.size := by simpa using hc
  exact J.fpOk (Nat.le_refl _) (J.hok.fresh (Nat.le_refl _))
theorem pif_rg {ta : TA} (hg : Gl X "range") (hm : X.mg "range" = none) (ha : PA X [e] ta) (hs : starEach [e] X.env = [(false, eval e X.env)] := by rfl) : PIF X tg (.Call (.Name "range" p) [e] [] pos) (iRng1 ta) := by
  refine ⟨fun pins s σ H R I h => Call_ (ld_blt I hg hm boot_range (PyProof.Rows.callWith_type1 (thn (ha.run pos pins s σ H _ I h) fun us t ⟨vs, G, J, rr, j, ev, lo, hi, q⟩ => ?_) hs rfl))⟩
  subst ev
  cases rr with
  | cons r1 r2 =>
    cases r2
    obtain ⟨tk, rfl⟩ := r1
    refine call_range_1 ?_
    refine wpAny_pyIter_range (IsRange.new ..) (small_one (by omega) (by omega) lo hi) ?_
    refine ⟨_, [_], _, _, G, rfl, J.kept fun b o z => Heap.get?_push_of_some _ (Heap.get?_push_of_some _ z), turn_rgF _ j.toNat, ?_, fun c hc => ?_, q⟩
    · have q2 : ((j.toNat : Nat) : Int) - ((0 : Nat) : Int) = Builtin.Range.rangeSize 0 j 1 := by rw [rangeSize_one]; split <;> omega
      show IsRangeIter _ _ ((0 : Nat) : Int) (((j.toNat : Nat) : Int) - ((0 : Nat) : Int)) 1
      rw [q2]
      exact Heap.get?_push_size _ rfl
    · rw [List.mem_singleton.mp hc]
      exact L2.Inv.fpOk (J.kept (t' := t.toks) fun b o z => Heap.get?_push_of_some { cls := .type "range", data := .fields #[.int 0 t.toks, .int j tk, .int 1 (t.toks + 1)] } z) (Nat.le_refl _) (L2.HOk.fresh (J.hok.kept fun b o z => Heap.get?_push_of_some _ z) (Nat.le_refl _))
end
/-! ### [elt for target in iter if ..] there -/
theorem lcF_core {X : Cx} {pins : List (Addr × Obj)} {s : Shared} {σ : L2.St} {H : Hp} {Q : VK} {elt tg iter : Expr} {ifs : List Expr} {scope : Scope} {own : List (Str × Nat)} {pos pos' : Pos} {wi : TI} {g : TG} {tt : TT} {te : TE} {use : Option (Value → Sem Unit)} {Qf : Value → Shared → Prop}
    (hot : HotF X) (hN : X.N.Nodup) (I : L2.Inv X pins σ H s) (hi : PIF X tg iter wi) (ok : BlkOk X.N X.env.scope scope own)
    (hg : ∀ (s : Shared) (H : Hp) (C : Addr) (cl : List (Str × Addr)) (fp : List Addr), PG (X.blk s H scope (compEnvC scope cl C X.env) fp) tg g)
    (ht : ∀ (s : Shared) (H : Hp) (C : Addr) (cl : List (Str × Addr)) (fp : List Addr), PTs (X.blk s H scope (compEnvC scope cl C X.env) fp) ifs tt)
    (he : ∀ (s : Shared) (H : Hp) (C : Addr) (cl : List (Str × Addr)) (fp : List Addr), PE (X.blk s H scope (compEnvC scope cl C X.env) fp) elt te) (hs : ∀ x, foldedSetIterable iter X.env x = pure x)
    (h : tLc wi g tt te (own.map (·.2)) σ H Q)
    (fin : ∀ D C t m G, L2.Inv X pins σ G t → Q (.ref D) G → t.heap.Ns C m → FpOk X pins G C → compPost (model X.prog X.w) X.A X.xe use Qf (.ref D) C (.ok .next) t) :
    wpAny (model X.prog X.w) X.A (comprehension (.ListComp elt [⟨tg, iter, ifs, 0⟩] scope pos) scope X.env pos' (newList []) false (eval iter X.env) use) Qf X.xe s := by
  have frees : ∀ y ∈ scope.names, y.2 = .free → ∃ c, X.env.cells.lookup y.1 = some c := fun y hy z => (ok.free y hy z).elim (fun k => I.ok.has _ (.inl k)) fun k => I.ok.has _ (.inr k)
  refine wpAny_comprehension_free (use := use) rfl hs (closure_ok frees) ok.kind (fun y hy z => by rw [ok.uniq y hy, z]) (thn (hi.run pins s σ H _ I h) fun xv t1 hx => thn hx fun iv t2 z2 => ?_)
  obtain ⟨it, fp, at_, J, G2, ei, I2, T, a2, f2, q⟩ := z2
  subst ei
  refine wpAny_newObj_type (newEnv_comp ?_) (by show 0 ≤ sizeLine; decide)
  have newD : G2 t2.heap.objs.size = none := I2.hok.fresh (Nat.le_refl _)
  obtain ⟨W, ⟨w, w0⟩, turn⟩ := q _ newD
  have big : ∀ c ∈ fp, c < t2.heap.objs.size := fun c hc => let ⟨o, e, _⟩ := T.obj _ _ a2 c hc; Heap.lt_size e
  -- the new list stands
  let t3 : Shared := { t2 with heap := t2.heap.push { cls := .type "list", data := .seq ([] : List Value).toArray } }
  have k3 : ∀ b o, t2.heap.get? b = some o → t3.heap.get? b = some o := fun b o z => Heap.get?_push_of_some _ z
  let G3 : Hp := upd G2 t2.heap.objs.size (.lst [])
  have I3 : L2.Inv X pins σ G3 t3 := I2.laid (t' := t2.toks) k3 (Nat.le_refl _) ⟨Nat.zero_le _, [], 0, .nil, Heap.get?_push_size _ rfl⟩
  have none3 : ∀ c ∈ fp, G3 c = none := fun c hc => (upd_ne (Nat.ne_of_lt (big c hc))).trans (f2 c hc).1
  have f3 : ∀ c ∈ fp, FpOk X pins G3 c ∧ c < t3.heap.objs.size := fun c hc => ⟨⟨none3 c hc, (f2 c hc).2⟩, Nat.lt_of_lt_of_le (big c hc) (by show _ ≤ (t2.heap.push _).objs.size; rw [Heap.size_push]; exact Nat.le_succ _)⟩
  have a3 : at_ 0 t3.heap := T.keep _ _ _ a2 fun c _ o z => k3 c o z
  have I4 := block_start I3 ok hN f3
  let C := t3.heap.objs.size
  let cl := cellsFrom (t3.heap.objs.size + 1) scope.names (cloFrom X.env.cells scope.names [])
  let Y := X.blk t3 G3 scope (compEnvC scope cl C X.env) fp
  have pg := hg t3 G3 C cl fp
  have pt := ht t3 G3 C cl fp
  have pe := he t3 G3 C cl fp
  have hotY : HotF Y := hot.blk I3 _ _ _ _
  have vsl := own.map (·.2)
  have a4 : at_ 0 (pushCells (t3.heap.push { cls := .type "dict", data := .dict #[] }) scope.names) := T.keep _ _ _ a3 fun c _ o z => pushCells_keeps _ _ _ _ (Heap.get?_push_of_some _ z)
  have fpY : ∀ {τ : L2.St} {G : Hp} {t : Shared}, L2.Inv Y [] τ G t → (∀ c ∈ fp, G c = none) → ∀ c ∈ fp, FpOk Y [] G c := fun {τ G t} J hn c hc =>
    ⟨hn c hc, (J.ok.exf c hc).1, J.ok.exfs c hc, .inl hc, fun x d z => (J.ok.exf c hc).2 x d z, fun p hp => absurd (show p ∈ ([] : List (Addr × Obj)) ++ [] from hp) (by simp)⟩
  have loop : codeAny (model X.prog X.w) X.A (.compLoop (.ListComp elt [⟨tg, iter, ifs, 0⟩] scope pos) 0 (.ref it) (.ref t2.heap.objs.size) (compEnvC scope cl C X.env)) (compPost (model X.prog X.w) X.A X.xe use Qf (.ref t2.heap.objs.size) C) { t3 with heap := pushCells (t3.heap.push { cls := .type "dict", data := .dict #[] }) scope.names } := by
    refine compLoop_any (fun n t => ∃ k G, L2.Inv Y [] (L2.wipe σ (own.map (·.2))) G t ∧ at_ k t.heap ∧ (∀ c ∈ fp, G c = none) ∧ W k n G) ?_ w ⟨0, G3, I4, a4, none3, w0⟩
    rintro n t5 ⟨k, G5, I5, a5, n5, w5⟩
    rcases turn k n G5 w5 with ⟨stop, qq⟩ | ⟨go, Nx, hNx, step⟩
    · refine thnF (T.done Y rfl rfl rfl hotY k [] t5 _ G5 (fun _ _ => False) I5 (fpY I5 n5) a5 stop) fun r t6 ⟨er, I6⟩ => ?_
      subst er
      have I7 : L2.Inv X pins σ G5 t6 := I3.call' (ch := fp) I6.os I6.base I6.hok I6.bare fun c hc => ⟨(f3 c hc).1.2.2.2.1, (f3 c hc).1.2.1, (f3 c hc).1.2.2.2.2.1, (f3 c hc).1.2.2.2.2.2⟩
      have nC : G5 C = none := I6.free
      obtain ⟨m, hn, _⟩ := I6.loc
      exact fin _ C t6 m G5 I7 qq hn (I3.fpOk (Nat.le_refl _) nC)
    · refine thnF (T.item Y rfl rfl rfl k [] t5 _ G5 (fun _ _ => False) I5 (fpY I5 n5) a5 go) fun r t6 ⟨u, er, z6⟩ => ?_
      subst er
      refine thnF z6 fun _ t7 ⟨x, G7, I7, r7, y7, a7, n7⟩ => ?_
      have P7 := I7.pinned (fpY I7 n7) (T.obj _ _ a7)
      refine thnF (pg.run _ t7 _ G7 x u _ P7 r7 (step x G7 y7)) fun _ t8 ⟨τ, G8, I8, same, q8⟩ => ?_
      refine thnF (pt.run _ t8 τ G8 _ I8 q8) fun b t9 ⟨G9, I9, q9⟩ => ?_
      have next : ∀ {t : Shared} {G : Hp}, L2.Inv Y ([] ++ pinsAt fp t7.heap) τ G t → Nx G → ∃ m, m < n ∧ ∃ k G, L2.Inv Y [] (L2.wipe σ (own.map (·.2))) G t ∧ at_ k t.heap ∧ (∀ c ∈ fp, G c = none) ∧ W k m G := fun {t G} J nx => by
        obtain ⟨m, lt, w'⟩ := hNx G nx
        have stays : ∀ c ∈ fp, ∀ o, t7.heap.get? c = some o → t.heap.get? c = some o ∧ G c = none := fun c hc o z => by
          have y := J.pin (c, o) (List.mem_append_right _ (List.mem_append_right _ (mem_pinsAt hc z)))
          exact ⟨y.1, y.2.1⟩
        refine ⟨m, lt, k + 1, G, (J.unpinned (pins := [])).weak (by rw [← same, wipe_length]) (fun j v z => ?_), T.keep _ _ _ a7 fun c hc o z => (stays c hc o z).1, fun c hc => ?_, w'⟩
        · rw [← same] at z
          exact (wipe_some z).1
        · obtain ⟨o, z, _⟩ := T.obj _ _ a7 c hc
          exact (stays c hc o z).2
      cases b with
      | false =>
        simp only [Bool.false_eq_true, if_false] at q9 ⊢
        exact next I9 q9
      | true =>
        simp only [if_true] at q9 ⊢
        refine thnF (pe.run _ t9 τ G9 _ I9 q9) fun z t10 ⟨y, G10, I10, r10, acc, atD, lt, nx⟩ => ?_
        exact app_ok (X := Y) I10 atD lt r10 fun t11 I11 => next I11 nx
  exact codeAny_compStart_list loop (T.self X.A 0 _ _ _ a4 loop)
theorem pe_lcF {X : Cx} {elt tg iter : Expr} {ifs : List Expr} {scope : Scope} {own : List (Str × Nat)} {pos : Pos} {wi : TI} {g : TG} {tt : TT} {te : TE} (hot : HotF X) (hN : X.N.Nodup) (hi : PIF X tg iter wi) (ok : BlkOk X.N X.env.scope scope own)
    (hg : ∀ (s : Shared) (H : Hp) (C : Addr) (cl : List (Str × Addr)) (fp : List Addr), PG (X.blk s H scope (compEnvC scope cl C X.env) fp) tg g)
    (ht : ∀ (s : Shared) (H : Hp) (C : Addr) (cl : List (Str × Addr)) (fp : List Addr), PTs (X.blk s H scope (compEnvC scope cl C X.env) fp) ifs tt)
    (he : ∀ (s : Shared) (H : Hp) (C : Addr) (cl : List (Str × Addr)) (fp : List Addr), PE (X.blk s H scope (compEnvC scope cl C X.env) fp) elt te) (hs : ∀ x, foldedSetIterable iter X.env x = pure x := by intro _; rfl) :
    PE X (.ListComp elt [⟨tg, iter, ifs, 0⟩] scope pos) (tLc wi g tt te (own.map (·.2))) := by
  refine ⟨fun pins s σ H Q I h => ?_⟩
  rw [eval_ListComp]
  refine lcF_core hot hN I hi ok hg ht he hs h fun D C t m G J q hn f => ⟨m, hn, fun g2 sb => ?_⟩
  obtain ⟨f0, f1, f2, f3, f4, f5⟩ := f
  exact ⟨.ref D, G, J.turned (t' := t.toks) (fun b o ne z => (sb.2 b ne).trans z) f0 f1 f3 f4 f5, rfl, q⟩
section
variable {X : Cx} {W : WX} {tg e : Expr} {es : List Expr} {pos p : Pos} {me : EM} {ma : AM}
/-- a frozen list walked -/
def mItH (me : EM) : IM := fun en S => (me en S).bind fun d S1 => match d with
  | .lst l => .ok (lsIt l) S1
  | _ => .stuck
theorem i_hot (he : PE X e (tE X.K W me)) : PIF X tg e (tI X.K W (mItH me)) := by
  refine PIF.imp (pif_lst he) ?_
  rintro σ H R ⟨en, S, m, er, si, h⟩
  refine ⟨en, S, m, er, si, (PostG.bind (R := Rep X.K) h).mono ?_⟩
  rintro v H1 ⟨d, S1, m1, e1, s1, r1, h1⟩
  cases r1 with
  | lst g1 g2 g3 => exact ⟨_, rfl, ⟨_, .inl (.inl g1)⟩, h1 _ m1 H1 .refl s1 (wk_lst (fz_lst g1 g2) g3)⟩
  | _ => exact h1.elim
theorem j_range1F (hg : Gl X "range") (hm : X.mg "range" = none) (ha : PA X [e] (tA X.K W ma)) (hs : starEach [e] X.env = [(false, eval e X.env)] := by rfl) : PIF X tg (.Call (.Name "range" p) [e] [] pos) (tI X.K W (mItA rg1 ma)) := by
  refine PIF.imp (pif_rg hg hm ha hs) ?_
  rintro σ H R ⟨en, S, m, er, si, h⟩
  refine ⟨en, S, m, er, si, (PostG.bind (R := Reps X.K) h).mono ?_⟩
  rintro vs H1 ⟨ds, S1, m1, e1, s1, r1, h1⟩
  unfold rg1 at h1
  cases r1 with
  | nil => exact h1.elim
  | cons a b =>
    cases b with
    | cons b c => exact h1.elim
    | nil =>
      cases a with
      | int j =>
        simp only [rgOf] at h1
        by_cases hj : rgB j = true
        · rw [if_pos hj] at h1
          unfold rgB at hj
          simp only [Bool.and_eq_true, decide_eq_true_eq] at hj
          exact ⟨j, rfl, hj.1, hj.2, h1 _ m1 H1 .refl s1 wk_rng⟩
        · rw [if_neg hj] at h1; exact h1.elim
      | _ => exact h1.elim
theorem e_lcF {elt tg iter : Expr} {ifs : List Expr} {scope : Scope} {own : List (Str × Nat)} {mi : IM} {g : GM} {t : BM} {me : EM} (hot : HotF X) (hN : X.N.Nodup) (hi : PIF X tg iter (tI X.K W mi)) (ok : BlkOk X.N X.env.scope scope own)
    (hg : ∀ (s : Shared) (H : Hp) (C : Addr) (cl : List (Str × Addr)) (fp : List Addr), PG (X.blk s H scope (compEnvC scope cl C X.env) fp) tg (tGw X.K W0 (own.map (·.2)) g))
    (ht : ∀ (s : Shared) (H : Hp) (C : Addr) (cl : List (Str × Addr)) (fp : List Addr), PTs (X.blk s H scope (compEnvC scope cl C X.env) fp) ifs (tT X.K W0 t))
    (he : ∀ (s : Shared) (H : Hp) (C : Addr) (cl : List (Str × Addr)) (fp : List Addr), PE (X.blk s H scope (compEnvC scope cl C X.env) fp) elt (tE X.K W0 me)) (hs : ∀ x, foldedSetIterable iter X.env x = pure x := by intro _; rfl) :
    PE X (.ListComp elt [⟨tg, iter, ifs, 0⟩] scope pos) (tE X.K W (mLc mi (own.map (·.2)) g t me)) := by
  refine PE.imp (pe_lcF hot hN hi ok hg ht he hs) ?_
  rintro σ H Q ⟨en, S, m, er, si, h⟩
  refine ⟨en, S, m, er, si, (PostG.bind (R := fun m' H' (J : L2.It) (it : ItD) => WalkD X.K m' H' J it.nxt) h).mono ?_⟩
  rintro J H1 ⟨it, S1, m1, e1, s1, wk, h1⟩ A hA
  cases q : lcM it.nxt g t me (wipeE en (own.map (·.2))) it.n 0 [] S1 with
  | stuck => rw [q] at h1; exact h1.elim
  | exc c fs S2 => rw [q] at h1; exact h1.elim
  | ok l S2 =>
    rw [q] at h1
    refine lc_run (er.to e1) s1 wk hA l S2 q fun m2 H2 st => ?_
    obtain ⟨f1, f2, f3⟩ := st.fin (s1.off hA)
    exact h1 _ _ H2 f1 f2 f3
end
end Ag

/-! lambdas as cells of the store, called -/
namespace Ag
open PySem PySem.Spec PyProof.Rows L2
/-! ### a heap without some cells, and with them again -/
def less (H : Hp) (ls : List Addr) : Hp := fun b => if b ∈ ls then none else H b
def back (G H : Hp) (ls : List Addr) : Hp := fun b => if b ∈ ls then H b else G b
section
variable {G H : Hp} {ls : List Addr} {a : Addr} {u : HO}
theorem less_in (h : a ∈ ls) : less H ls a = none := if_pos h
theorem less_out (h : a ∉ ls) : less H ls a = H a := if_neg h
theorem less_some (h : less H ls a = some u) : a ∉ ls ∧ H a = some u := by
  by_cases z : a ∈ ls
  · rw [less_in z] at h; cases h
  · exact ⟨z, (less_out z).symm.trans h⟩
theorem less_none (h : H a = none) : less H ls a = none := by
  by_cases z : a ∈ ls
  · exact less_in z
  · rw [less_out z]; exact h
theorem back_in (h : a ∈ ls) : back G H ls a = H a := if_pos h
theorem back_out (h : a ∉ ls) : back G H ls a = G a := if_neg h
theorem back_up (hn : ∀ c ∈ ls, G c = none) (h : G a = some u) : back G H ls a = some u := by
  have z : a ∉ ls := fun z => by rw [hn a z] at h; cases h
  rw [back_out z]; exact h
end
/-- the addresses ls are cells of variables -/
def Cels (K : PySem.W.Frag) (H : Hp) (ls : List Addr) : Prop := ∀ c ∈ ls, (∃ o, H c = some (frzO c o)) ∧ ∀ xs, ¬ SqT K H c xs
section
variable {K : PySem.W.Frag} {m m2 : Mp} {H G : Hp} {S S2 S3 : Sto} {ls : List Addr}
theorem Cels.out (hl : Cels K H ls) {a : Addr} {u : HO} (h : H a = some u) (n : ∀ o, u ≠ frzO a o) : a ∉ ls := fun z => by
  obtain ⟨⟨o, e⟩, _⟩ := hl a z
  rw [h] at e
  exact n o (Option.some.inj e)
theorem Cels.keep (hl : Cels K H ls) {a : Addr} {u : HO} (h : H a = some u) (n : ∀ o, u ≠ frzO a o) : less H ls a = some u := by rw [less_out (hl.out h n)]; exact h
theorem SqT.less (hl : Cels K H ls) {a : Addr} {xs : List V} (h : SqT K H a xs) : SqT K (less H ls) a xs := by
  have z : a ∉ ls := fun z => (hl a z).2 xs h
  rcases h with (h | ⟨o, h⟩) | h
  · exact .inl (.inl (by rw [less_out z]; exact h))
  · exact .inl (.inr ⟨o, by rw [less_out z]; exact h⟩)
  · exact .inr h
mutual
theorem Rep.less (hl : Cels K H ls) : ∀ (d : D) (v : V), Rep K m H v d → Rep K m (less H ls) v d
  | .non, v, h => by cases h; exact .non
  | .bl b, v, h => by cases h; exact .bl b
  | .int b, v, h => by cases h; exact .int b
  | .str b, v, h => by cases h; exact .str b
  | .ty b, v, h => by cases h; exact .ty b
  | .gl b, v, h => by cases h; exact .gl b
  | .tup l, v, h => by
    cases h with
    | tup h1 hd h2 =>
      refine .tup (SqT.less hl h1) (fun z => ?_) (Reps.less hl l _ h2)
      obtain ⟨o, u, a, b⟩ := hd z
      exact ⟨o, u, by rw [less_out fun y => (hl _ y).2 _ h1]; exact a, b⟩
  | .lst l, v, h => by
    cases h with
    | lst h1 h2 h3 => exact .lst (hl.keep h1 fun _ => nofun) h2 (Reps.less hl l _ h3)
  | .scr l, v, h => by
    cases h with
    | scr h1 h2 =>
      refine .scr ?_ (Reps.less hl l _ h2)
      rcases h1 with ⟨o, h1⟩ | h1
      · refine .inl ⟨o, hl.keep h1 fun o' z => ?_⟩
        have z2 := (HO.frz.inj z).2
        cases z2
      · exact .inr h1
  | .ref i, v, h => by
    cases h with
    | ref h1 => exact .ref h1
  | .obj c ns l, v, h => by
    cases h with
    | obj h1 h2 h3 h4 => exact .obj (hl.keep h1 fun _ => nofun) h2 h3 (Reps.less hl l _ h4)
  | .dct l, v, h => by
    cases h with
    | dct h1 h2 h3 h4 => exact .dct (hl.keep h1 fun _ => nofun) h2 (DicR.less hl l _ h3) h4
theorem DicR.less (hl : Cels K H ls) : ∀ (l : List D) (xs : List (NestedKey × Addr × Value)), DicR K m H l xs → DicR K m (less H ls) l xs
  | [], xs, h => by cases h; exact .nil
  | [_], xs, h => by cases h
  | kd :: vd :: l, xs, h => by
    cases h with
    | cons a b c d r => exact .cons a (Rep.less hl kd _ b) c (Rep.less hl vd _ d) (DicR.less hl l _ r)
theorem Reps.less (hl : Cels K H ls) : ∀ (ds : List D) (vs : List V), Reps K m H vs ds → Reps K m (less H ls) vs ds
  | [], vs, h => by cases h; exact .nil
  | d :: ds, vs, h => by
    cases h with
    | cons h1 h2 => exact .cons (Rep.less hl d _ h1) (Reps.less hl ds _ h2)
end
theorem ExR.less (hl : Cels K H ls) {od : Option Addr} {fs : List (Str × D)} (h : ExR K m H od fs) : ExR K m (less H ls) od fs := by
  cases od with
  | none => exact h
  | some d =>
    obtain ⟨vs, h1, h2, h3, h4⟩ := h
    exact ⟨vs, hl.keep h1 (fun _ => nofun), h2, h3, Reps.less hl _ _ h4⟩
/-- lambdas out of sight -/
def hideO : Ob → Ob
  | .clo _ _ _ _ => .fz
  | o => o
def hideC (S : Sto) : Sto := S.map hideO
/-- .. and back -/
def showC : Sto → Sto → Option Sto
  | [], T => some T
  | .clo k L q ds :: S, .fz :: T => (showC S T).map (.clo k L q ds :: ·)
  | .clo _ _ _ _ :: _, _ => none
  | _ :: S, o :: T => (showC S T).map (o :: ·)
  | _ :: _, [] => none
theorem show_hide : ∀ (S T : Sto), showC S (hideC S ++ T) = some (S ++ T)
  | [], T => rfl
  | o :: S, T => by
    have ih := show_hide S T
    cases o <;> simp [hideC, hideO, showC] at ih ⊢ <;> exact ih
theorem show_at : ∀ {S T U : Sto}, showC S T = some U → U.length = T.length ∧ ∀ (i : Nat) (o : Ob), U[i]? = some o → (S[i]? = some o ∧ ∃ k L q ds, o = .clo k L q ds) ∨ T[i]? = some o
  | [], T, U, h => by
    cases h
    exact ⟨rfl, fun i o z => .inr z⟩
  | s :: S, [], U, h => by cases s <;> cases h
  | s :: S, t :: T, U, h => by
    have go : ∀ o : Ob, (showC S T).map (o :: ·) = some U → ((s = o ∧ ∃ k L q ds, o = .clo k L q ds) ∨ t = o) → U.length = (t :: T).length ∧ ∀ (i : Nat) (o : Ob), U[i]? = some o → ((s :: S)[i]? = some o ∧ ∃ k L q ds, o = .clo k L q ds) ∨ (t :: T)[i]? = some o := fun o z w => by
      obtain ⟨V, z1, rfl⟩ := Option.map_eq_some_iff.mp z
      obtain ⟨h1, h2⟩ := show_at z1
      refine ⟨by simp [h1], fun i o' y => ?_⟩
      cases i with
      | zero =>
        have e : o = o' := by simpa using y
        subst e
        rcases w with ⟨w1, w2⟩ | w1
        · exact .inl ⟨by simp [w1], w2⟩
        · exact .inr (by simp [w1])
      | succ i => exact h2 i o' (by simpa using y)
    cases s with
    | clo k L q ds =>
      cases t with
      | fz => exact go _ h (.inl ⟨rfl, _, _, _, _, rfl⟩)
      | _ => cases h
    | lst _ => exact go t h (.inr rfl)
    | ins _ _ _ => exact go t h (.inr rfl)
    | dic _ => exact go t h (.inr rfl)
    | dik _ => exact go t h (.inr rfl)
    | tab _ _ => exact go t h (.inr rfl)
    | err _ _ => exact go t h (.inr rfl)
    | fz => exact go t h (.inr rfl)
theorem ObR.less (hl : Cels K H ls) {a : Addr} {o : Ob} (na : a ∉ ls) (h : ObR K m H a o) : ObR K m (less H ls) a (hideO o) := by
  have same : Ag.less H ls a = H a := less_out na
  cases o with
  | lst ds =>
    obtain ⟨vs, h1, h2⟩ := h
    exact ⟨vs, by rw [same]; exact h1, Reps.less hl _ _ h2⟩
  | ins c ns ds =>
    obtain ⟨dx, fs, h1, h2, h3⟩ := h
    exact ⟨dx, fs, by rw [same]; exact h1, h2, Reps.less hl _ _ h3⟩
  | dic l =>
    obtain ⟨o, xs, h1, h2, h3⟩ := h
    exact ⟨o, xs, by rw [same]; exact h1, DicR.less hl _ _ h2, h3⟩
  | dik l =>
    obtain ⟨kvs, h1, h2, h3⟩ := h
    exact ⟨kvs, by rw [same]; exact h1, h2, Reps.less hl _ _ h3⟩
  | tab P q =>
    obtain ⟨rfl, ps, h1, h2, h3⟩ := h
    exact ⟨rfl, ps, by rw [same]; exact h1, h2, fun pos cv hc => let ⟨c, e1, e2⟩ := h3 pos cv hc; ⟨c, e1, hl.keep e2 fun _ => nofun⟩⟩
  | err c fs =>
    obtain ⟨o, h1, h2, h3, h5, h4⟩ := h
    exact ⟨o, by rw [same]; exact h1, h2, h3, h5, h4.less hl⟩
  | clo k L q ds =>
    obtain ⟨d, pm, ctv, cl, l, h1, _⟩ := h
    exact ⟨PySem.W.kla_obj "<lambda>" q L.pr L.bd L.sc cl pm d ctv, by rw [same]; exact h1, fun v z => by cases z⟩
  | fz =>
    obtain ⟨o, h1, h2⟩ := h
    exact ⟨o, by rw [same]; exact h1, h2⟩
theorem Sim.less (s : Sim K m S H) (hl : Cels K H ls) (off : ∀ c ∈ ls, Off m c) : Sim K m (hideC S) (Ag.less H ls) := by
  have nc : ∀ a ∈ m.c, a ∉ ls := fun a ha z => (off a z).1 ha
  refine ⟨by simp [hideC, s.len], s.nd, fun i a o h1 h2 => ?_, fun a ha => ?_, s.dis⟩
  · unfold hideC at h2
    rw [List.getElem?_map] at h2
    cases q : S[i]? with
    | none => rw [q] at h2; cases h2
    | some o' =>
      rw [q] at h2
      cases h2
      exact (s.cell i a o' h1 q).less hl (nc a (List.mem_of_getElem? h1))
  · obtain ⟨o, h⟩ := s.hid a ha
    exact ⟨o, by rw [less_out fun z => (off a z).2 ha]; exact h⟩
theorem Ext.back (hl : Cels K H ls) (e : Ext m (less H ls) m2 G) (s2 : Sim K m2 S2 G) (hn : ∀ c ∈ ls, G c = none) : Ext m H m2 (back G H ls) := by
  obtain ⟨ex, e1, hx⟩ := e.pre
  have two : ∀ (a : Addr) (u : HO), H a = some u → (∀ u, Ag.less H ls a = some u → G a = some u) → Ag.back G H ls a = some u := fun a u h k => by
    by_cases z : a ∈ ls
    · rw [back_in z]; exact h
    · rw [back_out z]; exact k u (by rw [less_out z]; exact h)
  refine ⟨⟨ex, e1, fun a ha => ?_⟩, e.hs, fun a o h => ?_, fun a o h n => two a o h fun u q => e.keep a u q n, fun a xs h => ?_, fun a o u h => ?_, fun a q h => ?_⟩
  · have q := hx a ha
    by_cases z : a ∈ ls
    · obtain ⟨o, y, _⟩ := s2.trk (a := a) (by rw [e1]; exact List.mem_append_right _ ha)
      rw [hn a z] at y; cases y
    · rw [less_out z] at q; exact q
  · by_cases z : a ∈ ls
    · exact ⟨o, by rw [back_in z]; exact h⟩
    · obtain ⟨o', q⟩ := e.trk a o (by rw [less_out z]; exact h)
      exact ⟨o', by rw [back_out z]; exact q⟩
  · exact back_up hn (e.tup a xs (hl.keep h fun _ => nofun))
  · by_cases z : a ∈ ls
    · rw [back_in z]; exact h
    · rw [back_out z]; exact e.frz a o u (by rw [less_out z]; exact h)
  · exact back_up hn (e.cod a q (hl.keep h fun _ => nofun))
theorem Sim.back (hl : Cels K H ls) (s : Sim K m S H) (e : Ext m (Ag.less H ls) m2 G) (s2 : Sim K m2 S2 G) (hn : ∀ c ∈ ls, G c = none) (h : showC S S2 = some S3) : Sim K m2 S3 (Ag.back G H ls) := by
  obtain ⟨h1, h2⟩ := show_at h
  have up := s2.all (H' := Ag.back G H ls) fun b o => back_up hn
  have e3 := Ext.back hl e s2 hn
  refine ⟨by rw [h1]; exact up.len, up.nd, fun i a o q1 q2 => ?_, up.hid, up.dis⟩
  rcases h2 i o q2 with ⟨y, k, L, q, ds, rfl⟩ | y
  · have ia : m.c[i]? = some a := by
      obtain ⟨ex, e1, _⟩ := e3.pre
      have li : i < m.c.length := by rw [s.len]; exact (List.getElem?_eq_some_iff.mp y).1
      rw [e1, List.getElem?_append_left li] at q1
      exact q1
    have c := s.cell i a _ ia y
    obtain ⟨d, pm, ctv, cl, l, c1, _⟩ := id c
    exact c.tr e3.tr ((e3.frz a _ _ c1).trans c1.symm)
  · exact up.cell i a o q1 y
end
section
variable {P : Program} {w : World} {outer : List Env} {H : Hp} {s s' : Shared} {ls : List Addr} {Q : VK} {E : XK} {K : PySem.W.Frag}
/-- what is asked of the cells left out -/
structure LessOk (K : PySem.W.Frag) (P : Program) (w : World) (outer : List Env) (H : Hp) (s : Shared) (ls : List Addr) : Prop where
  cel : Cels K H ls
  hok : HOk P w H s.heap
  nf : ∀ b ∈ frs outer, H b = none
theorem LessOk.get (L : LessOk K P w outer H s ls) {c : Addr} (hc : c ∈ ls) : ∃ o, H c = some (frzO c o) ∧ s.heap.get? c = some o ∧ c ∉ frs outer := by
  obtain ⟨⟨o, h⟩, _⟩ := L.cel c hc
  exact ⟨o, h, (L.hok c _ h).1, fun z => by rw [L.nf c z] at h; cases h⟩
theorem hok_less {h : Heap} (hl : Cels K H ls) (x : HOk P w H h) : HOk P w (less H ls) h := fun b u q => by
  obtain ⟨_, q⟩ := less_some q
  exact (x b u q).stay (fun _ _ _ z => z) (fun c z => hl.keep z fun _ => nofun) fun c xs z => hl.keep z fun _ => nofun
theorem un_back {G : Hp} {h' : Heap} (L : LessOk K P w outer H s ls) (u : Un (frs outer) [] (less H ls) G s.heap h') : (∀ c ∈ ls, G c = none) ∧ Un (frs outer) [] H (back G H ls) s.heap h' := by
  have hn : ∀ c ∈ ls, G c = none := fun c hc => by
    obtain ⟨o, _, q, _⟩ := L.get hc
    exact u.free c o q (less_in hc) (by simp)
  have no : ∀ {b : Addr}, H b = none → b ∉ ls := fun {b} n z => by
    obtain ⟨o, q, _⟩ := L.get z
    rw [n] at q; cases q
  refine ⟨hn, ⟨fun b o e n => u.keep b o e (less_none n), fun b o e n => u.slot b o e (less_none n), fun b o e n hx => ?_, u.there, fun b xs q => back_up hn (u.tups b xs (L.cel.keep q fun _ => nofun)), fun b o x q => ?_, fun b ps q => ?_⟩⟩
  · rw [back_out (no n)]; exact u.free b o e (less_none n) hx
  · by_cases z : b ∈ ls
    · rw [back_in z]; exact q
    · rw [back_out z]; exact u.frzs b o x (by rw [less_out z]; exact q)
  · obtain ⟨more, y⟩ := u.tbls b ps (L.cel.keep q fun _ => nofun)
    exact ⟨more, back_up hn y⟩
theorem hok_back {G : Hp} {h' : Heap} (L : LessOk K P w outer H s ls) (hn : ∀ c ∈ ls, G c = none) (x : HOk P w G h') (st : ∀ c ∈ ls, ∀ o, s.heap.get? c = some o → h'.get? c = some o) : HOk P w (back G H ls) h' := fun b u q => by
  by_cases z : b ∈ ls
  · rw [back_in z] at q
    obtain ⟨o, y, g, _⟩ := L.get z
    rw [y] at q
    cases q
    exact ⟨st b z o g, erO_ok (st b z o g)⟩
  · rw [back_out z] at q
    exact (x b u q).stay (fun _ _ _ y => y) (fun c y => back_up hn y) fun c xs y => back_up hn y
theorem CE.back {v : Value} (L : LessOk K P w outer H s ls) (h : CE outer P w (less H ls) s (fun x G => (∀ c ∈ ls, G c = none) → Q x (back G H ls)) v s') : CE outer P w H s Q v s' := by
  obtain ⟨x, G, os, bare, un, hok, rv, q⟩ := h
  obtain ⟨hn, un2⟩ := un_back L un
  refine ⟨x, _, os, bare, un2, hok_back L hn hok fun c hc o g => ?_, rv, q hn⟩
  obtain ⟨_, _, _, nf⟩ := L.get hc
  exact un.keep c o g (less_in hc) nf (by simp)
theorem CX.back {v : Value} (L : LessOk K P w outer H s ls) (h : L2N.CX P w outer (less H ls) s (fun c od G => (∀ c ∈ ls, G c = none) → E c od (back G H ls)) v s') : L2N.CX P w outer H s E v s' := by
  obtain ⟨a, B, G, cls, d, rfl, fl, hok, ub, na, os, bare, q⟩ := h
  have stay : ∀ c ∈ ls, ∀ o, s.heap.get? c = some o → B.get? c = some o := fun c hc o g => by
    obtain ⟨_, _, _, nf⟩ := L.get hc
    exact ub.keep c o g (less_in hc) nf
  have hn : ∀ c ∈ ls, G c = none := fun c hc => by
    obtain ⟨o, _, g, _⟩ := L.get hc
    exact ub.free c o g (less_in hc)
  have no : ∀ {b : Addr}, H b = none → b ∉ ls := fun {b} n z => by
    obtain ⟨o, q, _⟩ := L.get z
    rw [n] at q; cases q
  have fresh : B.get? a = none := fl.2.1
  refine ⟨a, B, _, cls, d, rfl, fl, hok_back L hn hok stay, ⟨fun b o e n => ub.keep b o e (less_none n), ub.slot, fun b o e n => ?_, ub.there, fun b xs z => back_up hn (ub.tups b xs (L.cel.keep z fun _ => nofun)), fun b o x z => ?_, fun b ps z => ?_⟩, ?_, os, bare, q hn⟩
  · rw [back_out (no n)]; exact ub.free b o e (less_none n)
  · by_cases y : b ∈ ls
    · rw [back_in y]; exact z
    · rw [back_out y]; exact ub.frzs b o x (by rw [less_out y]; exact z)
  · obtain ⟨more, y⟩ := ub.tbls b ps (L.cel.keep z fun _ => nofun)
    exact ⟨more, back_up hn y⟩
  · have z : a ∉ ls := fun z => by
      obtain ⟨o, _, g, _⟩ := L.get z
      have y := stay a z o g
      rw [fresh] at y; cases y
    rw [back_out z]; exact na
end
end Ag

/-! a lambda that stands in the store, called -/
namespace Ag
open PySem PySem.Spec PyProof.Rows L2
def unhide (S : Sto) (r : Res D) : Res D := match r with
  | .ok d T => (match showC S T with
    | some U => .ok d U
    | none => .stuck)
  | .exc c fs T => (match showC S T with
    | some U => .exc c fs U
    | none => .stuck)
  | .stuck => .stuck
open Classical in
/-- the lambda at j; tb: the lambdas of the law -/
noncomputable def cloCall (tb : List (LSyn × Str × EM)) (j : Nat) (S : Sto) : Res D := match S[j]? with
  | some (.clo k L q ds) => (match tb[k]? with
    | some t => if t.1 = L ∧ t.2.1 = q then unhide S (t.2.2 (ds.map some) (hideC S)) else .stuck
    | none => .stuck)
  | _ => .stuck
noncomputable def mCloC (tb : List (LSyn × Str × EM)) (i : Nat) : EM := fun en S => match en[i]? with
  | some (some (.ref j)) => cloCall tb j S
  | _ => .stuck
theorem cloCall_at {tb : List (LSyn × Str × EM)} {j k : Nat} {S : Sto} {L : LSyn} {q : Str} {ds : List D} {me : EM} (h : S[j]? = some (.clo k L q ds)) (ht : tb[k]? = some (L, q, me)) : cloCall tb j S = unhide S (me (ds.map some) (hideC S)) := by
  unfold cloCall
  rw [h]
  simp only [ht, and_self, if_true]
section
variable {K : PySem.W.Frag} {W : WX} {E : XK} {m : Mp} {H : Hp} {S : Sto} {ls : List Addr} {r : Res D} {Q : VK} {σ : L2.St}
/-- what is wished behind the body, the cells back in their place -/
theorem post_back (s : Sim K m S H) (hl : Cels K H ls) (h : Post K W σ m H (unhide S r) Q) :
    Post K (WofE fun c od G => (∀ c ∈ ls, G c = none) → W c od σ (back G H ls)) [] m (less H ls) r fun x G => (∀ c ∈ ls, G c = none) → Q x (back G H ls) := by
  cases r with
  | stuck => exact h
  | ok d T =>
    unfold unhide at h
    cases q : showC S T with
    | none => simp only [q] at h; exact h.elim
    | some U =>
      simp only [q] at h
      intro v m2 G e s2 rv hn
      exact h v m2 _ (Ext.back hl e s2 hn) (Sim.back hl s e s2 hn q) (rv.to (Ext.all (K := K) (S := T) fun b o => back_up hn))
  | exc c fs T =>
    unfold unhide at h
    cases q : showC S T with
    | none => simp only [q] at h; exact h.elim
    | some U =>
      simp only [q] at h
      intro od m2 G e s2 x hn
      exact h od m2 _ (Ext.back hl e s2 hn) (Sim.back hl s e s2 hn q) (x.tr (Ext.all (K := K) (S := T) fun b o => back_up hn).tr)
end
theorem pe_cloC {Y : Cx} {W : WX} {i j k : Nat} {a : Str} {tb : List (LSyn × Str × EM)} {p1 p2 : Pos} (B : Bd Y W j) (hj : k + 1 ≤ j) (T : ∀ p ∈ tb, BodOk Y.prog Y.w Y.K Y.mg Y.base p.2.1 k p.1 p.2.2)
    (hN : Y.N[i]? = some a) (hv : Vis Y.env.scope a) (hd : (a == ("__debug__" : Str)) = false := by decide) (hcd : (a == ("__classdict__" : Str)) = false := by decide) : PE Y (.Call (.Name a p1) [] [] p2) (tE Y.K W (mCloC tb i)) := by
  refine ⟨fun pz z σ H Q J ⟨en, S, m, er, si, h⟩ => ?_⟩
  unfold mCloC at h
  split at h
  case h_2 => exact h.elim
  rename_i n hen
  unfold cloCall at h
  split at h
  case h_2 => exact h.elim
  rename_i kk L q ds hS
  split at h
  case h_2 => exact h.elim
  rename_i t ht
  split at h
  case isFalse => exact h.elim
  rename_i hLq
  obtain ⟨L', q', me⟩ := t
  obtain ⟨rfl, rfl⟩ := hLq
  obtain ⟨v, hσ, rv⟩ := er.at_ i _ hen
  cases rv with
  | ref hm =>
    rename_i f
    obtain ⟨d, pm, ctv, cl, l, at_, code, cv, cells, vals⟩ := si.cell n f _ hm hS
    refine wpAny_Call_Name_kw (thn ((pe_var (pos := p1) (i := i) hN hv hd hcd).run pz z σ H (fun v G => v = .ref f ∧ G = H) J ⟨.ref f, hσ, rfl, rfl⟩) fun u z1 ⟨v, G, J1, r1, ev, eG⟩ => ?_)
    subst ev eG
    obtain rfl : u = Value.ref f := r1
    have live := (J1.hok f _ at_).1
    obtain ⟨⟨oc, vs, tk, c1, c2, c3⟩, _, _⟩ := J1.hok d _ code
    obtain ⟨N', sc', LS, lo⟩ := (T _ (List.mem_of_getElem? ht)).sc
    have cellAt : ∀ p ∈ l, z1.heap.get? p.c = some p.o := fun p hp => (J1.hok p.c _ (cells p hp).1).1
    have hl : Cels Y.K G (l.map (·.c)) := fun c hc => by
      obtain ⟨p, hp, rfl⟩ := List.mem_map.mp hc
      refine ⟨⟨_, (cells p hp).1⟩, fun xs sq => ?_⟩
      obtain ⟨its, _, ⟨o, ho, _, n, hdt⟩, _⟩ := J1.tuple sq
      obtain ⟨u, hu, _⟩ := cv.val p hp
      rw [cellAt p hp] at ho
      cases ho
      rw [hu] at hdt
      cases hdt
    have lok : LessOk Y.K Y.prog Y.w Y.stack G z1 (l.map (·.c)) := ⟨hl, J1.hok, J1.stkFree⟩
    have e0 : Env0 Y.prog Y.w Y.K Y.mg Y.base Y.A Y.stack z1 (less G (l.map (·.c))) := by
      have e := J1.env0
      exact ⟨e.frames, e.mod, fun b o hb => ⟨(e.bs b o hb).1, less_none (e.bs b o hb).2⟩, e.bsz, e.funs, fun b hb => less_none (e.frf b hb), hok_less hl e.hok, e.bare⟩
    have s0 : Sim Y.K m (hideC S) (less G (l.map (·.c))) := si.less hl fun c hc => by
      obtain ⟨p, hp, rfl⟩ := List.mem_map.mp hc
      exact (cells p hp).2
    have code0 : less G (l.map (·.c)) d = some (LamX.CodeO d q') := hl.keep code fun _ => nofun
    refine PySem.W.callWith_F0 ⟨_, _, _, _, live⟩ ?_
    let l2 : List (Addr × V) := l.map fun p => (p.c, p.v)
    have l2c : l2.map (·.1) = l.map (·.c) := by simp [l2]
    have l2v : l2.map (·.2) = l.map (·.v) := by simp [l2]
    have cf : CloF L'.ys cl l2 := ⟨by simp [l2, cv.len], fun i y hy => by
      obtain ⟨p, p1, p2⟩ := cv.at_ i y hy
      exact ⟨(p.c, p.v), by simp [l2, p1], p2⟩, cv.only⟩
    have celV : ∀ p ∈ l2, ∃ u, z1.heap.IsCell p.1 (some u) ∧ RelV p.2 u := fun p hp => by
      obtain ⟨p', hp', rfl⟩ := List.mem_map.mp hp
      obtain ⟨u, h1, h2⟩ := cv.val p' hp'
      exact ⟨u, ⟨_, cellAt p' hp', h1⟩, h2⟩
    have run : codeAny (model Y.prog Y.w) Y.A (.call (.ref f) ⟨[], []⟩) (CR (L2N.CX Y.prog Y.w) Y.stack Y.prog Y.w (less G (l.map (·.c))) z1 (fun x G2 => (∀ c ∈ l.map (·.c), G2 c = none) → Q x (back G2 G (l.map (·.c))))
        (fun c od G2 => (∀ c ∈ l.map (·.c), G2 c = none) → W c od σ (back G2 G (l.map (·.c))))) z1 := by
      have room : Room (k + 1) Y.A := B.room.mono hj
      refine PySem.W.kla_callFunE room.depth live rfl LS.co LS.gen rfl ⟨d, oc, vs, tk, rfl, c1, c2, c3⟩ ?_
      rw [(T _ (List.mem_of_getElem? ht)).bind]
      refine wpAny_pure (wpAny_newFunctionEnv (fun y hy => (LS.own y hy).2) (fun y hy => absurd hy (by simp)) (fun g2 fr bt => ⟨J1.nolimit.fresh _ bt, ?_⟩) LS.kind)
      have grow : ∀ b o, z1.heap.get? b = some o → g2.get? b = some o := fun b o e => bt.extBut b o (Nat.ne_of_lt (Heap.lt_size e)) (Heap.get?_push_of_some _ e)
      have J2 := lam_startD (E := fun c od G2 => (∀ c ∈ l.map (·.c), G2 c = none) → W c od σ (back G2 G (l.map (·.c)))) (q := q') (f := f) (c' := d) (tk := z1.toks + ([] : List (Str × Value)).length) LS lo cf (l2c ▸ cv.nd) celV (fun p hp => less_in (by rw [← l2c]; exact List.mem_map.mpr ⟨p, hp, rfl⟩)) e0 room.hd fr grow
      refine PySem.W.kla_codeExpr (wpAny_mono (((T _ (List.mem_of_getElem? ht)).pe _ _ z1 _ _ f d cl ⟨L2N.takes_of rfl rfl rfl rfl, passes_of rfl, rfl, room.deeper _, B.gd⟩).run [] _ _ _ (fun x G2 => (∀ c ∈ l.map (·.c), G2 c = none) → Q x (back G2 G (l.map (·.c)))) J2 ⟨ds.map some, hideC S, m, env_clo (l2v ▸ Reps.less hl _ _ vals), s0, post_σ (post_back si hl h)⟩) (fun v s2 hq => ?_) fun e s2 hq => hq)
      obtain ⟨x, G2, J3, rv, q3⟩ := hq
      exact ⟨x, G2, J3.os, J3.bare, J3.base, J3.hok, rv, q3⟩
    refine wpAny_call (codeAny_mono run fun r s2 hq => ?_)
    cases r with
    | error e => exact L2N.passAt B.tk σ pz G z1 e s2 J1 (CX.back lok hq)
    | ok fl => cases fl <;> first | exact J1.after (CE.back lok hq) | exact hq.elim
end Ag

/-! lists of lambdas of a frame that still runs -/
namespace Ag
open PySem PySem.Spec PyProof.Rows L2
/-- a lambda of this frame, at f -/
def Made (X : Cx) (q : Str) (H : Hp) (f : Addr) (L : LSyn) : Prop := ∃ (d : Addr) (pm ctv : Value), H f = some (frzO f (PySem.W.kla_obj "<lambda>" q L.pr L.bd L.sc (cloFrom X.env.cells L.sc.names []) pm d ctv)) ∧ H d = some (LamX.CodeO d q)
theorem Made.to {X : Cx} {q : Str} {m m' : Mp} {H H' : Hp} {f : Addr} {L : LSyn} (h : Made X q H f L) (e : Ext m H m' H') : Made X q H' f L := by
  obtain ⟨d, pm, ctv, h1, h2⟩ := h
  exact ⟨d, pm, ctv, e.frz _ _ _ h1, e.cod _ _ h2⟩
theorem made_to {X : Cx} {q : Str} {m m' : Mp} {H H' : Hp} (e : Ext m H m' H') : ∀ {fs : List Addr} {Ls : List LSyn}, Paired (Made X q H) fs Ls → Paired (Made X q H') fs Ls
  | _, _, .nil => .nil
  | _, _, .cons h t => .cons (h.to e) (made_to e t)
section
variable {X : Cx} {pins : List (Addr × Obj)} {σ : L2.St} {H : Hp} {s : Shared} {a : Addr} {o : Obj}
/-- a thing that stays is told to the heap -/
theorem inv_frz (I : Inv X pins σ H s) (ha : s.heap.get? a = some o) (hd : ∀ v, o.data ≠ .cell v) (na : H a = none) (n0 : X.s_0.heap.get? a = none) (nL : a ≠ X.env.locals) (np : ∀ p ∈ X.pn ++ pins, p.1 ≠ a) : Inv X pins σ (upd H a (frzO a o)) s := by
  have ne : ∀ {b : Addr} {u : HO}, H b = some u → (upd H a (frzO a o)) b = some u := fun {b u} h => by rw [upd_ne (ne_of_none h na)]; exact h
  have nn : ∀ {b : Addr}, b ≠ a → H b = none → (upd H a (frzO a o)) b = none := fun {b} hb h => by rw [upd_ne hb]; exact h
  refine ⟨I.ok, I.os, I.bare, ⟨I.base.keep, I.base.slot, fun b u e n hx => nn (fun z => ?_) (I.base.free b u e n hx), I.base.there, fun b xs h => ne (I.base.tups b xs h), fun b u x h => ne (I.base.frzs b u x h), fun b ps h => ?_⟩, I.loc, I.cell, nn (Ne.symm nL) I.free, fun x c h => nn (fun z => ?_) (I.freeC x c h), fun p hp => ?_, fun b u h => ?_, I.len⟩
  · rw [z, n0] at e; cases e
  · obtain ⟨more, y⟩ := I.base.tbls b ps h
    exact ⟨more, ne y⟩
  · obtain ⟨v, u, hu, hv⟩ := I.cell x c h
    rw [z, ha] at hu
    cases hu
    exact hd _ hv
  · obtain ⟨p1, p2, p3, p4, p5⟩ := I.pin p hp
    exact ⟨p1, nn (np p hp) p2, p3, p4, p5⟩
  · by_cases hb : b = a
    · subst hb
      rw [upd_same] at h
      cases h
      exact ⟨ha, erO_ok ha⟩
    · rw [upd_ne hb] at h
      exact (I.hok b u h).stay (fun _ _ _ q => q) (fun _ q => ne q) fun _ _ q => ne q
end
/-! ### a lambda made -/
def tLamG (X : Cx) (q : Str) (P : Addr) (L : LSyn) : TE := fun _ H Q => ∃ ps, H P = some (.tbl ps) ∧ TriplesOk ps.toList ∧ (∀ (pos : Pos) (cv : Value), codeAmong pos ps.toList = some cv → ∃ d, cv = .ref d ∧ H d = some (LamX.CodeO d q)) ∧
  ∀ (f d : Addr) (pm ctv : Value) (G : Hp), MadeL H P ps q d G → LamX.TabS G P q → G f = none → H f = none → G d = some (LamX.CodeO d q) → Q (.ref f) (upd G f (frzO f (PySem.W.kla_obj "<lambda>" q L.pr L.bd L.sc (cloFrom X.env.cells L.sc.names []) pm d ctv)))
theorem pe_lamG {X : Cx} {q : Str} {c P : Addr} {L : LSyn} {pos : Pos} (TB : LamX.TabB X.base X.mg c P) (hcode : X.env.code = .ref c) (hq : X.env.qual ++ "<lambda>" = q) (LS : LamX.LamS X.env.scope L.sc) (hdef : defaultsOf L.pr X.env = ([], [])) :
    PE X (.Lambda L.pr L.bd L.sc pos) (tLamG X q P L) := by
  subst hq
  refine ⟨fun pins s σ H Q I ⟨ps, hP, tr, told, h⟩ => mk_lam2 I TB hcode hP tr told hdef (LS.has I.ok) fun f d pm ctv G z big J md tb at_ nf hd => ?_⟩
  have new : ∀ {b : Addr} {o : Obj}, s.heap.get? b = some o → b ≠ f := fun {b o} e y => absurd (Nat.lt_of_lt_of_le (Heap.lt_size e) big) (by rw [y]; exact Nat.lt_irrefl _)
  have n0 : X.s_0.heap.get? f = none := Heap.get?_none_of_le (Nat.le_trans I.sz big)
  have nL : f ≠ X.env.locals := fun y => absurd (Nat.lt_of_lt_of_le I.lt big) (by rw [y]; exact Nat.lt_irrefl _)
  have K := inv_frz J at_ (fun v y => by cases y) nf n0 nL fun p hp => new (I.pin p hp).1
  exact ⟨.ref f, _, K, rfl, h f d pm ctv G md tb nf (I.hok.fresh big) hd⟩
/-- .. with the store; f is hidden -/
theorem lamG_to {X : Cx} {q : Str} {P : Addr} {L : LSyn} {m : Mp} {H : Hp} {S : Sto} {σ : L2.St} {Q : VK} {i : Nat} (si : Sim X.K m S H) (tab : isTab S i P q = true)
    (h : ∀ (f : Addr) (G : Hp), Ext m H m G → Sim X.K m S G → G f = none → H f = none → ∀ o, Made X q (upd G f (frzO f o)) f L → Q (.ref f) (upd G f (frzO f o))) : tLamG X q P L σ H Q := by
  have cell := tab_of tab
  obtain ⟨ci, ps, hP, tr, told⟩ := si.tab_at cell
  refine ⟨ps, hP, tr, told, fun f d pm ctv G md tb nf nh hd => ?_⟩
  refine h f G (md.ext hP (List.mem_of_getElem? ci)) (md.sim si cell hP tb) nf nh _ ⟨d, pm, ctv, upd_same, ?_⟩
  rw [upd_ne (ne_of_none hd nf)]
  exact hd
/-- the frame's lambdas stand in a list at a; they and it are hidden; m0, H0: ahead of them -/
structure LiveL (X : Cx) (q : Str) (i : Nat) (Ls : List LSyn) (σ : L2.St) (H : Hp) (m0 : Mp) (H0 : Hp) (m : Mp) (a : Addr) (fs : List Addr) : Prop where
  var : σ[i]? = some (some (.ref a))
  lst : H a = some (.lst (fs.map V.ref))
  made : Paired (Made X q H) fs Ls
  hid : m.h = a :: (fs ++ m0.h)
  nd : (a :: fs).Nodup
  new : ∀ b ∈ a :: fs, H0 b = none
  off : ∀ b ∈ a :: fs, b ∉ m0.h
  ext : Ext m0 H0 ⟨m.c, m0.h⟩ H
def tSg (X : Cx) (W : WX) (i : Nat) (q : Str) (Ls : List LSyn) (s : SM) : TS := fun E σ H => ∃ en S m0 H0 m a fs, EnvR X.K m0 H0 σ en ∧ EnvR X.K m H σ en ∧ Sim X.K m S H ∧ LiveL X q i Ls σ H m0 H0 m a fs ∧ SPost X.K W m0 H0 (s en S) E
def tTg (X : Cx) (W : WX) (i : Nat) (q : Str) (Ls : List LSyn) (t : BM) : TT := fun σ H Q => ∃ en S m0 H0 m a fs, EnvR X.K m0 H0 σ en ∧ EnvR X.K m H σ en ∧ Sim X.K m S H ∧ LiveL X q i Ls σ H m0 H0 m a fs ∧ PostB X.K W σ m0 H0 (t en S) Q
def tEg (X : Cx) (W : WX) (i : Nat) (q : Str) (Ls : List LSyn) (e : EM) : TE := fun σ H Q => ∃ en S m0 H0 m a fs, EnvR X.K m0 H0 σ en ∧ EnvR X.K m H σ en ∧ Sim X.K m S H ∧ LiveL X q i Ls σ H m0 H0 m a fs ∧ Post X.K W σ m0 H0 (e en S) Q
/-- the hidden are left alone -/
theorem Sim.unhide {K : PySem.W.Frag} {m : Mp} {H : Hp} {S : Sto} {h : List Addr} (s : Sim K m S H) (sub : ∀ a ∈ h, a ∈ m.h) : Sim K ⟨m.c, h⟩ S H :=
  s.same rfl ⟨⟨[], by simp, by simp⟩, fun a ha => .inl (sub a ha), fun _ _ z _ => z, fun _ _ z => z, fun _ _ _ z => z, fun _ _ z => z⟩ (fun _ _ => rfl) (fun a ha => s.hid a (sub a ha)) fun a ha z => s.dis a ha (sub a z)
theorem Tr.unhide {m : Mp} {H : Hp} {h : List Addr} (sub : ∀ a ∈ h, a ∈ m.h) : Tr m H ⟨m.c, h⟩ H := ⟨⟨[], by simp, by simp⟩, fun a ha => .inl (sub a ha), fun _ _ z _ => z, fun _ _ z => z, fun _ _ _ z => z, fun _ _ z => z⟩
def sActs (i iT : Nat) (P : Addr) (q : Str) (s : SM) : SM := fun en S => if isTab S iT P q = true then s (en.set i none) S else .stuck
def sApp (iT : Nat) (P : Addr) (q : Str) (s : SM) : SM := fun en S => if isTab S iT P q = true then s en S else .stuck
section
variable {X : Cx} {W : WX} {i iT : Nat} {q y : Str} {c P : Addr} {L : LSyn} {Ls : List LSyn} {st : Stmt} {rest : List Stmt} {sM : SM} {p1 p2 p3 p4 p5 p6 : Pos}
theorem s_acts (hN : X.N.Nodup) (hi : X.N[i]? = some y) (hx : Loc X.env.scope y) (hf : X.fn y = true ∨ X.env.scope.names.lookup y = some .local) (TB : LamX.TabB X.base X.mg c P) (hcode : X.env.code = .ref c) (hq : X.env.qual ++ "<lambda>" = q) (LS : LamX.LamS X.env.scope L.sc) (hdef : defaultsOf L.pr X.env = ([], []))
    (hs : swapsWith (.List [.Lambda L.pr L.bd L.sc p1] p2) (some (.Name y p3)) p4.line X.env = pure false) (he : starEach [.Lambda L.pr L.bd L.sc p1] X.env = (false, eval (.Lambda L.pr L.bd L.sc p1) X.env) :: starEach [] X.env)
    : PS X (.Assign [.Name y p3] (.List [.Lambda L.pr L.bd L.sc p1] p2) p4) (fun E σ H => ∃ en S m, EnvR X.K m H σ en ∧ Sim X.K m S H ∧ isTab S iT P q = true ∧ ∀ σ' m' H' a fs, EnvR X.K m H σ' (en.set i none) → EnvR X.K m' H' σ' (en.set i none) → Sim X.K m' S H' → LiveL X q i [L] σ' H' m H m' a fs → E.nx σ' H') := by
  refine ⟨fun pins s σ H E I hh => ?_⟩
  have il : i < σ.length := by
    rw [I.len]
    exact (List.getElem?_eq_some_iff.mp hi).1
  refine (ps_set (pos := p4) (pos' := p3) hN hi hx (pe_lst (pos := p2) (pa_cons (pe_lamG TB hcode hq LS hdef) pa_nil he)) hs hf).run pins s σ H E I ?_
  obtain ⟨en, S, m, er, si, tab, h⟩ := hh
  unfold tAsg tLst tCons tNil gName
  refine lamG_to si tab fun f G e s1 nf nh o md => ?_
  refine ⟨by show 1 ≤ sizeLine; decide, fun a na => ?_⟩
  have nfa : a ≠ f := fun z => by rw [z, upd_same] at na; cases na
  have na1 : G a = none := by rw [upd_ne nfa] at na; exact na
  have s2 := s1.hide (o := frzO f o) nf
  have t2 : Tr m G (m.hide f) (upd G f (frzO f o)) := .hide nf
  have s3 := s2.hide (o := .lst [.ref f]) na
  have t3 : Tr (m.hide f) (upd G f (frzO f o)) ((m.hide f).hide a) (upd (upd G f (frzO f o)) a (.lst [.ref f])) := .hide na
  have er3 := ((er.to e).tr t2).tr t3
  have e3 : Ext m G m (upd (upd G f (frzO f o)) a (.lst [.ref f])) := (Ext.new nf).trans (.new na)
  have na0 : H a = none := by
    cases q1 : H a with
    | none => rfl
    | some u =>
      obtain ⟨u2, q2⟩ := e.trk a u q1
      rw [q2] at na1; cases na1
  have nw : ∀ b ∈ a :: [f], H b = none := fun b hb => by
    rcases List.mem_cons.mp hb with z | z
    · rw [z]; exact na0
    · rw [List.mem_singleton.mp z]; exact nh
  refine h _ _ _ a [f] er.wipe1 er3.wipe1 s3 ⟨List.getElem?_set_self il, upd_same, .cons (md.to (m := m) (m' := m) (.new na)) .nil, rfl, by simp [nfa], nw, fun b hb z => ?_, e.trans e3⟩
  obtain ⟨u, y⟩ := si.hid b z
  rw [nw b hb] at y; cases y
theorem ss_acts (h1 : PS X st (fun E σ H => ∃ en S m, EnvR X.K m H σ en ∧ Sim X.K m S H ∧ isTab S iT P q = true ∧ ∀ σ' m' H' a fs, EnvR X.K m H σ' (en.set i none) → EnvR X.K m' H' σ' (en.set i none) → Sim X.K m' S H' → LiveL X q i [L] σ' H' m H m' a fs → E.nx σ' H')) (hr : PSs X rest (tSg X W i q [L] sM)) :
    PSs X (st :: rest) (tS X.K W (sActs i iT P q sM)) := by
  refine PSs.imp (pss_cons h1 hr) ?_
  rintro E σ H ⟨en, S, m, er, si, h⟩
  unfold sActs at h
  by_cases tab : isTab S iT P q = true
  · rw [if_pos tab] at h
    exact ⟨en, S, m, er, si, tab, fun σ' m' H' a fs e0 e1 s1 lv => ⟨_, S, m, H, m', a, fs, e0, e1, s1, lv, h⟩⟩
  · rw [if_neg tab] at h; exact h.elim
theorem paired_len {α β : Type} {F : α → β → Prop} : ∀ {xs : List α} {ys : List β}, Paired F xs ys → xs.length = ys.length
  | _, _, .nil => rfl
  | _, _, .cons _ t => by simp [paired_len t]
theorem s_app (hi : X.N[i]? = some y) (hv : Vis X.env.scope y) (hd : (y == ("__debug__" : Str)) = false) (hcd : (y == ("__classdict__" : Str)) = false) (TB : LamX.TabB X.base X.mg c P) (hcode : X.env.code = .ref c) (hq : X.env.qual ++ "<lambda>" = q) (LS : LamX.LamS X.env.scope L.sc) (hdef : defaultsOf L.pr X.env = ([], []))
    (hl : Ls.length < 1000) (h1 : attributeBase (.Name y p1) "append" X.env (eval (.Name y p1) X.env) = eval (.Name y p1) X.env)
    (h2 : ((((backTo p3 (starEach [.Lambda L.pr L.bd L.sc p4] X.env)).all fun x => !x.fst) && (backToKw p3 (keywordEach [] X.env)).all fun x => x.fst.isSome) && decide (([.Lambda L.pr L.bd L.sc p4] : List Expr).length + ([] : List Keyword).length + (if ([] : List Keyword).isEmpty = true then 0 else 1) < 30)) = true)
    (h3 : (p2.endLine == p3.line) = true) (h4 : starEach [.Lambda L.pr L.bd L.sc p4] X.env = (false, eval (.Lambda L.pr L.bd L.sc p4) X.env) :: starEach [] X.env) (h5 : (backTo p3 (starEach [] X.env)).any (·.1) = false)
    (h6 : swapsWith (.Call (.Attribute (.Name y p1) "append" p2) [.Lambda L.pr L.bd L.sc p4] [] p3) none p5.line X.env = pure false)
    : PS X (.Expr (.Call (.Attribute (.Name y p1) "append" p2) [.Lambda L.pr L.bd L.sc p4] [] p3) p5) (fun E σ H => ∃ en S m0 H0 m a fs, EnvR X.K m H σ en ∧ Sim X.K m S H ∧ LiveL X q i Ls σ H m0 H0 m a fs ∧ isTab S iT P q = true ∧ ∀ m' H' fs', EnvR X.K m' H' σ en → Sim X.K m' S H' → LiveL X q i (Ls ++ [L]) σ H' m0 H0 m' a fs' → E.nx σ H') := by
  refine ⟨fun pins s σ H E I hh => ?_⟩
  refine (ps_expr (pos := p5) (pe_bm (cpos := p3) (apos := p2) PySem.F.plainAttrs_list PySem.F.slot_list_append PySem.F.type_list_append mt_append (pe_var (pos := p1) hi hv hd hcd) (pa_cons (pe_lamG TB hcode hq LS hdef) pa_nil h4) h1 h2 h3 h4 h5) h6).run pins s σ H E I ?_
  obtain ⟨en, S, m0, H0, m, a, fs, er, si, lv, tab, h⟩ := hh
  unfold tDrop tBM tCons tNil
  refine ⟨.ref a, lv.var, .inl ⟨rfl, _, .inl (.inl lv.lst)⟩, ?_⟩
  refine lamG_to si tab fun f G e s1 nf nh o md => ?_
  have ha : a ∉ m.c := fun z => si.dis a z (by rw [lv.hid]; exact List.mem_cons_self)
  have la : G a = some (.lst (fs.map V.ref)) := e.keep _ _ lv.lst ha
  have nfa : f ≠ a := fun z => by rw [z, la] at nf; cases nf
  have la2 : (upd G f (frzO f o)) a = some (.lst (fs.map V.ref)) := by rw [upd_ne (Ne.symm nfa)]; exact la
  refine ⟨a, fs.map V.ref, .ref f, rfl, rfl, la2, ?_, ?_⟩
  · have := paired_len lv.made
    have z := sizeLine_eq
    rw [List.length_map]; omega
  have s2 := s1.hide (o := frzO f o) nf
  have t2 : Tr m G (m.hide f) (upd G f (frzO f o)) := .hide nf
  -- the list is written, hidden as it is
  let H3 := upd (upd G f (frzO f o)) a (.lst (fs.map V.ref ++ [.ref f]))
  let m3 : Mp := ⟨m.c, a :: ((fs ++ [f]) ++ m0.h)⟩
  have sub : ∀ b ∈ m3.h, b ∈ (m.hide f).h := fun b hb => by
    have hb : b ∈ a :: ((fs ++ [f]) ++ m0.h) := hb
    show b ∈ f :: m.h
    rw [lv.hid]
    simp only [List.mem_cons, List.mem_append, List.not_mem_nil, or_false] at hb ⊢
    rcases hb with z | (z | z) | z
    · exact .inr (.inl z)
    · exact .inr (.inr (.inl z))
    · exact .inl z
    · exact .inr (.inr (.inr z))
  have up3 : ∀ b u, b ≠ a → (upd G f (frzO f o)) b = some u → H3 b = some u := fun b u nb z => by
    show upd _ a _ b = _
    rw [upd_ne nb]; exact z
  have nota : ∀ {b : Addr} {u : HO}, (upd G f (frzO f o)) b = some u → (∀ xs, u ≠ .lst xs) → b ≠ a := fun {b u} z n y => by
    rw [y, la2] at z
    exact n _ (Option.some.inj z).symm
  have t3 : Tr (m.hide f) (upd G f (frzO f o)) m3 H3 := by
    refine ⟨⟨[], by simp [m3, Mp.hide], by simp⟩, fun b hb => .inl (sub b hb), fun b u z off => up3 b u (fun y => off.2 ?_) z, fun b xs z => up3 b _ (nota z fun _ => nofun) z, fun b u x z => up3 b _ (nota z fun _ => nofun) z, fun b u z => up3 b _ (nota z fun _ => nofun) z⟩
    rw [y]
    show a ∈ f :: m.h
    rw [lv.hid]; simp
  have s3 : Sim X.K m3 S H3 := s2.same rfl t3 (fun b hb => upd_ne fun z => ha (by rw [← z]; exact hb)) (fun b hb => by
    by_cases z : b = a
    · exact ⟨_, by rw [z]; exact upd_same⟩
    · obtain ⟨u, hu⟩ := s2.hid b (sub b hb)
      exact ⟨u, up3 b u z hu⟩) fun b hb z => s2.dis b hb (sub b z)
  have er3 := ((er.to e).tr t2).tr t3
  have e13 : Ext m0 H0 ⟨m.c, m0.h⟩ (upd G f (frzO f o)) := (lv.ext.trans (⟨e.pre, rfl, e.trk, e.keep, e.tup, e.frz, e.cod⟩ : Ext ⟨m.c, m0.h⟩ H ⟨m.c, m0.h⟩ G)).trans (.new nf)
  have na0 : H0 a = none := lv.new a List.mem_cons_self
  have e3 : Ext m0 H0 ⟨m.c, m0.h⟩ H3 := by
    have un : ∀ {b : Addr} {u : HO}, H0 b = some u → b ≠ a := fun {b u} z y => by rw [y, na0] at z; cases z
    refine ⟨e13.pre, rfl, fun b u z => ?_, fun b u z n => up3 b u (un z) (e13.keep b u z n), fun b xs z => up3 b _ (un z) (e13.tup b xs z), fun b u x z => up3 b _ (un z) (e13.frz b u x z), fun b u z => up3 b _ (un z) (e13.cod b u z)⟩
    obtain ⟨u2, y⟩ := e13.trk b u z
    exact ⟨u2, up3 b u2 (un z) y⟩
  have md3 : ∀ {g : Addr} {M : LSyn}, Made X q (upd G f (frzO f o)) g M → Made X q H3 g M := fun {g M} ⟨d, pm, ctv, z1, z2⟩ => ⟨d, pm, ctv, up3 _ _ (nota z1 fun _ => nofun) z1, up3 _ _ (nota z2 fun _ => nofun) z2⟩
  have made3 : ∀ {gs : List Addr} {Ms : List LSyn}, Paired (Made X q H) gs Ms → Paired (Made X q H3) (gs ++ [f]) (Ms ++ [L]) := by
    intro gs Ms hp
    induction hp with
    | nil => exact .cons (md3 md) .nil
    | cons z t ih => exact .cons (md3 ((z.to e).to (m := m) (m' := m) (.new nf))) ih
  refine h _ _ (fs ++ [f]) er3 s3 ⟨lv.var, by rw [List.map_append]; exact upd_same, made3 lv.made, rfl, ?_, fun b hb => ?_, fun b hb y => ?_, e3⟩
  · have nd := lv.nd
    rw [List.nodup_cons] at nd ⊢
    have fn : f ∉ fs := fun z => by
      obtain ⟨L', hL⟩ : ∃ L', Made X q H f L' := by
        have : ∀ {gs : List Addr} {Ms : List LSyn}, Paired (Made X q H) gs Ms → f ∈ gs → ∃ L', Made X q H f L' := by
          intro gs Ms hp
          induction hp with
          | nil => intro z; cases z
          | cons y t ih =>
            intro z
            rcases List.mem_cons.mp z with w | w
            · rw [w]; exact ⟨_, y⟩
            · exact ih w
        exact this lv.made z
      obtain ⟨_, _, _, y, _⟩ := hL
      rw [nh] at y; cases y
    refine ⟨fun z => ?_, ?_⟩
    · rcases List.mem_append.mp z with w | w
      · exact nd.1 w
      · exact nfa (List.mem_singleton.mp w).symm
    · rw [List.nodup_append]
      refine ⟨nd.2, by simp, fun b hb c hc z => ?_⟩
      rw [List.mem_singleton.mp hc] at z
      exact fn (z ▸ hb)
  · have z : b ∈ a :: fs ∨ b = f := by
      simp only [List.mem_cons, List.mem_append, List.not_mem_nil, or_false] at hb ⊢
      rcases hb with z | z | z
      · exact .inl (.inl z)
      · exact .inl (.inr z)
      · exact .inr z
    rcases z with z | z
    · exact lv.new b z
    · rw [z]
      cases q1 : H0 f with
      | none => rfl
      | some u =>
        obtain ⟨u2, q2⟩ := lv.ext.trk f u q1
        rw [nh] at q2; cases q2
  · have z : b ∈ a :: fs ∨ b = f := by
      simp only [List.mem_cons, List.mem_append, List.not_mem_nil, or_false] at hb ⊢
      rcases hb with z | z | z
      · exact .inl (.inl z)
      · exact .inl (.inr z)
      · exact .inr z
    rcases z with z | z
    · exact lv.off b z y
    · obtain ⟨u, w⟩ := si.hid b (by rw [lv.hid]; simp [y])
      rw [z, nh] at w; cases w
theorem ss_app (h1 : PS X st (fun E σ H => ∃ en S m0 H0 m a fs, EnvR X.K m H σ en ∧ Sim X.K m S H ∧ LiveL X q i Ls σ H m0 H0 m a fs ∧ isTab S iT P q = true ∧ ∀ m' H' fs', EnvR X.K m' H' σ en → Sim X.K m' S H' → LiveL X q i (Ls ++ [L]) σ H' m0 H0 m' a fs' → E.nx σ H')) (hr : PSs X rest (tSg X W i q (Ls ++ [L]) sM)) :
    PSs X (st :: rest) (tSg X W i q Ls (sApp iT P q sM)) := by
  refine PSs.imp (pss_cons h1 hr) ?_
  rintro E σ H ⟨en, S, m0, H0, m, a, fs, er0, er, si, lv, h⟩
  unfold sApp at h
  by_cases tab : isTab S iT P q = true
  · rw [if_pos tab] at h
    exact ⟨en, S, m0, H0, m, a, fs, er, si, lv, tab, fun m' H' fs' e1 s1 lv' => ⟨en, S, m0, H0, m', a, fs', er0, e1, s1, lv', h⟩⟩
  · rw [if_neg tab] at h; exact h.elim
end
/-! ### tests and statements with such a list -/
section
variable {X : Cx} {W : WX} {i : Nat} {q : Str} {Ls : List LSyn} {e a b c : Expr} {es : List Expr} {st : Stmt} {rest sa sb : List Stmt} {me : EM} {t u : BM} {s1 s2 : SM} {pos : Pos}
theorem t_valG (h : PE X a (tEg X W i q Ls me)) (he : ∀ whole, isTrue a X.env whole = (do let v ← whole; standAt a.pos; holding [v] (truthy v)) := by intro _; rfl) : PT X a (tTg X W i q Ls (mB me)) := by
  refine PT.imp (pt_val h he) ?_
  rintro σ H Q ⟨en, S, m0, H0, m, a, fs, er0, er, si, lv, h⟩
  refine ⟨en, S, m0, H0, m, a, fs, er0, er, si, lv, (PostG.bind (R := Rep X.K) h).mono ?_⟩
  rintro v H1 ⟨d, S1, m1, e1, s1, r1, h1⟩
  cases r1 with
  | bl b => exact ⟨b, rfl, h1 b m1 H1 .refl s1 rfl⟩
  | _ => exact h1.elim
theorem t_notG (h : PT X a (tTg X W i q Ls t)) : PT X (.UnaryOp .Not a pos) (tTg X W i q Ls (mNotB t)) := by
  refine PT.imp (pt_not h) ?_
  rintro σ H Q ⟨en, S, m0, H0, m, a, fs, er0, er, si, lv, h⟩
  refine ⟨en, S, m0, H0, m, a, fs, er0, er, si, lv, (PostG.bind (R := fun _ _ (b : Bool) c => b = c) h).mono ?_⟩
  rintro v H1 ⟨d, S1, m1, e1, s1, rfl, h1⟩
  exact h1 (!v) m1 H1 .refl s1 rfl
end
/-! ### the call of a def with such a list -/
def capAll (q : Str) (en : En) : List (Nat × LSyn) → Option (List Ob)
  | [] => some []
  | c :: cs => match capD en c.2.cp, capAll q en cs with
    | some ds, some r => some (.clo c.1 c.2 q ds :: r)
    | _, _ => none
def refsN (n k : Nat) : List D := (List.range k).map fun j => .ref (n + j)
def shown (S : Sto) (r : Res D) : Res D := match r with
  | .ok d T => (match showC S (hideC T) with
    | some U => .ok d U
    | none => .stuck)
  | .exc c fs T => (match showC S (hideC T) with
    | some U => .exc c fs U
    | none => .stuck)
  | .stuck => .stuck
/-- fm called with the list of lambdas and d -/
def liveR (cs : List (Nat × LSyn)) (q : Str) (fm : List D → Sto → Res D) (en : En) (S : Sto) (d : D) : Res D := match capAll q en cs with
  | some cl => shown S (cutR S.length (fm [.ref (S.length + cs.length), d] (hideC S ++ (cl ++ [.lst (refsN S.length cs.length)]))))
  | none => .stuck
/-- the frame's list of lambdas, wherever it is named -/
structure LiveC (X : Cx) (q : Str) (Ls : List LSyn) (H : Hp) (m0 : Mp) (H0 : Hp) (m : Mp) (a : Addr) (fs : List Addr) : Prop where
  lst : H a = some (.lst (fs.map V.ref))
  made : Paired (Made X q H) fs Ls
  hid : m.h = a :: (fs ++ m0.h)
  nd : (a :: fs).Nodup
  new : ∀ b ∈ a :: fs, H0 b = none
  off : ∀ b ∈ a :: fs, b ∉ m0.h
  ext : Ext m0 H0 ⟨m.c, m0.h⟩ H
theorem LiveL.c {X : Cx} {q : Str} {i : Nat} {Ls : List LSyn} {σ : L2.St} {H : Hp} {m0 : Mp} {H0 : Hp} {m : Mp} {a : Addr} {fs : List Addr} (l : LiveL X q i Ls σ H m0 H0 m a fs) : LiveC X q Ls H m0 H0 m a fs := ⟨l.lst, l.made, l.hid, l.nd, l.new, l.off, l.ext⟩
theorem LiveC.to {X : Cx} {q : Str} {Ls : List LSyn} {S : Sto} {H H' : Hp} {m0 : Mp} {H0 : Hp} {m m' : Mp} {a : Addr} {fs : List Addr} (l : LiveC X q Ls H m0 H0 m a fs) (si : Sim X.K m S H) (e : Ext m H m' H') : LiveC X q Ls H' m0 H0 m' a fs := by
  have ha : a ∉ m.c := fun z => si.dis a z (by rw [l.hid]; exact List.mem_cons_self)
  exact ⟨e.keep _ _ l.lst ha, made_to e l.made, e.hs.trans l.hid, l.nd, l.new, l.off, l.ext.trans ⟨e.pre, rfl, e.trk, e.keep, e.tup, e.frz, e.cod⟩⟩
/-- the lambdas of S shown again -/
theorem Sim.show_ {K : PySem.W.Frag} {m m' : Mp} {H H' : Hp} {S T U : Sto} (s : Sim K m S H) (t : Tr m H m' H') (hc : m'.c = m.c) (s' : Sim K m' T H') (h : showC S T = some U) : Sim K m' U H' := by
  obtain ⟨h1, h2⟩ := show_at h
  refine ⟨by rw [h1]; exact s'.len, s'.nd, fun i a o q1 q2 => ?_, s'.hid, s'.dis⟩
  rcases h2 i o q2 with ⟨y, k, L, q, ds, rfl⟩ | y
  · have c := s.cell i a _ (by rw [← hc]; exact q1) y
    obtain ⟨d, pm, ctv, cl, l, c1, _⟩ := id c
    exact c.tr t ((t.frz a _ _ c1).trans c1.symm)
  · exact s'.cell i a o q1 y
/-- the variables that a frame's lambda holds -/
structure CapC (X : Cx) (H : Hp) (s : Shared) (L : LSyn) (l : List CelV) : Prop where
  cv : CloV L.ys (cloFrom X.env.cells L.sc.names []) l
  own : ∀ p ∈ l, s.heap.get? p.c = some p.o ∧ ∃ y, X.env.cells.lookup y = some p.c
theorem cap_one {X : Cx} {pins : List (Addr × Obj)} {σ : L2.St} {H : Hp} {s : Shared} {m : Mp} {en : En} {L : LSyn} {ds : List D} (I : Inv X pins σ H s) (er : EnvR X.K m H σ en) (ok : LOk X.N X.env.scope L) (h : capD en L.cp = some ds) : ∃ l : List CelV, CapC X H s L l ∧ Reps X.K m H (l.map (·.v)) ds := by
  obtain ⟨l, l1, l2, l3, l4⟩ := caps_ok (Inv.unpinned (pins := []) I) er L.ys L.cp ds ok.len (fun i j y h1 h2 => ok.at_ i j y h1 h2) h
  have up : ∀ p ∈ l, ∃ o u, s.heap.get? p.1 = some o ∧ o.data = .cell (some u) ∧ RelV p.2 u := fun p hp => by
    obtain ⟨_, u, ⟨o, h1, h2⟩, h3⟩ := l4 p hp
    exact ⟨o, u, h1, h2, h3⟩
  have nd := ndl l1 ok.nd I.ok.inj l3
  let g : Addr × V → CelV := fun p => ⟨p.1, (s.heap.get? p.1).getD { cls := .none, data := .plain }, p.2⟩
  have clk : ∀ {y : Str} {a : Addr}, (cloFrom X.env.cells L.sc.names []).lookup y = some a → (y, NameKind.free) ∈ L.sc.names ∧ a = (X.env.cells.lookup y).getD 0 := fun {y a} e => by
    rcases cloFrom_mem (PySem.mem_of_lookup e) with hm | ⟨h1, h2⟩
    · cases hm
    · exact ⟨h1, h2⟩
  refine ⟨l.map g, ⟨⟨by simp [l1], fun i y hy => ?_, fun y a ha => ok.only y (clk ha).1, by rw [List.map_map]; exact nd, fun p hp => ?_⟩, fun p hp => ?_⟩, by rw [List.map_map]; exact l2⟩
  · obtain ⟨p, p1, p2⟩ := l3 i y hy
    obtain ⟨a, ha⟩ := mem_lookup (cloFrom_has (cells := X.env.cells) (acc := []) (ok.free y (List.mem_of_getElem? hy)))
    refine ⟨g p, by rw [List.getElem?_map, p1]; rfl, ?_⟩
    rw [ha, (clk ha).2, p2]; rfl
  · obtain ⟨p', hp', rfl⟩ := List.mem_map.mp hp
    obtain ⟨o, u, h1, h2, h3⟩ := up p' hp'
    exact ⟨u, by simp [g, h1, h2], h3⟩
  · obtain ⟨p', hp', rfl⟩ := List.mem_map.mp hp
    obtain ⟨o, u, h1, h2, h3⟩ := up p' hp'
    obtain ⟨⟨y, _, hy⟩, _⟩ := l4 p' hp'
    exact ⟨by simp [g, h1], y, hy⟩
theorem cap_all {X : Cx} {pins : List (Addr × Obj)} {σ : L2.St} {H : Hp} {s : Shared} {m : Mp} {en : En} {q : Str} (I : Inv X pins σ H s) (er : EnvR X.K m H σ en) : ∀ {cs : List (Nat × LSyn)} {cl : List Ob}, (∀ c ∈ cs, LOk X.N X.env.scope c.2) → capAll q en cs = some cl →
    ∃ ls : List Addr, (∀ c ∈ ls, ∃ o u y, s.heap.get? c = some o ∧ o.data = .cell (some u) ∧ X.env.cells.lookup y = some c) ∧ Paired (fun (c : Nat × LSyn) (o : Ob) => ∃ ds l, o = .clo c.1 c.2 q ds ∧ CapC X H s c.2 l ∧ Reps X.K m H (l.map (·.v)) ds ∧ ∀ p ∈ l, p.c ∈ ls) cs cl
  | [], cl, _, h => by
    cases h
    exact ⟨[], (fun c z => absurd z (by simp)), .nil⟩
  | c :: cs, cl, ok, h => by
    unfold capAll at h
    cases h1 : capD en c.2.cp with
    | none => rw [h1] at h; cases h
    | some ds =>
      cases h2 : capAll q en cs with
      | none => rw [h1, h2] at h; cases h
      | some r =>
        rw [h1, h2] at h
        cases h
        obtain ⟨ls, g1, g2⟩ := cap_all I er (fun d hd => ok d (List.mem_cons_of_mem _ hd)) h2
        obtain ⟨l, c1, c2⟩ := cap_one I er (ok c List.mem_cons_self) h1
        refine ⟨l.map (·.c) ++ ls, fun d hd => ?_, .cons ⟨ds, l, rfl, c1, c2, fun p hp => List.mem_append_left _ (List.mem_map.mpr ⟨p, hp, rfl⟩)⟩ (Paired.mp (fun x o ⟨ds, l, z1, z2, z3, z4⟩ => ⟨ds, l, z1, z2, z3, fun p hp => List.mem_append_right _ (z4 p hp)⟩) g2)⟩
        rcases List.mem_append.mp hd with z | z
        · obtain ⟨p, hp, rfl⟩ := List.mem_map.mp z
          obtain ⟨h1, y, hy⟩ := c1.own p hp
          obtain ⟨u, h2, _⟩ := c1.cv.val p hp
          exact ⟨_, u, y, h1, h2, hy⟩
        · exact g1 d z
/-- the heap with the cells of variables told -/
def moreH (H : Hp) (s : Shared) (ls : List Addr) : Hp := fun b => if b ∈ ls then (s.heap.get? b).map (frzO b) else H b
section
variable {P : Program} {w : World} {outer : List Env} {H G : Hp} {s s' : Shared} {ls : List Addr} {Q : VK} {E : XK} {K : PySem.W.Frag}
/-- cells that are told for a call alone -/
structure MoreOk (K : PySem.W.Frag) (P : Program) (w : World) (outer : List Env) (H : Hp) (s : Shared) (ls : List Addr) : Prop where
  cel : ∀ c ∈ ls, ∃ o u, s.heap.get? c = some o ∧ o.data = .cell (some u) ∧ H c = none ∧ c ∉ frs outer
  nosq : ∀ c ∈ ls, ∀ G xs, ¬ (G c = none ∨ ∃ o, G c = some (frzO c o)) ∨ ¬ SqT K G c xs
  hok : HOk P w H s.heap
theorem MoreOk.in_ (M : MoreOk K P w outer H s ls) {c : Addr} (hc : c ∈ ls) : ∃ o, moreH H s ls c = some (frzO c o) ∧ s.heap.get? c = some o := by
  obtain ⟨o, u, h1, _⟩ := M.cel c hc
  exact ⟨o, by unfold moreH; rw [if_pos hc, h1]; rfl, h1⟩
theorem MoreOk.out (M : MoreOk K P w outer H s ls) {b : Addr} (hb : b ∉ ls) : moreH H s ls b = H b := if_neg hb
theorem MoreOk.up (M : MoreOk K P w outer H s ls) {b : Addr} {u : HO} (h : H b = some u) : b ∉ ls ∧ moreH H s ls b = some u := by
  have z : b ∉ ls := fun z => by
    obtain ⟨_, _, _, _, n, _⟩ := M.cel b z
    rw [h] at n; cases n
  exact ⟨z, by rw [M.out z]; exact h⟩
theorem MoreOk.cels (M : MoreOk K P w outer H s ls) (st : ∀ c ∈ ls, G c = moreH H s ls c) : Cels K G ls := fun c hc => by
  obtain ⟨o, q, _⟩ := M.in_ hc
  have e := (st c hc).trans q
  refine ⟨⟨o, e⟩, fun xs sq => ?_⟩
  rcases M.nosq c hc G xs with z | z
  · exact z (.inr ⟨o, e⟩)
  · exact z sq
theorem MoreOk.hokM (M : MoreOk K P w outer H s ls) : HOk P w (moreH H s ls) s.heap := fun b u q => by
  by_cases z : b ∈ ls
  · obtain ⟨o, y, g⟩ := M.in_ z
    rw [y] at q
    cases q
    exact ⟨g, erO_ok g⟩
  · rw [M.out z] at q
    exact (M.hok b u q).stay (fun _ _ _ y => y) (fun c y => (M.up y).2) fun c xs y => (M.up y).2
theorem CE.drop {v : Value} (M : MoreOk K P w outer H s ls) (h : CE outer P w (moreH H s ls) s (fun x G => (∀ c ∈ ls, G c = moreH H s ls c) → Q x (less G ls)) v s') : CE outer P w H s Q v s' := by
  obtain ⟨x, G, os, bare, un, hok, rv, q⟩ := h
  have st : ∀ c ∈ ls, G c = moreH H s ls c := fun c hc => by
    obtain ⟨o, y, _⟩ := M.in_ hc
    rw [y]; exact un.frzs c _ _ y
  have stay : ∀ c ∈ ls, ∀ o, s.heap.get? c = some o → s'.heap.get? c = some o := fun c hc o g => by
    obtain ⟨o', y, g'⟩ := M.in_ hc
    rw [g] at g'; cases g'
    exact (hok c _ ((st c hc).trans y)).1
  have hl := M.cels st
  refine ⟨x, less G ls, os, bare, ⟨fun b o e n hb hx => ?_, fun b o e n hb hx => ?_, fun b o e n hx => ?_, un.there, fun b xs y => ?_, fun b o u y => ?_, fun b ps y => ?_⟩, hok_less hl hok, rv, q st⟩
  · by_cases z : b ∈ ls
    · exact stay b z o e
    · exact un.keep b o e (by rw [M.out z]; exact n) hb hx
  · by_cases z : b ∈ ls
    · obtain ⟨_, _, _, _, _, nf⟩ := M.cel b z
      exact absurd hb nf
    · exact un.slot b o e (by rw [M.out z]; exact n) hb hx
  · by_cases z : b ∈ ls
    · exact less_in z
    · exact less_none (un.free b o e (by rw [M.out z]; exact n) hx)
  · obtain ⟨z, y2⟩ := M.up y
    rw [less_out z]; exact un.tups b xs y2
  · obtain ⟨z, y2⟩ := M.up y
    rw [less_out z]; exact un.frzs b o u y2
  · obtain ⟨z, y2⟩ := M.up y
    obtain ⟨more, y3⟩ := un.tbls b ps y2
    exact ⟨more, by rw [less_out z]; exact y3⟩
theorem CX.drop {v : Value} (M : MoreOk K P w outer H s ls) (h : L2N.CX P w outer (moreH H s ls) s (fun c od G => (∀ c ∈ ls, G c = moreH H s ls c) → E c od (less G ls)) v s') : L2N.CX P w outer H s E v s' := by
  obtain ⟨a, B, G, cls, d, rfl, fl, hok, ub, na, os, bare, q⟩ := h
  have st : ∀ c ∈ ls, G c = moreH H s ls c := fun c hc => by
    obtain ⟨o, y, _⟩ := M.in_ hc
    rw [y]; exact ub.frzs c _ _ y
  have stay : ∀ c ∈ ls, ∀ o, s.heap.get? c = some o → B.get? c = some o := fun c hc o g => by
    obtain ⟨o', y, g'⟩ := M.in_ hc
    rw [g] at g'; cases g'
    exact (hok c _ ((st c hc).trans y)).1
  have hl := M.cels st
  refine ⟨a, B, less G ls, cls, d, rfl, fl, hok_less hl hok, ⟨fun b o e n hb => ?_, fun b o e hb => ub.slot b o e hb, fun b o e n => ?_, ub.there, fun b xs y => ?_, fun b o u y => ?_, fun b ps y => ?_⟩, less_none na, os, bare, q st⟩
  · by_cases z : b ∈ ls
    · exact stay b z o e
    · exact ub.keep b o e (by rw [M.out z]; exact n) hb
  · by_cases z : b ∈ ls
    · exact less_in z
    · exact less_none (ub.free b o e (by rw [M.out z]; exact n))
  · obtain ⟨z, y2⟩ := M.up y
    rw [less_out z]; exact ub.tups b xs y2
  · obtain ⟨z, y2⟩ := M.up y
    rw [less_out z]; exact ub.frzs b o u y2
  · obtain ⟨z, y2⟩ := M.up y
    obtain ⟨more, y3⟩ := ub.tbls b ps y2
    exact ⟨more, by rw [less_out z]; exact y3⟩
end
/-- own cells may be told -/
theorem more_ok {X : Cx} {pins : List (Addr × Obj)} {σ : L2.St} {H : Hp} {s : Shared} {ls : List Addr} (I : Inv X pins σ H s) (hfn : ∀ y, X.fn y = true) (hc : ∀ c ∈ ls, ∃ o u y, s.heap.get? c = some o ∧ o.data = .cell (some u) ∧ X.env.cells.lookup y = some c) : MoreOk X.K X.prog X.w X.stack H s ls := by
  refine ⟨fun c h => ?_, fun c h G xs => ?_, I.hok⟩
  · obtain ⟨o, u, y, h1, h2, h3⟩ := hc c h
    refine ⟨o, u, h1, h2, I.freeC y c h3, fun z => ?_⟩
    rcases List.mem_cons.mp (I.stkSub c z) with e | e
    · exact I.cne y c h3 e
    · obtain ⟨_, o', ho, _⟩ := I.ok.funs.mem e
      exact absurd (Nat.lt_of_lt_of_le (Heap.lt_size ho) (I.ok.cab y c (hfn y) h3)) (Nat.lt_irrefl _)
  · obtain ⟨o, u, y, h1, h2, h3⟩ := hc c h
    by_cases sq : SqT X.K G c xs
    · refine .inl fun z => ?_
      rcases sq with (q | ⟨o', q⟩) | q
      · rcases z with z | ⟨o2, z⟩
        · rw [z] at q; cases q
        · rw [z] at q; cases q
      · rcases z with z | ⟨o2, z⟩
        · rw [z] at q; cases q
        · rw [z] at q
          have e := (HO.frz.inj (Option.some.inj q)).2
          cases e
      · obtain ⟨its, _, ⟨o2, ho2, _, n, hd2⟩, _⟩ := I.tuple (H := H) (.inr q)
        rw [h1] at ho2
        cases ho2
        rw [h2] at hd2
        cases hd2
    · exact .inr sq
end Ag

/-! a def called with lambdas of a frame that still runs -/
namespace Ag
open PySem PySem.Spec PyProof.Rows L2
theorem paired_at {α β : Type} {F : α → β → Prop} : ∀ {xs : List α} {ys : List β}, Paired F xs ys → ∀ (i : Nat) (x : α), xs[i]? = some x → ∃ y, ys[i]? = some y ∧ F x y
  | _, _, .nil, i, x, h => by simp at h
  | x :: _, y :: _, .cons h t, 0, z, e => by
    have e : x = z := by simpa using e
    exact ⟨y, by simp, e ▸ h⟩
  | _ :: _, _ :: _, .cons h t, i + 1, z, e => by
    obtain ⟨y, h1, h2⟩ := paired_at t i z (by simpa using e)
    exact ⟨y, by simpa using h1, h2⟩
section
variable {X : Cx} {W : WX} {pins : List (Addr × Obj)} {σ : L2.St} {H : Hp} {s : Shared} {q : Str} {cs : List (Nat × LSyn)} {m0 m : Mp} {H0 : Hp} {a : Addr} {fs : List Addr} {S : Sto} {en : En} {ls : List Addr} {cl : List Ob}
/-- the store with the lambdas and their list -/
theorem live_sim (si : Sim X.K m S H) (lv : LiveC X q (cs.map (·.2)) H m0 H0 m a fs) (M : MoreOk X.K X.prog X.w X.stack H s ls)
    (hp : Paired (fun (c : Nat × LSyn) (o : Ob) => ∃ ds l, o = .clo c.1 c.2 q ds ∧ CapC X H s c.2 l ∧ Reps X.K m H (l.map (·.v)) ds ∧ ∀ p ∈ l, p.c ∈ ls) cs cl) :
    Tr m (moreH H s ls) ⟨m.c ++ (fs ++ [a]), m0.h⟩ (moreH H s ls) ∧ Sim X.K ⟨m.c ++ (fs ++ [a]), m0.h⟩ (S ++ (cl ++ [.lst (refsN S.length cs.length)])) (moreH H s ls) := by
  have up : ∀ b u, H b = some u → moreH H s ls b = some u := fun b u z => (M.up z).2
  have s1 : Sim X.K m S (moreH H s ls) := si.all up
  have lenF : fs.length = cs.length := by have := paired_len lv.made; simpa using this
  have lenC : cl.length = cs.length := (paired_len hp).symm
  have inH : ∀ b ∈ fs ++ [a], b ∈ m.h := fun b hb => by
    rw [lv.hid]
    simp only [List.mem_append, List.mem_cons, List.not_mem_nil, or_false] at hb ⊢
    rcases hb with z | z
    · exact .inr (.inl z)
    · exact .inl z
  have subH : ∀ b ∈ m0.h, b ∈ m.h := fun b hb => by rw [lv.hid]; simp [hb]
  have tr : Tr m (moreH H s ls) ⟨m.c ++ (fs ++ [a]), m0.h⟩ (moreH H s ls) := ⟨⟨fs ++ [a], rfl, fun b hb => .inr (inH b hb)⟩, fun b hb => .inl (subH b hb), fun _ _ z _ => z, fun _ _ z => z, fun _ _ _ z => z, fun _ _ z => z⟩
  have ndF : (fs ++ [a]).Nodup := by
    have nd := lv.nd
    rw [List.nodup_cons] at nd
    rw [List.nodup_append]
    refine ⟨nd.2, by simp, fun b hb c hc z => ?_⟩
    rw [List.mem_singleton.mp hc] at z
    exact nd.1 (z ▸ hb)
  -- an address of a captured cell is in no way the store's
  have capOff : ∀ c ∈ ls, Off ⟨m.c ++ (fs ++ [a]), m0.h⟩ c := fun c hc => by
    obtain ⟨o, u, _, _, n, _⟩ := M.cel c hc
    have nh : c ∉ m.h := fun z => by
      obtain ⟨u, y⟩ := si.hid c z
      rw [n] at y; cases y
    refine ⟨fun z => ?_, fun z => nh (subH c z)⟩
    rcases List.mem_append.mp (show c ∈ m.c ++ (fs ++ [a]) from z) with y | y
    · obtain ⟨u, y2, _⟩ := si.trk y
      rw [n] at y2; cases y2
    · exact nh (inH c y)
  refine ⟨tr, ?_, ?_, fun i b o h1 h2 => ?_, fun b hb => s1.hid b (subH b hb), fun b hb z => ?_⟩
  · simp [si.len, lenF, lenC]
  · show (m.c ++ (fs ++ [a])).Nodup
    rw [List.nodup_append]
    exact ⟨si.nd, ndF, fun b hb c hc z => si.dis b hb (by rw [z]; exact inH c hc)⟩
  · have h1 : (m.c ++ (fs ++ [a]))[i]? = some b := h1
    by_cases hi : i < m.c.length
    · rw [List.getElem?_append_left hi] at h1
      rw [List.getElem?_append_left (by rw [← si.len]; exact hi)] at h2
      exact (s1.cell i b o h1 h2).tr tr rfl
    · rw [List.getElem?_append_right (by omega)] at h1
      rw [List.getElem?_append_right (by rw [← si.len]; omega)] at h2
      have e1 : S.length = m.c.length := si.len.symm
      rw [e1] at h2
      by_cases hj : i - m.c.length < fs.length
      · rw [List.getElem?_append_left hj] at h1
        rw [List.getElem?_append_left (by rw [lenC, ← lenF]; exact hj)] at h2
        obtain ⟨L, hL, d, pm, ctv, md1, md2⟩ := paired_at lv.made _ _ h1
        rw [List.getElem?_map] at hL
        cases y : cs[i - m.c.length]? with
        | none => rw [y] at hL; cases hL
        | some c =>
          rw [y] at hL
          have eL : c.2 = L := by simpa using hL
          subst eL
          obtain ⟨o', ho', ds, l, e, cp, rv, sub⟩ := paired_at hp _ _ y
          rw [h2] at ho'
          cases ho'
          subst e
          refine ⟨d, pm, ctv, _, l, up _ _ md1, up _ _ md2, cp.cv, fun p hpl => ⟨?_, capOff _ (sub p hpl)⟩, (Reps.tr (Ext.all (K := X.K) (S := S) up).tr rv).tr tr⟩
          unfold moreH
          rw [if_pos (sub p hpl), (cp.own p hpl).1]; rfl
      · have e2 : i - m.c.length = fs.length := by
          have := (List.getElem?_eq_some_iff.mp h1).1
          simp at this; omega
        rw [e2] at h1 h2
        rw [List.getElem?_append_right (Nat.le_refl _)] at h1
        rw [List.getElem?_append_right (by omega)] at h2
        have ea : a = b := by simpa using h1
        have eo : Ob.lst (refsN S.length cs.length) = o := by
          rw [lenC, ← lenF] at h2
          rw [← e1] at h2
          simpa [lenF] using h2
        subst ea eo
        refine ⟨fs.map V.ref, up _ _ lv.lst, ?_⟩
        -- each address by its place
        have go : ∀ (k : Nat) (gs : List Addr) (n : Nat), (∀ j g, gs[j]? = some g → (m.c ++ (fs ++ [a]))[n + j]? = some g) → gs.length = k → Reps X.K ⟨m.c ++ (fs ++ [a]), m0.h⟩ (moreH H s ls) (gs.map V.ref) ((List.range k).map fun j => .ref (n + j)) := by
          intro k
          induction k with
          | zero => intro gs n _ e; rw [List.eq_nil_of_length_eq_zero e]; exact .nil
          | succ k ih =>
            intro gs n hg e
            cases gs with
            | nil => cases e
            | cons g gs =>
              simp only [List.range_succ_eq_map, List.map_cons, List.map_map]
              refine .cons (.ref (by simpa using hg 0 g rfl)) ?_
              have := ih gs (n + 1) (fun j g hj => by have := hg (j + 1) g (by simpa using hj); rw [← this]; congr 1; omega) (by simpa using e)
              have ef : (List.range k).map ((fun j => D.ref (n + j)) ∘ Nat.succ) = (List.range k).map fun j => D.ref (n + 1 + j) := List.map_congr_left fun j _ => by simp only [Function.comp]; congr 1; omega
              rw [ef]; exact this
        unfold refsN
        refine go cs.length fs S.length (fun j g hj => ?_) lenF
        have lj : j < fs.length := (List.getElem?_eq_some_iff.mp hj).1
        rw [← si.len, List.getElem?_append_right (by omega), Nat.add_sub_cancel_left, List.getElem?_append_left lj]
        exact hj
  · have hb : b ∈ m.c ++ (fs ++ [a]) := hb
    rcases List.mem_append.mp hb with y | y
    · exact si.dis b y (subH b z)
    · refine lv.off b ?_ z
      simp only [List.mem_append, List.mem_cons, List.not_mem_nil, or_false] at y ⊢
      rcases y with y | y
      · exact .inr y
      · exact .inl y
/-- the lambdas of the first part out of sight -/
theorem Sim.hideP {K : PySem.W.Frag} {m : Mp} {H : Hp} {S T : Sto} (s : Sim K m (S ++ T) H) : Sim K m (hideC S ++ T) H := by
  refine ⟨by rw [s.len]; simp [hideC], s.nd, fun i a o h1 h2 => ?_, s.hid, s.dis⟩
  by_cases hi : i < S.length
  · rw [List.getElem?_append_left (by simp [hideC, hi])] at h2
    unfold hideC at h2
    rw [List.getElem?_map] at h2
    cases y : S[i]? with
    | none => rw [y] at h2; cases h2
    | some o' =>
      rw [y] at h2
      cases h2
      have c := s.cell i a o' h1 (by rw [List.getElem?_append_left hi]; exact y)
      cases o' with
      | clo k L q ds =>
        obtain ⟨d, pm, ctv, cl, l, c1, _⟩ := c
        exact ⟨PySem.W.kla_obj "<lambda>" q L.pr L.bd L.sc cl pm d ctv, c1, fun v z => by cases z⟩
      | _ => exact c
  · refine s.cell i a o h1 ?_
    have e : (hideC S).length = S.length := by simp [hideC]
    rw [List.getElem?_append_right (by omega)] at h2 ⊢
    rw [e] at h2
    exact h2
theorem run_live {j k : Nat} {f : Addr} {fd : FuncData} {ps : List Str} {fm : List D → Sto → Res D} {d : D} {v : V} {u : Value} {Q : VK} (B : Bd X W j) (F : FnG X.prog X.w X.K X.mg X.base k f fd ps (spOf X.K 2 fm)) (hk : k ≤ j) (I : Inv X pins σ H s) (hb : Binds X.K fd ps []) (hfn : ∀ y, X.fn y = true)
    (er : EnvR X.K m H σ en) (si : Sim X.K m S H) (lv : LiveC X q (cs.map (·.2)) H m0 H0 m a fs) (ok : ∀ c ∈ cs, LOk X.N X.env.scope c.2) (rv : RelV v u) (rd : Rep X.K m H v d) (h : Post X.K W σ m0 H0 (liveR cs q fm en S d) Q) :
    wpAny (model X.prog X.w) X.A (call (.ref f) [.ref a, u]) (EP X pins σ Q) X.xe s := by
  unfold liveR at h
  cases hc : capAll q en cs with
  | none => rw [hc] at h; exact h.elim
  | some cl =>
    rw [hc] at h
    simp only at h
    obtain ⟨ls, g1, g2⟩ := cap_all I er ok hc
    have M := more_ok I hfn g1
    obtain ⟨tr, s2'⟩ := live_sim si lv M g2
    have s2 := s2'.hideP
    have up : ∀ b u, H b = some u → moreH H s ls b = some u := fun b u z => (M.up z).2
    have lenF : fs.length = cs.length := by have := paired_len lv.made; simpa using this
    have subH : ∀ b ∈ m0.h, b ∈ m.h := fun b hb => by rw [lv.hid]; simp [hb]
    have nb : ∀ c ∈ ls, X.base.get? c = none := fun c hc => by
      obtain ⟨o, _, y, _, _, z⟩ := g1 c hc
      exact Heap.get?_none_of_le (Nat.le_trans I.ok.bsz (I.ok.cab y c (hfn y) z))
    -- behind the call
    have fin : ∀ {m3 : Mp} {G : Hp} {T0 U : Sto}, Ext ⟨m.c ++ (fs ++ [a]), m0.h⟩ (moreH H s ls) m3 G → Sim X.K m3 T0 G → (∀ c ∈ ls, G c = moreH H s ls c) → (T0.take S.length).all (Ob.below S.length) = true → showC S (hideC (T0.take S.length)) = some U →
        Cels X.K G ls ∧ cutM S.length m3 = ⟨m.c, m0.h⟩ ∧ Ext m0 H0 ⟨m.c, m0.h⟩ (less G ls) ∧ Sim X.K ⟨m.c, m0.h⟩ U (less G ls) := by
      intro m3 G T0 U e3 s3 st bl sh
      have hl := M.cels st
      have em : cutM S.length m3 = ⟨m.c, m0.h⟩ := by
        obtain ⟨ex, e4, _⟩ := e3.pre
        have h1 : m3.c.take S.length = m.c := by
          have e4 : m3.c = (m.c ++ (fs ++ [a])) ++ ex := e4
          rw [e4, ← si.len, List.append_assoc, List.take_append_of_le_length (Nat.le_refl _), List.take_length]
        have h2 : m3.h = m0.h := e3.hs
        show (⟨m3.c.take S.length, m3.h⟩ : Mp) = _
        rw [h1, h2]
      have inA : ∀ b, b ∈ m.c ++ (fs ++ [a]) ↔ b ∈ m.c ∨ b ∈ a :: fs := fun b => by
        simp only [List.mem_append, List.mem_cons, List.not_mem_nil, or_false]
        exact ⟨fun z => z.elim .inl fun z => .inr (z.elim .inr .inl), fun z => z.elim .inl fun z => .inr (z.elim .inr .inl)⟩
      have two : ∀ (b : Addr) (x : HO), H b = some x → G b = some x → less G ls b = some x := fun b x z y => by rw [less_out (M.up z).1]; exact y
      have t5 : Tr m H ⟨m.c, m0.h⟩ (less G ls) := by
        refine ⟨⟨[], by simp, by simp⟩, fun b hb => .inl (subH b hb), fun b x z off => two b x z (e3.keep b x (up b x z) fun y => ?_), fun b xs z => two b _ z (e3.tup b xs (up _ _ z)), fun b o x z => two b _ z (e3.frz b o x (up _ _ z)), fun b c z => two b _ z (e3.cod b c (up _ _ z))⟩
        rcases (inA b).mp y with w | w
        · exact off.1 w
        · refine off.2 ?_
          rw [lv.hid]
          rcases List.mem_cons.mp w with w | w
          · rw [w]; exact List.mem_cons_self
          · exact List.mem_cons_of_mem _ (List.mem_append_left _ w)
      have s4 := (s3.cut bl).less hl fun c hc => ?_
      · rw [em] at s4
        refine ⟨hl, em, ⟨lv.ext.pre, rfl, fun b x z => ?_, fun b x z n => ?_, fun b xs z => t5.tup b xs (lv.ext.tup b xs z), fun b o x z => t5.frz b o x (lv.ext.frz b o x z), fun b c z => t5.cod b c (lv.ext.cod b c z)⟩, si.show_ t5 rfl s4 sh⟩
        · obtain ⟨x2, y⟩ := lv.ext.trk b x z
          obtain ⟨x3, y2⟩ := e3.trk b x2 (up b x2 y)
          exact ⟨x3, by rw [less_out (M.up y).1]; exact y2⟩
        · have y := lv.ext.keep b x z n
          refine two b x y (e3.keep b x (up b x y) fun w => ?_)
          rcases (inA b).mp w with w | w
          · exact (lv.ext.memc z n) w
          · have := lv.new b w
            rw [z] at this; cases this
      · rw [em]
        obtain ⟨o, u, _, _, n, _⟩ := M.cel c hc
        refine ⟨fun z => ?_, fun z => ?_⟩
        · obtain ⟨u, y, _⟩ := si.trk z
          rw [n] at y; cases y
        · obtain ⟨u, y⟩ := si.hid c (subH c z)
          rw [n] at y; cases y
    have at_ : (m.c ++ (fs ++ [a]))[S.length + cs.length]? = some a := by
      rw [← si.len, List.getElem?_append_right (by omega), List.getElem?_append_right (by omega)]
      simp [lenF]
    have rd2 : Rep X.K ⟨m.c ++ (fs ++ [a]), m0.h⟩ (moreH H s ls) v d := (rd.to (Ext.all (K := X.K) (S := S) up)).tr tr
    have post : PostG X.K (WofE fun c od G => (∀ c ∈ ls, G c = moreH H s ls c) → W c od σ (less G ls)) (Rep X.K) [] ⟨m.c ++ (fs ++ [a]), m0.h⟩ (moreH H s ls) (fm [.ref (S.length + cs.length), d] (hideC S ++ (cl ++ [.lst (refsN S.length cs.length)]))) fun x G => (∀ c ∈ ls, G c = moreH H s ls c) → Q x (less G ls) := by
      cases hr : fm [.ref (S.length + cs.length), d] (hideC S ++ (cl ++ [.lst (refsN S.length cs.length)])) with
      | stuck => rw [hr] at h; exact h
      | ok r0 T0 =>
        intro x m3 G e3 s3 rx st
        rw [hr] at h
        simp only [cutR] at h
        by_cases bl : (T0.take S.length).all (Ob.below S.length) = true
        · rw [if_pos bl] at h
          cases fz : frzD S.length T0 r0 with
          | none => simp only [fz] at h; exact h.elim
          | some r =>
            simp only [fz, shown] at h
            cases sh : showC S (hideC (T0.take S.length)) with
            | none => simp only [sh] at h; exact h.elim
            | some U =>
              simp only [sh] at h
              obtain ⟨hl, em, e6, s6⟩ := fin e3 s3 st bl sh
              have r6 := Reps.less hl [r] [x] (.cons (frz_ok s3 rx fz) .nil)
              rw [em] at r6
              cases r6 with
              | cons r6 _ => exact h x _ _ e6 s6 r6
        · rw [if_neg bl] at h; exact h.elim
      | exc c fs' T0 =>
        intro od m3 G e3 s3 ex st
        rw [hr] at h
        simp only [cutR] at h
        by_cases bl : (T0.take S.length).all (Ob.below S.length) = true ∧ belows S.length (fs'.map (·.2)) = true
        · rw [if_pos bl] at h
          simp only [shown] at h
          cases sh : showC S (hideC (T0.take S.length)) with
          | none => simp only [sh] at h; exact h.elim
          | some U =>
            simp only [sh] at h
            obtain ⟨hl, em, e6, s6⟩ := fin e3 s3 st bl.1 sh
            have x6 := (ex.cut bl.2).less hl
            rw [em] at x6
            exact h od _ _ e6 s6 x6
        · rw [if_neg bl] at h; exact h.elim
    have hsp : spOf X.K 2 fm [.ref a, v] (moreH H s ls) (fun x G => (∀ c ∈ ls, G c = moreH H s ls c) → Q x (less G ls)) fun c od G => (∀ c ∈ ls, G c = moreH H s ls c) → W c od σ (less G ls) :=
      ⟨rfl, [.ref (S.length + cs.length), d], _, _, .cons (.ref at_) (.cons rd2 .nil), s2, post⟩
    have e0 : Env0 X.prog X.w X.K X.mg X.base X.A X.stack s (moreH H s ls) := by
      have e := I.env0
      refine ⟨e.frames, e.mod, fun b o hb => ⟨(e.bs b o hb).1, ?_⟩, e.bsz, e.funs, fun b hb => ?_, M.hokM, e.bare⟩
      · rw [M.out fun z => by rw [nb b z] at hb; cases hb]; exact (e.bs b o hb).2
      · rw [M.out fun z => let ⟨_, _, _, _, _, nf⟩ := M.cel b z; nf hb]; exact e.frf b hb
    have hl2 : ([Value.ref a, u] : List Value).length = ps.length := F.len _ _ _ _ hsp
    have b2 := hb s [.ref a, u] I.kIn (by rw [List.append_nil]; exact hl2)
    rw [List.append_nil] at b2
    refine wpAny_call (codeAny_mono (F.run X.A X.stack s (moreH H s ls) ⟨[.ref a, u], []⟩ [.ref a, u] [.ref a, v] _ _ B.gd (B.room.mono hk) e0 b2 (.cons rfl (.cons rv .nil)) hsp) fun r s' hq => ?_)
    cases r with
    | error e => exact L2N.passAt B.tk σ pins H s e s' I (CX.drop M hq)
    | ok fl => cases fl <;> first | exact I.after (CE.drop M hq) | exact hq.elim
end
/-! ### x(acts, due); tests and statements -/
section
variable {X : Cx} {W : WX} {i j k : Nat} {q x y : Str} {cs : List (Nat × LSyn)} {Ls : List LSyn} {f : Addr} {fd : FuncData} {ps : List Str} {fm : List D → Sto → Res D} {e a b c : Expr} {es : List Expr} {st : Stmt} {rest sa sb : List Stmt} {me : EM} {t u : BM} {s1 s2 : SM} {p p1 pos : Pos}
def mLive (cs : List (Nat × LSyn)) (q : Str) (fm : List D → Sto → Res D) (me : EM) : EM := fun en S => (me en S).bind fun d S1 => liveR cs q fm en S1 d
theorem e_live (B : Bd X W j) (F : FnG X.prog X.w X.K X.mg X.base k f fd ps (spOf X.K 2 fm)) (hk : k ≤ j) (hg : Gl X x) (hm : X.mg x = some (.ref f)) (hkp : PySem.W.keepIn X.K (.ref f) = true) (hb : Binds X.K fd ps []) (hfn : ∀ y, X.fn y = true) (ok : ∀ c ∈ cs, LOk X.N X.env.scope c.2) (hN : X.N[i]? = some y) (hv : Vis X.env.scope y)
    (he : PE X e (tE X.K W me)) (hL : Ls = cs.map (·.2)) (hd : (y == ("__debug__" : Str)) = false := by decide) (hcd : (y == ("__classdict__" : Str)) = false := by decide) (hdb : (x == ("__debug__" : Str)) = false := by decide)
    (h1 : starEach [.Name y p1, e] X.env = (false, eval (.Name y p1) X.env) :: starEach [e] X.env := by rfl) (h2 : starEach [e] X.env = (false, eval e X.env) :: starEach [] X.env := by rfl) (hpl : (backTo pos (starEach [e] X.env)).any (·.1) = false := by rfl) :
    PE X (.Call (.Name x p) [.Name y p1, e] [] pos) (tEg X W i q Ls (mLive cs q fm me)) := by
  subst hL
  refine ⟨fun pins s σ H Q I h => ?_⟩
  obtain ⟨en, S, m0, H0, m, a, fs, er0, er, si, lv, h⟩ := h
  refine wpAny_Call_Name_kw (ld_glob I hg hm ?_ hdb)
  let R : List V → Hp → Prop := fun vs H1 => ∃ d S1 m1 v, vs = [.ref a, v] ∧ Ext m H m1 H1 ∧ Sim X.K m1 S1 H1 ∧ Rep X.K m1 H1 v d ∧ Post X.K W σ m0 H0 (liveR cs q fm en S1 d) Q
  have args := (pa_cons (pe_var (pos := p1) (i := i) hN hv hd hcd) (pa_cons he pa_nil h2) h1).run pos pins s σ H R I ⟨.ref a, lv.var, en, S, m, er, si, by
    show Post X.K W σ m H (me en S) _
    unfold mLive at h
    cases hme : me en S with
    | stuck => rw [hme] at h; exact h.elim
    | ok d S1 =>
      rw [hme] at h
      exact fun v m1 H1 e1 s1 r1 => ⟨d, S1, m1, v, rfl, e1, s1, r1, h⟩
    | exc c fs' S1 =>
      rw [hme] at h
      intro od m1 H1 e1 s1 x1
      have lv1 := lv.c.to si e1
      have sub : ∀ b ∈ m0.h, b ∈ m1.h := fun b hb => by rw [lv1.hid]; simp [hb]
      exact h od ⟨m1.c, m0.h⟩ H1 lv1.ext (s1.unhide sub) (x1.tr (Tr.unhide sub))⟩
  refine PySem.W.callWith_K (h₀ := X.base) I.ok.mod.kin hkp (thn args fun us s1 ⟨vs, H1, I1, r, d, S1, m1, v, ev, e1, sm, r1, h1⟩ => ⟨I1.kIn, ?_⟩) h1 hpl
  subst ev
  cases r with
  | cons ra rr =>
    cases rr with
    | cons rb rn =>
      cases rn
      cases ra
      exact run_live B F hk I1 hb hfn (er.to e1) sm (lv.c.to si e1) ok rb r1 h1
theorem s_ifG (hc : PT X c (tTg X W i q Ls t)) (ha : PSs X sa (tS X.K W s1)) (hb : PSs X sb (tS X.K W s2)) : PS X (.If c sa sb pos) (tSg X W i q Ls (sIf t s1 s2)) := by
  refine PS.imp (ps_if hc ha hb) ?_
  rintro E σ H ⟨en, S, m0, H0, m, a, fs, er0, er, si, lv, h⟩
  refine ⟨en, S, m0, H0, m, a, fs, er0, er, si, lv, (bS_to er0 h).mono ?_⟩
  rintro v H1 ⟨S1, m1, e1, s1, h1⟩
  cases v with
  | true => exact ⟨en, S1, m1, er0.to e1, s1, h1⟩
  | false => exact ⟨en, S1, m1, er0.to e1, s1, h1⟩
theorem ss_oneG (h1 : PS X st (tSg X W i q Ls s1)) : PSs X [st] (tSg X W i q Ls s1) := pss_one h1
end
end Ag

/-! x([lambda: ..], due); defs that give lambdas back -/
namespace Ag
open PySem PySem.Spec PyProof.Rows L2
section
variable {X : Cx} {W : WX} {iT j k : Nat} {q x : Str} {c : Nat × LSyn} {f cA P : Addr} {fd : FuncData} {ps : List Str} {fm : List D → Sto → Res D} {e : Expr} {me : EM} {p p1 p2 pos : Pos}
end
end Ag

/-! defs that give lambdas back -/
namespace Ag
open PySem PySem.Spec PyProof.Rows L2
/-- what such a def gives: a value with a lambda behind it, or a list of lambdas -/
inductive MRes where
  | pair (d : D) (c : Nat × LSyn) (ob : Ob) (S : Sto) | lst (cs : List (Nat × LSyn)) (cl : List Ob) (S : Sto) | stuck
def GoalC (X : Cx) (q : Str) (m0 : Mp) (H0 : Hp) (r : MRes) (R : Flow → Shared → Prop) : Prop := match r with
  | .lst cs cl S => ∀ σ en m H s a fs, Inv X [] σ H s → EnvR X.K m H σ en → Sim X.K m S H → LiveC X q (cs.map (·.2)) H m0 H0 m a fs → capAll q en cs = some cl → (∀ c ∈ cs, LOk X.N X.env.scope c.2) → R (.ret (.ref a)) s
  | .pair d c ob S => ∀ σ en m H s a f t v, Inv X [] σ H s → EnvR X.K m H σ en → Sim X.K m S H → Made X q H f c.2 → m.h = f :: m0.h → f ∉ m0.h → H0 f = none → Ext m0 H0 ⟨m.c, m0.h⟩ H → capAll q en [c] = some [ob] → Rep X.K m H v d → H a = some (.frz t (.tup [v, .ref f])) → LOk X.N X.env.scope c.2 → R (.ret (.ref a)) s
  | .stuck => False
theorem GoalC.to {X : Cx} {q : Str} {m0 m1 : Mp} {H0 H1 : Hp} {S1 : Sto} {r : MRes} {R : Flow → Shared → Prop} (h : GoalC X q m0 H0 r R) (e : Ext m0 H0 m1 H1) : GoalC X q m1 H1 r R := by
  have back : ∀ {b : Addr}, H1 b = none → H0 b = none := fun {b} n => by
    cases y : H0 b with
    | none => rfl
    | some u =>
      obtain ⟨u2, y2⟩ := e.trk b u y
      rw [n] at y2; cases y2
  have ex : ∀ {c : List Addr} {H : Hp}, Ext m1 H1 ⟨c, m1.h⟩ H → Ext m0 H0 ⟨c, m0.h⟩ H := fun {c H} x => by
    have z := e.trans x
    rw [e.hs] at z
    exact z
  cases r with
  | lst cs cl S => exact fun σ en m H s a fs I er si lv ca ok => h σ en m H s a fs I er si ⟨lv.lst, lv.made, by rw [lv.hid, e.hs], lv.nd, fun b hb => back (lv.new b hb), fun b hb => by rw [← e.hs]; exact lv.off b hb, ex lv.ext⟩ ca ok
  | pair d c ob S => exact fun σ en m H s a f t v I er si md hh ho hn x ca rv at_ ok => h σ en m H s a f t v I er si md (by rw [hh, e.hs]) (by rw [← e.hs]; exact ho) (back hn) (ex x) ca rv at_ ok
  | stuck => exact h
section
variable {X : Cx} {W : WX} {q y : Str} {st : Stmt} {rest body : List Stmt} {mm mt : En → Sto → MRes} {sM : SM} {bm : BM} {c : Expr} {pos : Pos}
end
/-! return e, lambda: .. -/
section
variable {X : Cx} {W : WX} {q : Str} {e : Expr} {me : EM} {c : Nat × LSyn} {iT kk : Nat} {cA P : Addr} {p1 p2 pos : Pos}
end
/-! acts = [lambda: ..]; acts.append(lambda: ..); ..; return acts -/
section
variable {X : Cx} {q y : Str} {st : Stmt} {rest : List Stmt} {mm : En → Sto → MRes} {i iT : Nat} {P : Addr} {c : Nat × LSyn} {cs cs' : List (Nat × LSyn)} {p1 pos : Pos}
end
/-! ### the def -/
section
variable {P : Program} {w : World} {K : PySem.W.Frag} {mg : Str → Option Value} {base : Heap} {x qual q : Str} {params : Arguments} {body : List Stmt} {scope : Scope} {kws : List (Str × V)} {f c : Addr} {fd : FuncData}
end
end Ag

/-! where a lambda stands in a program; small words for the generator -/
namespace Ag
open PySem PySem.Spec PyProof.Rows L2
def bodS : Stmt → List Stmt
  | .For _ _ b _ _ => b
  | .While _ b _ _ => b
  | .If _ b _ _ => b
  | .Try b _ _ _ _ => b
  | _ => []
def noneE : Expr := .Name "" ⟨0, 0, 0, 0⟩
def valS : Stmt → Expr
  | .Assign _ v _ => v
  | .Return (some v) _ => v
  | .Expr v _ => v
  | .If t _ _ _ => t
  | .While t _ _ _ => t
  | _ => noneE
def subE (k : Nat) : Expr → Expr
  | .Call _ l _ _ => l.getD k noneE
  | .List l _ => l.getD k noneE
  | .Tuple l _ _ => l.getD k noneE
  | .BoolOp _ l _ => l.getD k noneE
  | .UnaryOp _ a _ => a
  | .Compare a _ _ _ => a
  | .Subscript a _ _ => a
  | _ => noneE
def nthS (l : List Stmt) (k : Nat) : Stmt := l.getD k (.Pass ⟨0, 0, 0, 0⟩)
def lamOf (ys : List Str) (cp : List Nat) : Expr → LSyn
  | .Lambda p b s _ => ⟨p, b, s, ys, cp⟩
  | _ => ⟨default, default, default, ys, cp⟩
theorem bw_blk {X : Cx} {k : Nat} (b : Bw X k) {s : Shared} {H : Hp} {scope : Scope} {C : Addr} {cl : List (Str × Addr)} {fp : List Addr} : Bw (X.blk s H scope (compEnvC scope cl C X.env) fp) k := ⟨b.room, b.gd⟩
theorem tb_nil {P : Program} {w : World} {K : PySem.W.Frag} {mg : Str → Option Value} {base : Heap} {k : Nat} : ∀ p ∈ ([] : List (LSyn × Str × EM)), BodOk P w K mg base p.2.1 k p.1 p.2.2 := fun p h => absurd h (by simp)
theorem tb_cons {P : Program} {w : World} {K : PySem.W.Frag} {mg : Str → Option Value} {base : Heap} {k : Nat} {L : LSyn} {q : Str} {me : EM} {l : List (LSyn × Str × EM)} (h : BodOk P w K mg base q k L me) (t : ∀ p ∈ l, BodOk P w K mg base p.2.1 k p.1 p.2.2) : ∀ p ∈ (L, q, me) :: l, BodOk P w K mg base p.2.1 k p.1 p.2.2 := fun p hp => by
  rcases List.mem_cons.mp hp with e | e
  · rw [e]; exact h
  · exact t p e
theorem cs_nil {N : List Str} {sc : Scope} : ∀ c ∈ ([] : List (Nat × LSyn)), LOk N sc c.2 := fun c h => absurd h (by simp)
theorem cs_cons {N : List Str} {sc : Scope} {k : Nat} {L : LSyn} {l : List (Nat × LSyn)} (h : LOk N sc L) (t : ∀ c ∈ l, LOk N sc c.2) : ∀ c ∈ (k, L) :: l, LOk N sc c.2 := fun c hc => by
  rcases List.mem_cons.mp hc with e | e
  · rw [e]; exact h
  · exact t c e
section
variable {X : Cx}
/-- x == (), whatever the tuple x holds -/
def fEqT (x y : D) (S : Sto) : Option D := match x, y with
  | .tup l, .tup [] => some (.bl l.isEmpty)
  | x, y => fEq x y S
theorem o_eqT (hu : X.A.units + 64 < cLine) : OpR X (compareOp .Eq) (rO2 X.K fEqT) := by
  intro pins s σ H x y v u Q I rx ry ⟨d, e, S, m, r, si, hx, hy, hf, hq⟩
  by_cases c : ∃ l, d = .tup l ∧ e = .tup []
  · obtain ⟨l, rfl, rfl⟩ := c
    have hf : some (D.bl l.isEmpty) = some r := hf
    cases hf
    cases hx with
    | tup h1 _ h2 =>
    cases hy with
    | tup h3 _ h4 =>
    cases rx; cases ry
    cases h4
    obtain ⟨xs, v1, ⟨o1, a1, a2, n1, a3⟩, _⟩ := I.tuple h1
    obtain ⟨ys, v2, ⟨o2, b1, b2, n2, b3⟩, _⟩ := I.tuple h3
    have la : xs.length = l.length := by rw [← v1.length, h2.len]
    have lb : ys = [] := List.eq_nil_of_length_eq_zero (by rw [← v2.length]; rfl)
    subst lb
    have h := SeqAt.RcAt.tuples (A := X.A) (s := s) (e := fun _ => true) ⟨o1, a1, a2, n1, a3⟩ ⟨o2, b1, b2, n2, b3⟩ (by omega) (fun j h1 h2 => absurd h2 (by simp)) X.prog X.w X.xe (fun v s' => EP X pins σ Q v s')
    have e : ((List.range (min xs.toArray.size ([] : List Value).toArray.size)).all (fun _ => true) && xs.toArray.size == ([] : List Value).toArray.size) = l.isEmpty := by
      cases l with
      | nil =>
        have : xs = [] := List.eq_nil_of_length_eq_zero la
        rw [this]; rfl
      | cons z l =>
        have : 0 < xs.length := by rw [la]; simp
        cases xs with
        | nil => simp at this
        | cons x xs => simp
    exact h (by rw [e]; exact ⟨.bl l.isEmpty, H, I, rfl, hq _ H .refl si (.bl _)⟩)
  · have : fEqT d e S = fEq d e S := by
      unfold fEqT
      split
      · exact absurd ⟨_, rfl, rfl⟩ c
      · rfl
    rw [this] at hf
    exact o_eq hu pins s σ H x y v u Q I rx ry ⟨d, e, S, m, r, si, hx, hy, hf, hq⟩
end
end Ag

namespace Ag.k04
open PySem PySem.Spec PyProof.Rows L2
/-- codes, their tables, the names of the lambdas -/
def S0 : Sto := tabs3.map fun t => .tab t.2.1 t.2.2
def errR : List (Str × Ty × Bool) := rowsE errL
def topD (i : Nat) : Stmt := PySem.Challenge.pw_alwaysagree_k04_ways_refused.main.body.getD i (.Pass ⟨0, 0, 0, 0⟩)
def lam_0 : LSyn := lamOf ["_law_heads_here", "_law_thing"] [5, 2] (subE 0 (valS (nthS (bodS (nthS (defBody (topD 48)) 0)) 4)))
def lam_1 : LSyn := lamOf ["_law_thing", "_law_heads_here"] [2, 5] (subE 0 (valS (nthS (bodS (nthS (defBody (topD 48)) 0)) 5)))
def N_InvalidWaysd_initd : List Str := ["self", "index"]
def N_is_integer : List Str := ["value"]
def s_is_integer : SM := (sRet (mAndV (mCB (fIsiZ isoC isoT) (mCons (mVar 0) (mCons (mC (.ty "int")) mNil))) (mNotV (mCB (fIsiZ isoC isoT) (mCons (mVar 0) (mCons (mC (.ty "bool")) mNil))))))
def F_is_integer : List D → Sto → Res D := runB 1 s_is_integer
def N_is_within : List Str := ["value", "least", "most"]
def s_is_within : SM := (sRet (mAndV (mCall 1 F_is_integer (mCons (mVar 0) mNil)) (mChain fLe fLe (mVar 1) (mVar 0) (mVar 2))))
def F_is_within : List D → Sto → Res D := runB 3 s_is_within
def N_is_row : List Str := ["value", "count", "weight"]
def s_is_row : SM := (sSeq (sIf (mOrB (mNotB (mB (mCB (fIsiZ isoC isoT) (mCons (mVar 0) (mCons (mC (.ty "tuple")) mNil))))) (mB (mOp fNe (mCB (f1 gLen) (mCons (mVar 0) mNil)) (mVar 1)))) (sRet (mC (.bl false))) sNil)
  (sRet (mAndV (mCB (f1 gAll) (mCons (mLc (mItV (mVar 0)) [2] (gNm 2) mYes (mCall 3 F_is_within (mCons (mVar 2) (mCons (mC (.int 0)) (mCons (mC (.int 1000000000)) mNil))))) mNil)) (mOp fGt (mCB (f1 gSum) (mCons (mVar 0) mNil)) (mC (.int 0))))))
def F_is_row : List D → Sto → Res D := runB 3 s_is_row
def N_is_way : List Str := ["value", "count", "row"]
def s_is_way : SM := (sRet (mAndV (mCB (fIsiZ isoC isoT) (mCons (mVar 0) (mCons (mC (.ty "tuple")) mNil))) (mAndV (mOp fEq (mCB (f1 gLen) (mCons (mVar 0) mNil)) (mVar 1)) (mCB (f1 gAll) (mCons (mLc (mItV (mVar 0)) [2] (gNm 2) mYes (mCall 2 F_is_row (mCons (mVar 2) (mCons (mVar 1) mNil)))) mNil)))))
def F_is_way : List D → Sto → Res D := runB 3 s_is_way
def N_wrong_way : List Str := ["ways", "count", "at", "way"]
def s_wrong_way : SM := (sSeq (sIf (mOrB (mNotB (mB (mCB (fIsiZ isoC isoT) (mCons (mVar 0) (mCons (mC (.ty "tuple")) mNil))))) (mB (mOp fEq (mCB (f1 gLen) (mCons (mVar 0) mNil)) (mC (.int 0))))) (sRet (mTup (mCons (mC .non) mNil))) sNil)
  (sSeq (sFor (mItA en1 (mCons (mVar 0) mNil)) (gUnp 2 (gsCons (gNm 2) (gsCons (gNm 3) gsNil))) (sIf (mOrB (mNotB (mB (mCall 2 F_is_way (mCons (mVar 3) (mCons (mVar 1) mNil))))) (mB (mOp fGe (mVar 2) (mC (.int 6))))) (sRet (mTup (mCons (mVar 2) mNil))) sNil))
  (sRet (mTup mNil))))
def F_wrong_way : List D → Sto → Res D := runB 4 s_wrong_way
def N_InvalidMindsd_initd : List Str := ["self", "index"]
def N_is_name : List Str := ["value", "sign"]
def s_is_name : SM := (sSeq (sIf (mOrB (mNotB (mB (mCB (fIsiZ isoC isoT) (mCons (mVar 0) (mCons (mC (.ty "str")) mNil))))) (mNotB (mB (mChain fLe fLe (mC (.int 1)) (mCB (f1 gLen) (mCons (mVar 0) mNil)) (mC (.int 8)))))) (sRet (mC (.bl false))) sNil)
  (sRet (mAndV (mOp fIn (mOp fIx (mVar 0) (mC (.int 0))) (mC (.str "abcdefghijklmnopqrstuvwxyz"))) (mCB (f1 gAll) (mCons (mLc (mItV (mVar 0)) [1] (gNm 1) mYes (mOrV (mOp fIn (mVar 1) (mC (.str "abcdefghijklmnopqrstuvwxyz"))) (mOp fIn (mVar 1) (mC (.str "0123456789"))))) mNil)))))
def F_is_name : List D → Sto → Res D := runB 2 s_is_name
def N_wrong_mind : List Str := ["minds", "at", "name"]
def s_wrong_mind : SM := (sSeq (sIf (mOrB (mNotB (mB (mCB (fIsiZ isoC isoT) (mCons (mVar 0) (mCons (mC (.ty "tuple")) mNil))))) (mB (mOp fEq (mCB (f1 gLen) (mCons (mVar 0) mNil)) (mC (.int 0))))) (sRet (mTup (mCons (mC .non) mNil))) sNil)
  (sSeq (sFor (mItA en1 (mCons (mVar 0) mNil)) (gUnp 2 (gsCons (gNm 1) (gsCons (gNm 2) gsNil))) (sIf (mOrB (mNotB (mB (mCall 1 F_is_name (mCons (mVar 2) mNil)))) (mOrB (mB (mOp fGe (mVar 1) (mC (.int 6)))) (mB (mOp fIn (mVar 2) (mSl (mVar 0) oNone (oSome (mVar 1))))))) (sRet (mTup (mCons (mVar 1) mNil))) sNil))
  (sRet (mTup mNil))))
def F_wrong_mind : List D → Sto → Res D := runB 3 s_wrong_mind
def N_Councild_initd : List Str := ["self", "minds", "ways", "wrong"]
def s_Councild_initd : SM := (sSeq (sAsg (mCall 1 F_wrong_mind (mCons (mVar 1) mNil)) (gNm 3))
  (sSeq (sIf (mB (mOp fNe (mVar 3) (mTup mNil))) (sRaise "InvalidMinds" "index" (mOp fIx (mVar 3) (mC (.int 0)))) sNil)
  (sSeq (sAsg (mCall 2 F_wrong_way (mCons (mVar 2) (mCons (mCB (f1 gLen) (mCons (mVar 1) mNil)) mNil))) (gNm 3))
  (sSeq (sIf (mB (mOp fNe (mVar 3) (mTup mNil))) (sRaise "InvalidWays" "index" (mOp fIx (mVar 3) (mC (.int 0)))) sNil)
  (sSeq (sFldM ["Council"] "heads" (mVar 0) (mVar 1))
  (sFldM ["Council"] "tables" (mVar 0) (mVar 2)))))))
def F_Councild_initd : List D → Sto → Res D := runB 4 s_Councild_initd
def N_Council_ways : List Str := ["self"]
def s_Council_ways : SM := (sRet (mUn (fFld ["Council"] "tables") (mVar 0)))
def F_Council_ways : List D → Sto → Res D := runB 1 s_Council_ways
def lb_0 : EM := (mProp "Council" F_Council_ways (mMake "Council" true 2 F_Councild_initd (mCons (mVar 0) (mCons (mVar 1) mNil))))
def lb_1 : EM := (mProp "Council" F_Council_ways (mMakeK "Council" true 2 [1, 0] F_Councild_initd (mCons (mVar 0) (mCons (mVar 1) mNil))))
noncomputable def tbL : List (LSyn × Str × EM) := [(lam_0, "_law_right.<locals>.<lambda>", lb_0), (lam_1, "_law_right.<locals>.<lambda>", lb_1)]
def N_ended_l : List Str := ["_law_act", "e", "_law_came", "_law_names", "_law_word_here", "_law_bases", "_law_base", "_law_pair_here", "_law_k"]
noncomputable def s_ended_l : SM := (sSeq (sTryE csE 1 (sAsg (mCloC tbL 0) (gNm 2)) (sSeq (sAsg (mLst (mCons (mLst (mCons (mCB (fIsiE errR (fIsiZ isoC isoT)) (mCons (mVar 1) (mCons (mC (.gl "InvalidText")) mNil))) (mCons (mC (.str "text")) mNil))) (mCons (mLst (mCons (mCB (fIsiE errR (fIsiZ isoC isoT)) (mCons (mVar 1) (mCons (mC (.gl "InvalidNumber")) mNil))) (mCons (mC (.str "number")) mNil))) mNil))) (gNm 3))
  (sSeq (sAsg (mOp fAdd (mVar 3) (mLst (mCons (mLst (mCons (mCB (fIsiE errR (fIsiZ isoC isoT)) (mCons (mVar 1) (mCons (mC (.gl "InvalidIndex")) mNil))) (mCons (mC (.str "index")) mNil))) (mCons (mLst (mCons (mCB (fIsiE errR (fIsiZ isoC isoT)) (mCons (mVar 1) (mCons (mC (.gl "NotACouncil")) mNil))) (mCons (mC (.str "council")) mNil))) mNil)))) (gNm 3))
  (sSeq (sAsg (mOp fAdd (mVar 3) (mLst (mCons (mLst (mCons (mCB (fIsiE errR (fIsiZ isoC isoT)) (mCons (mVar 1) (mCons (mC (.gl "InvalidMinds")) mNil))) (mCons (mC (.str "minds")) mNil))) (mCons (mLst (mCons (mCB (fIsiE errR (fIsiZ isoC isoT)) (mCons (mVar 1) (mCons (mC (.gl "InvalidWays")) mNil))) (mCons (mC (.str "ways")) mNil))) mNil)))) (gNm 3))
  (sSeq (sAsg (mOp fAdd (mVar 3) (mLst (mCons (mLst (mCons (mCB (fIsiE errR (fIsiZ isoC isoT)) (mCons (mVar 1) (mCons (mC (.gl "InvalidWord")) mNil))) (mCons (mC (.str "word")) mNil))) (mCons (mLst (mCons (mCB (fIsiE errR (fIsiZ isoC isoT)) (mCons (mVar 1) (mCons (mC (.gl "InvalidThoughts")) mNil))) (mCons (mC (.str "thoughts")) mNil))) mNil)))) (gNm 3))
  (sSeq (sAsg (mOp fAdd (mVar 3) (mLst (mCons (mLst (mCons (mCB (fIsiE errR (fIsiZ isoC isoT)) (mCons (mVar 1) (mCons (mC (.gl "UnknownName")) mNil))) (mCons (mC (.str "unknown")) mNil))) (mCons (mLst (mCons (mCB (fIsiE errR (fIsiZ isoC isoT)) (mCons (mVar 1) (mCons (mC (.gl "NoDays")) mNil))) (mCons (mC (.str "no days")) mNil))) mNil)))) (gNm 3))
  (sSeq (sAsg (mBM fJoin okStr (mC (.str "")) (mCons (mLc (mItH (mOp fAdd (mVar 3) (mLst (mCons (mLst (mCons (mCB (fIsiE errR (fIsiZ isoC isoT)) (mCons (mVar 1) (mCons (mC (.gl "TooMany")) mNil))) (mCons (mC (.str "many")) mNil))) mNil)))) [7] (gNm 7) (mB (mOp fIx (mVar 7) (mC (.int 0)))) (mOp fIx (mVar 7) (mC (.int 1)))) mNil)) (gNm 4))
  (sSeq (sAsg (mLst (mCons (mCB (fIsiE errR (fIsiZ isoC isoT)) (mCons (mVar 1) (mCons (mC (.gl "WrongValue")) mNil))) (mCons (mCB (fIsiE errR (fIsiZ isoC isoT)) (mCons (mVar 1) (mCons (mC (.gl "WrongName")) mNil))) (mCons (mCB (fIsiE errR (fIsiZ isoC isoT)) (mCons (mVar 1) (mCons (mC (.gl "NoAnswer")) mNil))) mNil)))) (gNm 5))
  (sSeq (sAsg (mIf (mB (mOp fEq (mVar 4) (mC (.str "unknown")))) (mC (.int 1)) (mIf (mB (mOp fIn (mVar 4) (mLst (mCons (mC (.str "no days")) (mCons (mC (.str "many")) mNil))))) (mC (.int 2)) (mC (.int 0)))) (gNm 6))
  (sSeq (sIf (mB (mOp fNe (mVar 5) (mLc (mItA rg1 (mCons (mC (.int 3)) mNil)) [8] (gNm 8) mYes (mOp fEq (mVar 8) (mVar 6))))) (sRet (mLst (mCons (mC (.str "odd")) (mCons (mC (.str "")) mNil)))) sNil)
  (sSeq (sIf (mB (mOp fEq (mVar 4) (mC (.str "no days")))) (sRet (mLst (mCons (mVar 4) (mCons (mC (.str "")) mNil)))) sNil)
  (sRet (mLst (mCons (mVar 4) (mCons (mIf (mB (mOp fIn (mVar 4) (mLst (mCons (mC (.str "minds")) (mCons (mC (.str "ways")) (mCons (mC (.str "word")) (mCons (mC (.str "thoughts")) mNil))))))) (mCB (f1 gRepr) (mCons (mUn (fXf ["InvalidMinds", "InvalidWays"] "index") (mVar 1)) mNil)) (mCB (f1 gRepr) (mCons (mUn (fXf [] "given") (mVar 1)) mNil))) mNil)))))))))))))))
  (sRet (mLst (mCons (mC (.str "told")) (mCons (mCB (f1 gRepr) (mCons (mVar 2) mNil)) mNil)))))
noncomputable def F_ended_l : List D → Sto → Res D := scop (runB 9 s_ended_l)
def N_is_ended_l : List Str := ["_law_acts", "_law_due_here", "_law_act"]
noncomputable def s_is_ended_l : SM := (sRet (mOp fEq (mLc (mItV (mVar 0)) [2] (gNm 2) mYes (mCall 1 F_ended_l (mCons (mVar 2) mNil))) (mOp fMul (mLst (mCons (mVar 1) mNil)) (mCB (f1 gLen) (mCons (mVar 0) mNil)))))
noncomputable def F_is_ended_l : List D → Sto → Res D := runB 3 s_is_ended_l
def N_is_row_l : List Str := ["_law_row_here", "_law_size", "_law_one"]
def s_is_row_l : SM := (sSeq (sIf (mOrB (mNotB (mB (mCB (fIsiZ isoC isoT) (mCons (mVar 0) (mCons (mC (.ty "tuple")) mNil))))) (mB (mOp fNe (mCB (f1 gLen) (mCons (mVar 0) mNil)) (mVar 1)))) (sRet (mC (.bl false))) sNil)
  (sSeq (sFor (mItV (mVar 0)) (gNm 2) (sIf (mOrB (mNotB (mB (mCB (fIsiZ isoC isoT) (mCons (mVar 2) (mCons (mC (.ty "int")) mNil))))) (mOrB (mB (mCB (fIsiZ isoC isoT) (mCons (mVar 2) (mCons (mC (.ty "bool")) mNil)))) (mNotB (mB (mChain fLe fLe (mC (.int 0)) (mVar 2) (mOp fPow (mC (.int 10)) (mC (.int 9)))))))) (sRet (mC (.bl false))) sNil))
  (sRet (mOp fGt (mCB (f1 gSum) (mCons (mVar 0) mNil)) (mC (.int 0))))))
def F_is_row_l : List D → Sto → Res D := runB 3 s_is_row_l
def N_due_l : List Str := ["_law_thing", "_law_size", "_law_at", "_law_row_here"]
def s_due_l : SM := (sSeq (sIf (mOrB (mNotB (mB (mCB (fIsiZ isoC isoT) (mCons (mVar 0) (mCons (mC (.ty "tuple")) mNil))))) (mB (mOp fEqT (mVar 0) (mTup mNil)))) (sRet (mLst (mCons (mC (.str "ways")) (mCons (mC (.str "None")) mNil)))) sNil)
  (sSeq (sFor (mItA rg1 (mCons (mCB (f1 gLen) (mCons (mVar 0) mNil)) mNil)) (gNm 2) (sSeq (sIf (mOrB (mB (mOp fEq (mVar 2) (mC (.int 6)))) (mOrB (mNotB (mB (mCB (fIsiZ isoC isoT) (mCons (mOp fIx (mVar 0) (mVar 2)) (mCons (mC (.ty "tuple")) mNil))))) (mB (mOp fNe (mCB (f1 gLen) (mCons (mOp fIx (mVar 0) (mVar 2)) mNil)) (mVar 1))))) (sRet (mLst (mCons (mC (.str "ways")) (mCons (mCB (f1 gRepr) (mCons (mVar 2) mNil)) mNil)))) sNil)
  (sIf (mB (mOp fNeN (mLc (mItV (mOp fIx (mVar 0) (mVar 2))) [3] (gNm 3) (mNotB (mB (mCall 2 F_is_row_l (mCons (mVar 3) (mCons (mVar 1) mNil))))) (mVar 3)) (mLst mNil))) (sRet (mLst (mCons (mC (.str "ways")) (mCons (mCB (f1 gRepr) (mCons (mVar 2) mNil)) mNil)))) sNil)))
  (sRet (mC .non))))
def F_due_l : List D → Sto → Res D := runB 4 s_due_l
def N_sip_l : List Str := ["_law_jug_here", "_law_most", "_law_digit"]
def s_sip_l : SM := (sSeq (sIf (mB (mOp fGt (mOp fIx (mVar 0) (mC (.int 0))) (mC (.int 0)))) (sSeq (sAsg (mCB fDivmod (mCons (mOp fIx (mVar 0) (mC (.int 0))) (mCons (mVar 1) mNil))) (gUnp 2 (gsCons (gSubM fSet (mVar 0) (mC (.int 0))) (gsCons (gNm 2) gsNil))))
  (sRet (mVar 2))) sNil)
  (sSeq (sAsg (mOp fAdd (mOp fIx (mVar 0) (mC (.int 2))) (mC (.int 1))) (gSubM fSet (mVar 0) (mC (.int 2))))
  (sSeq (sAsg (mOp fMod (mCB (f1 gInt) (mCons (mOp fAdd (mOp fMul (mOp fIx (mVar 0) (mC (.int 1))) (mC (.int 43003))) (mOp fMul (mC (.int 29009)) (mOp fIx (mVar 0) (mC (.int 2))))) mNil)) (mC (.int 2147483269))) (gSubM fSet (mVar 0) (mC (.int 1))))
  (sRet (mOp fMod (mCB (f1 gInt) (mCons (mOp fDiv (mOp fIx (mVar 0) (mC (.int 1))) (mC (.int 1024))) mNil)) (mVar 1))))))
def F_sip_l : List D → Sto → Res D := runB 3 s_sip_l
def N_bent_l : List Str := ["_law_jug_here", "_law_talks", "_law_talk_here", "_law_way_here", "_law_at", "_law_k", "_law_j", "_law_row_here", "_law_odds"]
def s_bent_l : SM := (sSeq (sPar 3 4 (mCons (mCall 2 F_sip_l (mCons (mVar 0) (mCons (mC (.int 9)) mNil))) (mCons (mCall 2 F_sip_l (mCons (mVar 0) (mCons (mCB (f1 gLen) (mCons (mVar 1) mNil)) mNil))) mNil)))
  (sSeq (sAsg (mOp fIx (mVar 1) (mVar 4)) (gNm 2))
  (sSeq (sPar 5 6 (mCons (mCall 2 F_sip_l (mCons (mVar 0) (mCons (mCB (f1 gLen) (mCons (mVar 2) mNil)) mNil))) (mCons (mCall 2 F_sip_l (mCons (mVar 0) (mCons (mCB (f1 gLen) (mCons (mVar 2) mNil)) mNil))) mNil)))
  (sSeq (sPar 7 8 (mCons (mOp fIx (mVar 2) (mVar 5)) (mCons (mLst (mCons (mUn fNeg (mC (.int 1))) (mCons (mOp fAdd (mOp fPow (mC (.int 10)) (mC (.int 9))) (mC (.int 1))) (mCons (mOp fPow (mC (.int 10)) (mC (.int 9))) (mCons (mC (.bl true)) (mCons (mC .non) (mCons (mC (.str "1")) (mCons (mTup (mCons (mC (.int 1)) mNil)) (mCons (mOp fPow (mC (.int 10)) (mC (.int 30))) (mCons (mC (.int 0)) (mCons (mC (.int 0)) (mCons (mC (.int 5)) (mCons (mC (.bl false)) mNil))))))))))))) mNil)))
  (sSeq (sIf (mB (mOp fLt (mVar 3) (mC (.int 4)))) (sAsg (mOp fAdd (mOp fAdd (mSl (mVar 7) oNone (oSome (mVar 6))) (mTup (mCons (mOp fIx (mVar 8) (mCall 2 F_sip_l (mCons (mVar 0) (mCons (mC (.int 12)) mNil)))) mNil))) (mSl (mVar 7) (oSome (mOp fAdd (mVar 6) (mC (.int 1)))) oNone)) (gNm 7)) sNil)
  (sSeq (sIf (mB (mOp fEq (mVar 3) (mC (.int 4)))) (sAsg (mOp fIx (mLst (mCons (mOp fAdd (mVar 7) (mTup (mCons (mC (.int 1)) mNil))) (mCons (mSl (mVar 7) (oSome (mC (.int 1))) oNone) (mCons (mCB (f1 gLst) (mCons (mVar 7) mNil)) (mCons (mC .non) (mCons (mOp fMul (mTup (mCons (mC (.int 0)) mNil)) (mCB (f1 gLen) (mCons (mVar 7) mNil))) (mCons (mTup mNil) (mCons (mC (.str "1,0")) (mCons (mC (.int 5)) mNil))))))))) (mCall 2 F_sip_l (mCons (mVar 0) (mCons (mC (.int 8)) mNil)))) (gNm 7)) sNil)
  (sSeq (sAsg (mOp fAdd (mOp fAdd (mSl (mVar 2) oNone (oSome (mVar 5))) (mTup (mCons (mVar 7) mNil))) (mSl (mVar 2) (oSome (mOp fAdd (mVar 5) (mC (.int 1)))) oNone)) (gNm 2))
  (sSeq (sIf (mB (mOp fEq (mVar 3) (mC (.int 5)))) (sAsg (mOp fIx (mLst (mCons (mOp fAdd (mVar 2) (mSl (mVar 2) oNone (oSome (mC (.int 1))))) (mCons (mSl (mVar 2) (oSome (mC (.int 1))) oNone) (mCons (mCB (f1 gLst) (mCons (mVar 2) mNil)) (mCons (mC .non) (mCons (mTup mNil) (mCons (mVar 7) (mCons (mC (.dct [])) mNil)))))))) (mCall 2 F_sip_l (mCons (mVar 0) (mCons (mC (.int 7)) mNil)))) (gNm 2)) sNil)
  (sSeq (sIf (mB (mOp fEq (mVar 3) (mC (.int 6)))) (sRet (mOp fIx (mLst (mCons (mCB (f1 gLst) (mCons (mVar 1) mNil)) (mCons (mC .non) (mCons (mTup mNil) (mCons (mOp fMul (mVar 1) (mC (.int 7))) (mCons (mOp fIx (mVar 1) (mC (.int 0))) (mCons (mC (.str "")) (mCons (mC (.dct [])) mNil)))))))) (mCall 2 F_sip_l (mCons (mVar 0) (mCons (mC (.int 7)) mNil))))) sNil)
  (sRet (mOp fAdd (mOp fAdd (mSl (mVar 1) oNone (oSome (mVar 4))) (mTup (mCons (mVar 2) mNil))) (mSl (mVar 1) (oSome (mOp fAdd (mVar 4) (mC (.int 1)))) oNone))))))))))))
def F_bent_l : List D → Sto → Res D := runB 9 s_bent_l
def N_row_l : List Str := ["_law_jug_here", "_law_size", "_law_row_here", "_law_k"]
def s_row_l : SM := (sSeq (sAsg (mLcC (mItA rg1 (mCons (mVar 1) mNil)) [3] (gNm 3) mYes (mOp fIx (mLst (mCons (mC (.int 0)) (mCons (mC (.int 0)) (mCons (mC (.int 1)) (mCons (mC (.int 1)) (mCons (mC (.int 2)) (mCons (mC (.int 3)) (mCons (mC (.int 7)) mNil)))))))) (mCall 2 F_sip_l (mCons (mVar 0) (mCons (mC (.int 7)) mNil))))) (gNm 2))
  (sSeq (sIf (mB (mOp fEq (mCB (f1 gSum) (mCons (mVar 2) mNil)) (mC (.int 0)))) (sAsg (mOp fIx (mLst (mCons (mC (.int 1)) (mCons (mC (.int 2)) (mCons (mOp fPow (mC (.int 10)) (mC (.int 9))) mNil)))) (mCall 2 F_sip_l (mCons (mVar 0) (mCons (mC (.int 3)) mNil)))) (gSubM fSet (mVar 2) (mCall 2 F_sip_l (mCons (mVar 0) (mCons (mVar 1) mNil))))) sNil)
  (sRet (mCB (f1 gTup) (mCons (mVar 2) mNil)))))
def F_row_l : List D → Sto → Res D := scop (runB 4 s_row_l)
def N_talk_l : List Str := ["_law_jug_here", "_law_size", "_law_k"]
def s_talk_l : SM := (sRet (mCB (f1 gTup) (mCons (mLc (mItA rg1 (mCons (mVar 1) mNil)) [2] (gNm 2) mYes (mCall 2 F_row_l (mCons (mVar 0) (mCons (mVar 1) mNil)))) mNil)))
def F_talk_l : List D → Sto → Res D := runB 3 s_talk_l
def N_pair_l : List Str := ["_law_jug_here", "_law_most_here", "_law_size", "_law_pool", "_law_heads_here", "_law_k"]
def s_pair_l : SM := (sSeq (sAsg (mOp fAdd (mC (.int 1)) (mCall 2 F_sip_l (mCons (mVar 0) (mCons (mVar 1) mNil)))) (gNm 2))
  (sSeq (sAsg (mLstC (mCons (mC (.str "ann")) (mCons (mC (.str "bob")) (mCons (mC (.str "cyd")) (mCons (mC (.str "d2")) (mCons (mC (.str "e")) (mCons (mC (.str "z9999999")) (mCons (mC (.str "abe")) (mCons (mC (.str "x")) mNil))))))))) (gNm 3))
  (sSeq (sAsg (mLstC mNil) (gNm 4))
  (sSeq (sFor (mItA rg1 (mCons (mVar 2) mNil)) (gNm 5) (sExpr (mBM fAppend okLst (mVar 4) (mCons (mBM fPopAt okLst (mVar 3) (mCons (mCall 2 F_sip_l (mCons (mVar 0) (mCons (mCB (f1 gLen) (mCons (mVar 3) mNil)) mNil))) mNil)) mNil))))
  (sRet (mLst (mCons (mCB (f1 gTup) (mCons (mVar 4) mNil)) (mCons (mCB (f1 gTup) (mCons (mLc (mItA rg1 (mCons (mOp fAdd (mC (.int 1)) (mCall 2 F_sip_l (mCons (mVar 0) (mCons (mC (.int 4)) mNil)))) mNil)) [5] (gNm 5) mYes (mCall 2 F_talk_l (mCons (mVar 0) (mCons (mVar 2) mNil)))) mNil)) mNil))))))))
def F_pair_l : List D → Sto → Res D := scop (runB 6 s_pair_l)
def N_right_l : List Str := ["_law_jug_here", "_law_again", "_law_thing", "_law_due_here", "_law_acts", "_law_heads_here", "_law_talks"]
noncomputable def s_right_l : SM := (sSeq (sFor (mItA rg1 (mCons (mC (.int 8)) mNil)) (gNm 1) (sSeq (sAsg (mCall 2 F_pair_l (mCons (mVar 0) (mCons (mC (.int 4)) mNil))) (gUnp 2 (gsCons (gNm 5) (gsCons (gNm 6) gsNil))))
  (sSeq (sAsg (mCall 2 F_bent_l (mCons (mVar 0) (mCons (mVar 6) mNil))) (gNm 2))
  (sSeq (sIf (mAndB (mB (mCB (fIsiZ isoC isoT) (mCons (mVar 2) (mCons (mC (.ty "tuple")) mNil)))) (mB (mOp fEq (mCall 2 F_sip_l (mCons (mVar 0) (mCons (mC (.int 4)) mNil))) (mC (.int 0))))) (sAsg (mOp fAdd (mVar 6) (mVar 2)) (gNm 2)) sNil)
  (sSeq (sAsg (mCall 2 F_due_l (mCons (mVar 2) (mCons (mCB (f1 gLen) (mCons (mVar 5) mNil)) mNil))) (gNm 3))
  (sActs 4 0 472 "_law_right.<locals>.<lambda>" (sApp 0 472 "_law_right.<locals>.<lambda>" (sIf (mNotB (mB (mLive [(0, lam_0), (1, lam_1)] "_law_right.<locals>.<lambda>" F_is_ended_l (mIf (mB (mOp fIs (mVar 3) (mC .non))) (mLst (mCons (mC (.str "told")) (mCons (mCB (f1 gRepr) (mCons (mVar 2) mNil)) mNil))) (mVar 3))))) (sRet (mC (.bl false))) sNil))))))))
  (sRet (mC (.bl true))))
noncomputable def F_right_l : List D → Sto → Res D := runB 7 s_right_l
def N_quiet_l : List Str := ["_law_jug_here", "_law_is_right"]
noncomputable def s_quiet_l : SM := (sSeq (sTryQ (sAsg (mCall 1 F_right_l (mCons (mVar 0) mNil)) (gNm 1)))
  (sRet (mVar 1)))
noncomputable def F_quiet_l : List D → Sto → Res D := runB 2 s_quiet_l
def N_jug_l : List Str := ["_law_script", "_law_at", "_law_figure", "_law_seed", "_law_each"]
def s_jug_l : SM := (sSeq (sAsg (mIf (mB (mOp fLt (mVar 1) (mCB (f1 gLen) (mCons (mVar 0) mNil)))) (mOp fIx (mVar 0) (mVar 1)) (mOp fAdd (mOp fMul (mC (.int 53)) (mVar 1)) (mC (.int 11)))) (gNm 2))
  (sSeq (sAsg (mOp fAdd (mC (.int 122949823)) (mOp fMul (mC (.int 37013)) (mVar 1))) (gNm 3))
  (sSeq (sFor (mItV (mOp fAdd (mLst (mCons (mVar 2) mNil)) (mSl (mVar 0) oNone (oSome (mC (.int 6)))))) (gNm 4) (sAsg (mOp fMod (mCB (f1 gInt) (mCons (mOp fAdd (mOp fMul (mVar 3) (mC (.int 59063))) (mVar 4)) mNil)) (mC (.int 2147483269))) (gNm 3)))
  (sRet (mLstC (mCons (mIf (mB (mOp fGe (mCB (f1 gAbs) (mCons (mVar 2) mNil)) (mOp fPow (mC (.int 10)) (mC (.int 18))))) (mCB (f1 gAbs) (mCons (mVar 2) mNil)) (mC (.int 0))) (mCons (mVar 3) (mCons (mC (.int 0)) mNil))))))))
def F_jug_l : List D → Sto → Res D := runB 5 s_jug_l
def N_law : List Str := ["_law_script", "_law_at"]
noncomputable def s_law : SM := (sRet (mCB (f1 gAll) (mCons (mLc (mItA rg1 (mCons (mCB fMax2 (mCons (mC (.int 2)) (mCons (mCB fMin2 (mCons (mCB (f1 gLen) (mCons (mVar 0) mNil)) (mCons (mC (.int 5)) mNil))) mNil))) mNil)) [1] (gNm 1) mYes (mCall 1 F_quiet_l (mCons (mCall 2 F_jug_l (mCons (mVar 0) (mCons (mVar 1) mNil))) mNil))) mNil)))
noncomputable def F_law : List D → Sto → Res D := runB 2 s_law
end Ag.k04

namespace Ag.k04
open PySem

/-! stores whose cells name cells: the well's words anew -/
def Cl (S : Sto) : Prop := ∀ o ∈ S, ∀ n, S.length ≤ n → o.below n = true
theorem cl_all {S : Sto} (h : Cl S) (n : Nat) (hn : S.length ≤ n := by first | exact Nat.le_refl _ | omega) : S.all (Ob.below n) = true := List.all_eq_true.mpr fun o ho => h o ho n hn
theorem cl_set {S : Sto} {i : Nat} {o : Ob} (h : Cl S) (ho : ∀ n, o.below n = true) : Cl (S.set i o) := fun x hx n hn => by
  rw [List.length_set] at hn
  rcases List.mem_or_eq_of_mem_set hx with hx | rfl
  · exact h x hx n hn
  · exact ho n
theorem cl_app {S : Sto} {o : Ob} (h : Cl S) (ho : ∀ n, o.below n = true) : Cl (S ++ [o]) := fun x hx n hn => by
  have hn : S.length + 1 ≤ n := by simpa using hn
  rcases List.mem_append.mp hx with hx | hx
  · exact h x hx n (by omega)
  · have : x = o := by simpa using hx
    subst this; exact ho n
theorem cl_end {S : Sto} {l : List D} (h : Cl S) (hl : ∀ d ∈ l, Nr d) : Cl (S ++ [.lst l]) := cl_app h (bel_lst hl)
theorem scop_pure {f : List D → Sto → Res D} {ds : List D} {S : Sto} {v : D} (hS : Cl S) (h : (f ds S).sat fun d S' => d = v ∧ Nr d ∧ S'.take S.length = S) : scop f ds S = .ok v S := by
  refine sat_eq (f_scop (h.mono fun d S' ⟨h1, h2, h3⟩ => ?_))
  rw [h3]
  refine ⟨cl_all hS _, ?_⟩
  rw [frz_nr h2, os_some]
  exact ⟨h1, rfl⟩
theorem scop_lst {f : List D → Sto → Res D} {ds : List D} {S : Sto} {l : List D} (hS : Cl S) (hl : ∀ d ∈ l, Nr d) (h : (f ds S).sat fun d S' => ∃ j, d = .ref j ∧ S.length ≤ j ∧ S'[j]? = some (.lst l) ∧ S'.take S.length = S) : scop f ds S = .ok (.lst l) S := by
  refine sat_eq (f_scop (h.mono ?_))
  rintro d S' ⟨j, rfl, h1, h2, h3⟩
  rw [h3, frz_cell h1 h2 hl, os_some]
  exact ⟨cl_all hS _, rfl, rfl⟩
theorem scop_dic {f : List D → Sto → Res D} {ds : List D} {S : Sto} {P : List D → Prop} (hS : Cl S) (h : (f ds S).sat fun d S' => ∃ j l, d = .ref j ∧ S.length ≤ j ∧ S'[j]? = some (.dic l) ∧ (∀ d ∈ l, Nr d) ∧ P l ∧ S'.take S.length = S) : ∃ l, scop f ds S = .ok (.dct l) S ∧ P l := by
  suffices q : (scop f ds S).sat fun d S' => ∃ l, d = .dct l ∧ P l ∧ S' = S by
    obtain ⟨d, S', e, l, rfl, hp, rfl⟩ := q.eq
    exact ⟨l, e, hp⟩
  refine f_scop (h.mono ?_)
  rintro d S' ⟨j, l, rfl, h1, h2, h4, hp, h3⟩
  have e : frzD S.length S' (.ref j) = some (.dct l) := by
    simp only [frzD, frzF, if_neg (Nat.not_lt.mpr h1), h2, nrs h4 S.length, if_true]
  rw [h3, e, os_some]
  exact ⟨cl_all hS _, l, rfl, hp, rfl⟩
structure Wl (S : Sto) (i b : Nat) : Prop where
  cl : Cl S
  at_ : ∃ (x y : Int) (z : Nat), S[i]? = some (.lst [.int x, .int y, .int (z : Int)]) ∧ z + b ≤ 2 ^ 50
structure Wx (S S' : Sto) (i b : Nat) : Prop where
  len : S.length ≤ S'.length
  at_ : ∃ (x y : Int) (z : Nat), S'[i]? = some (.lst [.int x, .int y, .int (z : Int)]) ∧ z + b ≤ 2 ^ 50
  old : ∀ o ∈ S'.take S.length, ∀ n, S.length ≤ n → o.below n = true
  oth : ∀ j, j < S.length → j ≠ i → S'[j]? = S[j]?
structure Wk (S S' : Sto) (i b : Nat) : Prop where
  wl : Wl S' i b
  same : S'.length = S.length
  oth : ∀ j, j < S.length → j ≠ i → S'[j]? = S[j]?
theorem Wl.lt {S : Sto} {i b : Nat} (h : Wl S i b) : i < S.length := by
  obtain ⟨x, y, z, e, _⟩ := h.at_
  exact (List.getElem?_eq_some_iff.mp e).1
theorem Wl.mono {S : Sto} {i b b' : Nat} (h : Wl S i b) (hb : b' ≤ b) : Wl S i b' := by
  obtain ⟨x, y, z, e, k⟩ := h.at_
  exact ⟨h.cl, x, y, z, e, by omega⟩
theorem Wk.mono {S S' : Sto} {i b b' : Nat} (h : Wk S S' i b) (hb : b' ≤ b) : Wk S S' i b' := ⟨h.wl.mono hb, h.same, h.oth⟩
theorem Wx.mono {S S' : Sto} {i b b' : Nat} (h : Wx S S' i b) (hb : b' ≤ b) : Wx S S' i b' := by
  obtain ⟨x, y, z, e, k⟩ := h.at_
  exact ⟨h.len, ⟨x, y, z, e, by omega⟩, h.old, h.oth⟩
theorem Wk.refl {S : Sto} {i b : Nat} (h : Wl S i b) : Wk S S i b := ⟨h, rfl, fun _ _ _ => rfl⟩
theorem Wk.trans {S S1 S2 : Sto} {i b c : Nat} (h : Wk S S1 i b) (g : Wk S1 S2 i c) : Wk S S2 i c := ⟨g.wl, g.same.trans h.same, fun j hj hi => by rw [g.oth j (by rw [h.same]; exact hj) hi, h.oth j hj hi]⟩
theorem Wk.wx {S S' : Sto} {i b : Nat} (h : Wk S S' i b) : Wx S S' i b := ⟨Nat.le_of_eq h.same.symm, h.wl.at_, fun o ho n hn => h.wl.cl o (List.mem_of_mem_take ho) n (by rw [h.same]; exact hn), h.oth⟩
theorem Wx.refl {S : Sto} {i b : Nat} (h : Wl S i b) : Wx S S i b := (Wk.refl h).wx
theorem Wx.cut {S S' : Sto} {i b : Nat} (h : Wx S S' i b) (hi : i < S.length) : Wk S (S'.take S.length) i b := by
  have hl : (S'.take S.length).length = S.length := by rw [List.length_take]; have := h.len; omega
  obtain ⟨x, y, z, e, k⟩ := h.at_
  refine ⟨⟨fun o ho n hn => h.old o ho n (by rw [← hl]; exact hn), x, y, z, by rw [List.getElem?_take_of_lt hi]; exact e, k⟩, hl, fun j hj hji => by rw [List.getElem?_take_of_lt hj]; exact h.oth j hj hji⟩
theorem scopW {f : List D → Sto → Res D} {ds : List D} {S : Sto} {i b : Nat} {P : D → Prop} (hi : i < S.length) (h : (f ds S).sat fun d S' => P d ∧ Nr d ∧ Wx S S' i b) : (scop f ds S).sat fun d S' => P d ∧ Wk S S' i b := by
  refine f_scop (h.mono fun d S' ⟨h1, h2, h3⟩ => ?_)
  have hk := h3.cut hi
  have hl := hk.same
  refine ⟨cl_all hk.wl.cl _ (Nat.le_of_eq hl), ?_⟩
  rw [frz_nr h2, os_some]
  exact ⟨h1, hk⟩
structure Wg (S : Sto) (i b : Nat) : Prop where
  at_ : ∃ (x y : Int) (z : Nat), S[i]? = some (.lst [.int x, .int y, .int (z : Int)]) ∧ z + b ≤ 2 ^ 50
structure Wo (S S' : Sto) (i b : Nat) : Prop where
  wg : Wg S' i b
  same : S'.length = S.length
  oth : ∀ j, j ≠ i → S'[j]? = S[j]?
theorem Wl.wg {S : Sto} {i b : Nat} (h : Wl S i b) : Wg S i b := ⟨h.at_⟩
theorem Wx.wg {S S' : Sto} {i b : Nat} (h : Wx S S' i b) : Wg S' i b := ⟨h.at_⟩
theorem jar_nr {x y z : Int} (n : Nat) : (Ob.lst [.int x, .int y, .int z]).below n = true := bel_lst (fun d hd => by
  simp only [List.mem_cons, List.not_mem_nil, or_false] at hd
  rcases hd with rfl | rfl | rfl <;> exact nr_int _) n
theorem Wo.wk {S S' : Sto} {i b c : Nat} (h : Wo S S' i b) (w : Wl S i c) : Wk S S' i b := by
  obtain ⟨x, y, z, e, k⟩ := h.wg.at_
  refine ⟨⟨fun o ho n hn => ?_, x, y, z, e, k⟩, h.same, fun j _ hi => h.oth j hi⟩
  obtain ⟨j, hj, rfl⟩ := List.mem_iff_getElem.mp ho
  have ej : S'[j]? = some S'[j] := List.getElem?_eq_getElem hj
  by_cases hji : j = i
  · subst hji
    rw [e] at ej
    have ej := Option.some.inj ej
    rw [← ej]
    exact jar_nr n
  · rw [h.oth j hji] at ej
    exact w.cl _ (List.mem_of_getElem? ej) n (by rw [← h.same]; exact hn)
theorem Wo.trans {S S1 S2 : Sto} {i b c : Nat} (h : Wo S S1 i b) (g : Wo S1 S2 i c) : Wo S S2 i c := ⟨g.wg, g.same.trans h.same, fun j hi => by rw [g.oth j hi, h.oth j hi]⟩
theorem Wo.refl {S : Sto} {i b : Nat} (h : Wg S i b) : Wo S S i b := ⟨h, rfl, fun _ _ => rfl⟩
theorem Wg.mono {S : Sto} {i b b' : Nat} (h : Wg S i b) (hb : b' ≤ b) : Wg S i b' := by
  obtain ⟨x, y, z, e, k⟩ := h.at_
  exact ⟨x, y, z, e, by omega⟩
theorem Wo.mono {S S' : Sto} {i b b' : Nat} (h : Wo S S' i b) (hb : b' ≤ b) : Wo S S' i b' := ⟨h.wg.mono hb, h.same, h.oth⟩
theorem Wx.wo {S S1 S2 : Sto} {i b c : Nat} (h : Wx S S1 i b) (g : Wo S1 S2 i c) (hi : i < S.length) : Wx S S2 i c := by
  refine ⟨by rw [g.same]; exact h.len, g.wg.at_, fun o ho n hn => ?_, fun j hj hji => by rw [g.oth j hji]; exact h.oth j hj hji⟩
  obtain ⟨j, hj, rfl⟩ := List.mem_iff_getElem.mp ho
  rw [List.length_take] at hj
  rw [List.getElem_take]
  have ej : S2[j]? = some (S2[j]'(by omega)) := List.getElem?_eq_getElem (by omega)
  by_cases hji : j = i
  · subst hji
    obtain ⟨x, y, z, e, k⟩ := g.wg.at_
    rw [e] at ej
    have ej := Option.some.inj ej
    rw [← ej]
    exact jar_nr n
  · rw [g.oth j hji] at ej
    have hj' : j < S.length := by omega
    refine h.old _ (List.mem_of_getElem? (i := j) ?_) n hn
    rw [List.getElem?_take_of_lt hj']
    exact ej
theorem Wx.put {S S' : Sto} {i b j : Nat} {o : Ob} (h : Wx S S' i b) (hj : S.length ≤ j) (hi : i < S.length) : Wx S (S'.set j o) i b := by
  obtain ⟨x, y, z, e, k⟩ := h.at_
  refine ⟨by simpa using h.len, ⟨x, y, z, by rw [List.getElem?_set_ne (by omega)]; exact e, k⟩, fun o' ho n hn => ?_, fun k hk hki => by rw [List.getElem?_set_ne (by omega)]; exact h.oth k hk hki⟩
  rw [List.take_set_of_le hj] at ho
  exact h.old o' ho n hn
theorem Wx.add {S S' : Sto} {i b : Nat} {o : Ob} (h : Wx S S' i b) : Wx S (S' ++ [o]) i b := by
  obtain ⟨x, y, z, e, k⟩ := h.at_
  have hi := (List.getElem?_eq_some_iff.mp e).1
  refine ⟨by simp; have := h.len; omega, ⟨x, y, z, by rw [List.getElem?_append_left hi]; exact e, k⟩, fun o' ho n hn => ?_, fun k hk hki => by rw [List.getElem?_append_left (by have := h.len; omega)]; exact h.oth k hk hki⟩
  rw [List.take_append_of_le_length h.len] at ho
  exact h.old o' ho n hn
theorem Wx.get {S S1 S2 : Sto} {i b : Nat} {j : Nat} {o : Ob} (g : Wo S1 S2 i b) (hj : j ≠ i) (h : S1[j]? = some o) : S2[j]? = some o := by rw [g.oth j hj]; exact h
variable {ts : List Rat} {ws : List Int} {M B a : Nat}
theorem isi_tup (l : List D) (S : Sto) : fIsiZ isoC isoT [.tup l, .ty "tuple"] S = some (.bl true) := rfl
theorem integer_ok (i : Int) (S : Sto) : F_is_integer [.int i] S = .ok (.bl true) S := rfl
theorem within_ok (i lo hi : Int) (S : Sto) : F_is_within [.int i, .int lo, .int hi] S = .ok (.bl (decide (lo ≤ i) && decide (i ≤ hi))) S := by
  unfold F_is_within
  apply sat_eq
  rw [f_run]
  show (s_is_within [some (.int i), some (.int lo), some (.int hi)] S).sat _ _
  unfold s_is_within
  simp only [p_ret, q_andV, q_call, q_cons, q_nil, q_var, sl_0, sl_s, os_some, integer_ok, r_ok, bOf, if_true, q_chain, fLe, cmpI, Option.bind_some, List.length_cons, List.length_nil, true_and]
  by_cases h : lo ≤ i <;> simp [h]
structure Heads (hs : List Str) : Prop where
  ne : hs ≠ []
  six : hs.length ≤ 6
  nm : ∀ h ∈ hs, ∀ S, F_is_name [.str h] S = .ok (.bl true) S
  ok : ∀ h ∈ hs, PyData.strOk h = true
  nd : hs.Nodup
  rb : ∀ h ∈ hs, Rb 0 40 (.str h)
theorem mind_ok {hs : List Str} (H : Heads hs) (S : Sto) : F_wrong_mind [.tup (hs.map .str)] S = .ok (.tup []) S := by
  unfold F_wrong_mind
  apply sat_eq
  rw [f_run]
  show (s_wrong_mind [some (.tup (hs.map .str)), none, none] S).sat _ _
  unfold s_wrong_mind
  simp only [p_seq, p_if, q_orB, q_notB, q_b, q_cb, q_cons, q_nil, q_var, q_c, q_op, sl_0, sl_s, os_some, isi_tup, bOf, Bool.not_true, Bool.false_eq_true, if_false, f1, gLen, List.length_map, eq_int, eq_len0 H.ne, decide_false, p_nil, p_for, q_itA, en1]
  refine for_inv (li_en _) (fun k en S' => ∃ x y, en = [some (.tup (hs.map .str)), x, y] ∧ S' = S) ?_ ?_ ⟨none, none, rfl, rfl⟩
  · rintro k d en S' hd ⟨x, y, rfl, rfl⟩
    have hk : k < hs.length := by
      have := (List.getElem?_eq_some_iff.mp hd).1
      simpa using this
    have h1 : hs[k]? = some hs[k] := List.getElem?_eq_getElem hk
    have ed : d = .tup [.int (k : Int), .str hs[k]] := by
      rw [List.getElem?_mapIdx, List.getElem?_map, h1] at hd
      simpa using hd.symm
    subst ed
    have hm := List.mem_of_getElem? h1
    have e1 := H.nm _ hm S'
    have e2 : ¬ (6 : Int) ≤ (k : Int) := by have := H.six; omega
    have e3 : fIn (.str hs[k]) (.tup ((hs.take k).map .str)) S' = some (.bl false) := by
      rw [in_strs S' (H.ok _ hm) fun y hy => H.ok y (List.mem_of_mem_take hy)]
      congr 2
      refine decide_eq_false fun hin => ?_
      obtain ⟨j, hj, e⟩ := List.mem_iff_getElem.mp hin
      rw [List.getElem_take] at e
      simp only [List.length_take] at hj
      have := (List.getElem?_inj (i := j) (j := k) (by omega) H.nd).mp (by rw [List.getElem?_eq_getElem (by omega), h1, e])
      omega
    simp only [g_unpS, seqOf, os_some, List.length_cons, List.length_nil, gs_consS, gs_nilS, g_nm, List.set_cons_zero, List.set_cons_succ, true_and, p_if, q_orB, q_notB, q_b, q_call, q_cons, q_nil, q_var, sl_0, sl_s, e1, r_ok, bOf, Bool.not_true, Bool.false_eq_true, if_false, q_op, q_c, fGe, cmpI, e2, decide_false, q_sl, q_oN, q_oS, intD, fSl, cut_take, ← List.map_take, e3, p_nil]
    exact ⟨_, _, rfl, trivial⟩
  · rintro en S' ⟨x, y, rfl, rfl⟩
    simp only [p_ret, q_tup, q_nil, List.length_nil]
    exact ⟨by decide, trivial, trivial⟩
theorem row_ok {n : Nat} {r : List Int} (h : RowOk n r) (hn : n < 1000) (S : Sto) : F_is_row [rowD r, .int (n : Int)] S = .ok (.bl true) S := by
  unfold F_is_row
  apply sat_eq
  rw [f_run]
  show (s_is_row [some (.tup (r.map .int)), some (.int (n : Int)), none] S).sat _ _
  unfold s_is_row
  simp only [p_seq, p_if, q_orB, q_notB, q_b, q_cb, q_cons, q_nil, q_var, q_c, q_op, sl_0, sl_s, os_some, isi_tup, bOf, Bool.not_true, Bool.false_eq_true, if_false, f1, gLen, List.length_map, h.len, ne_int, ne_eq, not_true_eq_false, decide_false, p_nil, p_ret, q_andV, q_lc, q_itV, itOf]
  refine lc_map (li_ls _) (fun _ => .bl true) (by rw [List.length_map, h.len]; exact len_line hn) (fun k d hd => ?_) ?_
  · rw [List.getElem?_map] at hd
    obtain ⟨w, hw, rfl⟩ := Option.map_eq_some_iff.mp hd
    have hb := h.in_ w (List.mem_of_getElem? hw)
    simp only [wipeE, List.set_cons_zero, List.set_cons_succ, g_nm, q_call, q_cons, q_nil, q_var, q_c, sl_0, sl_s, os_some, within_ok, r_ok, hb.1, hb.2, decide_true, Bool.and_self, List.length_cons, List.length_nil]
    trivial
  · rw [map_true (fun _ _ => rfl)]
    have := all_true (r.map D.int).length S
    simp only [f1] at this
    simp only [this, os_some, bOf, if_true, sum_tup, fGt, cmpI, h.pos, decide_true]
    trivial
theorem way_ok {n : Nat} {w : List (List Int)} (h : WayOk n w) (hn : n < 1000) (S : Sto) : F_is_way [wayD w, .int (n : Int)] S = .ok (.bl true) S := by
  unfold F_is_way
  apply sat_eq
  rw [f_run]
  show (s_is_way [some (.tup (w.map rowD)), some (.int (n : Int)), none] S).sat _ _
  unfold s_is_way
  simp only [p_ret, q_andV, q_cb, q_cons, q_nil, q_var, q_c, q_op, sl_0, sl_s, os_some, isi_tup, bOf, if_true, f1, gLen, List.length_map, h.len, eq_int, decide_true, q_lc, q_itV, itOf]
  refine lc_map (li_ls _) (fun _ => .bl true) (by rw [List.length_map, h.len]; exact len_line hn) (fun k d hd => ?_) ?_
  · rw [List.getElem?_map] at hd
    obtain ⟨r, hr, rfl⟩ := Option.map_eq_some_iff.mp hd
    have e1 := row_ok (h.row r (List.mem_of_getElem? hr)) hn S
    simp only [wipeE, List.set_cons_zero, List.set_cons_succ, g_nm, q_call, q_cons, q_nil, q_var, q_c, sl_0, sl_s, os_some, e1, r_ok, List.length_cons, List.length_nil]
    trivial
  · rw [map_true (fun _ _ => rfl)]
    have := all_true (w.map rowD).length S
    simp only [f1] at this
    simp only [this, os_some]
    trivial
theorem wrong_way_ok {n : Nat} {ws : List (List (List Int))} (h : ∀ w ∈ ws, WayOk n w) (hn : n < 1000) (h0 : ws ≠ []) (h6 : ws.length ≤ 6) (S : Sto) : F_wrong_way [.tup (ws.map wayD), .int (n : Int)] S = .ok (.tup []) S := by
  unfold F_wrong_way
  apply sat_eq
  rw [f_run]
  show (s_wrong_way [some (.tup (ws.map wayD)), some (.int (n : Int)), none, none] S).sat _ _
  unfold s_wrong_way
  simp only [p_seq, p_if, q_orB, q_notB, q_b, q_cb, q_cons, q_nil, q_var, q_c, q_op, sl_0, sl_s, os_some, isi_tup, bOf, Bool.not_true, Bool.false_eq_true, if_false, f1, gLen, List.length_map, eq_int, eq_len0 h0, decide_false, p_nil, p_for, q_itA, en1]
  refine for_inv (li_en _) (fun k en S' => ∃ x y, en = [some (.tup (ws.map wayD)), some (.int (n : Int)), x, y] ∧ S' = S) ?_ ?_ ⟨none, none, rfl, rfl⟩
  · rintro k d en S' hd ⟨x, y, rfl, rfl⟩
    have hk : k < ws.length := by
      have := (List.getElem?_eq_some_iff.mp hd).1
      simpa using this
    have h1 : ws[k]? = some ws[k] := List.getElem?_eq_getElem hk
    have ed : d = .tup [.int (k : Int), wayD ws[k]] := by
      rw [List.getElem?_mapIdx, List.getElem?_map, h1] at hd
      simpa using hd.symm
    subst ed
    have e1 := way_ok (h _ (List.mem_of_getElem? h1)) hn S'
    have e2 : ¬ (6 : Int) ≤ (k : Int) := by omega
    simp only [g_unpS, seqOf, os_some, List.length_cons, List.length_nil, gs_consS, gs_nilS, g_nm, List.set_cons_zero, List.set_cons_succ, true_and, p_if, q_orB, q_notB, q_b, q_call, q_cons, q_nil, q_var, sl_0, sl_s, e1, r_ok, bOf, Bool.not_true, Bool.false_eq_true, if_false, q_op, q_c, fGe, cmpI, e2, decide_false, p_nil]
    exact ⟨_, _, rfl, trivial⟩
  · rintro en S' ⟨x, y, rfl, rfl⟩
    simp only [p_ret, q_tup, q_nil, List.length_nil]
    exact ⟨by decide, trivial, trivial⟩

theorem init_ok {hs : List Str} {ws : List (List (List Int))} (H : Heads hs) (hw : ∀ w ∈ ws, WayOk hs.length w) (h0 : ws ≠ []) (h6 : ws.length ≤ 6) (S : Sto) :
    F_Councild_initd [.ref S.length, .tup (hs.map .str), .tup (ws.map wayD)] (S ++ [.ins "Council" [] []]) = .ok .non (S ++ [.ins "Council" ["heads", "tables"] [.tup (hs.map .str), .tup (ws.map wayD)]]) := by
  unfold F_Councild_initd
  apply sat_eq
  rw [f_run]
  show (s_Councild_initd [some (.ref S.length), some (.tup (hs.map .str)), some (.tup (ws.map wayD)), none] _).sat _ _
  unfold s_Councild_initd
  have e1 := mind_ok H (S ++ [.ins "Council" [] []])
  have e2 := wrong_way_ok hw (by have := H.six; omega) h0 h6 (S ++ [.ins "Council" [] []])
  simp only [p_seq, p_asgN, q_call, q_cons, q_nil, q_var, sl_0, sl_s, os_some, e1, r_ok, List.length_cons, List.length_nil, true_and, List.set_cons_zero, List.set_cons_succ, p_if, q_b, q_op, q_tup, ne_nil, bOf, Bool.false_eq_true, if_false, p_nil, q_cb, f1, gLen, List.length_map, e2, Nat.zero_le, true_and]
  refine p_fld ?_
  simp only [q_var, sl_0, sl_s, os_some]
  refine ⟨S.length, "Council", [], [], (["heads"], [.tup (hs.map .str)]), rfl, by simp, by simp, by decide, rfl, p_fld ?_⟩
  simp only [q_var, sl_0, sl_s, os_some]
  refine ⟨S.length, "Council", ["heads"], [.tup (hs.map .str)], (["heads", "tables"], [.tup (hs.map .str), .tup (ws.map wayD)]), rfl, by simp, by simp, by decide, rfl, by simp⟩
theorem make_ok {hs : List Str} {ws : List (List (List Int))} (H : Heads hs) (hw : ∀ w ∈ ws, WayOk hs.length w) (h0 : ws ≠ []) (h6 : ws.length ≤ 6) {S : Sto} (hS : Cl S) :
    mkD "Council" true F_Councild_initd [.tup (hs.map .str), .tup (ws.map wayD)] S = .ok (cncl hs ws) S := by
  unfold mkD
  rw [init_ok H hw h0 h6 S]
  have b : optAll (frzF S.length (S ++ [.ins "Council" ["heads", "tables"] [.tup (hs.map .str), .tup (ws.map wayD)]]) 2) [.tup (hs.map .str), .tup (ws.map wayD)] = some [.tup (hs.map .str), .tup (ws.map wayD)] := optAll_nr (by
    intro d hd
    simp only [List.mem_cons, List.not_mem_nil, or_false] at hd
    rcases hd with rfl | rfl
    · exact nr_tup (nr_map nr_str)
    · exact nr_tup (nr_map nr_way))
  simp only [if_true, cutR, List.take_left', cl_all hS S.length, frzD, frzF, Nat.lt_irrefl, if_false, List.getElem?_append_right (Nat.le_refl _), Nat.sub_self, List.getElem?_cons_zero, b]
  rfl
/-! ### statements, one by one, with what they raise -/
section
variable {s1 s2 : SM} {en en1 : En} {S S1 S0 : Sto} {c : Str} {fs : List (Str × D)}
theorem seq_next (h : s1 en S = .next en1 S1) : sSeq s1 s2 en S = s2 en1 S1 := by unfold sSeq; rw [h]
theorem seq_exc (h : s1 en S = .exc c fs en1 S1) : sSeq s1 s2 en S = .exc c fs en1 S1 := by unfold sSeq; rw [h]
theorem r_eq {α : Type} {r : Res α} {a : α} (h : r.sat fun c S' => c = a ∧ S' = S0) : r = .ok a S0 := by
  cases q : r with
  | ok c T => rw [q] at h; obtain ⟨rfl, rfl⟩ := r_ok.mp h; rfl
  | exc c fs T => rw [q] at h; exact (r_exc.mp h).elim
  | stuck => rw [q] at h; exact (r_stuck.mp h).elim
theorem if_yes {t : BM} {a b : SM} (h : t en S = .ok true S1) : sIf t a b en S = a en S1 := by unfold sIf bS; rw [h]; rfl
theorem if_no {t : BM} {a b : SM} (h : t en S = .ok false S1) : sIf t a b en S = b en S1 := by unfold sIf bS; rw [h]; rfl
theorem run_exc {s : SM} {n : Nat} {ds : List D} (h : s (ds.map some ++ List.replicate (n - ds.length) none) S = .exc c fs en1 S1) : runB n s ds S = .exc c fs S1 := by unfold runB; rw [h]
end
/-! closures called, what ended says, lists of lambdas -/
section
variable {j k n : Nat} {U S S1 S2 T : Sto} {L : LSyn} {q c : Str} {ds : List D} {me : EM} {tb : List (LSyn × Str × EM)} {d : D} {fs : List (Str × D)} {en en1 : En} {i : Nat} {b su s s1 s2 : SM} {cs : List Str}
theorem clo_ok (h : U[j]? = some (.clo k L q ds)) (ht : tb[k]? = some (L, q, me)) (r : me (ds.map some) (hideC U) = .ok d (hideC U ++ T)) : cloCall tb j U = .ok d (U ++ T) := by
  rw [cloCall_at h ht, r]
  unfold unhide
  simp only [show_hide]
theorem clo_exc (h : U[j]? = some (.clo k L q ds)) (ht : tb[k]? = some (L, q, me)) (r : me (ds.map some) (hideC U) = .exc c fs (hideC U ++ T)) : cloCall tb j U = .exc c fs (U ++ T) := by
  rw [cloCall_at h ht, r]
  unfold unhide
  simp only [show_hide]
theorem clo_en (h : en[i]? = some (some (.ref j))) : mCloC tb i en S = cloCall tb j S := by
  unfold mCloC
  rw [h]
theorem asg_ok (h : me en S = .ok d S1) : sAsg me (gNm i) en S = .next (en.set i (some d)) S1 := by
  unfold sAsg eS
  rw [h]; rfl
theorem asg_exc {g : GM} (h : me en S = .exc c fs S1) : sAsg me g en S = .exc c fs en S1 := by
  unfold sAsg eS
  rw [h]
theorem tryE_next (h : b en S = .next en1 S1) : sTryE cs i b su en S = .next en1 S1 := by
  unfold sTryE
  rw [h]
theorem tryE_exc (h : b en S = .exc c fs en1 S1) (hc : c ∈ cs) (hi : i < en1.length) (r : su (en1.set i (some (.ref S1.length))) (S1 ++ [.err c fs]) = .ret d S2) : sTryE cs i b su en S = .ret d S2 := by
  unfold sTryE
  rw [h]
  simp only []
  rw [if_pos ⟨hc, hi⟩, r]
theorem seq_ret (h : s1 en S = .ret d S1) : sSeq s1 s2 en S = .ret d S1 := by
  unfold sSeq
  rw [h]
theorem run_ret (h : s (ds.map some ++ List.replicate (n - ds.length) none) S = .ret d S1) : runB n s ds S = .ok d S1 := by
  unfold runB
  rw [h]
theorem scop_ret {f : List D → Sto → Res D} (h : f ds S = .ok d S1) (t : S1.take S.length = S) (hS : Cl S) (hd : Nr d) : scop f ds S = .ok d S := by
  unfold scop
  rw [h]
  simp only [Ag.cutR]
  rw [t, if_pos (cl_all hS _), frz_nr hd]
theorem sat_of {α : Type} {r : Res α} {a : α} {P : α → Sto → Prop} (e : r = .ok a S) (h : P a S) : r.sat P := by
  rw [e]; exact r_ok.mpr h
theorem s_retOf {S0 : Sto} {d0 : D} (h : (s en S).sat (fun _ _ => False) (fun d T => d = d0 ∧ T = S0)) : s en S = .ret d0 S0 := by
  cases q : s en S with
  | next e T => rw [q] at h; exact (s_nx.mp h).elim
  | ret d T => rw [q] at h; obtain ⟨rfl, rfl⟩ := s_rt.mp h; rfl
  | brk e T => rw [q] at h; exact (s_bk.mp h).elim
  | cnt e T => rw [q] at h; exact (s_ct.mp h).elim
  | exc c fs e T => rw [q] at h; exact (s_ex.mp h).elim
  | stuck => rw [q] at h; exact (s_st.mp h).elim
theorem q_itH {PI : ItD → Sto → Prop} : (mItH me en S).sat PI ↔ (me en S).sat fun d S1 => ∃ l, d = .lst l ∧ PI (lsIt l) S1 := by
  unfold mItH
  rw [r_bind]
  refine iff_of_eq (congrArg _ (funext fun d => funext fun S1 => propext ?_))
  cases d <;> simp [r_ok, r_stuck]
end
theorem nr_says (a b : Str) : Nr (.lst [.str a, .str b]) := nr_lst fun d hd => by
  simp only [List.mem_cons, List.not_mem_nil, or_false] at hd
  rcases hd with rfl | rfl <;> exact nr_str _
theorem ended_told {U T : Sto} {j : Nat} {d : D} {r : Str} (h : cloCall tbL j U = .ok d (U ++ T)) (hU : Cl U) (hr : gRepr d (U ++ T) = some (.str r)) : F_ended_l [.ref j] U = .ok (.lst [.str "told", .str r]) U := by
  unfold F_ended_l
  refine scop_ret (run_ret (d := .lst [.str "told", .str r]) (S1 := U ++ T) ?_) (by simp) hU (nr_says _ _)
  show s_ended_l [some (.ref j), none, none, none, none, none, none, none, none] U = _
  unfold s_ended_l
  refine (seq_next (tryE_next (asg_ok (d := d) (S1 := U ++ T) (by rw [clo_en (j := j) rfl]; exact h)))).trans ?_
  refine s_retOf ?_
  simp only [List.set_cons_succ, List.set_cons_zero]
  try simp only [p_seqL, p_par, p_par3, p_asgN, p_asg, p_expr, p_ret, p_nil, p_pass, p_if, p_for, p_try, q_cons, q_nil, q_cb, q_cr, q_call, q_callK, q_prop, q_make, q_bm, q_var, q_c, q_op, q_un, q_b, q_andB, q_orB, q_notB, q_andV, q_orV, q_notV, q_if, q_chain, q_tup, q_lst, q_lstC, q_lc, q_lcC, q_lc2, q_itV, q_itA, q_sl, q_oN, q_oS, sl_0, sl_s, os_some, os_if, f_1, ex_pair, ex_trip, g_unpS, gs_consS, gs_nilS, g_nm, g_subS, sq_tup, sq_lst, List.set_cons_zero, List.set_cons_succ, List.length_cons, List.length_nil, List.length_map, true_and, and_true, b_bl, Bool.not_true, Bool.not_false, Bool.false_eq_true, if_false, if_true, r_ok, i_int, sl_tup, sl_lst, it_tup, it_lst, it_scr, it_word, it_row, it_way, w_0, w_s, decide_true, decide_false, n_tup, n_lst, n_scr, n_word, n_row, n_way, eq_int, ne_int, c_int, en_tup, en_lst, zp_tup, zp_lst, zp_mix, m_yes, t_lst, t_tup, bind_s, a_int, s_int, g_ii, g_ib, is_non, isnt_non, rv_tup, rv_lst, not_true_eq_false, ne_eq, Nat.zero_le, hr]
  decide
/-- the answers about one class -/
structure KindE (c : Str) (k : Nat) : Prop where
  b0 : lookE c (.o "InvalidText") errR = some (decide (k = 0))
  b1 : lookE c (.o "InvalidNumber") errR = some (decide (k = 1))
  b2 : lookE c (.o "InvalidIndex") errR = some (decide (k = 2))
  b3 : lookE c (.o "NotACouncil") errR = some (decide (k = 3))
  b4 : lookE c (.o "InvalidMinds") errR = some (decide (k = 4))
  b5 : lookE c (.o "InvalidWays") errR = some (decide (k = 5))
  b6 : lookE c (.o "InvalidWord") errR = some (decide (k = 6))
  b7 : lookE c (.o "InvalidThoughts") errR = some (decide (k = 7))
  b8 : lookE c (.o "UnknownName") errR = some (decide (k = 8))
  b9 : lookE c (.o "NoDays") errR = some (decide (k = 9))
  b10 : lookE c (.o "TooMany") errR = some (decide (k = 10))
  o0 : lookE c (.o "WrongValue") errR = some (decide (k < 8))
  o1 : lookE c (.o "WrongName") errR = some (decide (k = 8))
  o2 : lookE c (.o "NoAnswer") errR = some (decide (8 < k))
  lt : k < 11
def wordsE : List Str := ["text", "number", "index", "council", "minds", "ways", "word", "thoughts", "unknown", "no days", "many"]
theorem isE {c : Str} {fs : List (Str × D)} {j : Nat} {T : Sto} (h : T[j]? = some (.err c fs)) {u : D} {t : Ty} {b : Bool} (hc : clD u = some t) (hl : lookE c t errR = some b) (base : List D → Sto → Option D) : fIsiE errR base [.ref j, u] T = some (.bl b) := by
  unfold fIsiE
  simp only [h, hc, Option.bind_some, hl, Option.map_some]
theorem cod_bE : Cod (fun b => D.bl b) (fun b => PyData.bool b) 0 := ⟨fun _ => rfl, fun a b => by cases a <;> cases b <;> rfl, fun _ => dp_bl _, fun _ => rfl⟩
def baseE (k : Nat) : Int := if k = 8 then 1 else if 8 < k then 2 else 0
theorem ended_exc {U T0 : Sto} {j k : Nat} {c : Str} {fs : List (Str × D)} {x : D} {t : Str} (h : cloCall tbL j U = .exc c fs (U ++ T0)) (hU : Cl U) (hc : c ∈ csE) (K : KindE c k) (h9 : k ≠ 9)
    (hx : (if 4 ≤ k ∧ k < 8 then fXf ["InvalidMinds","InvalidWays"] "index" else fXf [] "given") (.ref (U ++ T0).length) (U ++ T0 ++ [.err c fs]) = some x) (ht : ∀ T, gRepr x T = some (.str t)) : F_ended_l [.ref j] U = .ok (.lst [.str (wordsE.getD k ""), .str t]) U := by
  have hk : k = 0 ∨ k = 1 ∨ k = 2 ∨ k = 3 ∨ k = 4 ∨ k = 5 ∨ k = 6 ∨ k = 7 ∨ k = 8 ∨ k = 10 := by have := K.lt; omega
  unfold F_ended_l
  refine scop_ret (run_ret (d := .lst [.str (wordsE.getD k ""), .str t]) (S1 := U ++ T0 ++ [.err c fs]) ?_) (by simp) hU (nr_says _ _)
  show s_ended_l [some (.ref j), none, none, none, none, none, none, none, none] U = _
  unfold s_ended_l
  refine seq_ret (tryE_exc (asg_exc (by rw [clo_en (j := j) rfl]; exact h)) hc (by simp) ?_)
  have at_ : (U ++ T0 ++ [Ob.err c fs])[(U ++ T0).length]? = some (.err c fs) := by simp
  generalize U ++ T0 ++ [.err c fs] = T at at_ hx
  generalize (U ++ T0).length = a at at_ hx
  refine s_retOf ?_
  simp only [List.set_cons_succ, List.set_cons_zero]
  have ia : ∀ {y : Str} {q : Bool}, lookE c (.o y) errR = some q → ∀ base, fIsiE errR base [.ref a, .gl y] T = some (.bl q) := fun l base => isE at_ rfl l base
  have a22 : ∀ x1 x2 y1 y2 : D, fAdd (.lst [x1, x2]) (.lst [y1, y2]) T = some (.lst [x1, x2, y1, y2]) := fun _ _ _ _ => rfl
  have a42 : ∀ x1 x2 x3 x4 y1 y2 : D, fAdd (.lst [x1, x2, x3, x4]) (.lst [y1, y2]) T = some (.lst [x1, x2, x3, x4, y1, y2]) := fun _ _ _ _ _ _ => rfl
  have a62 : ∀ x1 x2 x3 x4 x5 x6 y1 y2 : D, fAdd (.lst [x1, x2, x3, x4, x5, x6]) (.lst [y1, y2]) T = some (.lst [x1, x2, x3, x4, x5, x6, y1, y2]) := fun _ _ _ _ _ _ _ _ => rfl
  have a82 : ∀ x1 x2 x3 x4 x5 x6 x7 x8 y1 y2 : D, fAdd (.lst [x1, x2, x3, x4, x5, x6, x7, x8]) (.lst [y1, y2]) T = some (.lst [x1, x2, x3, x4, x5, x6, x7, x8, y1, y2]) := fun _ _ _ _ _ _ _ _ _ _ => rfl
  have a101 : ∀ x1 x2 x3 x4 x5 x6 x7 x8 x9 x10 y1 : D, fAdd (.lst [x1, x2, x3, x4, x5, x6, x7, x8, x9, x10]) (.lst [y1]) T = some (.lst [x1, x2, x3, x4, x5, x6, x7, x8, x9, x10, y1]) := fun _ _ _ _ _ _ _ _ _ _ _ => rfl
  try simp only [p_seqL, p_par, p_par3, p_asgN, p_asg, p_expr, p_ret, p_nil, p_pass, p_if, p_for, p_try, q_cons, q_nil, q_cb, q_cr, q_call, q_callK, q_prop, q_make, q_bm, q_var, q_c, q_op, q_un, q_b, q_andB, q_orB, q_notB, q_andV, q_orV, q_notV, q_if, q_chain, q_tup, q_lst, q_lstC, q_lc, q_lcC, q_lc2, q_itV, q_itA, q_sl, q_oN, q_oS, sl_0, sl_s, os_some, os_if, f_1, ex_pair, ex_trip, g_unpS, gs_consS, gs_nilS, g_nm, g_subS, sq_tup, sq_lst, List.set_cons_zero, List.set_cons_succ, List.length_cons, List.length_nil, List.length_map, true_and, and_true, b_bl, Bool.not_true, Bool.not_false, Bool.false_eq_true, if_false, if_true, r_ok, i_int, sl_tup, sl_lst, it_tup, it_lst, it_scr, it_word, it_row, it_way, w_0, w_s, decide_true, decide_false, n_tup, n_lst, n_scr, n_word, n_row, n_way, eq_int, ne_int, c_int, en_tup, en_lst, zp_tup, zp_lst, zp_mix, m_yes, t_lst, t_tup, bind_s, a_int, s_int, g_ii, g_ib, is_non, isnt_non, rv_tup, rv_lst, not_true_eq_false, ne_eq, Nat.zero_le, ia K.b0, ia K.b1]
  refine ⟨by decide, ?_⟩
  rw [later_eq]
  try simp only [p_seqL, p_par, p_par3, p_asgN, p_asg, p_expr, p_ret, p_nil, p_pass, p_if, p_for, p_try, q_cons, q_nil, q_cb, q_cr, q_call, q_callK, q_prop, q_make, q_bm, q_var, q_c, q_op, q_un, q_b, q_andB, q_orB, q_notB, q_andV, q_orV, q_notV, q_if, q_chain, q_tup, q_lst, q_lstC, q_lc, q_lcC, q_lc2, q_itV, q_itA, q_sl, q_oN, q_oS, sl_0, sl_s, os_some, os_if, f_1, ex_pair, ex_trip, g_unpS, gs_consS, gs_nilS, g_nm, g_subS, sq_tup, sq_lst, List.set_cons_zero, List.set_cons_succ, List.length_cons, List.length_nil, List.length_map, true_and, and_true, b_bl, Bool.not_true, Bool.not_false, Bool.false_eq_true, if_false, if_true, r_ok, i_int, sl_tup, sl_lst, it_tup, it_lst, it_scr, it_word, it_row, it_way, w_0, w_s, decide_true, decide_false, n_tup, n_lst, n_scr, n_word, n_row, n_way, eq_int, ne_int, c_int, en_tup, en_lst, zp_tup, zp_lst, zp_mix, m_yes, t_lst, t_tup, bind_s, a_int, s_int, g_ii, g_ib, is_non, isnt_non, rv_tup, rv_lst, not_true_eq_false, ne_eq, Nat.zero_le, ia K.b2, ia K.b3, a22]
  refine ⟨by decide, ?_⟩
  rw [later_eq]
  try simp only [p_seqL, p_par, p_par3, p_asgN, p_asg, p_expr, p_ret, p_nil, p_pass, p_if, p_for, p_try, q_cons, q_nil, q_cb, q_cr, q_call, q_callK, q_prop, q_make, q_bm, q_var, q_c, q_op, q_un, q_b, q_andB, q_orB, q_notB, q_andV, q_orV, q_notV, q_if, q_chain, q_tup, q_lst, q_lstC, q_lc, q_lcC, q_lc2, q_itV, q_itA, q_sl, q_oN, q_oS, sl_0, sl_s, os_some, os_if, f_1, ex_pair, ex_trip, g_unpS, gs_consS, gs_nilS, g_nm, g_subS, sq_tup, sq_lst, List.set_cons_zero, List.set_cons_succ, List.length_cons, List.length_nil, List.length_map, true_and, and_true, b_bl, Bool.not_true, Bool.not_false, Bool.false_eq_true, if_false, if_true, r_ok, i_int, sl_tup, sl_lst, it_tup, it_lst, it_scr, it_word, it_row, it_way, w_0, w_s, decide_true, decide_false, n_tup, n_lst, n_scr, n_word, n_row, n_way, eq_int, ne_int, c_int, en_tup, en_lst, zp_tup, zp_lst, zp_mix, m_yes, t_lst, t_tup, bind_s, a_int, s_int, g_ii, g_ib, is_non, isnt_non, rv_tup, rv_lst, not_true_eq_false, ne_eq, Nat.zero_le, ia K.b4, ia K.b5, a42]
  refine ⟨by decide, ?_⟩
  rw [later_eq]
  try simp only [p_seqL, p_par, p_par3, p_asgN, p_asg, p_expr, p_ret, p_nil, p_pass, p_if, p_for, p_try, q_cons, q_nil, q_cb, q_cr, q_call, q_callK, q_prop, q_make, q_bm, q_var, q_c, q_op, q_un, q_b, q_andB, q_orB, q_notB, q_andV, q_orV, q_notV, q_if, q_chain, q_tup, q_lst, q_lstC, q_lc, q_lcC, q_lc2, q_itV, q_itA, q_sl, q_oN, q_oS, sl_0, sl_s, os_some, os_if, f_1, ex_pair, ex_trip, g_unpS, gs_consS, gs_nilS, g_nm, g_subS, sq_tup, sq_lst, List.set_cons_zero, List.set_cons_succ, List.length_cons, List.length_nil, List.length_map, true_and, and_true, b_bl, Bool.not_true, Bool.not_false, Bool.false_eq_true, if_false, if_true, r_ok, i_int, sl_tup, sl_lst, it_tup, it_lst, it_scr, it_word, it_row, it_way, w_0, w_s, decide_true, decide_false, n_tup, n_lst, n_scr, n_word, n_row, n_way, eq_int, ne_int, c_int, en_tup, en_lst, zp_tup, zp_lst, zp_mix, m_yes, t_lst, t_tup, bind_s, a_int, s_int, g_ii, g_ib, is_non, isnt_non, rv_tup, rv_lst, not_true_eq_false, ne_eq, Nat.zero_le, ia K.b6, ia K.b7, a62]
  refine ⟨by decide, ?_⟩
  rw [later_eq]
  try simp only [p_seqL, p_par, p_par3, p_asgN, p_asg, p_expr, p_ret, p_nil, p_pass, p_if, p_for, p_try, q_cons, q_nil, q_cb, q_cr, q_call, q_callK, q_prop, q_make, q_bm, q_var, q_c, q_op, q_un, q_b, q_andB, q_orB, q_notB, q_andV, q_orV, q_notV, q_if, q_chain, q_tup, q_lst, q_lstC, q_lc, q_lcC, q_lc2, q_itV, q_itA, q_sl, q_oN, q_oS, sl_0, sl_s, os_some, os_if, f_1, ex_pair, ex_trip, g_unpS, gs_consS, gs_nilS, g_nm, g_subS, sq_tup, sq_lst, List.set_cons_zero, List.set_cons_succ, List.length_cons, List.length_nil, List.length_map, true_and, and_true, b_bl, Bool.not_true, Bool.not_false, Bool.false_eq_true, if_false, if_true, r_ok, i_int, sl_tup, sl_lst, it_tup, it_lst, it_scr, it_word, it_row, it_way, w_0, w_s, decide_true, decide_false, n_tup, n_lst, n_scr, n_word, n_row, n_way, eq_int, ne_int, c_int, en_tup, en_lst, zp_tup, zp_lst, zp_mix, m_yes, t_lst, t_tup, bind_s, a_int, s_int, g_ii, g_ib, is_non, isnt_non, rv_tup, rv_lst, not_true_eq_false, ne_eq, Nat.zero_le, ia K.b8, ia K.b9, a82]
  refine ⟨by decide, ?_⟩
  rw [later_eq]
  try simp only [p_seqL, p_par, p_par3, p_asgN, p_asg, p_expr, p_ret, p_nil, p_pass, p_if, p_for, p_try, q_cons, q_nil, q_cb, q_cr, q_call, q_callK, q_prop, q_make, q_bm, q_var, q_c, q_op, q_un, q_b, q_andB, q_orB, q_notB, q_andV, q_orV, q_notV, q_if, q_chain, q_tup, q_lst, q_lstC, q_lc, q_lcC, q_lc2, q_itV, q_itA, q_sl, q_oN, q_oS, sl_0, sl_s, os_some, os_if, f_1, ex_pair, ex_trip, g_unpS, gs_consS, gs_nilS, g_nm, g_subS, sq_tup, sq_lst, List.set_cons_zero, List.set_cons_succ, List.length_cons, List.length_nil, List.length_map, true_and, and_true, b_bl, Bool.not_true, Bool.not_false, Bool.false_eq_true, if_false, if_true, r_ok, i_int, sl_tup, sl_lst, it_tup, it_lst, it_scr, it_word, it_row, it_way, w_0, w_s, decide_true, decide_false, n_tup, n_lst, n_scr, n_word, n_row, n_way, eq_int, ne_int, c_int, en_tup, en_lst, zp_tup, zp_lst, zp_mix, m_yes, t_lst, t_tup, bind_s, a_int, s_int, g_ii, g_ib, is_non, isnt_non, rv_tup, rv_lst, not_true_eq_false, ne_eq, Nat.zero_le, ia K.b10, a101, q_itH]
  refine ⟨by decide, by decide, by decide, by decide, by decide, by decide, by decide, by decide, by decide, by decide, rfl, by decide, by decide, _, rfl, sat_of (a := [.str (wordsE.getD k "")]) (S := T) ?_ ?_⟩
  · rcases hk with rfl | rfl | rfl | rfl | rfl | rfl | rfl | rfl | rfl | rfl <;> rfl
  have jn : fJoin (.str "") [.lst [.str (wordsE.getD k "")]] T = some (.str (wordsE.getD k ""), T) := by
    rcases hk with rfl | rfl | rfl | rfl | rfl | rfl | rfl | rfl | rfl | rfl <;> rfl
  rw [jn, os_some]
  rw [later_eq]
  try simp only [p_seqL, p_par, p_par3, p_asgN, p_asg, p_expr, p_ret, p_nil, p_pass, p_if, p_for, p_try, q_cons, q_nil, q_cb, q_cr, q_call, q_callK, q_prop, q_make, q_bm, q_var, q_c, q_op, q_un, q_b, q_andB, q_orB, q_notB, q_andV, q_orV, q_notV, q_if, q_chain, q_tup, q_lst, q_lstC, q_lc, q_lcC, q_lc2, q_itV, q_itA, q_sl, q_oN, q_oS, sl_0, sl_s, os_some, os_if, f_1, ex_pair, ex_trip, g_unpS, gs_consS, gs_nilS, g_nm, g_subS, sq_tup, sq_lst, List.set_cons_zero, List.set_cons_succ, List.length_cons, List.length_nil, List.length_map, true_and, and_true, b_bl, Bool.not_true, Bool.not_false, Bool.false_eq_true, if_false, if_true, r_ok, i_int, sl_tup, sl_lst, it_tup, it_lst, it_scr, it_word, it_row, it_way, w_0, w_s, decide_true, decide_false, n_tup, n_lst, n_scr, n_word, n_row, n_way, eq_int, ne_int, c_int, en_tup, en_lst, zp_tup, zp_lst, zp_mix, m_yes, t_lst, t_tup, bind_s, a_int, s_int, g_ii, g_ib, is_non, isnt_non, rv_tup, rv_lst, not_true_eq_false, ne_eq, Nat.zero_le, ia K.o0, ia K.o1, ia K.o2]
  refine ⟨by decide, ?_⟩
  rw [later_eq, p_seqL, p_asgN]
  refine sat_of (a := .int (baseE k)) (S := T) ?_ ?_
  · rcases hk with rfl | rfl | rfl | rfl | rfl | rfl | rfl | rfl | rfl | rfl <;> kernel_rfl
  rw [later_eq]
  have r1 : rg1 [.int 3] T = some (rgIt 0 3) := rg1_len 3 T (by decide)
  have neb : ∀ p q r : Bool, fNe (.lst [.bl p, .bl q, .bl r]) (.lst [.bl p, .bl q, .bl r]) T = some (.bl false) := fun p q r => by
    have e := cod_bE.lst.ne (by decide) [p, q, r] [p, q, r] T
    rw [decide_eq_true rfl] at e
    exact e
  have f9 : fEq (.str (wordsE.getD k "")) (.str "no days") T = some (.bl false) := by
    rcases hk with rfl | rfl | rfl | rfl | rfl | rfl | rfl | rfl | rfl | rfl <;> rfl
  have f4 : fIn (.str (wordsE.getD k "")) (.lst [.str "minds", .str "ways", .str "word", .str "thoughts"]) T = some (.bl (decide (4 ≤ k ∧ k < 8))) := by
    rcases hk with rfl | rfl | rfl | rfl | rfl | rfl | rfl | rfl | rfl | rfl <;> kernel_rfl
  try simp only [p_seqL, p_par, p_par3, p_asgN, p_asg, p_expr, p_ret, p_nil, p_pass, p_if, p_for, p_try, q_cons, q_nil, q_cb, q_cr, q_call, q_callK, q_prop, q_make, q_bm, q_var, q_c, q_op, q_un, q_b, q_andB, q_orB, q_notB, q_andV, q_orV, q_notV, q_if, q_chain, q_tup, q_lst, q_lstC, q_lc, q_lcC, q_lc2, q_itV, q_itA, q_sl, q_oN, q_oS, sl_0, sl_s, os_some, os_if, f_1, ex_pair, ex_trip, g_unpS, gs_consS, gs_nilS, g_nm, g_subS, sq_tup, sq_lst, List.set_cons_zero, List.set_cons_succ, List.length_cons, List.length_nil, List.length_map, true_and, and_true, b_bl, Bool.not_true, Bool.not_false, Bool.false_eq_true, if_false, if_true, r_ok, i_int, sl_tup, sl_lst, it_tup, it_lst, it_scr, it_word, it_row, it_way, w_0, w_s, decide_true, decide_false, n_tup, n_lst, n_scr, n_word, n_row, n_way, eq_int, ne_int, c_int, en_tup, en_lst, zp_tup, zp_lst, zp_mix, m_yes, t_lst, t_tup, bind_s, a_int, s_int, g_ii, g_ib, is_non, isnt_non, rv_tup, rv_lst, not_true_eq_false, ne_eq, Nat.zero_le, r1]
  refine sat_of (a := [.bl (decide (k < 8)), .bl (decide (k = 8)), .bl (decide (8 < k))]) (S := T) ?_ ?_
  · rcases hk with rfl | rfl | rfl | rfl | rfl | rfl | rfl | rfl | rfl | rfl <;> rfl
  try simp only [p_seqL, p_par, p_par3, p_asgN, p_asg, p_expr, p_ret, p_nil, p_pass, p_if, p_for, p_try, q_cons, q_nil, q_cb, q_cr, q_call, q_callK, q_prop, q_make, q_bm, q_var, q_c, q_op, q_un, q_b, q_andB, q_orB, q_notB, q_andV, q_orV, q_notV, q_if, q_chain, q_tup, q_lst, q_lstC, q_lc, q_lcC, q_lc2, q_itV, q_itA, q_sl, q_oN, q_oS, sl_0, sl_s, os_some, os_if, f_1, ex_pair, ex_trip, g_unpS, gs_consS, gs_nilS, g_nm, g_subS, sq_tup, sq_lst, List.set_cons_zero, List.set_cons_succ, List.length_cons, List.length_nil, List.length_map, true_and, and_true, b_bl, Bool.not_true, Bool.not_false, Bool.false_eq_true, if_false, if_true, r_ok, i_int, sl_tup, sl_lst, it_tup, it_lst, it_scr, it_word, it_row, it_way, w_0, w_s, decide_true, decide_false, n_tup, n_lst, n_scr, n_word, n_row, n_way, eq_int, ne_int, c_int, en_tup, en_lst, zp_tup, zp_lst, zp_mix, m_yes, t_lst, t_tup, bind_s, a_int, s_int, g_ii, g_ib, is_non, isnt_non, rv_tup, rv_lst, not_true_eq_false, ne_eq, Nat.zero_le, neb]
  rw [later_eq]
  try simp only [p_seqL, p_par, p_par3, p_asgN, p_asg, p_expr, p_ret, p_nil, p_pass, p_if, p_for, p_try, q_cons, q_nil, q_cb, q_cr, q_call, q_callK, q_prop, q_make, q_bm, q_var, q_c, q_op, q_un, q_b, q_andB, q_orB, q_notB, q_andV, q_orV, q_notV, q_if, q_chain, q_tup, q_lst, q_lstC, q_lc, q_lcC, q_lc2, q_itV, q_itA, q_sl, q_oN, q_oS, sl_0, sl_s, os_some, os_if, f_1, ex_pair, ex_trip, g_unpS, gs_consS, gs_nilS, g_nm, g_subS, sq_tup, sq_lst, List.set_cons_zero, List.set_cons_succ, List.length_cons, List.length_nil, List.length_map, true_and, and_true, b_bl, Bool.not_true, Bool.not_false, Bool.false_eq_true, if_false, if_true, r_ok, i_int, sl_tup, sl_lst, it_tup, it_lst, it_scr, it_word, it_row, it_way, w_0, w_s, decide_true, decide_false, n_tup, n_lst, n_scr, n_word, n_row, n_way, eq_int, ne_int, c_int, en_tup, en_lst, zp_tup, zp_lst, zp_mix, m_yes, t_lst, t_tup, bind_s, a_int, s_int, g_ii, g_ib, is_non, isnt_non, rv_tup, rv_lst, not_true_eq_false, ne_eq, Nat.zero_le, f9]
  rw [later_eq]
  try simp only [p_seqL, p_par, p_par3, p_asgN, p_asg, p_expr, p_ret, p_nil, p_pass, p_if, p_for, p_try, q_cons, q_nil, q_cb, q_cr, q_call, q_callK, q_prop, q_make, q_bm, q_var, q_c, q_op, q_un, q_b, q_andB, q_orB, q_notB, q_andV, q_orV, q_notV, q_if, q_chain, q_tup, q_lst, q_lstC, q_lc, q_lcC, q_lc2, q_itV, q_itA, q_sl, q_oN, q_oS, sl_0, sl_s, os_some, os_if, f_1, ex_pair, ex_trip, g_unpS, gs_consS, gs_nilS, g_nm, g_subS, sq_tup, sq_lst, List.set_cons_zero, List.set_cons_succ, List.length_cons, List.length_nil, List.length_map, true_and, and_true, b_bl, Bool.not_true, Bool.not_false, Bool.false_eq_true, if_false, if_true, r_ok, i_int, sl_tup, sl_lst, it_tup, it_lst, it_scr, it_word, it_row, it_way, w_0, w_s, decide_true, decide_false, n_tup, n_lst, n_scr, n_word, n_row, n_way, eq_int, ne_int, c_int, en_tup, en_lst, zp_tup, zp_lst, zp_mix, m_yes, t_lst, t_tup, bind_s, a_int, s_int, g_ii, g_ib, is_non, isnt_non, rv_tup, rv_lst, not_true_eq_false, ne_eq, Nat.zero_le, f4]
  by_cases k4 : 4 ≤ k ∧ k < 8
  · rw [if_pos k4] at hx
    try simp only [p_seqL, p_par, p_par3, p_asgN, p_asg, p_expr, p_ret, p_nil, p_pass, p_if, p_for, p_try, q_cons, q_nil, q_cb, q_cr, q_call, q_callK, q_prop, q_make, q_bm, q_var, q_c, q_op, q_un, q_b, q_andB, q_orB, q_notB, q_andV, q_orV, q_notV, q_if, q_chain, q_tup, q_lst, q_lstC, q_lc, q_lcC, q_lc2, q_itV, q_itA, q_sl, q_oN, q_oS, sl_0, sl_s, os_some, os_if, f_1, ex_pair, ex_trip, g_unpS, gs_consS, gs_nilS, g_nm, g_subS, sq_tup, sq_lst, List.set_cons_zero, List.set_cons_succ, List.length_cons, List.length_nil, List.length_map, true_and, and_true, b_bl, Bool.not_true, Bool.not_false, Bool.false_eq_true, if_false, if_true, r_ok, i_int, sl_tup, sl_lst, it_tup, it_lst, it_scr, it_word, it_row, it_way, w_0, w_s, decide_true, decide_false, n_tup, n_lst, n_scr, n_word, n_row, n_way, eq_int, ne_int, c_int, en_tup, en_lst, zp_tup, zp_lst, zp_mix, m_yes, t_lst, t_tup, bind_s, a_int, s_int, g_ii, g_ib, is_non, isnt_non, rv_tup, rv_lst, not_true_eq_false, ne_eq, Nat.zero_le, decide_eq_true k4, hx, ht]
    decide
  · rw [if_neg k4] at hx
    try simp only [p_seqL, p_par, p_par3, p_asgN, p_asg, p_expr, p_ret, p_nil, p_pass, p_if, p_for, p_try, q_cons, q_nil, q_cb, q_cr, q_call, q_callK, q_prop, q_make, q_bm, q_var, q_c, q_op, q_un, q_b, q_andB, q_orB, q_notB, q_andV, q_orV, q_notV, q_if, q_chain, q_tup, q_lst, q_lstC, q_lc, q_lcC, q_lc2, q_itV, q_itA, q_sl, q_oN, q_oS, sl_0, sl_s, os_some, os_if, f_1, ex_pair, ex_trip, g_unpS, gs_consS, gs_nilS, g_nm, g_subS, sq_tup, sq_lst, List.set_cons_zero, List.set_cons_succ, List.length_cons, List.length_nil, List.length_map, true_and, and_true, b_bl, Bool.not_true, Bool.not_false, Bool.false_eq_true, if_false, if_true, r_ok, i_int, sl_tup, sl_lst, it_tup, it_lst, it_scr, it_word, it_row, it_way, w_0, w_s, decide_true, decide_false, n_tup, n_lst, n_scr, n_word, n_row, n_way, eq_int, ne_int, c_int, en_tup, en_lst, zp_tup, zp_lst, zp_mix, m_yes, t_lst, t_tup, bind_s, a_int, s_int, g_ii, g_ib, is_non, isnt_non, rv_tup, rv_lst, not_true_eq_false, ne_eq, Nat.zero_le, decide_eq_false k4, hx, ht]
    decide

end Ag.k04

namespace Ag.k04
open PySem

/-! each of the lambdas of a list says the same -/
theorem lcm_ref {U : Sto} {a : Nat} {l : List D} {me : EM} {en : En} {i : Nat} {f : D → D} (h : U[a]? = some (.lst l)) (hl : l.length < lineN) (step : ∀ d ∈ l, me (en.set i (some d)) U = .ok (f d) U) :
    ∀ n k acc, n + k = l.length → acc = (l.take k).map f → lcM (fun k S' => match S'[a]? with
      | some (.lst l') => some l'[k]?
      | _ => none) (gNm i) mYes me en n k acc U = .ok (l.map f) U := by
  intro n
  induction n with
  | zero =>
    intro k acc e ea
    have ek : k = l.length := by omega
    subst ek ea
    unfold lcM
    simp only [h]
    rw [List.getElem?_eq_none (Nat.le_refl _), List.take_length]
  | succ n ih =>
    intro k acc e ea
    have hk : k < l.length := by omega
    unfold lcM
    simp only [h]
    rw [List.getElem?_eq_getElem hk]
    have g : gNm i l[k] en U = .ok (en.set i (some l[k])) U := rfl
    have y : mYes (en.set i (some l[k])) U = .ok true U := rfl
    have st := step l[k] (List.getElem_mem hk)
    simp only [g, y, st, if_true]
    have la : acc.length < lineN := by rw [ea, List.length_map, List.length_take]; omega
    rw [if_pos la]
    refine ih (k + 1) _ (by omega) ?_
    rw [ea, List.take_succ, List.map_append, List.getElem?_eq_getElem hk]
    rfl
theorem is_ended_ok {U : Sto} {a : Nat} {rs : List D} {x y : Str} (h : U[a]? = some (.lst rs)) (hn : rs.length ≤ 100) (sx : PyData.strOk x = true) (sy : PyData.strOk y = true) (each : ∀ r ∈ rs, F_ended_l [r] U = .ok (.lst [.str x, .str y]) U) :
    F_is_ended_l [.ref a, .lst [.str x, .str y]] U = .ok (.bl true) U := by
  unfold F_is_ended_l
  apply sat_eq
  simp only [f_run, List.map_cons, List.map_nil, List.length_cons, List.length_nil, Nat.zero_add, Nat.reduceAdd, Nat.reduceSub, List.replicate_succ, List.replicate_zero, List.cons_append, List.nil_append]
  unfold s_is_ended_l
  have it : itOf (.ref a) U = some ⟨fun k S' => match S'[a]? with
      | some (.lst l') => some l'[k]?
      | _ => none, rs.length⟩ := by
    simp only [itOf, h]
    all_goals rfl
  try simp only [p_seqL, p_par, p_par3, p_asgN, p_asg, p_expr, p_ret, p_nil, p_pass, p_if, p_for, p_try, q_cons, q_nil, q_cb, q_cr, q_call, q_callK, q_prop, q_make, q_bm, q_var, q_c, q_op, q_un, q_b, q_andB, q_orB, q_notB, q_andV, q_orV, q_notV, q_if, q_chain, q_tup, q_lst, q_lstC, q_lc, q_lcC, q_lc2, q_itV, q_itA, q_sl, q_oN, q_oS, sl_0, sl_s, os_some, os_if, f_1, ex_pair, ex_trip, g_unpS, gs_consS, gs_nilS, g_nm, g_subS, sq_tup, sq_lst, List.set_cons_zero, List.set_cons_succ, List.length_cons, List.length_nil, List.length_map, true_and, and_true, b_bl, Bool.not_true, Bool.not_false, Bool.false_eq_true, if_false, if_true, r_ok, i_int, sl_tup, sl_lst, it_tup, it_lst, it_scr, it_word, it_row, it_way, w_0, w_s, decide_true, decide_false, n_tup, n_lst, n_scr, n_word, n_row, n_way, eq_int, ne_int, c_int, en_tup, en_lst, zp_tup, zp_lst, zp_mix, m_yes, t_lst, t_tup, bind_s, a_int, s_int, g_ii, g_ib, is_non, isnt_non, rv_tup, rv_lst, not_true_eq_false, ne_eq, Nat.zero_le, it]
  have ln : rs.length < lineN := by unfold lineN; omega
  refine sat_of (a := rs.map fun _ => .lst [.str x, .str y]) (S := U) (lcm_ref h ln (fun d hd => ?_) _ 0 [] (by simp) (by simp)) ?_
  · exact each d hd
  · have gl : gLen (.ref a) U = some (.int (rs.length : Int)) := by simp only [gLen, rdOf, lstOf, h, Option.map_some]
    have mu : fMul (.lst [.lst [.str x, .str y]]) (.int (rs.length : Int)) U = some (.lst (List.replicate rs.length (.lst [.str x, .str y]))) := by
      show (if 0 ≤ (rs.length : Int) ∧ (rs.length : Int) ≤ 1000 ∧ ([D.lst [.str x, .str y]]).length ≤ 1000 then some (D.lst (List.replicate (rs.length : Int).toNat [D.lst [.str x, .str y]]).flatten) else none) = _
      rw [if_pos ⟨by omega, by omega, by simp⟩]
      simp
    try simp only [p_seqL, p_par, p_par3, p_asgN, p_asg, p_expr, p_ret, p_nil, p_pass, p_if, p_for, p_try, q_cons, q_nil, q_cb, q_cr, q_call, q_callK, q_prop, q_make, q_bm, q_var, q_c, q_op, q_un, q_b, q_andB, q_orB, q_notB, q_andV, q_orV, q_notV, q_if, q_chain, q_tup, q_lst, q_lstC, q_lc, q_lcC, q_lc2, q_itV, q_itA, q_sl, q_oN, q_oS, sl_0, sl_s, os_some, os_if, f_1, ex_pair, ex_trip, g_unpS, gs_consS, gs_nilS, g_nm, g_subS, sq_tup, sq_lst, List.set_cons_zero, List.set_cons_succ, List.length_cons, List.length_nil, List.length_map, true_and, and_true, b_bl, Bool.not_true, Bool.not_false, Bool.false_eq_true, if_false, if_true, r_ok, i_int, sl_tup, sl_lst, it_tup, it_lst, it_scr, it_word, it_row, it_way, w_0, w_s, decide_true, decide_false, n_tup, n_lst, n_scr, n_word, n_row, n_way, eq_int, ne_int, c_int, en_tup, en_lst, zp_tup, zp_lst, zp_mix, m_yes, t_lst, t_tup, bind_s, a_int, s_int, g_ii, g_ib, is_non, isnt_non, rv_tup, rv_lst, not_true_eq_false, ne_eq, Nat.zero_le, gl, mu]
    refine ⟨by decide, ?_⟩
    rw [List.map_const', eq_same (Dp.pl (dp_lst (k := 1) fun d hd => by
      rw [(List.mem_replicate.mp hd).2]
      exact dp_lst (k := 0) fun d hd => by
        simp only [List.mem_cons, List.not_mem_nil, or_false] at hd
        rcases hd with rfl | rfl
        · exact dp_str sx
        · exact dp_str sy) (by decide))]
    simp only [os_some]
theorem hide_bel {S : Sto} (h : Cl S) {n : Nat} (hn : S.length ≤ n) : ∀ o ∈ hideC S, o.below n = true := fun o ho => by
  unfold hideC at ho
  obtain ⟨p, hp, rfl⟩ := List.mem_map.mp ho
  have := h p hp n hn
  cases p <;> first | exact this | rfl
theorem hide_hide (S : Sto) : hideC (hideC S) = hideC S := by
  unfold hideC
  rw [List.map_map]
  exact List.map_congr_left fun o _ => by cases o <;> rfl
theorem hide_len (S : Sto) : (hideC S).length = S.length := by simp [hideC]
def liveU (S : Sto) (cl : List Ob) : Sto := hideC S ++ (cl ++ [.lst (refsN S.length cl.length)])
theorem liveU_cl {S : Sto} {cl : List Ob} (hS : Cl S) (hcl : ∀ o ∈ cl, ∀ n, S.length ≤ n → o.below n = true) : Cl (liveU S cl) := fun o ho n hn => by
  unfold liveU at ho hn
  simp only [List.length_append, hide_len, List.length_cons, List.length_nil] at hn
  rcases List.mem_append.mp ho with z | z
  · exact hide_bel hS (by omega) o z
  · rcases List.mem_append.mp z with z | z
    · exact hcl o z n (by omega)
    · have : o = .lst (refsN S.length cl.length) := by simpa using z
      subst this
      have bels : ∀ l : List D, (∀ d ∈ l, below n d = true) → belows n l = true := fun l => by
        induction l with
        | nil => intro _; rfl
        | cons d l ih => intro hd; simp only [belows, Bool.and_eq_true]; exact ⟨hd d List.mem_cons_self, ih fun e he => hd e (List.mem_cons_of_mem _ he)⟩
      show belows n (refsN S.length cl.length) = true
      refine bels _ fun d hd => ?_
      unfold refsN at hd
      obtain ⟨j, hj, rfl⟩ := List.mem_map.mp hd
      have := List.mem_range.mp hj
      exact decide_eq_true (by omega)
theorem liveU_at {S : Sto} {cl : List Ob} {i : Nat} {o : Ob} (h : cl[i]? = some o) : (liveU S cl)[S.length + i]? = some o := by
  unfold liveU
  rw [List.getElem?_append_right (by rw [hide_len]; omega), hide_len, Nat.add_sub_cancel_left, List.getElem?_append_left (List.getElem?_eq_some_iff.mp h).1, h]
theorem live_ok {cs : List (Nat × LSyn)} {q : Str} {en : En} {S : Sto} {cl : List Ob} {x y : Str} (hcap : capAll q en cs = some cl) (hlen : cl.length = cs.length) (hn : cs.length ≤ 100) (hS : Cl S) (hcl : ∀ o ∈ cl, ∀ n, S.length ≤ n → o.below n = true)
    (sx : PyData.strOk x = true) (sy : PyData.strOk y = true) (each : ∀ i, i < cs.length → F_ended_l [.ref (S.length + i)] (liveU S cl) = .ok (.lst [.str x, .str y]) (liveU S cl)) : liveR cs q F_is_ended_l en S (.lst [.str x, .str y]) = .ok (.bl true) S := by
  unfold liveR
  rw [hcap]
  simp only []
  have at_ : (liveU S cl)[S.length + cs.length]? = some (.lst (refsN S.length cl.length)) := by
    unfold liveU
    rw [List.getElem?_append_right (by rw [hide_len]; omega), hide_len, Nat.add_sub_cancel_left, List.getElem?_append_right (by omega), hlen]
    simp
  have r := is_ended_ok (x := x) (y := y) at_ (by unfold refsN; simp; omega) sx sy fun r hr => by
    unfold refsN at hr
    obtain ⟨j, hj, rfl⟩ := List.mem_map.mp hr
    exact each j (by have := List.mem_range.mp hj; omega)
  rw [← hlen]
  rw [← hlen] at r
  show shown S (cutR S.length (F_is_ended_l [.ref (S.length + cl.length), .lst [.str x, .str y]] (liveU S cl))) = _
  rw [r]
  have tk : (liveU S cl).take S.length = hideC S := by
    unfold liveU
    rw [List.take_append_of_le_length (by rw [hide_len]; exact Nat.le_refl _), List.take_of_length_le (by rw [hide_len]; exact Nat.le_refl _)]
  simp only [Ag.cutR]
  rw [tk, if_pos (List.all_eq_true.mpr fun o ho => hide_bel hS (Nat.le_refl _) o ho)]
  have fz : frzD S.length (liveU S cl) (.bl true) = some (.bl true) := frz_nr (nr_bl _)
  rw [fz]
  simp only [shown]
  rw [hide_hide]
  have := show_hide S []
  simp only [List.append_nil] at this
  rw [this]

end Ag.k04

namespace Ag.k04
open PySem

/-! ways and what is none -/
def kd : D → Bool
  | .non => true
  | .bl _ => true
  | .int _ => true
  | .str _ => true
  | .tup _ => true
  | .lst _ => true
  | .dct [] => true
  | _ => false
def Kx : Nat → D → Prop
  | 0, d => kd d = true ∧ Nr d
  | n + 1, d => kd d = true ∧ Nr d ∧ ∀ l, d = .tup l → l.length ≤ 40 ∧ ∀ e ∈ l, Kx n e
theorem kx_kd {n : Nat} {d : D} (h : Kx n d) : kd d = true := by cases n <;> exact h.1
theorem kx_nr {n : Nat} {d : D} (h : Kx n d) : Nr d := by
  cases n with
  | zero => exact h.2
  | succ n => exact h.2.1
theorem kx_tup {n : Nat} {l : List D} (hl : l.length ≤ 40) (h : ∀ e ∈ l, Kx n e) : Kx (n + 1) (.tup l) := ⟨rfl, nr_tup fun e he => kx_nr (h e he), fun l' e => by cases e; exact ⟨hl, h⟩⟩
theorem kx_at {n : Nat} {d : D} (h : kd d = true) (r : Nr d) (t : ∀ l, d ≠ .tup l) : Kx n d := by
  cases n with
  | zero => exact ⟨h, r⟩
  | succ n => exact ⟨h, r, fun l e => absurd e (t l)⟩
theorem kx_int {n : Nat} (i : Int) : Kx n (.int i) := kx_at rfl (nr_int i) (fun _ e => by cases e)
theorem kx_row {n : Nat} {r : List Int} (h : r.length ≤ 40) : Kx n (rowD r) := by
  cases n with
  | zero => exact ⟨rfl, nr_tup (nr_map nr_int)⟩
  | succ n =>
    refine kx_tup (by rw [List.length_map]; exact h) fun e he => ?_
    obtain ⟨i, _, rfl⟩ := List.mem_map.mp he
    exact kx_int i
theorem kx_way {n : Nat} {w : List (List Int)} (h : w.length ≤ 40) (hr : ∀ r ∈ w, r.length ≤ 40) : Kx n (wayD w) := by
  cases n with
  | zero => exact ⟨rfl, nr_tup (nr_map nr_row)⟩
  | succ n =>
    refine kx_tup (by rw [List.length_map]; exact h) fun e he => ?_
    obtain ⟨r, hr', rfl⟩ := List.mem_map.mp he
    exact kx_row (hr r hr')
def isT : D → Bool
  | .tup _ => true
  | _ => false
theorem isi_t {d : D} (h : kd d = true) (S : Sto) : fIsiZ isoC isoT [d, .ty "tuple"] S = some (.bl (isT d)) := by
  cases d with
  | dct l => cases l with
    | nil => rfl
    | cons x l => cases h
  | ref i => cases h
  | scr l => cases h
  | obj c n l => cases h
  | ty t => cases h
  | gl t => cases h
  | _ => rfl
def isI : D → Bool
  | .int _ => true
  | .bl _ => true
  | _ => false
def isB : D → Bool
  | .bl _ => true
  | _ => false
theorem isi_i {d : D} (h : kd d = true) (S : Sto) : fIsiZ isoC isoT [d, .ty "int"] S = some (.bl (isI d)) := by
  cases d with
  | dct l => cases l with
    | nil => rfl
    | cons x l => cases h
  | ref i => cases h
  | scr l => cases h
  | obj c n l => cases h
  | ty t => cases h
  | gl t => cases h
  | _ => rfl
theorem isi_b {d : D} (h : kd d = true) (S : Sto) : fIsiZ isoC isoT [d, .ty "bool"] S = some (.bl (isB d)) := by
  cases d with
  | dct l => cases l with
    | nil => rfl
    | cons x l => cases h
  | ref i => cases h
  | scr l => cases h
  | obj c n l => cases h
  | ty t => cases h
  | gl t => cases h
  | _ => rfl
def elB : D → Bool
  | .int i => decide (0 ≤ i) && decide (i ≤ 1000000000)
  | _ => false
def numD : D → Int
  | .int i => i
  | _ => 0
def rowB (n : Nat) : D → Bool
  | .tup l => decide (l.length = n) && (l.all elB && decide (0 < (l.map numD).sum))
  | _ => false
def wayB (n : Nat) : D → Bool
  | .tup l => decide (l.length = n) && l.all (rowB n)
  | _ => false
theorem within_any {d : D} (h : kd d = true) (S : Sto) : F_is_within [d, .int 0, .int 1000000000] S = .ok (.bl (elB d)) S := by
  cases d with
  | int i => exact within_ok i 0 1000000000 S
  | dct l => cases l with
    | nil => rfl
    | cons x l => cases h
  | ref i => cases h
  | scr l => cases h
  | obj c n l => cases h
  | ty t => cases h
  | gl t => cases h
  | _ => rfl
theorem els_int : ∀ {l : List D}, l.all elB = true → ∃ r : List Int, l = r.map D.int ∧ (∀ w ∈ r, 0 ≤ w ∧ w ≤ 1000000000) ∧ (l.map numD).sum = r.sum
  | [], _ => ⟨[], rfl, by simp, rfl⟩
  | d :: l, h => by
    simp only [List.all_cons, Bool.and_eq_true] at h
    obtain ⟨r, rfl, h1, h2⟩ := els_int h.2
    cases d with
    | int i =>
      have hi := h.1
      simp only [elB, Bool.and_eq_true, decide_eq_true_eq] at hi
      refine ⟨i :: r, rfl, fun w hw => ?_, ?_⟩
      · rcases List.mem_cons.mp hw with rfl | hw
        · exact hi
        · exact h1 w hw
      · simp only [List.map_cons, List.sum_cons, numD] at h2 ⊢
        rw [h2]
    | _ => cases h.1
theorem row_any {n : Nat} {d : D} (h : Kx 1 d) (S : Sto) : F_is_row [d, .int (n : Int)] S = .ok (.bl (rowB n d)) S := by
  have e1 := isi_t (kx_kd h) S
  cases ht : isT d with
  | false =>
    rw [ht] at e1
    have : rowB n d = false := by cases d <;> first | rfl | cases ht
    rw [this]
    unfold F_is_row
    apply sat_eq
    simp only [f_run, List.map_cons, List.map_nil, List.length_cons, List.length_nil, Nat.zero_add, Nat.reduceAdd, Nat.reduceSub, List.replicate_succ, List.replicate_zero, List.cons_append, List.nil_append]
    unfold s_is_row
    try simp only [p_seqL, p_par, p_par3, p_asgN, p_asg, p_expr, p_ret, p_nil, p_pass, p_if, p_for, p_try, q_cons, q_nil, q_cb, q_cr, q_call, q_callK, q_prop, q_make, q_bm, q_var, q_c, q_op, q_un, q_b, q_andB, q_orB, q_notB, q_andV, q_orV, q_notV, q_if, q_chain, q_tup, q_lst, q_lstC, q_lc, q_lcC, q_lc2, q_itV, q_itA, q_sl, q_oN, q_oS, sl_0, sl_s, os_some, os_if, f_1, ex_pair, ex_trip, g_unpS, gs_consS, gs_nilS, g_nm, g_subS, sq_tup, sq_lst, List.set_cons_zero, List.set_cons_succ, List.length_cons, List.length_nil, List.length_map, true_and, and_true, b_bl, Bool.not_true, Bool.not_false, Bool.false_eq_true, if_false, if_true, r_ok, i_int, sl_tup, sl_lst, it_tup, it_lst, it_scr, it_word, it_row, it_way, w_0, w_s, decide_true, decide_false, n_tup, n_lst, n_scr, n_word, n_row, n_way, eq_int, ne_int, c_int, en_tup, en_lst, zp_tup, zp_lst, zp_mix, m_yes, t_lst, t_tup, bind_s, a_int, s_int, g_ii, g_ib, is_non, isnt_non, rv_tup, rv_lst, not_true_eq_false, ne_eq, Nat.zero_le, e1]
  | true =>
    obtain ⟨l, rfl⟩ : ∃ l, d = .tup l := by cases d <;> first | exact ⟨_, rfl⟩ | cases ht
    obtain ⟨hl, he⟩ := h.2.2 l rfl
    have gl : gLen (.tup l) S = some (.int (l.length : Int)) := rfl
    unfold F_is_row
    apply sat_eq
    simp only [f_run, List.map_cons, List.map_nil, List.length_cons, List.length_nil, Nat.zero_add, Nat.reduceAdd, Nat.reduceSub, List.replicate_succ, List.replicate_zero, List.cons_append, List.nil_append]
    unfold s_is_row
    by_cases ln : l.length = n
    · have ne : ((l.length : Int) = (n : Int)) = True := eq_true (by omega)
      try simp only [p_seqL, p_par, p_par3, p_asgN, p_asg, p_expr, p_ret, p_nil, p_pass, p_if, p_for, p_try, q_cons, q_nil, q_cb, q_cr, q_call, q_callK, q_prop, q_make, q_bm, q_var, q_c, q_op, q_un, q_b, q_andB, q_orB, q_notB, q_andV, q_orV, q_notV, q_if, q_chain, q_tup, q_lst, q_lstC, q_lc, q_lcC, q_lc2, q_itV, q_itA, q_sl, q_oN, q_oS, sl_0, sl_s, os_some, os_if, f_1, ex_pair, ex_trip, g_unpS, gs_consS, gs_nilS, g_nm, g_subS, sq_tup, sq_lst, List.set_cons_zero, List.set_cons_succ, List.length_cons, List.length_nil, List.length_map, true_and, and_true, b_bl, Bool.not_true, Bool.not_false, Bool.false_eq_true, if_false, if_true, r_ok, i_int, sl_tup, sl_lst, it_tup, it_lst, it_scr, it_word, it_row, it_way, w_0, w_s, decide_true, decide_false, n_tup, n_lst, n_scr, n_word, n_row, n_way, eq_int, ne_int, c_int, en_tup, en_lst, zp_tup, zp_lst, zp_mix, m_yes, t_lst, t_tup, bind_s, a_int, s_int, g_ii, g_ib, is_non, isnt_non, rv_tup, rv_lst, not_true_eq_false, ne_eq, Nat.zero_le, isi_tup, gl, ne]
      rw [later_eq]
      try simp only [p_seqL, p_par, p_par3, p_asgN, p_asg, p_expr, p_ret, p_nil, p_pass, p_if, p_for, p_try, q_cons, q_nil, q_cb, q_cr, q_call, q_callK, q_prop, q_make, q_bm, q_var, q_c, q_op, q_un, q_b, q_andB, q_orB, q_notB, q_andV, q_orV, q_notV, q_if, q_chain, q_tup, q_lst, q_lstC, q_lc, q_lcC, q_lc2, q_itV, q_itA, q_sl, q_oN, q_oS, sl_0, sl_s, os_some, os_if, f_1, ex_pair, ex_trip, g_unpS, gs_consS, gs_nilS, g_nm, g_subS, sq_tup, sq_lst, List.set_cons_zero, List.set_cons_succ, List.length_cons, List.length_nil, List.length_map, true_and, and_true, b_bl, Bool.not_true, Bool.not_false, Bool.false_eq_true, if_false, if_true, r_ok, i_int, sl_tup, sl_lst, it_tup, it_lst, it_scr, it_word, it_row, it_way, w_0, w_s, decide_true, decide_false, n_tup, n_lst, n_scr, n_word, n_row, n_way, eq_int, ne_int, c_int, en_tup, en_lst, zp_tup, zp_lst, zp_mix, m_yes, t_lst, t_tup, bind_s, a_int, s_int, g_ii, g_ib, is_non, isnt_non, rv_tup, rv_lst, not_true_eq_false, ne_eq, Nat.zero_le]
      refine lc_map (li_ls l) (fun d => .bl (elB d)) (by unfold lineN; omega) (fun k d hd => ?_) ?_
      · have e2 := within_any (kx_kd (he d (List.mem_of_getElem? hd))) S
        try simp only [p_seqL, p_par, p_par3, p_asgN, p_asg, p_expr, p_ret, p_nil, p_pass, p_if, p_for, p_try, q_cons, q_nil, q_cb, q_cr, q_call, q_callK, q_prop, q_make, q_bm, q_var, q_c, q_op, q_un, q_b, q_andB, q_orB, q_notB, q_andV, q_orV, q_notV, q_if, q_chain, q_tup, q_lst, q_lstC, q_lc, q_lcC, q_lc2, q_itV, q_itA, q_sl, q_oN, q_oS, sl_0, sl_s, os_some, os_if, f_1, ex_pair, ex_trip, g_unpS, gs_consS, gs_nilS, g_nm, g_subS, sq_tup, sq_lst, List.set_cons_zero, List.set_cons_succ, List.length_cons, List.length_nil, List.length_map, true_and, and_true, b_bl, Bool.not_true, Bool.not_false, Bool.false_eq_true, if_false, if_true, r_ok, i_int, sl_tup, sl_lst, it_tup, it_lst, it_scr, it_word, it_row, it_way, w_0, w_s, decide_true, decide_false, n_tup, n_lst, n_scr, n_word, n_row, n_way, eq_int, ne_int, c_int, en_tup, en_lst, zp_tup, zp_lst, zp_mix, m_yes, t_lst, t_tup, bind_s, a_int, s_int, g_ii, g_ib, is_non, isnt_non, rv_tup, rv_lst, not_true_eq_false, ne_eq, Nat.zero_le, e2]
      · have ga := all_map elB l S
        try simp only [p_seqL, p_par, p_par3, p_asgN, p_asg, p_expr, p_ret, p_nil, p_pass, p_if, p_for, p_try, q_cons, q_nil, q_cb, q_cr, q_call, q_callK, q_prop, q_make, q_bm, q_var, q_c, q_op, q_un, q_b, q_andB, q_orB, q_notB, q_andV, q_orV, q_notV, q_if, q_chain, q_tup, q_lst, q_lstC, q_lc, q_lcC, q_lc2, q_itV, q_itA, q_sl, q_oN, q_oS, sl_0, sl_s, os_some, os_if, f_1, ex_pair, ex_trip, g_unpS, gs_consS, gs_nilS, g_nm, g_subS, sq_tup, sq_lst, List.set_cons_zero, List.set_cons_succ, List.length_cons, List.length_nil, List.length_map, true_and, and_true, b_bl, Bool.not_true, Bool.not_false, Bool.false_eq_true, if_false, if_true, r_ok, i_int, sl_tup, sl_lst, it_tup, it_lst, it_scr, it_word, it_row, it_way, w_0, w_s, decide_true, decide_false, n_tup, n_lst, n_scr, n_word, n_row, n_way, eq_int, ne_int, c_int, en_tup, en_lst, zp_tup, zp_lst, zp_mix, m_yes, t_lst, t_tup, bind_s, a_int, s_int, g_ii, g_ib, is_non, isnt_non, rv_tup, rv_lst, not_true_eq_false, ne_eq, Nat.zero_le, ga]
        cases ha : l.all elB with
        | false => simp [rowB, ha]
        | true =>
          obtain ⟨r, rfl, _, hs⟩ := els_int ha
          try simp only [p_seqL, p_par, p_par3, p_asgN, p_asg, p_expr, p_ret, p_nil, p_pass, p_if, p_for, p_try, q_cons, q_nil, q_cb, q_cr, q_call, q_callK, q_prop, q_make, q_bm, q_var, q_c, q_op, q_un, q_b, q_andB, q_orB, q_notB, q_andV, q_orV, q_notV, q_if, q_chain, q_tup, q_lst, q_lstC, q_lc, q_lcC, q_lc2, q_itV, q_itA, q_sl, q_oN, q_oS, sl_0, sl_s, os_some, os_if, f_1, ex_pair, ex_trip, g_unpS, gs_consS, gs_nilS, g_nm, g_subS, sq_tup, sq_lst, List.set_cons_zero, List.set_cons_succ, List.length_cons, List.length_nil, List.length_map, true_and, and_true, b_bl, Bool.not_true, Bool.not_false, Bool.false_eq_true, if_false, if_true, r_ok, i_int, sl_tup, sl_lst, it_tup, it_lst, it_scr, it_word, it_row, it_way, w_0, w_s, decide_true, decide_false, n_tup, n_lst, n_scr, n_word, n_row, n_way, eq_int, ne_int, c_int, en_tup, en_lst, zp_tup, zp_lst, zp_mix, m_yes, t_lst, t_tup, bind_s, a_int, s_int, g_ii, g_ib, is_non, isnt_non, rv_tup, rv_lst, not_true_eq_false, ne_eq, Nat.zero_le, sum_tup, fGt, cmpI]
          simp only [List.map_map] at hs
          simp [rowB, ha, ln, hs]
    · have ne : ((l.length : Int) = (n : Int)) = False := eq_false (by omega)
      try simp only [p_seqL, p_par, p_par3, p_asgN, p_asg, p_expr, p_ret, p_nil, p_pass, p_if, p_for, p_try, q_cons, q_nil, q_cb, q_cr, q_call, q_callK, q_prop, q_make, q_bm, q_var, q_c, q_op, q_un, q_b, q_andB, q_orB, q_notB, q_andV, q_orV, q_notV, q_if, q_chain, q_tup, q_lst, q_lstC, q_lc, q_lcC, q_lc2, q_itV, q_itA, q_sl, q_oN, q_oS, sl_0, sl_s, os_some, os_if, f_1, ex_pair, ex_trip, g_unpS, gs_consS, gs_nilS, g_nm, g_subS, sq_tup, sq_lst, List.set_cons_zero, List.set_cons_succ, List.length_cons, List.length_nil, List.length_map, true_and, and_true, b_bl, Bool.not_true, Bool.not_false, Bool.false_eq_true, if_false, if_true, r_ok, i_int, sl_tup, sl_lst, it_tup, it_lst, it_scr, it_word, it_row, it_way, w_0, w_s, decide_true, decide_false, n_tup, n_lst, n_scr, n_word, n_row, n_way, eq_int, ne_int, c_int, en_tup, en_lst, zp_tup, zp_lst, zp_mix, m_yes, t_lst, t_tup, bind_s, a_int, s_int, g_ii, g_ib, is_non, isnt_non, rv_tup, rv_lst, not_true_eq_false, ne_eq, Nat.zero_le, isi_tup, gl, ne, not_false_eq_true]
      simp [rowB, ln]

end Ag.k04

namespace Ag.k04
open PySem

/-! ways and lists of ways -/
theorem way_any {n : Nat} {d : D} (h : Kx 2 d) (S : Sto) : F_is_way [d, .int (n : Int)] S = .ok (.bl (wayB n d)) S := by
  have e1 := isi_t (kx_kd h) S
  cases ht : isT d with
  | false =>
    rw [ht] at e1
    have : wayB n d = false := by cases d <;> first | rfl | cases ht
    rw [this]
    unfold F_is_way
    apply sat_eq
    simp only [f_run, List.map_cons, List.map_nil, List.length_cons, List.length_nil, Nat.zero_add, Nat.reduceAdd, Nat.reduceSub, List.replicate_succ, List.replicate_zero, List.cons_append, List.nil_append]
    unfold s_is_way
    try simp only [p_seqL, p_par, p_par3, p_asgN, p_asg, p_expr, p_ret, p_nil, p_pass, p_if, p_for, p_try, q_cons, q_nil, q_cb, q_cr, q_call, q_callK, q_prop, q_make, q_bm, q_var, q_c, q_op, q_un, q_b, q_andB, q_orB, q_notB, q_andV, q_orV, q_notV, q_if, q_chain, q_tup, q_lst, q_lstC, q_lc, q_lcC, q_lc2, q_itV, q_itA, q_sl, q_oN, q_oS, sl_0, sl_s, os_some, os_if, f_1, ex_pair, ex_trip, g_unpS, gs_consS, gs_nilS, g_nm, g_subS, sq_tup, sq_lst, List.set_cons_zero, List.set_cons_succ, List.length_cons, List.length_nil, List.length_map, true_and, and_true, b_bl, Bool.not_true, Bool.not_false, Bool.false_eq_true, if_false, if_true, r_ok, i_int, sl_tup, sl_lst, it_tup, it_lst, it_scr, it_word, it_row, it_way, w_0, w_s, decide_true, decide_false, n_tup, n_lst, n_scr, n_word, n_row, n_way, eq_int, ne_int, c_int, en_tup, en_lst, zp_tup, zp_lst, zp_mix, m_yes, t_lst, t_tup, bind_s, a_int, s_int, g_ii, g_ib, is_non, isnt_non, rv_tup, rv_lst, not_true_eq_false, ne_eq, Nat.zero_le, e1]
  | true =>
    obtain ⟨l, rfl⟩ : ∃ l, d = .tup l := by cases d <;> first | exact ⟨_, rfl⟩ | cases ht
    obtain ⟨hl, he⟩ := h.2.2 l rfl
    have gl : gLen (.tup l) S = some (.int (l.length : Int)) := rfl
    unfold F_is_way
    apply sat_eq
    simp only [f_run, List.map_cons, List.map_nil, List.length_cons, List.length_nil, Nat.zero_add, Nat.reduceAdd, Nat.reduceSub, List.replicate_succ, List.replicate_zero, List.cons_append, List.nil_append]
    unfold s_is_way
    by_cases ln : l.length = n
    · have ne : ((l.length : Int) = (n : Int)) = True := eq_true (by omega)
      try simp only [p_seqL, p_par, p_par3, p_asgN, p_asg, p_expr, p_ret, p_nil, p_pass, p_if, p_for, p_try, q_cons, q_nil, q_cb, q_cr, q_call, q_callK, q_prop, q_make, q_bm, q_var, q_c, q_op, q_un, q_b, q_andB, q_orB, q_notB, q_andV, q_orV, q_notV, q_if, q_chain, q_tup, q_lst, q_lstC, q_lc, q_lcC, q_lc2, q_itV, q_itA, q_sl, q_oN, q_oS, sl_0, sl_s, os_some, os_if, f_1, ex_pair, ex_trip, g_unpS, gs_consS, gs_nilS, g_nm, g_subS, sq_tup, sq_lst, List.set_cons_zero, List.set_cons_succ, List.length_cons, List.length_nil, List.length_map, true_and, and_true, b_bl, Bool.not_true, Bool.not_false, Bool.false_eq_true, if_false, if_true, r_ok, i_int, sl_tup, sl_lst, it_tup, it_lst, it_scr, it_word, it_row, it_way, w_0, w_s, decide_true, decide_false, n_tup, n_lst, n_scr, n_word, n_row, n_way, eq_int, ne_int, c_int, en_tup, en_lst, zp_tup, zp_lst, zp_mix, m_yes, t_lst, t_tup, bind_s, a_int, s_int, g_ii, g_ib, is_non, isnt_non, rv_tup, rv_lst, not_true_eq_false, ne_eq, Nat.zero_le, isi_tup, gl, ne]
      refine lc_map (li_ls l) (fun d => .bl (rowB n d)) (by unfold lineN; omega) (fun k d hd => ?_) ?_
      · have e2 := row_any (n := n) (he d (List.mem_of_getElem? hd)) S
        try simp only [p_seqL, p_par, p_par3, p_asgN, p_asg, p_expr, p_ret, p_nil, p_pass, p_if, p_for, p_try, q_cons, q_nil, q_cb, q_cr, q_call, q_callK, q_prop, q_make, q_bm, q_var, q_c, q_op, q_un, q_b, q_andB, q_orB, q_notB, q_andV, q_orV, q_notV, q_if, q_chain, q_tup, q_lst, q_lstC, q_lc, q_lcC, q_lc2, q_itV, q_itA, q_sl, q_oN, q_oS, sl_0, sl_s, os_some, os_if, f_1, ex_pair, ex_trip, g_unpS, gs_consS, gs_nilS, g_nm, g_subS, sq_tup, sq_lst, List.set_cons_zero, List.set_cons_succ, List.length_cons, List.length_nil, List.length_map, true_and, and_true, b_bl, Bool.not_true, Bool.not_false, Bool.false_eq_true, if_false, if_true, r_ok, i_int, sl_tup, sl_lst, it_tup, it_lst, it_scr, it_word, it_row, it_way, w_0, w_s, decide_true, decide_false, n_tup, n_lst, n_scr, n_word, n_row, n_way, eq_int, ne_int, c_int, en_tup, en_lst, zp_tup, zp_lst, zp_mix, m_yes, t_lst, t_tup, bind_s, a_int, s_int, g_ii, g_ib, is_non, isnt_non, rv_tup, rv_lst, not_true_eq_false, ne_eq, Nat.zero_le, e2]
      · have ga := all_map (rowB n) l S
        try simp only [p_seqL, p_par, p_par3, p_asgN, p_asg, p_expr, p_ret, p_nil, p_pass, p_if, p_for, p_try, q_cons, q_nil, q_cb, q_cr, q_call, q_callK, q_prop, q_make, q_bm, q_var, q_c, q_op, q_un, q_b, q_andB, q_orB, q_notB, q_andV, q_orV, q_notV, q_if, q_chain, q_tup, q_lst, q_lstC, q_lc, q_lcC, q_lc2, q_itV, q_itA, q_sl, q_oN, q_oS, sl_0, sl_s, os_some, os_if, f_1, ex_pair, ex_trip, g_unpS, gs_consS, gs_nilS, g_nm, g_subS, sq_tup, sq_lst, List.set_cons_zero, List.set_cons_succ, List.length_cons, List.length_nil, List.length_map, true_and, and_true, b_bl, Bool.not_true, Bool.not_false, Bool.false_eq_true, if_false, if_true, r_ok, i_int, sl_tup, sl_lst, it_tup, it_lst, it_scr, it_word, it_row, it_way, w_0, w_s, decide_true, decide_false, n_tup, n_lst, n_scr, n_word, n_row, n_way, eq_int, ne_int, c_int, en_tup, en_lst, zp_tup, zp_lst, zp_mix, m_yes, t_lst, t_tup, bind_s, a_int, s_int, g_ii, g_ib, is_non, isnt_non, rv_tup, rv_lst, not_true_eq_false, ne_eq, Nat.zero_le, ga]
        simp [wayB, ln]
    · have ne : ((l.length : Int) = (n : Int)) = False := eq_false (by omega)
      try simp only [p_seqL, p_par, p_par3, p_asgN, p_asg, p_expr, p_ret, p_nil, p_pass, p_if, p_for, p_try, q_cons, q_nil, q_cb, q_cr, q_call, q_callK, q_prop, q_make, q_bm, q_var, q_c, q_op, q_un, q_b, q_andB, q_orB, q_notB, q_andV, q_orV, q_notV, q_if, q_chain, q_tup, q_lst, q_lstC, q_lc, q_lcC, q_lc2, q_itV, q_itA, q_sl, q_oN, q_oS, sl_0, sl_s, os_some, os_if, f_1, ex_pair, ex_trip, g_unpS, gs_consS, gs_nilS, g_nm, g_subS, sq_tup, sq_lst, List.set_cons_zero, List.set_cons_succ, List.length_cons, List.length_nil, List.length_map, true_and, and_true, b_bl, Bool.not_true, Bool.not_false, Bool.false_eq_true, if_false, if_true, r_ok, i_int, sl_tup, sl_lst, it_tup, it_lst, it_scr, it_word, it_row, it_way, w_0, w_s, decide_true, decide_false, n_tup, n_lst, n_scr, n_word, n_row, n_way, eq_int, ne_int, c_int, en_tup, en_lst, zp_tup, zp_lst, zp_mix, m_yes, t_lst, t_tup, bind_s, a_int, s_int, g_ii, g_ib, is_non, isnt_non, rv_tup, rv_lst, not_true_eq_false, ne_eq, Nat.zero_le, isi_tup, gl, ne]
      simp [wayB, ln]
theorem rowl_any {n : Nat} {d : D} (h : Kx 1 d) (S : Sto) : F_is_row_l [d, .int (n : Int)] S = .ok (.bl (rowB n d)) S := by
  have e1 := isi_t (kx_kd h) S
  cases ht : isT d with
  | false =>
    rw [ht] at e1
    have : rowB n d = false := by cases d <;> first | rfl | cases ht
    rw [this]
    unfold F_is_row_l
    apply sat_eq
    simp only [f_run, List.map_cons, List.map_nil, List.length_cons, List.length_nil, Nat.zero_add, Nat.reduceAdd, Nat.reduceSub, List.replicate_succ, List.replicate_zero, List.cons_append, List.nil_append]
    unfold s_is_row_l
    try simp only [p_seqL, p_par, p_par3, p_asgN, p_asg, p_expr, p_ret, p_nil, p_pass, p_if, p_for, p_try, q_cons, q_nil, q_cb, q_cr, q_call, q_callK, q_prop, q_make, q_bm, q_var, q_c, q_op, q_un, q_b, q_andB, q_orB, q_notB, q_andV, q_orV, q_notV, q_if, q_chain, q_tup, q_lst, q_lstC, q_lc, q_lcC, q_lc2, q_itV, q_itA, q_sl, q_oN, q_oS, sl_0, sl_s, os_some, os_if, f_1, ex_pair, ex_trip, g_unpS, gs_consS, gs_nilS, g_nm, g_subS, sq_tup, sq_lst, List.set_cons_zero, List.set_cons_succ, List.length_cons, List.length_nil, List.length_map, true_and, and_true, b_bl, Bool.not_true, Bool.not_false, Bool.false_eq_true, if_false, if_true, r_ok, i_int, sl_tup, sl_lst, it_tup, it_lst, it_scr, it_word, it_row, it_way, w_0, w_s, decide_true, decide_false, n_tup, n_lst, n_scr, n_word, n_row, n_way, eq_int, ne_int, c_int, en_tup, en_lst, zp_tup, zp_lst, zp_mix, m_yes, t_lst, t_tup, bind_s, a_int, s_int, g_ii, g_ib, is_non, isnt_non, rv_tup, rv_lst, not_true_eq_false, ne_eq, Nat.zero_le, e1]
  | true =>
    obtain ⟨l, rfl⟩ : ∃ l, d = .tup l := by cases d <;> first | exact ⟨_, rfl⟩ | cases ht
    obtain ⟨hl, he⟩ := h.2.2 l rfl
    have gl : ∀ S, gLen (.tup l) S = some (.int (l.length : Int)) := fun _ => rfl
    unfold F_is_row_l
    apply sat_eq
    simp only [f_run, List.map_cons, List.map_nil, List.length_cons, List.length_nil, Nat.zero_add, Nat.reduceAdd, Nat.reduceSub, List.replicate_succ, List.replicate_zero, List.cons_append, List.nil_append]
    unfold s_is_row_l
    by_cases ln : l.length = n
    · have ne : ((l.length : Int) = (n : Int)) = True := eq_true (by omega)
      try simp only [p_seqL, p_par, p_par3, p_asgN, p_asg, p_expr, p_ret, p_nil, p_pass, p_if, p_for, p_try, q_cons, q_nil, q_cb, q_cr, q_call, q_callK, q_prop, q_make, q_bm, q_var, q_c, q_op, q_un, q_b, q_andB, q_orB, q_notB, q_andV, q_orV, q_notV, q_if, q_chain, q_tup, q_lst, q_lstC, q_lc, q_lcC, q_lc2, q_itV, q_itA, q_sl, q_oN, q_oS, sl_0, sl_s, os_some, os_if, f_1, ex_pair, ex_trip, g_unpS, gs_consS, gs_nilS, g_nm, g_subS, sq_tup, sq_lst, List.set_cons_zero, List.set_cons_succ, List.length_cons, List.length_nil, List.length_map, true_and, and_true, b_bl, Bool.not_true, Bool.not_false, Bool.false_eq_true, if_false, if_true, r_ok, i_int, sl_tup, sl_lst, it_tup, it_lst, it_scr, it_word, it_row, it_way, w_0, w_s, decide_true, decide_false, n_tup, n_lst, n_scr, n_word, n_row, n_way, eq_int, ne_int, c_int, en_tup, en_lst, zp_tup, zp_lst, zp_mix, m_yes, t_lst, t_tup, bind_s, a_int, s_int, g_ii, g_ib, is_non, isnt_non, rv_tup, rv_lst, not_true_eq_false, ne_eq, Nat.zero_le, isi_tup, gl, ne]
      rw [later_eq]
      try simp only [p_seqL, p_par, p_par3, p_asgN, p_asg, p_expr, p_ret, p_nil, p_pass, p_if, p_for, p_try, q_cons, q_nil, q_cb, q_cr, q_call, q_callK, q_prop, q_make, q_bm, q_var, q_c, q_op, q_un, q_b, q_andB, q_orB, q_notB, q_andV, q_orV, q_notV, q_if, q_chain, q_tup, q_lst, q_lstC, q_lc, q_lcC, q_lc2, q_itV, q_itA, q_sl, q_oN, q_oS, sl_0, sl_s, os_some, os_if, f_1, ex_pair, ex_trip, g_unpS, gs_consS, gs_nilS, g_nm, g_subS, sq_tup, sq_lst, List.set_cons_zero, List.set_cons_succ, List.length_cons, List.length_nil, List.length_map, true_and, and_true, b_bl, Bool.not_true, Bool.not_false, Bool.false_eq_true, if_false, if_true, r_ok, i_int, sl_tup, sl_lst, it_tup, it_lst, it_scr, it_word, it_row, it_way, w_0, w_s, decide_true, decide_false, n_tup, n_lst, n_scr, n_word, n_row, n_way, eq_int, ne_int, c_int, en_tup, en_lst, zp_tup, zp_lst, zp_mix, m_yes, t_lst, t_tup, bind_s, a_int, s_int, g_ii, g_ib, is_non, isnt_non, rv_tup, rv_lst, not_true_eq_false, ne_eq, Nat.zero_le]
      have pw : ∀ S, fPow (.int 10) (.int 9) S = some (.int 1000000000) := fun _ => by rfl
      refine for_inv (li_ls l) (fun k en S' => (∃ x, en = [some (.tup l), some (.int (n : Int)), x]) ∧ S' = S ∧ ∀ j (hj : j < k) d, l[j]? = some d → elB d = true) ?_ ?_ ⟨⟨none, rfl⟩, rfl, fun j hj => absurd hj (Nat.not_lt_zero j)⟩
      · rintro k d en S' hd ⟨⟨x, rfl⟩, rfl, hb⟩
        have kd1 := kx_kd (he d (List.mem_of_getElem? hd))
        have i1 := isi_i kd1 S'
        have i2 := isi_b kd1 S'
        cases q : elB d with
        | true =>
          obtain ⟨i, rfl⟩ : ∃ i, d = .int i := by cases d <;> first | exact ⟨_, rfl⟩ | cases q
          simp only [elB, Bool.and_eq_true, decide_eq_true_eq] at q
          have c1 : isI (.int i) = true := rfl
          have c2 : isB (.int i) = false := rfl
          rw [c1] at i1
          rw [c2] at i2
          simp only [p_seq, p_par, p_par3, p_asgN, p_asg, p_expr, p_ret, p_nil, p_pass, p_if, p_for, p_try, q_cons, q_nil, q_cb, q_cr, q_call, q_callK, q_prop, q_make, q_bm, q_var, q_c, q_op, q_un, q_b, q_andB, q_orB, q_notB, q_andV, q_orV, q_notV, q_if, q_chain, q_tup, q_lst, q_lstC, q_lc, q_lcC, q_lc2, q_itV, q_itA, q_sl, q_oN, q_oS, sl_0, sl_s, os_some, os_if, f_1, ex_pair, ex_trip, g_unpS, gs_consS, gs_nilS, g_nm, g_subS, sq_tup, sq_lst, List.set_cons_zero, List.set_cons_succ, List.length_cons, List.length_nil, List.length_map, true_and, and_true, b_bl, Bool.not_true, Bool.not_false, Bool.false_eq_true, if_false, if_true, r_ok, i_int, sl_tup, sl_lst, it_tup, it_lst, it_scr, it_word, it_row, it_way, w_0, w_s, decide_true, decide_false, n_tup, n_lst, n_scr, n_word, n_row, n_way, eq_int, ne_int, c_int, en_tup, en_lst, zp_tup, zp_lst, zp_mix, m_yes, t_lst, t_tup, bind_s, a_int, s_int, g_ii, g_ib, is_non, isnt_non, rv_tup, rv_lst, not_true_eq_false, ne_eq, Nat.zero_le, i1, i2, pw, fLe, cmpI, q.1, q.2]
          refine ⟨⟨_, rfl⟩, fun j hj d hd2 => ?_⟩
          by_cases ej : j = k
          · subst ej
            rw [hd] at hd2
            cases hd2
            simp only [elB, q.1, q.2, decide_true, Bool.and_self]
          · exact hb j (by omega) d hd2
        | false =>
          have nr : rowB n (.tup l) = false := by
            have : l.all elB = false := by
              cases z : l.all elB with
              | false => rfl
              | true =>
                have := List.all_eq_true.mp z d (List.mem_of_getElem? hd)
                rw [q] at this; cases this
            simp only [rowB, this, Bool.false_and, Bool.and_false]
          rw [nr]
          cases c1 : isI d with
          | false =>
            rw [c1] at i1
            simp only [p_seq, p_par, p_par3, p_asgN, p_asg, p_expr, p_ret, p_nil, p_pass, p_if, p_for, p_try, q_cons, q_nil, q_cb, q_cr, q_call, q_callK, q_prop, q_make, q_bm, q_var, q_c, q_op, q_un, q_b, q_andB, q_orB, q_notB, q_andV, q_orV, q_notV, q_if, q_chain, q_tup, q_lst, q_lstC, q_lc, q_lcC, q_lc2, q_itV, q_itA, q_sl, q_oN, q_oS, sl_0, sl_s, os_some, os_if, f_1, ex_pair, ex_trip, g_unpS, gs_consS, gs_nilS, g_nm, g_subS, sq_tup, sq_lst, List.set_cons_zero, List.set_cons_succ, List.length_cons, List.length_nil, List.length_map, true_and, and_true, b_bl, Bool.not_true, Bool.not_false, Bool.false_eq_true, if_false, if_true, r_ok, i_int, sl_tup, sl_lst, it_tup, it_lst, it_scr, it_word, it_row, it_way, w_0, w_s, decide_true, decide_false, n_tup, n_lst, n_scr, n_word, n_row, n_way, eq_int, ne_int, c_int, en_tup, en_lst, zp_tup, zp_lst, zp_mix, m_yes, t_lst, t_tup, bind_s, a_int, s_int, g_ii, g_ib, is_non, isnt_non, rv_tup, rv_lst, not_true_eq_false, ne_eq, Nat.zero_le, i1]
          | true =>
            rw [c1] at i1
            cases c2 : isB d with
            | true =>
              rw [c2] at i2
              simp only [p_seq, p_par, p_par3, p_asgN, p_asg, p_expr, p_ret, p_nil, p_pass, p_if, p_for, p_try, q_cons, q_nil, q_cb, q_cr, q_call, q_callK, q_prop, q_make, q_bm, q_var, q_c, q_op, q_un, q_b, q_andB, q_orB, q_notB, q_andV, q_orV, q_notV, q_if, q_chain, q_tup, q_lst, q_lstC, q_lc, q_lcC, q_lc2, q_itV, q_itA, q_sl, q_oN, q_oS, sl_0, sl_s, os_some, os_if, f_1, ex_pair, ex_trip, g_unpS, gs_consS, gs_nilS, g_nm, g_subS, sq_tup, sq_lst, List.set_cons_zero, List.set_cons_succ, List.length_cons, List.length_nil, List.length_map, true_and, and_true, b_bl, Bool.not_true, Bool.not_false, Bool.false_eq_true, if_false, if_true, r_ok, i_int, sl_tup, sl_lst, it_tup, it_lst, it_scr, it_word, it_row, it_way, w_0, w_s, decide_true, decide_false, n_tup, n_lst, n_scr, n_word, n_row, n_way, eq_int, ne_int, c_int, en_tup, en_lst, zp_tup, zp_lst, zp_mix, m_yes, t_lst, t_tup, bind_s, a_int, s_int, g_ii, g_ib, is_non, isnt_non, rv_tup, rv_lst, not_true_eq_false, ne_eq, Nat.zero_le, i1, i2]
            | false =>
              rw [c2] at i2
              obtain ⟨i, rfl⟩ : ∃ i, d = .int i := by cases d <;> first | exact ⟨_, rfl⟩ | (cases c1; done) | (cases c2; done)
              simp only [elB, Bool.and_eq_false_iff, decide_eq_false_iff_not] at q
              by_cases q0 : 0 ≤ i
              · have q1 : ¬ i ≤ 1000000000 := by
                  rcases q with z | z
                  · exact absurd q0 z
                  · exact z
                simp only [p_seq, p_par, p_par3, p_asgN, p_asg, p_expr, p_ret, p_nil, p_pass, p_if, p_for, p_try, q_cons, q_nil, q_cb, q_cr, q_call, q_callK, q_prop, q_make, q_bm, q_var, q_c, q_op, q_un, q_b, q_andB, q_orB, q_notB, q_andV, q_orV, q_notV, q_if, q_chain, q_tup, q_lst, q_lstC, q_lc, q_lcC, q_lc2, q_itV, q_itA, q_sl, q_oN, q_oS, sl_0, sl_s, os_some, os_if, f_1, ex_pair, ex_trip, g_unpS, gs_consS, gs_nilS, g_nm, g_subS, sq_tup, sq_lst, List.set_cons_zero, List.set_cons_succ, List.length_cons, List.length_nil, List.length_map, true_and, and_true, b_bl, Bool.not_true, Bool.not_false, Bool.false_eq_true, if_false, if_true, r_ok, i_int, sl_tup, sl_lst, it_tup, it_lst, it_scr, it_word, it_row, it_way, w_0, w_s, decide_true, decide_false, n_tup, n_lst, n_scr, n_word, n_row, n_way, eq_int, ne_int, c_int, en_tup, en_lst, zp_tup, zp_lst, zp_mix, m_yes, t_lst, t_tup, bind_s, a_int, s_int, g_ii, g_ib, is_non, isnt_non, rv_tup, rv_lst, not_true_eq_false, ne_eq, Nat.zero_le, i1, i2, pw, fLe, cmpI, q0, q1]
              · simp only [p_seq, p_par, p_par3, p_asgN, p_asg, p_expr, p_ret, p_nil, p_pass, p_if, p_for, p_try, q_cons, q_nil, q_cb, q_cr, q_call, q_callK, q_prop, q_make, q_bm, q_var, q_c, q_op, q_un, q_b, q_andB, q_orB, q_notB, q_andV, q_orV, q_notV, q_if, q_chain, q_tup, q_lst, q_lstC, q_lc, q_lcC, q_lc2, q_itV, q_itA, q_sl, q_oN, q_oS, sl_0, sl_s, os_some, os_if, f_1, ex_pair, ex_trip, g_unpS, gs_consS, gs_nilS, g_nm, g_subS, sq_tup, sq_lst, List.set_cons_zero, List.set_cons_succ, List.length_cons, List.length_nil, List.length_map, true_and, and_true, b_bl, Bool.not_true, Bool.not_false, Bool.false_eq_true, if_false, if_true, r_ok, i_int, sl_tup, sl_lst, it_tup, it_lst, it_scr, it_word, it_row, it_way, w_0, w_s, decide_true, decide_false, n_tup, n_lst, n_scr, n_word, n_row, n_way, eq_int, ne_int, c_int, en_tup, en_lst, zp_tup, zp_lst, zp_mix, m_yes, t_lst, t_tup, bind_s, a_int, s_int, g_ii, g_ib, is_non, isnt_non, rv_tup, rv_lst, not_true_eq_false, ne_eq, Nat.zero_le, i1, i2, pw, fLe, cmpI, q0]
      · rintro en S' ⟨⟨x, rfl⟩, rfl, hb⟩
        have ha : l.all elB = true := List.all_eq_true.mpr fun d hd => by
          obtain ⟨j, hj, rfl⟩ := List.mem_iff_getElem.mp hd
          exact hb j hj _ (List.getElem?_eq_getElem hj)
        obtain ⟨r, rfl, _, hs⟩ := els_int ha
        rw [later_eq]
        try simp only [p_seqL, p_par, p_par3, p_asgN, p_asg, p_expr, p_ret, p_nil, p_pass, p_if, p_for, p_try, q_cons, q_nil, q_cb, q_cr, q_call, q_callK, q_prop, q_make, q_bm, q_var, q_c, q_op, q_un, q_b, q_andB, q_orB, q_notB, q_andV, q_orV, q_notV, q_if, q_chain, q_tup, q_lst, q_lstC, q_lc, q_lcC, q_lc2, q_itV, q_itA, q_sl, q_oN, q_oS, sl_0, sl_s, os_some, os_if, f_1, ex_pair, ex_trip, g_unpS, gs_consS, gs_nilS, g_nm, g_subS, sq_tup, sq_lst, List.set_cons_zero, List.set_cons_succ, List.length_cons, List.length_nil, List.length_map, true_and, and_true, b_bl, Bool.not_true, Bool.not_false, Bool.false_eq_true, if_false, if_true, r_ok, i_int, sl_tup, sl_lst, it_tup, it_lst, it_scr, it_word, it_row, it_way, w_0, w_s, decide_true, decide_false, n_tup, n_lst, n_scr, n_word, n_row, n_way, eq_int, ne_int, c_int, en_tup, en_lst, zp_tup, zp_lst, zp_mix, m_yes, t_lst, t_tup, bind_s, a_int, s_int, g_ii, g_ib, is_non, isnt_non, rv_tup, rv_lst, not_true_eq_false, ne_eq, Nat.zero_le, sum_tup, fGt, cmpI]
        simp only [List.map_map] at hs
        simp [rowB, ha, ln, hs]
    · have ne : ((l.length : Int) = (n : Int)) = False := eq_false (by omega)
      try simp only [p_seqL, p_par, p_par3, p_asgN, p_asg, p_expr, p_ret, p_nil, p_pass, p_if, p_for, p_try, q_cons, q_nil, q_cb, q_cr, q_call, q_callK, q_prop, q_make, q_bm, q_var, q_c, q_op, q_un, q_b, q_andB, q_orB, q_notB, q_andV, q_orV, q_notV, q_if, q_chain, q_tup, q_lst, q_lstC, q_lc, q_lcC, q_lc2, q_itV, q_itA, q_sl, q_oN, q_oS, sl_0, sl_s, os_some, os_if, f_1, ex_pair, ex_trip, g_unpS, gs_consS, gs_nilS, g_nm, g_subS, sq_tup, sq_lst, List.set_cons_zero, List.set_cons_succ, List.length_cons, List.length_nil, List.length_map, true_and, and_true, b_bl, Bool.not_true, Bool.not_false, Bool.false_eq_true, if_false, if_true, r_ok, i_int, sl_tup, sl_lst, it_tup, it_lst, it_scr, it_word, it_row, it_way, w_0, w_s, decide_true, decide_false, n_tup, n_lst, n_scr, n_word, n_row, n_way, eq_int, ne_int, c_int, en_tup, en_lst, zp_tup, zp_lst, zp_mix, m_yes, t_lst, t_tup, bind_s, a_int, s_int, g_ii, g_ib, is_non, isnt_non, rv_tup, rv_lst, not_true_eq_false, ne_eq, Nat.zero_le, isi_tup, gl, ne, not_false_eq_true]
      simp [rowB, ln]
def BadW (n : Nat) (l : List D) (k : Nat) : Prop := ∃ d, l[k]? = some d ∧ (6 ≤ k ∨ wayB n d = false)
def FstW (n : Nat) (l : List D) (k : Nat) : Prop := BadW n l k ∧ ∀ j, j < k → ¬ BadW n l j
theorem fstw_uniq {n : Nat} {xs : List D} {j k : Nat} (a : FstW n xs j) (b : FstW n xs k) : j = k := by
  rcases Nat.lt_trichotomy j k with h | h | h
  · exact absurd a.1 (b.2 j h)
  · exact h
  · exact absurd b.1 (a.2 k h)
theorem fstw_len {n : Nat} {xs : List D} {k : Nat} (a : FstW n xs k) : k < xs.length := by
  obtain ⟨⟨d, h, _⟩, _⟩ := a
  exact (List.getElem?_eq_some_iff.mp h).1
theorem wrong_any {n : Nat} {l : List D} (he : ∀ e ∈ l, Kx 2 e) (h0 : l ≠ []) (hl : l.length ≤ 40) (S : Sto) : (F_wrong_way [.tup l, .int (n : Int)] S).sat fun v S' => S' = S ∧ ((∃ k, v = .tup [.int ((k : Nat) : Int)] ∧ FstW n l k) ∨ (v = .tup [] ∧ ∀ j, ¬ BadW n l j)) := by
  unfold F_wrong_way
  simp only [f_run, List.map_cons, List.map_nil, List.length_cons, List.length_nil, Nat.zero_add, Nat.reduceAdd, Nat.reduceSub, List.replicate_succ, List.replicate_zero, List.cons_append, List.nil_append]
  unfold s_wrong_way
  have e0 : ((l.length : Int) = 0) = False := eq_false fun z => h0 (List.eq_nil_of_length_eq_zero (by omega))
  have gl : ∀ S, gLen (.tup l) S = some (.int (l.length : Int)) := fun _ => rfl
  try simp only [p_seqL, p_par, p_par3, p_asgN, p_asg, p_expr, p_ret, p_nil, p_pass, p_if, p_for, p_try, q_cons, q_nil, q_cb, q_cr, q_call, q_callK, q_prop, q_make, q_bm, q_var, q_c, q_op, q_un, q_b, q_andB, q_orB, q_notB, q_andV, q_orV, q_notV, q_if, q_chain, q_tup, q_lst, q_lstC, q_lc, q_lcC, q_lc2, q_itV, q_itA, q_sl, q_oN, q_oS, sl_0, sl_s, os_some, os_if, f_1, ex_pair, ex_trip, g_unpS, gs_consS, gs_nilS, g_nm, g_subS, sq_tup, sq_lst, List.set_cons_zero, List.set_cons_succ, List.length_cons, List.length_nil, List.length_map, true_and, and_true, b_bl, Bool.not_true, Bool.not_false, Bool.false_eq_true, if_false, if_true, r_ok, i_int, sl_tup, sl_lst, it_tup, it_lst, it_scr, it_word, it_row, it_way, w_0, w_s, decide_true, decide_false, n_tup, n_lst, n_scr, n_word, n_row, n_way, eq_int, ne_int, c_int, en_tup, en_lst, zp_tup, zp_lst, zp_mix, m_yes, t_lst, t_tup, bind_s, a_int, s_int, g_ii, g_ib, is_non, isnt_non, rv_tup, rv_lst, not_true_eq_false, ne_eq, Nat.zero_le, isi_tup, gl, e0, en1]
  rw [later_eq]
  try simp only [p_seqL, p_par, p_par3, p_asgN, p_asg, p_expr, p_ret, p_nil, p_pass, p_if, p_for, p_try, q_cons, q_nil, q_cb, q_cr, q_call, q_callK, q_prop, q_make, q_bm, q_var, q_c, q_op, q_un, q_b, q_andB, q_orB, q_notB, q_andV, q_orV, q_notV, q_if, q_chain, q_tup, q_lst, q_lstC, q_lc, q_lcC, q_lc2, q_itV, q_itA, q_sl, q_oN, q_oS, sl_0, sl_s, os_some, os_if, f_1, ex_pair, ex_trip, g_unpS, gs_consS, gs_nilS, g_nm, g_subS, sq_tup, sq_lst, List.set_cons_zero, List.set_cons_succ, List.length_cons, List.length_nil, List.length_map, true_and, and_true, b_bl, Bool.not_true, Bool.not_false, Bool.false_eq_true, if_false, if_true, r_ok, i_int, sl_tup, sl_lst, it_tup, it_lst, it_scr, it_word, it_row, it_way, w_0, w_s, decide_true, decide_false, n_tup, n_lst, n_scr, n_word, n_row, n_way, eq_int, ne_int, c_int, en_tup, en_lst, zp_tup, zp_lst, zp_mix, m_yes, t_lst, t_tup, bind_s, a_int, s_int, g_ii, g_ib, is_non, isnt_non, rv_tup, rv_lst, not_true_eq_false, ne_eq, Nat.zero_le]
  refine for_inv (li_en _) (fun k en S' => (∃ x y, en = [some (.tup l), some (.int (n : Int)), x, y]) ∧ S' = S ∧ ∀ j, j < k → ¬ BadW n l j) ?_ ?_ ⟨⟨none, none, rfl⟩, rfl, fun j h => absurd h (Nat.not_lt_zero j)⟩
  · rintro k d en S' hd ⟨⟨x, y, rfl⟩, rfl, hb⟩
    have hk : k < l.length := by
      have := (List.getElem?_eq_some_iff.mp hd).1
      simpa using this
    have h1 : l[k]? = some l[k] := List.getElem?_eq_getElem hk
    have ed : d = .tup [.int (k : Int), l[k]] := by
      rw [List.getElem?_mapIdx, h1] at hd
      simpa using hd.symm
    subst ed
    have e1 := way_any (n := n) (he _ (List.mem_of_getElem? h1)) S'
    simp only [p_seq, p_par, p_par3, p_asgN, p_asg, p_expr, p_ret, p_nil, p_pass, p_if, p_for, p_try, q_cons, q_nil, q_cb, q_cr, q_call, q_callK, q_prop, q_make, q_bm, q_var, q_c, q_op, q_un, q_b, q_andB, q_orB, q_notB, q_andV, q_orV, q_notV, q_if, q_chain, q_tup, q_lst, q_lstC, q_lc, q_lcC, q_lc2, q_itV, q_itA, q_sl, q_oN, q_oS, sl_0, sl_s, os_some, os_if, f_1, ex_pair, ex_trip, g_unpS, gs_consS, gs_nilS, g_nm, g_subS, sq_tup, sq_lst, List.set_cons_zero, List.set_cons_succ, List.length_cons, List.length_nil, List.length_map, true_and, and_true, b_bl, Bool.not_true, Bool.not_false, Bool.false_eq_true, if_false, if_true, r_ok, i_int, sl_tup, sl_lst, it_tup, it_lst, it_scr, it_word, it_row, it_way, w_0, w_s, decide_true, decide_false, n_tup, n_lst, n_scr, n_word, n_row, n_way, eq_int, ne_int, c_int, en_tup, en_lst, zp_tup, zp_lst, zp_mix, m_yes, t_lst, t_tup, bind_s, a_int, s_int, g_ii, g_ib, is_non, isnt_non, rv_tup, rv_lst, not_true_eq_false, ne_eq, Nat.zero_le, e1]
    cases q : wayB n l[k] with
    | false =>
      simp only [p_seq, p_par, p_par3, p_asgN, p_asg, p_expr, p_ret, p_nil, p_pass, p_if, p_for, p_try, q_cons, q_nil, q_cb, q_cr, q_call, q_callK, q_prop, q_make, q_bm, q_var, q_c, q_op, q_un, q_b, q_andB, q_orB, q_notB, q_andV, q_orV, q_notV, q_if, q_chain, q_tup, q_lst, q_lstC, q_lc, q_lcC, q_lc2, q_itV, q_itA, q_sl, q_oN, q_oS, sl_0, sl_s, os_some, os_if, f_1, ex_pair, ex_trip, g_unpS, gs_consS, gs_nilS, g_nm, g_subS, sq_tup, sq_lst, List.set_cons_zero, List.set_cons_succ, List.length_cons, List.length_nil, List.length_map, true_and, and_true, b_bl, Bool.not_true, Bool.not_false, Bool.false_eq_true, if_false, if_true, r_ok, i_int, sl_tup, sl_lst, it_tup, it_lst, it_scr, it_word, it_row, it_way, w_0, w_s, decide_true, decide_false, n_tup, n_lst, n_scr, n_word, n_row, n_way, eq_int, ne_int, c_int, en_tup, en_lst, zp_tup, zp_lst, zp_mix, m_yes, t_lst, t_tup, bind_s, a_int, s_int, g_ii, g_ib, is_non, isnt_non, rv_tup, rv_lst, not_true_eq_false, ne_eq, Nat.zero_le]
      exact ⟨by decide, .inl ⟨k, rfl, ⟨_, h1, .inr q⟩, hb⟩⟩
    | true =>
      by_cases h6 : 6 ≤ k
      · have : ((k : Int) ≥ 6) = True := eq_true (by omega)
        simp only [p_seq, p_par, p_par3, p_asgN, p_asg, p_expr, p_ret, p_nil, p_pass, p_if, p_for, p_try, q_cons, q_nil, q_cb, q_cr, q_call, q_callK, q_prop, q_make, q_bm, q_var, q_c, q_op, q_un, q_b, q_andB, q_orB, q_notB, q_andV, q_orV, q_notV, q_if, q_chain, q_tup, q_lst, q_lstC, q_lc, q_lcC, q_lc2, q_itV, q_itA, q_sl, q_oN, q_oS, sl_0, sl_s, os_some, os_if, f_1, ex_pair, ex_trip, g_unpS, gs_consS, gs_nilS, g_nm, g_subS, sq_tup, sq_lst, List.set_cons_zero, List.set_cons_succ, List.length_cons, List.length_nil, List.length_map, true_and, and_true, b_bl, Bool.not_true, Bool.not_false, Bool.false_eq_true, if_false, if_true, r_ok, i_int, sl_tup, sl_lst, it_tup, it_lst, it_scr, it_word, it_row, it_way, w_0, w_s, decide_true, decide_false, n_tup, n_lst, n_scr, n_word, n_row, n_way, eq_int, ne_int, c_int, en_tup, en_lst, zp_tup, zp_lst, zp_mix, m_yes, t_lst, t_tup, bind_s, a_int, s_int, g_ii, g_ib, is_non, isnt_non, rv_tup, rv_lst, not_true_eq_false, ne_eq, Nat.zero_le, fGe, cmpI, this]
        exact ⟨by decide, .inl ⟨k, rfl, ⟨_, h1, .inl h6⟩, hb⟩⟩
      · have : ((k : Int) ≥ 6) = False := eq_false (by omega)
        simp only [p_seq, p_par, p_par3, p_asgN, p_asg, p_expr, p_ret, p_nil, p_pass, p_if, p_for, p_try, q_cons, q_nil, q_cb, q_cr, q_call, q_callK, q_prop, q_make, q_bm, q_var, q_c, q_op, q_un, q_b, q_andB, q_orB, q_notB, q_andV, q_orV, q_notV, q_if, q_chain, q_tup, q_lst, q_lstC, q_lc, q_lcC, q_lc2, q_itV, q_itA, q_sl, q_oN, q_oS, sl_0, sl_s, os_some, os_if, f_1, ex_pair, ex_trip, g_unpS, gs_consS, gs_nilS, g_nm, g_subS, sq_tup, sq_lst, List.set_cons_zero, List.set_cons_succ, List.length_cons, List.length_nil, List.length_map, true_and, and_true, b_bl, Bool.not_true, Bool.not_false, Bool.false_eq_true, if_false, if_true, r_ok, i_int, sl_tup, sl_lst, it_tup, it_lst, it_scr, it_word, it_row, it_way, w_0, w_s, decide_true, decide_false, n_tup, n_lst, n_scr, n_word, n_row, n_way, eq_int, ne_int, c_int, en_tup, en_lst, zp_tup, zp_lst, zp_mix, m_yes, t_lst, t_tup, bind_s, a_int, s_int, g_ii, g_ib, is_non, isnt_non, rv_tup, rv_lst, not_true_eq_false, ne_eq, Nat.zero_le, fGe, cmpI, this]
        refine ⟨⟨_, _, rfl⟩, fun j hj => ?_⟩
        by_cases ej : j = k
        · subst ej
          rintro ⟨d, hd2, z⟩
          rw [h1] at hd2
          cases hd2
          rcases z with z | z
          · omega
          · rw [q] at z; cases z
        · exact hb j (by omega)
  · rintro en S' ⟨⟨x, y, rfl⟩, rfl, hb⟩
    rw [later_eq]
    try simp only [p_seqL, p_par, p_par3, p_asgN, p_asg, p_expr, p_ret, p_nil, p_pass, p_if, p_for, p_try, q_cons, q_nil, q_cb, q_cr, q_call, q_callK, q_prop, q_make, q_bm, q_var, q_c, q_op, q_un, q_b, q_andB, q_orB, q_notB, q_andV, q_orV, q_notV, q_if, q_chain, q_tup, q_lst, q_lstC, q_lc, q_lcC, q_lc2, q_itV, q_itA, q_sl, q_oN, q_oS, sl_0, sl_s, os_some, os_if, f_1, ex_pair, ex_trip, g_unpS, gs_consS, gs_nilS, g_nm, g_subS, sq_tup, sq_lst, List.set_cons_zero, List.set_cons_succ, List.length_cons, List.length_nil, List.length_map, true_and, and_true, b_bl, Bool.not_true, Bool.not_false, Bool.false_eq_true, if_false, if_true, r_ok, i_int, sl_tup, sl_lst, it_tup, it_lst, it_scr, it_word, it_row, it_way, w_0, w_s, decide_true, decide_false, n_tup, n_lst, n_scr, n_word, n_row, n_way, eq_int, ne_int, c_int, en_tup, en_lst, zp_tup, zp_lst, zp_mix, m_yes, t_lst, t_tup, bind_s, a_int, s_int, g_ii, g_ib, is_non, isnt_non, rv_tup, rv_lst, not_true_eq_false, ne_eq, Nat.zero_le]
    refine .inr fun j hj => ?_
    obtain ⟨d, hd, _⟩ := id hj
    have := (List.getElem?_eq_some_iff.mp hd).1
    rw [List.length_mapIdx] at hb
    exact hb j this hj

end Ag.k04

namespace Ag.k04
open PySem

/-! what is due, councils with ways that are none -/
def rtx (n : Nat) : Str := match gRepr (.int (n : Int)) [] with
  | some (.str t) => t
  | _ => ""
theorem rtx_all : ∀ n : Nat, n < 60 → (match gRepr (.int (n : Int)) [] with | some (.str t) => PyData.strOk t | _ => false) = true := by decide +kernel
theorem rtx_ok {n : Nat} (h : n < 60) : (∀ S, gRepr (.int (n : Int)) S = some (.str (rtx n))) ∧ PyData.strOk (rtx n) = true := by
  have a := rtx_all n h
  unfold rtx
  cases q : gRepr (.int (n : Int)) [] with
  | none => rw [q] at a; cases a
  | some d =>
    rw [q] at a
    cases d with
    | str t => exact ⟨fun S => (show gRepr (.int (n : Int)) S = gRepr (.int (n : Int)) [] from rfl).trans q, a⟩
    | _ => cases a
theorem fil_all {α : Type} (f : α → Bool) : ∀ l : List α, (l.filter fun r => !f r).isEmpty = l.all f
  | [] => rfl
  | a :: l => by
    cases q : f a with
    | true => simp [q, fil_all f l]
    | false => simp [q]
theorem due_any {n : Nat} {l : List D} (he : ∀ e ∈ l, Kx 2 e) (h0 : l ≠ []) (hl : l.length ≤ 40) (S : Sto) : (F_due_l [.tup l, .int (n : Int)] S).sat fun v S' => S' = S ∧ ((∃ k, v = .lst [.str "ways", .str (rtx k)] ∧ FstW n l k) ∨ (v = .non ∧ ∀ j, ¬ BadW n l j)) := by
  unfold F_due_l
  simp only [f_run, List.map_cons, List.map_nil, List.length_cons, List.length_nil, Nat.zero_add, Nat.reduceAdd, Nat.reduceSub, List.replicate_succ, List.replicate_zero, List.cons_append, List.nil_append]
  unfold s_due_l
  have ne : fEqT (.tup l) (.tup []) S = some (.bl false) := by
    show some (D.bl l.isEmpty) = _
    cases l with
    | nil => exact absurd rfl h0
    | cons x l => rfl
  have gl : ∀ (l : List D) S, gLen (.tup l) S = some (.int (l.length : Int)) := fun _ _ => rfl
  try simp only [p_seqL, p_par, p_par3, p_asgN, p_asg, p_expr, p_ret, p_nil, p_pass, p_if, p_for, p_try, q_cons, q_nil, q_cb, q_cr, q_call, q_callK, q_prop, q_make, q_bm, q_var, q_c, q_op, q_un, q_b, q_andB, q_orB, q_notB, q_andV, q_orV, q_notV, q_if, q_chain, q_tup, q_lst, q_lstC, q_lc, q_lcC, q_lc2, q_itV, q_itA, q_sl, q_oN, q_oS, sl_0, sl_s, os_some, os_if, f_1, ex_pair, ex_trip, g_unpS, gs_consS, gs_nilS, g_nm, g_subS, sq_tup, sq_lst, List.set_cons_zero, List.set_cons_succ, List.length_cons, List.length_nil, List.length_map, true_and, and_true, b_bl, Bool.not_true, Bool.not_false, Bool.false_eq_true, if_false, if_true, r_ok, i_int, sl_tup, sl_lst, it_tup, it_lst, it_scr, it_word, it_row, it_way, w_0, w_s, decide_true, decide_false, n_tup, n_lst, n_scr, n_word, n_row, n_way, eq_int, ne_int, c_int, en_tup, en_lst, zp_tup, zp_lst, zp_mix, m_yes, t_lst, t_tup, bind_s, a_int, s_int, g_ii, g_ib, is_non, isnt_non, rv_tup, rv_lst, not_true_eq_false, ne_eq, Nat.zero_le, isi_tup, ne]
  rw [later_eq]
  have r1 := rg1_len l.length S (by omega)
  try simp only [p_seqL, p_par, p_par3, p_asgN, p_asg, p_expr, p_ret, p_nil, p_pass, p_if, p_for, p_try, q_cons, q_nil, q_cb, q_cr, q_call, q_callK, q_prop, q_make, q_bm, q_var, q_c, q_op, q_un, q_b, q_andB, q_orB, q_notB, q_andV, q_orV, q_notV, q_if, q_chain, q_tup, q_lst, q_lstC, q_lc, q_lcC, q_lc2, q_itV, q_itA, q_sl, q_oN, q_oS, sl_0, sl_s, os_some, os_if, f_1, ex_pair, ex_trip, g_unpS, gs_consS, gs_nilS, g_nm, g_subS, sq_tup, sq_lst, List.set_cons_zero, List.set_cons_succ, List.length_cons, List.length_nil, List.length_map, true_and, and_true, b_bl, Bool.not_true, Bool.not_false, Bool.false_eq_true, if_false, if_true, r_ok, i_int, sl_tup, sl_lst, it_tup, it_lst, it_scr, it_word, it_row, it_way, w_0, w_s, decide_true, decide_false, n_tup, n_lst, n_scr, n_word, n_row, n_way, eq_int, ne_int, c_int, en_tup, en_lst, zp_tup, zp_lst, zp_mix, m_yes, t_lst, t_tup, bind_s, a_int, s_int, g_ii, g_ib, is_non, isnt_non, rv_tup, rv_lst, not_true_eq_false, ne_eq, Nat.zero_le, gl, r1]
  refine for_T (li_rg0 _) (fun k en S' => (∃ x y, en = [some (.tup l), some (.int (n : Int)), x, y]) ∧ S' = S ∧ ∀ j, j < k → ¬ BadW n l j) ⟨⟨none, none, rfl⟩, rfl, fun j h => absurd h (Nat.not_lt_zero j)⟩ ?_ ?_
  · rintro i k en S' hd _ ⟨⟨x, y, rfl⟩, rfl, hb⟩
    obtain ⟨rfl, hk⟩ : k = i ∧ i < l.length := by
      have h := (List.getElem?_eq_some_iff.mp hd)
      obtain ⟨h1, h2⟩ := h
      rw [List.getElem_range] at h2
      exact ⟨h2.symm, by simpa using h1⟩
    have h1 : l[k]? = some l[k] := List.getElem?_eq_getElem hk
    have ix : fIx (.tup l) (.int (k : Int)) S' = some l[k] := by
      rw [show fIx (.tup l) (.int (k : Int)) S' = l[k]? from at_k l k, h1]
    obtain ⟨rt, _⟩ := rtx_ok (n := k) (by omega)
    have kx := he _ (List.mem_of_getElem? h1)
    generalize l[k] = d at h1 ix kx
    have e1 := isi_t (kx_kd kx) S'
    by_cases h6 : k = 6
    · have : ((k : Int) = 6) = True := eq_true (by omega)
      simp only [p_seq, p_par, p_par3, p_asgN, p_asg, p_expr, p_ret, p_nil, p_pass, p_if, p_for, p_try, q_cons, q_nil, q_cb, q_cr, q_call, q_callK, q_prop, q_make, q_bm, q_var, q_c, q_op, q_un, q_b, q_andB, q_orB, q_notB, q_andV, q_orV, q_notV, q_if, q_chain, q_tup, q_lst, q_lstC, q_lc, q_lcC, q_lc2, q_itV, q_itA, q_sl, q_oN, q_oS, sl_0, sl_s, os_some, os_if, f_1, ex_pair, ex_trip, g_unpS, gs_consS, gs_nilS, g_nm, g_subS, sq_tup, sq_lst, List.set_cons_zero, List.set_cons_succ, List.length_cons, List.length_nil, List.length_map, true_and, and_true, b_bl, Bool.not_true, Bool.not_false, Bool.false_eq_true, if_false, if_true, r_ok, i_int, sl_tup, sl_lst, it_tup, it_lst, it_scr, it_word, it_row, it_way, w_0, w_s, decide_true, decide_false, n_tup, n_lst, n_scr, n_word, n_row, n_way, eq_int, ne_int, c_int, en_tup, en_lst, zp_tup, zp_lst, zp_mix, m_yes, t_lst, t_tup, bind_s, a_int, s_int, g_ii, g_ib, is_non, isnt_non, rv_tup, rv_lst, not_true_eq_false, ne_eq, Nat.zero_le, this, rt]
      exact ⟨by decide, .inl ⟨k, rfl, ⟨_, h1, .inl (by omega)⟩, hb⟩⟩
    · have d6 : ((k : Int) = 6) = False := eq_false (by omega)
      have lt6 : k < 6 := by
        by_cases z : 6 ≤ k
        · exact absurd ⟨l[6]'(by omega), List.getElem?_eq_getElem (by omega), .inl (Nat.le_refl _)⟩ (hb 6 (by omega))
        · omega
      cases ht : isT d with
      | false =>
        rw [ht] at e1
        have wb : wayB n d = false := by cases d <;> first | rfl | cases ht
        simp only [p_seq, p_par, p_par3, p_asgN, p_asg, p_expr, p_ret, p_nil, p_pass, p_if, p_for, p_try, q_cons, q_nil, q_cb, q_cr, q_call, q_callK, q_prop, q_make, q_bm, q_var, q_c, q_op, q_un, q_b, q_andB, q_orB, q_notB, q_andV, q_orV, q_notV, q_if, q_chain, q_tup, q_lst, q_lstC, q_lc, q_lcC, q_lc2, q_itV, q_itA, q_sl, q_oN, q_oS, sl_0, sl_s, os_some, os_if, f_1, ex_pair, ex_trip, g_unpS, gs_consS, gs_nilS, g_nm, g_subS, sq_tup, sq_lst, List.set_cons_zero, List.set_cons_succ, List.length_cons, List.length_nil, List.length_map, true_and, and_true, b_bl, Bool.not_true, Bool.not_false, Bool.false_eq_true, if_false, if_true, r_ok, i_int, sl_tup, sl_lst, it_tup, it_lst, it_scr, it_word, it_row, it_way, w_0, w_s, decide_true, decide_false, n_tup, n_lst, n_scr, n_word, n_row, n_way, eq_int, ne_int, c_int, en_tup, en_lst, zp_tup, zp_lst, zp_mix, m_yes, t_lst, t_tup, bind_s, a_int, s_int, g_ii, g_ib, is_non, isnt_non, rv_tup, rv_lst, not_true_eq_false, ne_eq, Nat.zero_le, d6, ix, e1, rt]
        exact ⟨by decide, .inl ⟨k, rfl, ⟨_, h1, .inr wb⟩, hb⟩⟩
      | true =>
        obtain ⟨w, rfl⟩ : ∃ w, d = .tup w := by cases d <;> first | exact ⟨_, rfl⟩ | cases ht
        obtain ⟨wl, we⟩ := kx.2.2 w rfl
        rw [ht] at e1
        by_cases ln : w.length = n
        · have ne : ((w.length : Int) = (n : Int)) = True := eq_true (by omega)
          try simp only [p_seqL, p_par, p_par3, p_asgN, p_asg, p_expr, p_ret, p_nil, p_pass, p_if, p_for, p_try, q_cons, q_nil, q_cb, q_cr, q_call, q_callK, q_prop, q_make, q_bm, q_var, q_c, q_op, q_un, q_b, q_andB, q_orB, q_notB, q_andV, q_orV, q_notV, q_if, q_chain, q_tup, q_lst, q_lstC, q_lc, q_lcC, q_lc2, q_itV, q_itA, q_sl, q_oN, q_oS, sl_0, sl_s, os_some, os_if, f_1, ex_pair, ex_trip, g_unpS, gs_consS, gs_nilS, g_nm, g_subS, sq_tup, sq_lst, List.set_cons_zero, List.set_cons_succ, List.length_cons, List.length_nil, List.length_map, true_and, and_true, b_bl, Bool.not_true, Bool.not_false, Bool.false_eq_true, if_false, if_true, r_ok, i_int, sl_tup, sl_lst, it_tup, it_lst, it_scr, it_word, it_row, it_way, w_0, w_s, decide_true, decide_false, n_tup, n_lst, n_scr, n_word, n_row, n_way, eq_int, ne_int, c_int, en_tup, en_lst, zp_tup, zp_lst, zp_mix, m_yes, t_lst, t_tup, bind_s, a_int, s_int, g_ii, g_ib, is_non, isnt_non, rv_tup, rv_lst, not_true_eq_false, ne_eq, Nat.zero_le, d6, ix, e1, gl, ne]
          rw [later_eq]
          try simp only [p_seqL, p_par, p_par3, p_asgN, p_asg, p_expr, p_ret, p_nil, p_pass, p_if, p_for, p_try, q_cons, q_nil, q_cb, q_cr, q_call, q_callK, q_prop, q_make, q_bm, q_var, q_c, q_op, q_un, q_b, q_andB, q_orB, q_notB, q_andV, q_orV, q_notV, q_if, q_chain, q_tup, q_lst, q_lstC, q_lc, q_lcC, q_lc2, q_itV, q_itA, q_sl, q_oN, q_oS, sl_0, sl_s, os_some, os_if, f_1, ex_pair, ex_trip, g_unpS, gs_consS, gs_nilS, g_nm, g_subS, sq_tup, sq_lst, List.set_cons_zero, List.set_cons_succ, List.length_cons, List.length_nil, List.length_map, true_and, and_true, b_bl, Bool.not_true, Bool.not_false, Bool.false_eq_true, if_false, if_true, r_ok, i_int, sl_tup, sl_lst, it_tup, it_lst, it_scr, it_word, it_row, it_way, w_0, w_s, decide_true, decide_false, n_tup, n_lst, n_scr, n_word, n_row, n_way, eq_int, ne_int, c_int, en_tup, en_lst, zp_tup, zp_lst, zp_mix, m_yes, t_lst, t_tup, bind_s, a_int, s_int, g_ii, g_ib, is_non, isnt_non, rv_tup, rv_lst, not_true_eq_false, ne_eq, Nat.zero_le, ix]
          refine lc_T (e := fun d => d) (xs := w) (by rw [List.map_id']; exact li_ls w) (fun j acc S2 => S2 = S' ∧ acc = (w.take j).filter fun r => !rowB n r) ⟨rfl, rfl⟩ ?_ ?_
          · rintro j r acc S2 hr hm ⟨rfl, rfl⟩
            have e2 := rowl_any (n := n) (we r hm) S2
            have hj := (List.getElem?_eq_some_iff.mp hr).1
            have tk : w.take (j + 1) = w.take j ++ [r] := by rw [List.take_succ, hr]; rfl
            try simp only [p_seqL, p_par, p_par3, p_asgN, p_asg, p_expr, p_ret, p_nil, p_pass, p_if, p_for, p_try, q_cons, q_nil, q_cb, q_cr, q_call, q_callK, q_prop, q_make, q_bm, q_var, q_c, q_op, q_un, q_b, q_andB, q_orB, q_notB, q_andV, q_orV, q_notV, q_if, q_chain, q_tup, q_lst, q_lstC, q_lc, q_lcC, q_lc2, q_itV, q_itA, q_sl, q_oN, q_oS, sl_0, sl_s, os_some, os_if, f_1, ex_pair, ex_trip, g_unpS, gs_consS, gs_nilS, g_nm, g_subS, sq_tup, sq_lst, List.set_cons_zero, List.set_cons_succ, List.length_cons, List.length_nil, List.length_map, true_and, and_true, b_bl, Bool.not_true, Bool.not_false, Bool.false_eq_true, if_false, if_true, r_ok, i_int, sl_tup, sl_lst, it_tup, it_lst, it_scr, it_word, it_row, it_way, w_0, w_s, decide_true, decide_false, n_tup, n_lst, n_scr, n_word, n_row, n_way, eq_int, ne_int, c_int, en_tup, en_lst, zp_tup, zp_lst, zp_mix, m_yes, t_lst, t_tup, bind_s, a_int, s_int, g_ii, g_ib, is_non, isnt_non, rv_tup, rv_lst, not_true_eq_false, ne_eq, Nat.zero_le, e2]
            cases q : rowB n r with
            | true => simp [tk, q]
            | false =>
              simp only [Bool.not_false, if_true, List.length_filter_eq_length_iff]
              try simp only [p_seqL, p_par, p_par3, p_asgN, p_asg, p_expr, p_ret, p_nil, p_pass, p_if, p_for, p_try, q_cons, q_nil, q_cb, q_cr, q_call, q_callK, q_prop, q_make, q_bm, q_var, q_c, q_op, q_un, q_b, q_andB, q_orB, q_notB, q_andV, q_orV, q_notV, q_if, q_chain, q_tup, q_lst, q_lstC, q_lc, q_lcC, q_lc2, q_itV, q_itA, q_sl, q_oN, q_oS, sl_0, sl_s, os_some, os_if, f_1, ex_pair, ex_trip, g_unpS, gs_consS, gs_nilS, g_nm, g_subS, sq_tup, sq_lst, List.set_cons_zero, List.set_cons_succ, List.length_cons, List.length_nil, List.length_map, true_and, and_true, b_bl, Bool.not_true, Bool.not_false, Bool.false_eq_true, if_false, if_true, r_ok, i_int, sl_tup, sl_lst, it_tup, it_lst, it_scr, it_word, it_row, it_way, w_0, w_s, decide_true, decide_false, n_tup, n_lst, n_scr, n_word, n_row, n_way, eq_int, ne_int, c_int, en_tup, en_lst, zp_tup, zp_lst, zp_mix, m_yes, t_lst, t_tup, bind_s, a_int, s_int, g_ii, g_ib, is_non, isnt_non, rv_tup, rv_lst, not_true_eq_false, ne_eq, Nat.zero_le]
              have fl : ((w.take j).filter fun r => !rowB n r).length ≤ 40 := Nat.le_trans (List.length_filter_le _ _) (by rw [List.length_take]; omega)
              refine ⟨by unfold lineN; omega, ?_⟩
              simp [tk, q]
          · rintro acc S2 ⟨rfl, rfl⟩
            rw [List.take_length]
            have nn : ∀ l : List D, fNeN (.lst l) (.lst []) S2 = some (.bl (!l.isEmpty)) := fun l => rfl
            have em := fil_all (rowB n) w
            have wb : wayB n (.tup w) = w.all (rowB n) := by simp [wayB, ln]
            try simp only [p_seqL, p_par, p_par3, p_asgN, p_asg, p_expr, p_ret, p_nil, p_pass, p_if, p_for, p_try, q_cons, q_nil, q_cb, q_cr, q_call, q_callK, q_prop, q_make, q_bm, q_var, q_c, q_op, q_un, q_b, q_andB, q_orB, q_notB, q_andV, q_orV, q_notV, q_if, q_chain, q_tup, q_lst, q_lstC, q_lc, q_lcC, q_lc2, q_itV, q_itA, q_sl, q_oN, q_oS, sl_0, sl_s, os_some, os_if, f_1, ex_pair, ex_trip, g_unpS, gs_consS, gs_nilS, g_nm, g_subS, sq_tup, sq_lst, List.set_cons_zero, List.set_cons_succ, List.length_cons, List.length_nil, List.length_map, true_and, and_true, b_bl, Bool.not_true, Bool.not_false, Bool.false_eq_true, if_false, if_true, r_ok, i_int, sl_tup, sl_lst, it_tup, it_lst, it_scr, it_word, it_row, it_way, w_0, w_s, decide_true, decide_false, n_tup, n_lst, n_scr, n_word, n_row, n_way, eq_int, ne_int, c_int, en_tup, en_lst, zp_tup, zp_lst, zp_mix, m_yes, t_lst, t_tup, bind_s, a_int, s_int, g_ii, g_ib, is_non, isnt_non, rv_tup, rv_lst, not_true_eq_false, ne_eq, Nat.zero_le, nn, em]
            cases q : w.all (rowB n) with
            | false =>
              rw [q] at wb
              try simp only [p_seqL, p_par, p_par3, p_asgN, p_asg, p_expr, p_ret, p_nil, p_pass, p_if, p_for, p_try, q_cons, q_nil, q_cb, q_cr, q_call, q_callK, q_prop, q_make, q_bm, q_var, q_c, q_op, q_un, q_b, q_andB, q_orB, q_notB, q_andV, q_orV, q_notV, q_if, q_chain, q_tup, q_lst, q_lstC, q_lc, q_lcC, q_lc2, q_itV, q_itA, q_sl, q_oN, q_oS, sl_0, sl_s, os_some, os_if, f_1, ex_pair, ex_trip, g_unpS, gs_consS, gs_nilS, g_nm, g_subS, sq_tup, sq_lst, List.set_cons_zero, List.set_cons_succ, List.length_cons, List.length_nil, List.length_map, true_and, and_true, b_bl, Bool.not_true, Bool.not_false, Bool.false_eq_true, if_false, if_true, r_ok, i_int, sl_tup, sl_lst, it_tup, it_lst, it_scr, it_word, it_row, it_way, w_0, w_s, decide_true, decide_false, n_tup, n_lst, n_scr, n_word, n_row, n_way, eq_int, ne_int, c_int, en_tup, en_lst, zp_tup, zp_lst, zp_mix, m_yes, t_lst, t_tup, bind_s, a_int, s_int, g_ii, g_ib, is_non, isnt_non, rv_tup, rv_lst, not_true_eq_false, ne_eq, Nat.zero_le, rt]
              exact ⟨by decide, .inl ⟨k, rfl, ⟨_, h1, .inr wb⟩, hb⟩⟩
            | true =>
              rw [q] at wb
              try simp only [p_seqL, p_par, p_par3, p_asgN, p_asg, p_expr, p_ret, p_nil, p_pass, p_if, p_for, p_try, q_cons, q_nil, q_cb, q_cr, q_call, q_callK, q_prop, q_make, q_bm, q_var, q_c, q_op, q_un, q_b, q_andB, q_orB, q_notB, q_andV, q_orV, q_notV, q_if, q_chain, q_tup, q_lst, q_lstC, q_lc, q_lcC, q_lc2, q_itV, q_itA, q_sl, q_oN, q_oS, sl_0, sl_s, os_some, os_if, f_1, ex_pair, ex_trip, g_unpS, gs_consS, gs_nilS, g_nm, g_subS, sq_tup, sq_lst, List.set_cons_zero, List.set_cons_succ, List.length_cons, List.length_nil, List.length_map, true_and, and_true, b_bl, Bool.not_true, Bool.not_false, Bool.false_eq_true, if_false, if_true, r_ok, i_int, sl_tup, sl_lst, it_tup, it_lst, it_scr, it_word, it_row, it_way, w_0, w_s, decide_true, decide_false, n_tup, n_lst, n_scr, n_word, n_row, n_way, eq_int, ne_int, c_int, en_tup, en_lst, zp_tup, zp_lst, zp_mix, m_yes, t_lst, t_tup, bind_s, a_int, s_int, g_ii, g_ib, is_non, isnt_non, rv_tup, rv_lst, not_true_eq_false, ne_eq, Nat.zero_le]
              refine ⟨⟨_, _, rfl⟩, fun j hj => ?_⟩
              by_cases ej : j = k
              · subst ej
                rintro ⟨d, hd2, z⟩
                rw [h1] at hd2
                cases hd2
                rcases z with z | z
                · omega
                · rw [wb] at z; cases z
              · exact hb j (by omega)
        · have ne : ((w.length : Int) = (n : Int)) = False := eq_false (by omega)
          have wb : wayB n (.tup w) = false := by simp [wayB, ln]
          try simp only [p_seqL, p_par, p_par3, p_asgN, p_asg, p_expr, p_ret, p_nil, p_pass, p_if, p_for, p_try, q_cons, q_nil, q_cb, q_cr, q_call, q_callK, q_prop, q_make, q_bm, q_var, q_c, q_op, q_un, q_b, q_andB, q_orB, q_notB, q_andV, q_orV, q_notV, q_if, q_chain, q_tup, q_lst, q_lstC, q_lc, q_lcC, q_lc2, q_itV, q_itA, q_sl, q_oN, q_oS, sl_0, sl_s, os_some, os_if, f_1, ex_pair, ex_trip, g_unpS, gs_consS, gs_nilS, g_nm, g_subS, sq_tup, sq_lst, List.set_cons_zero, List.set_cons_succ, List.length_cons, List.length_nil, List.length_map, true_and, and_true, b_bl, Bool.not_true, Bool.not_false, Bool.false_eq_true, if_false, if_true, r_ok, i_int, sl_tup, sl_lst, it_tup, it_lst, it_scr, it_word, it_row, it_way, w_0, w_s, decide_true, decide_false, n_tup, n_lst, n_scr, n_word, n_row, n_way, eq_int, ne_int, c_int, en_tup, en_lst, zp_tup, zp_lst, zp_mix, m_yes, t_lst, t_tup, bind_s, a_int, s_int, g_ii, g_ib, is_non, isnt_non, rv_tup, rv_lst, not_true_eq_false, ne_eq, Nat.zero_le, d6, ix, e1, gl, ne, rt, not_false_eq_true]
          exact ⟨by decide, .inl ⟨k, rfl, ⟨_, h1, .inr wb⟩, hb⟩⟩
  · rintro en S' ⟨⟨x, y, rfl⟩, rfl, hb⟩
    rw [later_eq]
    try simp only [p_seqL, p_par, p_par3, p_asgN, p_asg, p_expr, p_ret, p_nil, p_pass, p_if, p_for, p_try, q_cons, q_nil, q_cb, q_cr, q_call, q_callK, q_prop, q_make, q_bm, q_var, q_c, q_op, q_un, q_b, q_andB, q_orB, q_notB, q_andV, q_orV, q_notV, q_if, q_chain, q_tup, q_lst, q_lstC, q_lc, q_lcC, q_lc2, q_itV, q_itA, q_sl, q_oN, q_oS, sl_0, sl_s, os_some, os_if, f_1, ex_pair, ex_trip, g_unpS, gs_consS, gs_nilS, g_nm, g_subS, sq_tup, sq_lst, List.set_cons_zero, List.set_cons_succ, List.length_cons, List.length_nil, List.length_map, true_and, and_true, b_bl, Bool.not_true, Bool.not_false, Bool.false_eq_true, if_false, if_true, r_ok, i_int, sl_tup, sl_lst, it_tup, it_lst, it_scr, it_word, it_row, it_way, w_0, w_s, decide_true, decide_false, n_tup, n_lst, n_scr, n_word, n_row, n_way, eq_int, ne_int, c_int, en_tup, en_lst, zp_tup, zp_lst, zp_mix, m_yes, t_lst, t_tup, bind_s, a_int, s_int, g_ii, g_ib, is_non, isnt_non, rv_tup, rv_lst, not_true_eq_false, ne_eq, Nat.zero_le]
    refine .inr fun j hj => ?_
    obtain ⟨d, hd, _⟩ := id hj
    have := (List.getElem?_eq_some_iff.mp hd).1
    rw [List.length_range] at hb
    exact hb j this hj
/-! councils -/
structure BadX (S : Sto) (n : Nat) (th x : D) (t : Str) : Prop where
  wrong : ∀ V, F_wrong_way [th, .int (n : Int)] V = .ok (.tup [x]) V
  sx : x = .non ∨ ∃ k : Nat, x = .int (k : Int)
  rep : ∀ V, gRepr x V = some (.str t)
  so : PyData.strOk t = true
  due : F_due_l [th, .int (n : Int)] S = .ok (.lst [.str "ways", .str t]) S
theorem init_bad {S V : Sto} {hs : List Str} {th x : D} {t : Str} (H : Heads hs) (B : BadX S hs.length th x t) : F_Councild_initd [.ref V.length, .tup (hs.map .str), th] (V ++ [.ins "Council" [] []]) = .exc "InvalidWays" [("index", x)] (V ++ [.ins "Council" [] []]) := by
  unfold F_Councild_initd
  refine run_exc (en1 := [some (.ref V.length), some (.tup (hs.map .str)), some th, some (.tup [x])]) ?_
  show s_Councild_initd [some (.ref V.length), some (.tup (hs.map .str)), some th, none] _ = _
  unfold s_Councild_initd
  generalize V ++ [.ins "Council" [] []] = T
  have m : mCall 1 F_wrong_mind (mCons (mVar 1) mNil) [some (.ref V.length), some (.tup (hs.map .str)), some th, none] T = .ok (.tup []) T := mind_ok H T
  refine (seq_next (asg_ok m)).trans ?_
  have t0 : (mB (mOp fNe (mVar 3) (mTup mNil))) [some (.ref V.length), some (.tup (hs.map .str)), some th, some (.tup [])] T = .ok false T := rfl
  refine (seq_next ((if_no t0).trans rfl)).trans ?_
  have gl : gLen (.tup (hs.map .str)) T = some (.int (hs.length : Int)) := by
    show some (D.int ((hs.map D.str).length : Int)) = _
    rw [List.length_map]
  have m2 : mCall 2 F_wrong_way (mCons (mVar 2) (mCons (mCB (f1 gLen) (mCons (mVar 1) mNil)) mNil)) [some (.ref V.length), some (.tup (hs.map .str)), some th, some (.tup [])] T = .ok (.tup [x]) T := by
    have ar : (mCons (mVar 2) (mCons (mCB (f1 gLen) (mCons (mVar 1) mNil)) mNil)) [some (.ref V.length), some (.tup (hs.map .str)), some th, some (.tup [])] T = .ok [th, .int (hs.length : Int)] T := r_eq (by try simp only [p_seqL, p_par, p_par3, p_asgN, p_asg, p_expr, p_ret, p_nil, p_pass, p_if, p_for, p_try, q_cons, q_nil, q_cb, q_cr, q_call, q_callK, q_prop, q_make, q_bm, q_var, q_c, q_op, q_un, q_b, q_andB, q_orB, q_notB, q_andV, q_orV, q_notV, q_if, q_chain, q_tup, q_lst, q_lstC, q_lc, q_lcC, q_lc2, q_itV, q_itA, q_sl, q_oN, q_oS, sl_0, sl_s, os_some, os_if, f_1, ex_pair, ex_trip, g_unpS, gs_consS, gs_nilS, g_nm, g_subS, sq_tup, sq_lst, List.set_cons_zero, List.set_cons_succ, List.length_cons, List.length_nil, List.length_map, true_and, and_true, b_bl, Bool.not_true, Bool.not_false, Bool.false_eq_true, if_false, if_true, r_ok, i_int, sl_tup, sl_lst, it_tup, it_lst, it_scr, it_word, it_row, it_way, w_0, w_s, decide_true, decide_false, n_tup, n_lst, n_scr, n_word, n_row, n_way, eq_int, ne_int, c_int, en_tup, en_lst, zp_tup, zp_lst, zp_mix, m_yes, t_lst, t_tup, bind_s, a_int, s_int, g_ii, g_ib, is_non, isnt_non, rv_tup, rv_lst, not_true_eq_false, ne_eq, Nat.zero_le, gl])
    unfold mCall
    rw [ar]
    exact B.wrong T
  refine (seq_next (asg_ok m2)).trans ?_
  have t1 : ∀ T, (mB (mOp fNe (mVar 3) (mTup mNil))) [some (.ref V.length), some (.tup (hs.map .str)), some th, some (.tup [x])] T = .ok true T := fun T => by
    rcases B.sx with rfl | ⟨k, rfl⟩ <;> rfl
  refine seq_exc ((if_yes (t1 _)).trans ?_)
  rfl
theorem make_bad {S V : Sto} {hs : List Str} {th x : D} {t : Str} (H : Heads hs) (B : BadX S hs.length th x t) (c : Cl V) : mkD "Council" true F_Councild_initd [.tup (hs.map .str), th] V = .exc "InvalidWays" [("index", x)] V := by
  unfold mkD
  rw [init_bad H B]
  simp only [Ag.cutR]
  have tk : (V ++ [Ob.ins "Council" [] []]).take V.length = V := by simp
  have bx : belows V.length ([(("index" : Str), x)].map (·.2)) = true := by
    rcases B.sx with rfl | ⟨k, rfl⟩ <;> rfl
  rw [tk, if_pos ⟨cl_all c _, bx⟩]
theorem lb0_bad {S V : Sto} {hs : List Str} {th x : D} {t : Str} (H : Heads hs) (B : BadX S hs.length th x t) (c : Cl V) : lb_0 [some (.tup (hs.map .str)), some th] V = .exc "InvalidWays" [("index", x)] V := by
  have e : mMake "Council" true 2 F_Councild_initd (mCons (mVar 0) (mCons (mVar 1) mNil)) [some (.tup (hs.map .str)), some th] V = .exc "InvalidWays" [("index", x)] V := make_bad H B c
  unfold lb_0 mProp
  rw [e]; rfl
theorem lb1_bad {S V : Sto} {hs : List Str} {th x : D} {t : Str} (H : Heads hs) (B : BadX S hs.length th x t) (c : Cl V) : lb_1 [some th, some (.tup (hs.map .str))] V = .exc "InvalidWays" [("index", x)] V := by
  have e : mMakeK "Council" true 2 [1, 0] F_Councild_initd (mCons (mVar 0) (mCons (mVar 1) mNil)) [some th, some (.tup (hs.map .str))] V = .exc "InvalidWays" [("index", x)] V := make_bad H B c
  unfold lb_1 mProp
  rw [e]; rfl
section
variable {V : Sto} {hs : List Str} {ws : List (List (List Int))}
theorem lb0_good (H : Heads hs) (hw : ∀ w ∈ ws, WayOk hs.length w) (h0 : ws ≠ []) (h6 : ws.length ≤ 6) (c : Cl V) : lb_0 [some (.tup (hs.map .str)), some (.tup (ws.map wayD))] V = .ok (.tup (ws.map wayD)) V := by
  have e : mMake "Council" true 2 F_Councild_initd (mCons (mVar 0) (mCons (mVar 1) mNil)) [some (.tup (hs.map .str)), some (.tup (ws.map wayD))] V = .ok (cncl hs ws) V := make_ok H hw h0 h6 c
  unfold lb_0 mProp
  rw [e]; rfl
theorem lb1_good (H : Heads hs) (hw : ∀ w ∈ ws, WayOk hs.length w) (h0 : ws ≠ []) (h6 : ws.length ≤ 6) (c : Cl V) : lb_1 [some (.tup (ws.map wayD)), some (.tup (hs.map .str))] V = .ok (.tup (ws.map wayD)) V := by
  have e : mMakeK "Council" true 2 [1, 0] F_Councild_initd (mCons (mVar 0) (mCons (mVar 1) mNil)) [some (.tup (ws.map wayD)), some (.tup (hs.map .str))] V = .ok (cncl hs ws) V := make_ok H hw h0 h6 c
  unfold lb_1 mProp
  rw [e]; rfl
end
/-! the lambdas of the law -/
theorem lamOf_cp (ys : List Str) (cp : List Nat) (e : Expr) : (lamOf ys cp e).cp = cp := by cases e <;> rfl
theorem lam_0_cp : lam_0.cp = [5, 2] := lamOf_cp _ _ _
theorem lam_1_cp : lam_1.cp = [2, 5] := lamOf_cp _ _ _
theorem hide_cl {U : Sto} (h : Cl U) : Cl (hideC U) := fun o ho n hn => hide_bel h (by rw [hide_len] at hn; exact hn) o ho
theorem kind_ways : KindE "InvalidWays" 5 := ⟨by rfl, by rfl, by rfl, by rfl, by rfl, by rfl, by rfl, by rfl, by rfl, by rfl, by rfl, by rfl, by rfl, by rfl, by decide⟩
theorem fx_index {U : Sto} {x : D} : fXf ["InvalidMinds", "InvalidWays"] "index" (.ref (U ++ []).length) (U ++ [] ++ [.err "InvalidWays" [("index", x)]]) = some x := by
  unfold fXf
  simp only [List.append_nil, List.getElem?_append_right (Nat.le_refl _), Nat.sub_self, List.getElem?_cons_zero]
  rfl
section
variable {S : Sto} {th x tk : D} {t : Str} {en : En} {hs : List Str} {ws : List (List (List Int))}
theorem nr_two {a b : D} (ha : Nr a) (hb : Nr b) {k : Nat} {L : LSyn} {q : Str} : ∀ n, S.length ≤ n → (Ob.clo k L q [a, b]).below n = true := fun n _ => by
  show belows n [a, b] = true
  simp only [belows, ha n, hb n, Bool.and_self]
def cl2 (th tk : D) : List Ob := [.clo 0 lam_0 "_law_right.<locals>.<lambda>" [th, tk], .clo 1 lam_1 "_law_right.<locals>.<lambda>" [tk, th]]
theorem cl2_low (a : Nr th) (b : Nr tk) : ∀ o ∈ cl2 th tk, ∀ n, S.length ≤ n → o.below n = true := fun o ho => by
  simp only [cl2, List.mem_cons, List.not_mem_nil, or_false] at ho
  rcases ho with rfl | rfl
  · exact nr_two a b
  · exact nr_two b a
theorem cap2 (e5 : slotD en 5 = some th) (e2 : slotD en 2 = some tk) : capAll "_law_right.<locals>.<lambda>" en [(0, lam_0), (1, lam_1)] = some (cl2 th tk) := by
  simp only [capAll, lam_0_cp, lam_1_cp, capD, e5, e2, Option.map_some, cl2]
theorem live_bad (hS : Cl S) (H : Heads hs) (B : BadX S hs.length th x t) (b : Nr th) (e5 : slotD en 5 = some (.tup (hs.map .str))) (e2 : slotD en 2 = some th) : liveR [(0, lam_0), (1, lam_1)] "_law_right.<locals>.<lambda>" F_is_ended_l en S (.lst [.str "ways", .str t]) = .ok (.bl true) S := by
  have a : Nr (.tup (hs.map .str)) := nr_tup (nr_map nr_str)
  have hU := liveU_cl hS (cl2_low a b)
  refine live_ok (cap2 e5 e2) rfl (by decide) hS (cl2_low a b) (by decide +kernel) B.so fun i hi => ?_
  have hi : i < 2 := hi
  rcases (show i = 0 ∨ i = 1 by omega) with rfl | rfl
  · exact ended_exc (T0 := []) (k := 5) (clo_exc (liveU_at rfl) rfl (by rw [List.append_nil]; exact lb0_bad H B (hide_cl hU))) hU (by decide) kind_ways (by decide) (by rw [if_pos (by decide)]; exact fx_index) B.rep
  · exact ended_exc (T0 := []) (k := 5) (clo_exc (liveU_at rfl) rfl (by rw [List.append_nil]; exact lb1_bad H B (hide_cl hU))) hU (by decide) kind_ways (by decide) (by rw [if_pos (by decide)]; exact fx_index) B.rep
theorem live_good (hS : Cl S) (H : Heads hs) (hw : ∀ w ∈ ws, WayOk hs.length w) (h0 : ws ≠ []) (h6 : ws.length ≤ 6) (e5 : slotD en 5 = some (.tup (hs.map .str))) (e2 : slotD en 2 = some (.tup (ws.map wayD))) (rep : ∀ V, gRepr (.tup (ws.map wayD)) V = some (.str t)) (so : PyData.strOk t = true) : liveR [(0, lam_0), (1, lam_1)] "_law_right.<locals>.<lambda>" F_is_ended_l en S (.lst [.str "told", .str t]) = .ok (.bl true) S := by
  have a : Nr (.tup (hs.map .str)) := nr_tup (nr_map nr_str)
  have b : Nr (.tup (ws.map wayD)) := nr_tup (nr_map nr_way)
  have hU := liveU_cl hS (cl2_low a b)
  refine live_ok (cap2 e5 e2) rfl (by decide) hS (cl2_low a b) (by decide +kernel) so fun i hi => ?_
  have hi : i < 2 := hi
  rcases (show i = 0 ∨ i = 1 by omega) with rfl | rfl
  · exact ended_told (T := []) (clo_ok (liveU_at rfl) rfl (by rw [List.append_nil]; exact lb0_good H hw h0 h6 (hide_cl hU))) hU (rep _)
  · exact ended_told (T := []) (clo_ok (liveU_at rfl) rfl (by rw [List.append_nil]; exact lb1_good H hw h0 h6 (hide_cl hU))) hU (rep _)
end
/-! verdicts -/
theorem rows_of {n : Nat} : ∀ {l : List D}, l.all (rowB n) = true → ∃ w : List (List Int), l = w.map rowD ∧ ∀ r ∈ w, RowOk n r
  | [], _ => ⟨[], rfl, by simp⟩
  | d :: l, h => by
    simp only [List.all_cons, Bool.and_eq_true] at h
    obtain ⟨w, rfl, hw⟩ := rows_of h.2
    cases d with
    | tup e =>
      have hd := h.1
      simp only [rowB, Bool.and_eq_true, decide_eq_true_eq] at hd
      obtain ⟨r, rfl, h1, h2⟩ := els_int hd.2.1
      refine ⟨r :: w, rfl, fun x hx => ?_⟩
      rcases List.mem_cons.mp hx with rfl | hx
      · exact ⟨by simpa using hd.1, h1, by rw [← h2]; exact hd.2.2⟩
      · exact hw x hx
    | _ => cases h.1
theorem ways_of {n : Nat} : ∀ {l : List D}, (∀ d ∈ l, wayB n d = true) → ∃ ws : List (List (List Int)), l = ws.map wayD ∧ ∀ w ∈ ws, WayOk n w
  | [], _ => ⟨[], rfl, by simp⟩
  | d :: l, h => by
    obtain ⟨ws, rfl, hw⟩ := ways_of fun e he => h e (List.mem_cons_of_mem _ he)
    have hd := h d List.mem_cons_self
    cases d with
    | tup e =>
      simp only [wayB, Bool.and_eq_true, decide_eq_true_eq] at hd
      obtain ⟨w, rfl, h1⟩ := rows_of hd.2
      refine ⟨w :: ws, rfl, fun x hx => ?_⟩
      rcases List.mem_cons.mp hx with rfl | hx
      · exact ⟨by simpa using hd.1, h1⟩
      · exact hw x hx
    | _ => cases hd
theorem none_rep : ∀ V, gRepr .non V = some (.str "None") := fun _ => by kernel_rfl
theorem verdict {th : D} {n : Nat} (h : Kx 3 th) (S : Sto) : (∃ x t, BadX S n th x t) ∨ ∃ ws : List (List (List Int)), th = .tup (ws.map wayD) ∧ (∀ w ∈ ws, WayOk n w) ∧ ws ≠ [] ∧ ws.length ≤ 6 ∧ F_due_l [th, .int (n : Int)] S = .ok .non S := by
  cases ht : isT th with
  | false =>
    have e1 := isi_t (kx_kd h)
    rw [ht] at e1
    exact .inl ⟨.non, "None", fun V => by
      unfold F_wrong_way
      apply sat_eq
      simp only [f_run, List.map_cons, List.map_nil, List.length_cons, List.length_nil, Nat.zero_add, Nat.reduceAdd, Nat.reduceSub, List.replicate_succ, List.replicate_zero, List.cons_append, List.nil_append]
      unfold s_wrong_way
      try simp only [p_seqL, p_par, p_par3, p_asgN, p_asg, p_expr, p_ret, p_nil, p_pass, p_if, p_for, p_try, q_cons, q_nil, q_cb, q_cr, q_call, q_callK, q_prop, q_make, q_bm, q_var, q_c, q_op, q_un, q_b, q_andB, q_orB, q_notB, q_andV, q_orV, q_notV, q_if, q_chain, q_tup, q_lst, q_lstC, q_lc, q_lcC, q_lc2, q_itV, q_itA, q_sl, q_oN, q_oS, sl_0, sl_s, os_some, os_if, f_1, ex_pair, ex_trip, g_unpS, gs_consS, gs_nilS, g_nm, g_subS, sq_tup, sq_lst, List.set_cons_zero, List.set_cons_succ, List.length_cons, List.length_nil, List.length_map, true_and, and_true, b_bl, Bool.not_true, Bool.not_false, Bool.false_eq_true, if_false, if_true, r_ok, i_int, sl_tup, sl_lst, it_tup, it_lst, it_scr, it_word, it_row, it_way, w_0, w_s, decide_true, decide_false, n_tup, n_lst, n_scr, n_word, n_row, n_way, eq_int, ne_int, c_int, en_tup, en_lst, zp_tup, zp_lst, zp_mix, m_yes, t_lst, t_tup, bind_s, a_int, s_int, g_ii, g_ib, is_non, isnt_non, rv_tup, rv_lst, not_true_eq_false, ne_eq, Nat.zero_le, e1]
      decide, .inl rfl, none_rep, by decide +kernel, by
      unfold F_due_l
      apply sat_eq
      simp only [f_run, List.map_cons, List.map_nil, List.length_cons, List.length_nil, Nat.zero_add, Nat.reduceAdd, Nat.reduceSub, List.replicate_succ, List.replicate_zero, List.cons_append, List.nil_append]
      unfold s_due_l
      try simp only [p_seqL, p_par, p_par3, p_asgN, p_asg, p_expr, p_ret, p_nil, p_pass, p_if, p_for, p_try, q_cons, q_nil, q_cb, q_cr, q_call, q_callK, q_prop, q_make, q_bm, q_var, q_c, q_op, q_un, q_b, q_andB, q_orB, q_notB, q_andV, q_orV, q_notV, q_if, q_chain, q_tup, q_lst, q_lstC, q_lc, q_lcC, q_lc2, q_itV, q_itA, q_sl, q_oN, q_oS, sl_0, sl_s, os_some, os_if, f_1, ex_pair, ex_trip, g_unpS, gs_consS, gs_nilS, g_nm, g_subS, sq_tup, sq_lst, List.set_cons_zero, List.set_cons_succ, List.length_cons, List.length_nil, List.length_map, true_and, and_true, b_bl, Bool.not_true, Bool.not_false, Bool.false_eq_true, if_false, if_true, r_ok, i_int, sl_tup, sl_lst, it_tup, it_lst, it_scr, it_word, it_row, it_way, w_0, w_s, decide_true, decide_false, n_tup, n_lst, n_scr, n_word, n_row, n_way, eq_int, ne_int, c_int, en_tup, en_lst, zp_tup, zp_lst, zp_mix, m_yes, t_lst, t_tup, bind_s, a_int, s_int, g_ii, g_ib, is_non, isnt_non, rv_tup, rv_lst, not_true_eq_false, ne_eq, Nat.zero_le, e1]
      decide⟩
  | true =>
    obtain ⟨l, rfl⟩ : ∃ l, th = .tup l := by cases th <;> first | exact ⟨_, rfl⟩ | cases ht
    obtain ⟨hl, he⟩ := h.2.2 l rfl
    by_cases h0 : l = []
    · subst h0
      exact .inl ⟨.non, "None", fun V => by kernel_rfl, .inl rfl, none_rep, by decide +kernel, by kernel_rfl⟩
    · obtain ⟨v, S', e, rfl, hh⟩ := (due_any (n := n) he h0 hl S).eq
      rcases hh with ⟨k, rfl, hk⟩ | ⟨rfl, hb⟩
      · refine .inl ⟨.int (k : Int), rtx k, fun V => ?_, .inr ⟨k, rfl⟩, (rtx_ok (by have := fstw_len hk; omega)).1, (rtx_ok (by have := fstw_len hk; omega)).2, e⟩
        obtain ⟨v, V', e', rfl, hh⟩ := (wrong_any (n := n) he h0 hl V).eq
        rcases hh with ⟨j, rfl, hj⟩ | ⟨rfl, hn⟩
        · rw [fstw_uniq hk hj]; exact e'
        · exact absurd hk.1 (hn k)
      · have gd : ∀ j d, l[j]? = some d → j < 6 ∧ wayB n d = true := fun j d z => by
          refine ⟨?_, ?_⟩
          · by_cases q : 6 ≤ j
            · exact absurd ⟨d, z, .inl q⟩ (hb j)
            · omega
          · cases q : wayB n d with
            | true => rfl
            | false => exact absurd ⟨d, z, .inr q⟩ (hb j)
        obtain ⟨ws, rfl, hw⟩ := ways_of (l := l) fun d hd => by
          obtain ⟨j, hj, rfl⟩ := List.mem_iff_getElem.mp hd
          exact (gd j _ (List.getElem?_eq_getElem hj)).2
        refine .inr ⟨ws, rfl, hw, fun z => h0 (by rw [z]; rfl), ?_, e⟩
        by_cases z : ws.length ≤ 6
        · exact z
        · have := (gd 6 _ (List.getElem?_eq_getElem (by rw [List.length_map]; omega))).1
          omega

end Ag.k04

namespace Ag.k04
open PySem

/-! jugs in stores whose cells name cells -/
theorem cl_setR {S : Sto} {i : Nat} {o : Ob} (h : Cl S) (ho : ∀ n, S.length ≤ n → o.below n = true) : Cl (S.set i o) := fun x hx n hn => by
  rw [List.length_set] at hn
  rcases List.mem_or_eq_of_mem_set hx with hx | rfl
  · exact h x hx n hn
  · exact ho n hn
theorem cl_appR {S : Sto} {o : Ob} (h : Cl S) (ho : ∀ n, S.length + 1 ≤ n → o.below n = true) : Cl (S ++ [o]) := fun x hx n hn => by
  have hn : S.length + 1 ≤ n := by simpa using hn
  rcases List.mem_append.mp hx with hx | hx
  · exact h x hx n (by omega)
  · have : x = o := by simpa using hx
    subst this; exact ho n (by simpa using hn)
structure Jg (S : Sto) (i : Nat) : Prop where
  cl : Cl S
  at_ : ∃ a b c : Int, S[i]? = some (.lst [.int a, .int b, .int c])
structure Ex (S S' : Sto) (i : Nat) : Prop where
  len : S.length ≤ S'.length
  jg : Jg S' i
  oth : ∀ j, j < S.length → j ≠ i → S'[j]? = S[j]?
  base : Cl S
structure Lk (S S' : Sto) (i : Nat) : Prop extends Ex S S' i where
  same : S'.length = S.length
theorem Jg.lt {S : Sto} {i : Nat} (h : Jg S i) : i < S.length := by
  obtain ⟨a, b, c, e⟩ := h.at_
  exact (List.getElem?_eq_some_iff.mp e).1
theorem Ex.refl {S : Sto} {i : Nat} (h : Jg S i) : Ex S S i := ⟨Nat.le_refl _, h, fun _ _ _ => rfl, h.cl⟩
theorem Lk.refl {S : Sto} {i : Nat} (h : Jg S i) : Lk S S i := ⟨.refl h, rfl⟩
theorem Ex.trans {S S1 S2 : Sto} {i : Nat} (a : Ex S S1 i) (b : Ex S1 S2 i) : Ex S S2 i := ⟨Nat.le_trans a.len b.len, b.jg, fun j hj hi => by rw [b.oth j (Nat.lt_of_lt_of_le hj a.len) hi, a.oth j hj hi], a.base⟩
theorem Lk.trans {S S1 S2 : Sto} {i : Nat} (a : Lk S S1 i) (b : Lk S1 S2 i) : Lk S S2 i := ⟨a.toEx.trans b.toEx, b.same.trans a.same⟩
theorem Ex.cut {S S' : Sto} {i : Nat} (h : Ex S S' i) (hi : i < S.length) : Lk S (S'.take S.length) i := by
  have hl : (S'.take S.length).length = S.length := by rw [List.length_take]; have := h.len; omega
  refine ⟨⟨by omega, ⟨fun o ho n hn => ?_, ?_⟩, fun j hj hji => ?_, h.base⟩, hl⟩
  · rw [hl] at hn
    obtain ⟨j, hj, rfl⟩ := List.mem_iff_getElem.mp ho
    have hj' : j < S.length := by omega
    have ej : S'[j]? = some (S'.take S.length)[j] := by
      rw [List.getElem_take, List.getElem?_eq_getElem]
    by_cases hji : j = i
    · subst hji
      obtain ⟨a, b, c, e⟩ := h.jg.at_
      rw [e] at ej
      rw [← Option.some.inj ej]
      exact jar_nr n
    · rw [h.oth j hj' hji] at ej
      exact h.base _ (List.mem_of_getElem? ej) n hn
  · obtain ⟨a, b, c, e⟩ := h.jg.at_
    exact ⟨a, b, c, by rw [List.getElem?_take_of_lt hi]; exact e⟩
  · rw [List.getElem?_take_of_lt hj]; exact h.oth j hj hji
theorem Lk.put {S : Sto} {i : Nat} (h : Jg S i) (a b c : Int) : Lk S (S.set i (.lst [.int a, .int b, .int c])) i :=
  ⟨⟨by simp, ⟨cl_set h.cl (bel_lst fun d hd => by
    simp only [List.mem_cons, List.not_mem_nil, or_false] at hd
    rcases hd with rfl | rfl | rfl <;> exact nr_int _), a, b, c, by simp [h.lt]⟩, fun j _ hj => by rw [List.getElem?_set_ne (Ne.symm hj)], h.cl⟩, by simp⟩
theorem Ex.putR {S S' : Sto} {i j : Nat} {o : Ob} (h : Ex S S' i) (hj : S.length ≤ j) (hi : i < S.length) (ho : ∀ n, S'.length ≤ n → o.below n = true) : Ex S (S'.set j o) i := by
  refine ⟨by simpa using h.len, ⟨cl_setR h.jg.cl ho, ?_⟩, fun k hk hki => by rw [List.getElem?_set_ne (by omega)]; exact h.oth k hk hki, h.base⟩
  obtain ⟨a, b, c, e⟩ := h.jg.at_
  exact ⟨a, b, c, by rw [List.getElem?_set_ne (by omega)]; exact e⟩
theorem Ex.put {S S' : Sto} {i j : Nat} {o : Ob} (h : Ex S S' i) (hj : S.length ≤ j) (hi : i < S.length) (ho : ∀ n, o.below n = true) : Ex S (S'.set j o) i := h.putR hj hi fun n _ => ho n
theorem Ex.addR {S S' : Sto} {i : Nat} {o : Ob} (h : Ex S S' i) (ho : ∀ n, S'.length + 1 ≤ n → o.below n = true) : Ex S (S' ++ [o]) i := by
  have hi := h.jg.lt
  refine ⟨by simp; have := h.len; omega, ⟨cl_appR h.jg.cl ho, ?_⟩, fun k hk hki => by rw [List.getElem?_append_left (by have := h.len; omega)]; exact h.oth k hk hki, h.base⟩
  obtain ⟨a, b, c, e⟩ := h.jg.at_
  exact ⟨a, b, c, by rw [List.getElem?_append_left hi]; exact e⟩
theorem Ex.add {S S' : Sto} {i : Nat} {o : Ob} (h : Ex S S' i) (ho : ∀ n, o.below n = true) : Ex S (S' ++ [o]) i := h.addR fun n _ => ho n
theorem scop_ok {f : List D → Sto → Res D} {ds : List D} {S : Sto} {i : Nat} {P : D → Prop} (hi : i < S.length) (h : (f ds S).sat fun d S' => P d ∧ Nr d ∧ Ex S S' i) : (scop f ds S).sat fun d S' => P d ∧ Lk S S' i := by
  refine f_scop (h.mono fun d S' ⟨h1, h2, h3⟩ => ?_)
  refine ⟨cl_all (h3.cut hi).jg.cl _ (Nat.le_of_eq (h3.cut hi).same), ?_⟩
  rw [frz_nr h2, os_some]
  exact ⟨h1, h3.cut hi⟩
theorem sip_ok {S : Sto} {i : Nat} (h : Jg S i) {m : Int} (hm : 0 < m) (hm2 : m < 1073741824) : (F_sip_l [.ref i, .int m] S).sat fun v S' => ∃ d : Nat, v = .int (d : Int) ∧ (d : Int) < m ∧ Lk S S' i := by
  unfold F_sip_l
  rw [f_run]
  show (s_sip_l [some (.ref i), some (.int m), none] S).sat _ _
  obtain ⟨a, b, c, e⟩ := h.at_
  unfold s_sip_l
  have x0 : fIx (.ref i) (.int 0) S = some (.int a) := ix_ref e 0
  have x1 : ∀ a b c S, S[i]? = some (.lst [.int a, .int b, .int c]) → fIx (.ref i) (.int 1) S = some (.int b) := fun a b c S z => ix_ref z 1
  have x2 : ∀ a b c S, S[i]? = some (.lst [.int a, .int b, .int c]) → fIx (.ref i) (.int 2) S = some (.int c) := fun a b c S z => ix_ref z 2
  have y0 : ∀ a b c d S, S[i]? = some (.lst [.int a, .int b, .int c]) → fSet (.ref i) (.int 0) (.int d) S = some (S.set i (.lst [.int d, .int b, .int c])) := fun a b c d S z => set_ref z (k := 0) (by simp) _
  have y1 : ∀ a b c d S, S[i]? = some (.lst [.int a, .int b, .int c]) → fSet (.ref i) (.int 1) (.int d) S = some (S.set i (.lst [.int a, .int d, .int c])) := fun a b c d S z => set_ref z (k := 1) (by simp) _
  have y2 : ∀ a b c d S, S[i]? = some (.lst [.int a, .int b, .int c]) → fSet (.ref i) (.int 2) (.int d) S = some (S.set i (.lst [.int a, .int b, .int d])) := fun a b c d S z => set_ref z (k := 2) (by simp) _
  have fin : ∀ z : Int, ∃ d : Nat, z % m = (d : Int) ∧ (d : Int) < m := fun z => by
    have h1 := Int.emod_nonneg z (show m ≠ 0 by omega)
    have h2 := Int.emod_lt_of_pos z hm
    exact ⟨(z % m).toNat, by omega, by omega⟩
  simp only [p_seq, p_if, q_b, q_op, q_var, q_c, sl_0, sl_s, os_some, x0, fGt, cmpI, bOf]
  by_cases ha : 0 < a
  · simp only [ha, decide_true, if_true, p_seq, p_asg, q_cb, q_cons, q_nil, q_op, q_var, q_c, sl_0, sl_s, os_some, x0, fDivmod, hm, hm2, and_self, g_unpS, seqOf, List.length_cons, List.length_nil, gs_consS, gs_nilS, g_subS, y0 a b c _ S e, g_nm, List.set_cons_zero, List.set_cons_succ, p_ret, true_and]
    obtain ⟨d, h1, h2⟩ := fin a
    rw [h1]
    exact ⟨d, rfl, h2, Lk.put h _ _ _⟩
  · have m1 : ∀ z : Int, mulOk z 43003 = true := fun z => mulOk_r (by decide)
    have m2 : ∀ z : Int, mulOk 29009 z = true := fun z => by
      unfold mulOk
      rw [decide_eq_true (by decide)]
      simp
    have d1 : divOk 1024 = true := by decide
    have e1 := set_get (o := .lst [.int a, .int b, .int (c + 1)]) e
    have e2 : ∀ z : Int, (S.set i (.lst [.int a, .int z, .int (c + 1)]))[i]? = some (.lst [.int a, .int z, .int (c + 1)]) := fun z => set_get e
    simp only [ha, decide_false, Bool.false_eq_true, if_false, p_nil, p_asg, g_subS, q_op, q_var, q_c, sl_0, sl_s, os_some, x2 a b c S e, fAdd, y2 a b c _ S e, q_cb, q_cons, q_nil, x1 _ _ _ _ e1, x2 _ _ _ _ e1, fMul, m1, m2, if_true, f1, gInt, fMod, y1 _ _ _ _ _ e1, List.set_set, p_ret, x1 _ _ _ _ (e2 _), fDiv, d1, hm]
    simp only [show (0 : Int) < 2147483269 by decide, if_true, os_some]
    obtain ⟨d, h1, h2⟩ := fin ((b * 43003 + 29009 * (c + 1)) % 2147483269 / 1024)
    simp only [y1 _ _ _ _ _ e1, List.set_set, os_some, x1 _ _ _ _ (e2 _)]
    simp only [d1, hm, if_true, os_some]
    rw [h1]
    exact ⟨d, rfl, h2, Lk.put h _ _ _⟩
/-! rows of small weights, and of the greatest one -/
structure RowQ (n : Nat) (r : List Int) : Prop where
  len : r.length = n
  in_ : ∀ w ∈ r, 0 ≤ w ∧ w ≤ 1000000000
  pos : 0 < r.sum
  sm : (∀ w ∈ r, w ≤ 7) ∨ ∃ i, i < n ∧ ∀ j, j ≠ i → r.getD j 0 = 0
theorem RowQ.ok {n : Nat} {r : List Int} (h : RowQ n r) : RowOk n r := ⟨h.len, h.in_, h.pos⟩
structure WayQ (n : Nat) (w : List (List Int)) : Prop where
  len : w.length = n
  row : ∀ r ∈ w, RowQ n r
theorem WayQ.ok {n : Nat} {w : List (List Int)} (h : WayQ n w) : WayOk n w := ⟨h.len, fun r hr => (h.row r hr).ok⟩
theorem row_drawQ {S : Sto} {i n : Nat} (h : Jg S i) (h1 : 1 ≤ n) (h6 : n ≤ 6) : (F_row_l [.ref i, .int (n : Int)] S).sat fun v S' => (∃ r, v = rowD r ∧ RowQ n r) ∧ Lk S S' i := by
  unfold F_row_l
  have k1 : i < S.length := h.lt
  refine scop_ok k1 ?_
  rw [f_run]
  show (s_row_l [some (.ref i), some (.int (n : Int)), none, none] S).sat _ _
  unfold s_row_l
  have r1 := rg1_len n S (by omega)
  simp only [p_seq, p_asgN, q_lcC, q_itA, q_cons, q_nil, q_var, sl_0, sl_s, os_some, r1]
  refine lc_inv (li_rg _ _) (fun k acc S' => Lk S S' i ∧ ∃ r : List Int, acc = r.map .int ∧ r.length = k ∧ ∀ w ∈ r, 0 ≤ w ∧ w ≤ 7) ?_ ?_ ⟨.refl h, [], rfl, rfl, by simp⟩
  · rintro k d acc S' hd ⟨l, r, rfl, hr, hb⟩
    have hk : k < n := by
      have := (List.getElem?_eq_some_iff.mp hd).1
      simpa using this
    simp only [wipeE, List.set_cons_zero, List.set_cons_succ, g_nm, mYes, r_ok, if_true, q_op, q_lst, q_cons, q_nil, q_c, q_call, q_var, sl_0, sl_s, os_some, List.length_cons, List.length_nil, true_and]
    refine ⟨by decide, (sip_ok l.jg (by decide) (by decide)).mono ?_⟩
    rintro v S2 ⟨d, rfl, hd, l2⟩
    rw [ix_lst]
    have : d = 0 ∨ d = 1 ∨ d = 2 ∨ d = 3 ∨ d = 4 ∨ d = 5 ∨ d = 6 := by omega
    have fin : ∀ w : Int, 0 ≤ w ∧ w ≤ 7 → (r.map D.int).length < lineN ∧ Lk S S2 i ∧ ∃ r' : List Int, r.map D.int ++ [.int w] = r'.map .int ∧ r'.length = k + 1 ∧ ∀ w ∈ r', 0 ≤ w ∧ w ≤ 7 := fun w hw =>
      ⟨by rw [List.length_map, hr]; unfold lineN; omega, l.trans l2, r ++ [w], by simp, by simp [hr], fun x hx => by
        rcases List.mem_append.mp hx with hx | hx
        · exact hb x hx
        · have : x = w := by simpa using hx
          subst this; exact hw⟩
    rcases this with rfl | rfl | rfl | rfl | rfl | rfl | rfl
    · exact os_some.mpr (fin 0 (by decide))
    · exact os_some.mpr (fin 0 (by decide))
    · exact os_some.mpr (fin 1 (by decide))
    · exact os_some.mpr (fin 1 (by decide))
    · exact os_some.mpr (fin 2 (by decide))
    · exact os_some.mpr (fin 3 (by decide))
    · exact os_some.mpr (fin 7 (by decide))
  · rintro acc S1 ⟨l, r, rfl, hr, hb⟩
    rw [show ((List.range n).map fun k => D.int (0 + (k : Nat))).length = n by simp] at hr
    have x0 : Ex S (S1 ++ [.lst (r.map .int)]) i := l.toEx.add (bel_lst (nr_map nr_int))
    have g0 : (S1 ++ [Ob.lst (r.map .int)])[S1.length]? = some (.lst (r.map .int)) := by simp
    have ni : i ≠ S1.length := by have := l.jg.lt; omega
    have li : i < S.length := h.lt
    have nn : ∀ w ∈ r, 0 ≤ w := fun w hw => (hb w hw).1
    simp only [p_if, q_b, q_op, q_cb, q_cons, q_nil, q_var, q_c, sl_0, sl_s, os_some, List.set_cons_zero, List.set_cons_succ, f1, sum_ref g0, eq_int, bOf]
    by_cases hs : r.sum = 0
    · simp only [hs, decide_true, if_true, p_asg, q_op, q_lst, q_cons, q_nil, q_c, fPow, os_if, q_call, q_var, sl_0, sl_s, os_some, List.length_cons, List.length_nil, true_and]
      refine ⟨by decide, by decide, (sip_ok x0.jg (by decide) (by decide)).mono ?_⟩
      rintro v S2 ⟨d, rfl, hd, l2⟩
      rw [ix_lst]
      have g2 : S2[S1.length]? = some (.lst (r.map .int)) := by rw [l2.oth _ (by simp) (Ne.symm ni)]; exact g0
      have fin : ∀ w : Int, 0 < w ∧ w ≤ 1000000000 → (gSubM fSet (mVar 2) (mCall 2 F_sip_l (mCons (mVar 0) (mCons (mVar 1) mNil))) (.int w) [some (.ref i), some (.int (n : Int)), some (.ref S1.length), none] S2).sat fun en S' => (sRet (mCB (f1 gTup) (mCons (mVar 2) mNil)) en S').sat (fun _ S' => (∃ r, D.non = rowD r ∧ RowQ n r) ∧ Nr .non ∧ Ex S S' i) fun d S' => (∃ r, d = rowD r ∧ RowQ n r) ∧ Nr d ∧ Ex S S' i := fun w hw => by
        simp only [g_subS, q_call, q_cons, q_nil, q_var, sl_0, sl_s, os_some, List.length_cons, List.length_nil, true_and]
        refine (sip_ok l2.jg (by omega) (by omega)).mono ?_
        rintro v S3 ⟨d, rfl, hd, l3⟩
        have g3 : S3[S1.length]? = some (.lst (r.map .int)) := by rw [l3.oth _ (by rw [l2.same]; simp) (Ne.symm ni)]; exact g2
        have hd' : d < r.length := by omega
        rw [set_ref g3 (by simpa using hd')]
        have g4 := set_get (o := .lst ((r.map D.int).set d (.int w))) g3
        simp only [os_some, p_ret, q_cb, q_cons, q_nil, q_var, sl_0, sl_s, tup_ref g4]
        refine ⟨⟨r.set d w, by simp [rowD, List.map_set], by simp [hr], fun x hx => ?_, ?_, .inr ⟨d, by omega, fun j hj => ?_⟩⟩, ?_, ((x0.trans l2.toEx).trans l3.toEx).put (by rw [l.same]; exact Nat.le_refl _) li (bel_lst ?_)⟩
        · rcases List.mem_or_eq_of_mem_set hx with hx | rfl
          · have := hb x hx; omega
          · omega
        · have : w ≤ (r.set d w).sum := mem_le_sum (fun x hx => by
            rcases List.mem_or_eq_of_mem_set hx with hx | rfl
            · exact nn x hx
            · omega) w (List.mem_set hd' w)
          omega
        · rw [List.getD, List.getElem?_set_ne (fun z => hj z.symm)]
          cases q : r[j]? with
          | none => rfl
          | some y =>
            have hm := List.mem_of_getElem? q
            have h1 := nn y hm
            have h2 := mem_le_sum nn y hm
            show y = 0
            omega
        · rw [← List.map_set]; exact nr_tup (nr_map nr_int)
        · rw [← List.map_set]; exact nr_map nr_int
      have : d = 0 ∨ d = 1 ∨ d = 2 := by omega
      rcases this with rfl | rfl | rfl
      · exact os_some.mpr (fin 1 (by decide))
      · exact os_some.mpr (fin 2 (by decide))
      · exact os_some.mpr (fin (10 ^ 9) (by decide))
    · simp only [hs, decide_false, Bool.false_eq_true, if_false, p_nil, p_ret, q_cb, q_cons, q_nil, q_var, sl_0, sl_s, os_some, tup_ref g0]
      have h0 := (sum_take_le r r.length nn).1
      rw [List.take_length] at h0
      exact ⟨⟨r, rfl, hr, fun w hw => ⟨(hb w hw).1, by have := (hb w hw).2; omega⟩, by omega, .inl fun w hw => (hb w hw).2⟩, nr_row r, x0⟩

theorem talk_drawQ {S : Sto} {i n : Nat} (h : Jg S i) (h1 : 1 ≤ n) (h6 : n ≤ 6) : (F_talk_l [.ref i, .int (n : Int)] S).sat fun v S' => (∃ w, v = wayD w ∧ WayQ n w) ∧ Lk S S' i := by
  unfold F_talk_l
  rw [f_run]
  show (s_talk_l [some (.ref i), some (.int (n : Int)), none] S).sat _ _
  unfold s_talk_l
  have r1 := rg1_len n S (by omega)
  simp only [p_ret, q_cb, q_lc, q_itA, q_cons, q_nil, q_var, sl_0, sl_s, os_some, r1]
  refine lc_inv (li_rg _ _) (fun k acc S' => Lk S S' i ∧ ∃ w, acc = w.map rowD ∧ w.length = k ∧ ∀ r ∈ w, RowQ n r) ?_ ?_ ⟨.refl h, [], rfl, rfl, by simp⟩
  · rintro k d acc S' hd ⟨l, w, rfl, hr, hb⟩
    have hk : k < n := by
      have := (List.getElem?_eq_some_iff.mp hd).1
      simpa using this
    simp only [wipeE, List.set_cons_zero, List.set_cons_succ, g_nm, mYes, r_ok, if_true, q_cons, q_nil, q_call, q_var, sl_0, sl_s, os_some, List.length_cons, List.length_nil, true_and]
    refine (row_drawQ l.jg h1 h6).mono ?_
    rintro v S2 ⟨⟨r, rfl, hr2⟩, l2⟩
    refine ⟨by rw [List.length_map, hr]; unfold lineN; omega, l.trans l2, w ++ [r], by simp, by simp [hr], fun x hx => ?_⟩
    rcases List.mem_append.mp hx with hx | hx
    · exact hb x hx
    · have : x = r := by simpa using hx
      subst this; exact hr2
  · rintro acc S1 ⟨l, w, rfl, hr, hb⟩
    rw [range_len] at hr
    simp only [tup_lst, os_some]
    exact ⟨⟨w, rfl, hr, hb⟩, l⟩
theorem pool_nm : ∀ h ∈ pool, ∀ S, F_is_name [.str h] S = .ok (.bl true) S := by
  intro h hh S
  simp only [pool, List.mem_cons, List.not_mem_nil, or_false] at hh
  rcases hh with rfl | rfl | rfl | rfl | rfl | rfl | rfl | rfl <;> kernel_rfl
theorem pool_rb : ∀ h ∈ pool, Rb 0 40 (.str h) := by
  intro h hh
  refine ⟨.str h, rfl, ?_, rfl, by simp [PyData.depth], ?_⟩
  all_goals
    simp only [pool, List.mem_cons, List.not_mem_nil, or_false] at hh
    rcases hh with rfl | rfl | rfl | rfl | rfl | rfl | rfl | rfl <;> decide +kernel
theorem heads_of {hs ps : List Str} (hp : (hs ++ ps).Perm pool) (h0 : hs ≠ []) (h6 : hs.length ≤ 6) : Heads hs := by
  have hm : ∀ h ∈ hs, h ∈ pool := fun h hh => hp.mem_iff.mp (by simp [hh])
  refine ⟨h0, h6, fun h hh => pool_nm h (hm h hh), fun h hh => pool_ok h (hm h hh), ?_, ?_⟩
  · have := hp.nodup_iff.mpr pool_nd
    exact (List.nodup_append.mp this).1
  · exact fun h hh => pool_rb h (hm h hh)
theorem pair_drawQ {S : Sto} {i mo : Nat} (h : Jg S i) (m1 : 1 ≤ mo) (m6 : mo ≤ 6) : (F_pair_l [.ref i, .int (mo : Int)] S).sat fun v S' => (∃ hs ws, v = .lst [.tup (hs.map .str), .tup (ws.map wayD)] ∧ Heads hs ∧ (∀ h ∈ hs, h ∈ pool) ∧ hs.length ≤ mo ∧ (∀ w ∈ ws, WayQ hs.length w) ∧ ws ≠ [] ∧ ws.length ≤ 4) ∧ Lk S S' i := by
  unfold F_pair_l
  refine scop_ok h.lt ?_
  rw [f_run]
  show (s_pair_l [some (.ref i), some (.int (mo : Int)), none, none, none, none] S).sat _ _
  unfold s_pair_l
  simp only [p_seq, p_asgN, q_op, q_c, q_call, q_cons, q_nil, q_var, sl_0, sl_s, os_some, List.length_cons, List.length_nil, true_and]
  refine (sip_ok h (by omega) (by omega)).mono ?_
  rintro v S1 ⟨n0, rfl, hn, l1⟩
  simp only [fAdd, os_some, List.set_cons_zero, List.set_cons_succ, q_lstC, q_cons, q_nil, q_c, List.length_cons, List.length_nil, p_for, q_itA, q_var, sl_0, sl_s]
  refine ⟨by decide, by decide, ?_⟩
  have en : (1 : Int) + (n0 : Int) = ((n0 + 1 : Nat) : Int) := by omega
  rw [en]
  have h6 : n0 + 1 ≤ 6 := by omega
  have hmo : n0 + 1 ≤ mo := by omega
  have h1 : 1 ≤ n0 + 1 := by omega
  generalize n0 + 1 = n at h6 h1 hmo
  have r1 := rg1_len n (S1 ++ [Ob.lst (pool.map .str)] ++ [.lst []]) (by omega)
  have li := h.lt
  have x0 : Ex S (S1 ++ [Ob.lst (pool.map .str)] ++ [.lst []]) i := (l1.toEx.add (bel_lst (nr_map nr_str))).add (bel_lst (by simp))
  have ga : (S1 ++ [Ob.lst (pool.map .str)] ++ [.lst []])[S1.length]? = some (.lst (pool.map .str)) := by simp
  have gb : (S1 ++ [Ob.lst (pool.map .str)] ++ [.lst []])[(S1 ++ [Ob.lst (pool.map .str)]).length]? = some (.lst (([] : List Str).map .str)) := by simp
  have ha : S.length ≤ S1.length := by rw [l1.same]; exact Nat.le_refl _
  have hb : (S1 ++ [Ob.lst (pool.map .str)]).length = S1.length + 1 := by simp
  have ep : ([.str "ann", .str "bob", .str "cyd", .str "d2", .str "e", .str "z9999999", .str "abe", .str "x"] : List D) = pool.map .str := rfl
  simp only [ep]
  rw [r1, os_some]
  generalize S1 ++ [Ob.lst (pool.map .str)] ++ [.lst []] = T0 at x0 ga gb
  generalize (S1 ++ [Ob.lst (pool.map .str)]).length = b at gb hb
  generalize S1.length = a at ga ha hb
  subst hb
  refine for_inv (li_rg _ _) (fun k en S' => ∃ x hs ps, en = [some (.ref i), some (.int (mo : Int)), some (.int (n : Int)), some (.ref a), some (.ref (a + 1)), x] ∧ Ex S S' i ∧ S'[a]? = some (.lst (ps.map .str)) ∧ S'[a + 1]? = some (.lst (hs.map .str)) ∧ (hs ++ ps).Perm pool ∧ hs.length = k) ?_ ?_ ⟨none, [], pool, rfl, x0, ga, gb, by simp, rfl⟩
  · rintro k d en S' hd ⟨x, hs, ps, rfl, e1, g1, g2, hp, hk⟩
    have hkn : k < n := by
      have := (List.getElem?_eq_some_iff.mp hd).1
      simpa using this
    have hl : hs.length + ps.length = 8 := by
      have := hp.length_eq
      simpa [pool] using this
    simp only [g_nm, List.set_cons_zero, List.set_cons_succ, p_expr, q_bm, q_var, sl_0, sl_s, os_some, ok_ref g2, ok_ref g1, q_cons, q_nil, q_call, q_cb, f1, len_ref g1, List.length_map, List.length_cons, List.length_nil, true_and]
    refine (sip_ok e1.jg (by omega) (by omega)).mono ?_
    rintro v S2 ⟨d, rfl, hd2, l2⟩
    have hd3 : d < ps.length := by omega
    have lt1 := (List.getElem?_eq_some_iff.mp g1).1
    have lt2 := (List.getElem?_eq_some_iff.mp g2).1
    have k1 : S2[a]? = some (.lst (ps.map .str)) := by rw [l2.oth a lt1 (by omega)]; exact g1
    have k2 : S2[a + 1]? = some (.lst (hs.map .str)) := by rw [l2.oth (a + 1) lt2 (by omega)]; exact g2
    have hx : (ps.map D.str)[d]? = some (.str ps[d]) := by rw [List.getElem?_map, List.getElem?_eq_getElem hd3]; rfl
    rw [pop_ref k1 hx]
    have k3 : (S2.set a (.lst ((ps.map D.str).eraseIdx d)))[a + 1]? = some (.lst (hs.map .str)) := by rw [List.getElem?_set_ne (by omega)]; exact k2
    have k4 : ∀ o, ((S2.set a (.lst ((ps.map D.str).eraseIdx d))).set (a + 1) o)[a]? = some (.lst ((ps.map D.str).eraseIdx d)) := fun o => by rw [List.getElem?_set_ne (by omega)]; exact set_get k1
    simp only [os_some, app_ref k3 (show (hs.map D.str).length < lineN by rw [List.length_map]; unfold lineN; omega)]
    refine ⟨_, hs ++ [ps[d]], ps.eraseIdx d, rfl, ?_, ?_, ?_, ?_, by simp [hk]⟩
    · refine ((e1.trans l2.toEx).put ha li (bel_lst ?_)).put (by omega) li (bel_lst ?_)
      · rw [erase_map]; exact nr_map nr_str
      · rw [show hs.map D.str ++ [.str ps[d]] = (hs ++ [ps[d]]).map .str by simp]; exact nr_map nr_str
    · rw [k4, erase_map]
    · rw [set_get k3]; simp
    · refine .trans ?_ hp
      rw [List.append_assoc]
      exact List.Perm.append_left hs (erase_perm hd3)
  · rintro en S' ⟨x, hs, ps, rfl, e1, g1, g2, hp, hk⟩
    rw [range_len] at hk
    have hH : Heads hs := heads_of hp (fun z => by rw [z] at hk; simp at hk; omega) (by omega)
    have t1 := tup_ref g2
    simp only [p_ret, q_lst, q_cons, q_nil, q_cb, q_var, sl_0, sl_s, os_some, t1, q_lc, q_itA, q_op, q_c, q_call, List.length_cons, List.length_nil, true_and]
    refine (sip_ok e1.jg (by decide) (by decide)).mono ?_
    rintro v S2 ⟨m, rfl, hm, l2⟩
    have em : (1 : Int) + (m : Int) = ((m + 1 : Nat) : Int) := by omega
    simp only [fAdd, os_some]
    rw [em, rg1_len (m + 1) S2 (by omega), os_some]
    refine lc_inv (li_rg _ _) (fun k acc S3 => Lk S' S3 i ∧ ∃ ws, acc = ws.map wayD ∧ ws.length = k ∧ ∀ w ∈ ws, WayQ n w) ?_ ?_ ⟨l2, [], rfl, rfl, by simp⟩
    · rintro k d acc S3 hd ⟨l3, ws, rfl, hr, hb⟩
      have hk : k < m + 1 := by
        have := (List.getElem?_eq_some_iff.mp hd).1
        simpa using this
      simp only [wipeE, List.set_cons_zero, List.set_cons_succ, g_nm, mYes, r_ok, if_true, q_cons, q_nil, q_call, q_var, sl_0, sl_s, os_some, List.length_cons, List.length_nil, true_and]
      refine (talk_drawQ l3.jg h1 h6).mono ?_
      rintro v S4 ⟨⟨w, rfl, hw⟩, l4⟩
      refine ⟨by rw [List.length_map, hr]; unfold lineN; omega, l3.trans l4, ws ++ [w], by simp, by simp [hr], fun x hx => ?_⟩
      rcases List.mem_append.mp hx with hx | hx
      · exact hb x hx
      · have : x = w := by simpa using hx
        subst this; exact hw
    · rintro acc S3 ⟨l3, ws, rfl, hr, hb⟩
      rw [range_len] at hr
      have t2 := tup_lst (ws.map wayD) S3
      simp only [t2, os_some]
      refine ⟨by decide, ⟨hs, ws, rfl, hH, fun h hh => hp.mem_iff.mp (by simp [hh]), by omega, by rw [hk]; exact hb, fun z => by rw [z] at hr; simp at hr, by omega⟩, ?_, e1.trans l3.toEx⟩
      refine nr_lst fun d hd => ?_
      simp only [List.mem_cons, List.not_mem_nil, or_false] at hd
      rcases hd with rfl | rfl
      · exact nr_tup (nr_map nr_str)
      · exact nr_tup (nr_map nr_way)

/-! lists of lambdas in statements -/
section
variable {i iT k : Nat} {P : Addr} {q : Str} {s : SM} {en : En} {S : Sto} {N : En → Sto → Prop} {R : D → Sto → Prop} {cs : List (Nat × LSyn)} {c : Nat × LSyn} {fm : List D → Sto → Res D} {me : EM} {PD : D → Sto → Prop}
theorem p_acts : (sActs i iT P q s en S).sat N R ↔ isTab S iT P q = true ∧ (s (en.set i none) S).sat N R := by
  unfold sActs
  by_cases h : isTab S iT P q = true
  · rw [if_pos h]; exact ⟨fun z => ⟨h, z⟩, fun z => z.2⟩
  · rw [if_neg h]; exact ⟨fun z => (s_st.mp z).elim, fun z => absurd z.1 h⟩
theorem p_app : (sApp iT P q s en S).sat N R ↔ isTab S iT P q = true ∧ (s en S).sat N R := by
  unfold sApp
  by_cases h : isTab S iT P q = true
  · rw [if_pos h]; exact ⟨fun z => ⟨h, z⟩, fun z => z.2⟩
  · rw [if_neg h]; exact ⟨fun z => (s_st.mp z).elim, fun z => absurd z.1 h⟩
theorem q_live : (mLive cs q fm me en S).sat PD ↔ (me en S).sat fun d S1 => (liveR cs q fm en S1 d).sat PD := by unfold mLive; rw [r_bind]
theorem tab_at0 {S S' : Sto} {P : Addr} {q : Str} (e : S'[0]? = S[0]?) : isTab S' 0 P q = isTab S 0 P q := by
  unfold isTab
  rw [e]
end
theorem cut_drop (l : List D) (k : Nat) : cutD l (some (k : Int)) none = l.drop k := by
  simp only [cutD, HT.sIx_none]
  have e : HT.sIx l.length 0 (some (k : Int)) = min k l.length := by
    simp only [HT.sIx]
    have h0 : ¬ ((k : Int) < 0) := by omega
    simp only [h0, if_false]
    omega
  rw [e]
  by_cases h : k ≤ l.length
  · rw [Nat.min_eq_left h]
    exact List.take_of_length_le (by rw [List.length_drop]; omega)
  · rw [Nat.min_eq_right (by omega), List.drop_eq_nil_of_le (Nat.le_refl _), List.drop_eq_nil_of_le (by omega)]
    simp
/-! bent ways -/
theorem rep_tupU (x : D) (hx : x.isN = false) {k : Nat} (h1 : 1 ≤ k) (h9 : k ≤ 1000) (S : Sto) : fMul (.tup [x]) (.int (k : Int)) S = some (.tup (List.replicate k x)) := by
  have fl : (List.replicate k [x]).flatten = List.replicate k x := by simp
  have nm : names (List.replicate k x) = false := by
    have : ∀ k, 0 < k → names (List.replicate k x) = false := fun k hk => by
      cases k with
      | zero => omega
      | succ k => simp [names, List.replicate_succ, hx]
    exact this k (by omega)
  show (if [x] ≠ [] ∧ (1 : Int) ≤ (k : Int) ∧ (k : Int) ≤ 1000 ∧ [x].length ≤ 1000 ∧ ((k : Int) = 1 ∨ names (List.replicate (k : Int).toNat [x]).flatten = false) then some (D.tup (List.replicate (k : Int).toNat [x]).flatten) else none) = _
  rw [Int.toNat_natCast, fl, if_pos ⟨by simp, by omega, by omega, by simp, .inr nm⟩]
theorem way_isn (w : List (List Int)) : (wayD w).isN = false := by
  match w with
  | [] => rfl
  | [a] => rfl
  | [a, b] => rfl
  | a :: b :: c :: t => rfl
theorem mul7 {ws : List (List (List Int))} (h0 : ws ≠ []) (h : ws.length ≤ 40) (S : Sto) : fMul (.tup (ws.map wayD)) (.int 7) S = some (.tup (List.replicate 7 (ws.map wayD)).flatten) := by
  have nm : names (List.replicate 7 (ws.map wayD)).flatten = false := by
    cases ws with
    | nil => exact absurd rfl h0
    | cons w ws => simp [names, List.replicate_succ, way_isn]
  show (if (ws.map wayD) ≠ [] ∧ (1 : Int) ≤ 7 ∧ (7 : Int) ≤ 1000 ∧ (ws.map wayD).length ≤ 1000 ∧ ((7 : Int) = 1 ∨ names (List.replicate (7 : Int).toNat (ws.map wayD)).flatten = false) then some (D.tup (List.replicate (7 : Int).toNat (ws.map wayD)).flatten) else none) = _
  rw [if_pos ⟨by simpa using h0, by omega, by omega, by rw [List.length_map]; omega, .inr nm⟩]
  rfl
theorem add_tup (a b : List D) (h : a.length + b.length ≤ lineN) (S : Sto) : fAdd (.tup a) (.tup b) S = some (.tup (a ++ b)) := by
  show (if a.length + b.length ≤ lineN then some (D.tup (a ++ b)) else none) = _
  rw [if_pos h]
def KA (d : D) : Prop := ∀ n, Kx n d
def Tl (m : Nat) (d : D) : Prop := KA d ∧ ∀ l, d = .tup l → l.length ≤ m
theorem ka_tup {l : List D} (hl : l.length ≤ 40) (h : ∀ e ∈ l, KA e) : KA (.tup l) := fun n => by
  cases n with
  | zero => exact ⟨rfl, nr_tup fun e he => kx_nr (h e he 0)⟩
  | succ n => exact kx_tup hl fun e he => h e he n
theorem ka_els {l : List D} (h : KA (.tup l)) : ∀ e ∈ l, KA e := fun e he n => ((h (n + 1)).2.2 l rfl).2 e he
theorem tl_tup {m : Nat} {l : List D} (hl : l.length ≤ m) (m4 : m ≤ 40) (h : ∀ e ∈ l, KA e) : Tl m (.tup l) := ⟨ka_tup (by omega) h, fun l' e => by cases e; exact hl⟩
theorem tl_at {m : Nat} {d : D} (h : kd d = true) (r : Nr d) (t : ∀ l, d ≠ .tup l) : Tl m d := ⟨fun _ => kx_at h r t, fun l e => absurd e (t l)⟩
theorem tl_lst {m : Nat} {l : List D} (h : ∀ e ∈ l, KA e) : Tl m (.lst l) := tl_at rfl (nr_lst fun e he => kx_nr (h e he 0)) (fun _ e => by cases e)
theorem ka_row {r : List Int} (h : r.length ≤ 40) : KA (rowD r) := fun _ => kx_row h
theorem ka_way {w : List (List Int)} (h : w.length ≤ 40) (hr : ∀ r ∈ w, r.length ≤ 40) : KA (wayD w) := fun _ => kx_way h hr
theorem ka_put {l : List D} {k : Nat} {d : D} (h : ∀ e ∈ l, KA e) (hd : KA d) : ∀ e ∈ l.take k ++ [d] ++ l.drop (k + 1), KA e := fun e he => by
  simp only [List.mem_append, List.mem_singleton] at he
  rcases he with (z | z) | z
  · exact h e (List.mem_of_mem_take z)
  · rw [z]; exact hd
  · exact h e (List.mem_of_mem_drop z)
def oddE : List D := [.int (-1), .int 1000000001, .int 1000000000, .bl true, .non, .str "1", .tup [.int 1], .int 1000000000000000000000000000000, .int 0, .int 0, .int 5, .bl false]
theorem odd_ka {d : D} (h : d ∈ oddE) : KA d := by
  simp only [oddE, List.mem_cons, List.not_mem_nil, or_false] at h
  rcases h with rfl | rfl | rfl | rfl | rfl | rfl | rfl | rfl | rfl | rfl | rfl | rfl
  all_goals first | exact ka_row (r := [1]) (by decide) | exact (tl_at (m := 0) rfl (by intro n; rfl) (fun _ e => by cases e)).1
theorem pick_lst {P : D → Prop} {l : List D} (h : ∀ d ∈ l, P d) {o : Nat} (ho : o < l.length) (S : Sto) : ∃ d, fIx (.lst l) (.int (o : Int)) S = some d ∧ P d :=
  ⟨l[o], by rw [ix_lst, List.getElem?_eq_getElem ho], h _ (List.getElem_mem ho)⟩
theorem ka_zeros (n : Nat) : ∀ e ∈ List.replicate n (D.int 0), KA e := fun e he => by
  rw [(List.mem_replicate.mp he).2]; exact fun _ => kx_int 0
theorem ka_app {a b : List D} (ha : ∀ e ∈ a, KA e) (hb : ∀ e ∈ b, KA e) : ∀ e ∈ a ++ b, KA e := fun e he => (List.mem_append.mp he).elim (ha e) (hb e)
theorem ka_drop {a : List D} {k : Nat} (ha : ∀ e ∈ a, KA e) : ∀ e ∈ a.drop k, KA e := fun e he => ha e (List.mem_of_mem_drop he)
theorem ka_take {a : List D} {k : Nat} (ha : ∀ e ∈ a, KA e) : ∀ e ∈ a.take k, KA e := fun e he => ha e (List.mem_of_mem_take he)
theorem bent_ok {S : Sto} {i n : Nat} {ws : List (List (List Int))} (h : Jg S i) (hw : ∀ w ∈ ws, WayOk n w) (h0 : ws ≠ []) (h4 : ws.length ≤ 4) (n1 : 1 ≤ n) (n6 : n ≤ 6) : (F_bent_l [.ref i, .tup (ws.map wayD)] S).sat fun v S' => Tl 30 v ∧ Lk S S' i := by
  unfold F_bent_l
  simp only [f_run, List.map_cons, List.map_nil, List.length_cons, List.length_nil, Nat.zero_add, Nat.reduceAdd, Nat.reduceSub, List.replicate_succ, List.replicate_zero, List.cons_append, List.nil_append]
  unfold s_bent_l
  have gl : ∀ (l : List D) S, gLen (.tup l) S = some (.int (l.length : Int)) := fun _ _ => rfl
  have wl : 0 < ws.length := List.length_pos_iff.mpr h0
  try simp only [p_seqL, p_par, p_par3, p_asgN, p_asg, p_expr, p_ret, p_nil, p_pass, p_if, p_for, p_try, q_cons, q_nil, q_cb, q_cr, q_call, q_callK, q_prop, q_make, q_bm, q_var, q_c, q_op, q_un, q_b, q_andB, q_orB, q_notB, q_andV, q_orV, q_notV, q_if, q_chain, q_tup, q_lst, q_lstC, q_lc, q_lcC, q_lc2, q_itV, q_itA, q_sl, q_oN, q_oS, sl_0, sl_s, os_some, os_if, f_1, ex_pair, ex_trip, g_unpS, gs_consS, gs_nilS, g_nm, g_subS, sq_tup, sq_lst, List.set_cons_zero, List.set_cons_succ, List.length_cons, List.length_nil, List.length_map, true_and, and_true, b_bl, Bool.not_true, Bool.not_false, Bool.false_eq_true, if_false, if_true, r_ok, i_int, sl_tup, sl_lst, it_tup, it_lst, it_scr, it_word, it_row, it_way, w_0, w_s, decide_true, decide_false, n_tup, n_lst, n_scr, n_word, n_row, n_way, eq_int, ne_int, c_int, en_tup, en_lst, zp_tup, zp_lst, zp_mix, m_yes, t_lst, t_tup, bind_s, a_int, s_int, g_ii, g_ib, is_non, isnt_non, rv_tup, rv_lst, not_true_eq_false, ne_eq, Nat.zero_le, gl]
  refine (sip_ok h (by decide) (by decide)).mono ?_
  rintro v S1 ⟨f, rfl, hf, l1⟩
  try simp only [p_seqL, p_par, p_par3, p_asgN, p_asg, p_expr, p_ret, p_nil, p_pass, p_if, p_for, p_try, q_cons, q_nil, q_cb, q_cr, q_call, q_callK, q_prop, q_make, q_bm, q_var, q_c, q_op, q_un, q_b, q_andB, q_orB, q_notB, q_andV, q_orV, q_notV, q_if, q_chain, q_tup, q_lst, q_lstC, q_lc, q_lcC, q_lc2, q_itV, q_itA, q_sl, q_oN, q_oS, sl_0, sl_s, os_some, os_if, f_1, ex_pair, ex_trip, g_unpS, gs_consS, gs_nilS, g_nm, g_subS, sq_tup, sq_lst, List.set_cons_zero, List.set_cons_succ, List.length_cons, List.length_nil, List.length_map, true_and, and_true, b_bl, Bool.not_true, Bool.not_false, Bool.false_eq_true, if_false, if_true, r_ok, i_int, sl_tup, sl_lst, it_tup, it_lst, it_scr, it_word, it_row, it_way, w_0, w_s, decide_true, decide_false, n_tup, n_lst, n_scr, n_word, n_row, n_way, eq_int, ne_int, c_int, en_tup, en_lst, zp_tup, zp_lst, zp_mix, m_yes, t_lst, t_tup, bind_s, a_int, s_int, g_ii, g_ib, is_non, isnt_non, rv_tup, rv_lst, not_true_eq_false, ne_eq, Nat.zero_le, gl]
  refine (sip_ok l1.jg (by omega) (by omega)).mono ?_
  rintro v S2 ⟨a, rfl, ha, l2⟩
  try simp only [p_seqL, p_par, p_par3, p_asgN, p_asg, p_expr, p_ret, p_nil, p_pass, p_if, p_for, p_try, q_cons, q_nil, q_cb, q_cr, q_call, q_callK, q_prop, q_make, q_bm, q_var, q_c, q_op, q_un, q_b, q_andB, q_orB, q_notB, q_andV, q_orV, q_notV, q_if, q_chain, q_tup, q_lst, q_lstC, q_lc, q_lcC, q_lc2, q_itV, q_itA, q_sl, q_oN, q_oS, sl_0, sl_s, os_some, os_if, f_1, ex_pair, ex_trip, g_unpS, gs_consS, gs_nilS, g_nm, g_subS, sq_tup, sq_lst, List.set_cons_zero, List.set_cons_succ, List.length_cons, List.length_nil, List.length_map, true_and, and_true, b_bl, Bool.not_true, Bool.not_false, Bool.false_eq_true, if_false, if_true, r_ok, i_int, sl_tup, sl_lst, it_tup, it_lst, it_scr, it_word, it_row, it_way, w_0, w_s, decide_true, decide_false, n_tup, n_lst, n_scr, n_word, n_row, n_way, eq_int, ne_int, c_int, en_tup, en_lst, zp_tup, zp_lst, zp_mix, m_yes, t_lst, t_tup, bind_s, a_int, s_int, g_ii, g_ib, is_non, isnt_non, rv_tup, rv_lst, not_true_eq_false, ne_eq, Nat.zero_le]
  have cu1 : ∀ (l : List D) (k : Nat), cutD l none (some (k : Int)) = l.take k := cut_take
  have cu2 : ∀ (l : List D) (k : Nat), cutD l (some ((k : Int) + 1)) none = l.drop (k + 1) := fun l k => by
    rw [show (k : Int) + 1 = ((k + 1 : Nat) : Int) by omega, cut_drop]
  have ixt : ∀ (l : List D) (k : Nat) S, fIx (.tup l) (.int (k : Int)) S = l[k]? := fun l k S => at_k l k
  have kws : ∀ e ∈ ws.map wayD, KA e := fun e he => by
    obtain ⟨w, hm, rfl⟩ := List.mem_map.mp he
    exact ka_way (by rw [(hw w hm).len]; omega) fun r hr => by rw [((hw w hm).row r hr).len]; omega
  have fa : ∀ S, ∃ W : List D, fIx (.tup (ws.map wayD)) (.int (a : Int)) S = some (.tup W) ∧ W.length = n ∧ (∀ e ∈ W, ∃ R : List D, e = .tup R ∧ R.length = n) ∧ KA (.tup W) := fun S => by
    have ha' : a < ws.length := by omega
    have wok := hw _ (List.getElem_mem ha')
    refine ⟨(ws[a]).map rowD, ?_, by rw [List.length_map]; exact wok.len, fun e he => ?_, kws _ (List.mem_map.mpr ⟨_, List.getElem_mem ha', rfl⟩)⟩
    · rw [ixt, List.getElem?_map, List.getElem?_eq_getElem ha']; rfl
    · obtain ⟨r, hr, rfl⟩ := List.mem_map.mp he
      exact ⟨r.map D.int, rfl, by rw [List.length_map]; exact (wok.row r hr).len⟩
  have la : ∀ S, fIx (.tup (ws.map wayD)) (.int (0 : Int)) S = (ws.map wayD)[0]? := fun S => ixt _ 0 S
  have lws : (ws.map wayD).length = ws.length := List.length_map ..
  obtain ⟨W, fW, wn, wr, kW⟩ := fa S2
  have kWe := ka_els kW
  rw [later_eq]
  try simp only [p_seqL, p_par, p_par3, p_asgN, p_asg, p_expr, p_ret, p_nil, p_pass, p_if, p_for, p_try, q_cons, q_nil, q_cb, q_cr, q_call, q_callK, q_prop, q_make, q_bm, q_var, q_c, q_op, q_un, q_b, q_andB, q_orB, q_notB, q_andV, q_orV, q_notV, q_if, q_chain, q_tup, q_lst, q_lstC, q_lc, q_lcC, q_lc2, q_itV, q_itA, q_sl, q_oN, q_oS, sl_0, sl_s, os_some, os_if, f_1, ex_pair, ex_trip, g_unpS, gs_consS, gs_nilS, g_nm, g_subS, sq_tup, sq_lst, List.set_cons_zero, List.set_cons_succ, List.length_cons, List.length_nil, List.length_map, true_and, and_true, b_bl, Bool.not_true, Bool.not_false, Bool.false_eq_true, if_false, if_true, r_ok, i_int, sl_tup, sl_lst, it_tup, it_lst, it_scr, it_word, it_row, it_way, w_0, w_s, decide_true, decide_false, n_tup, n_lst, n_scr, n_word, n_row, n_way, eq_int, ne_int, c_int, en_tup, en_lst, zp_tup, zp_lst, zp_mix, m_yes, t_lst, t_tup, bind_s, a_int, s_int, g_ii, g_ib, is_non, isnt_non, rv_tup, rv_lst, not_true_eq_false, ne_eq, Nat.zero_le, fW]
  rw [later_eq]
  try simp only [p_seqL, p_par, p_par3, p_asgN, p_asg, p_expr, p_ret, p_nil, p_pass, p_if, p_for, p_try, q_cons, q_nil, q_cb, q_cr, q_call, q_callK, q_prop, q_make, q_bm, q_var, q_c, q_op, q_un, q_b, q_andB, q_orB, q_notB, q_andV, q_orV, q_notV, q_if, q_chain, q_tup, q_lst, q_lstC, q_lc, q_lcC, q_lc2, q_itV, q_itA, q_sl, q_oN, q_oS, sl_0, sl_s, os_some, os_if, f_1, ex_pair, ex_trip, g_unpS, gs_consS, gs_nilS, g_nm, g_subS, sq_tup, sq_lst, List.set_cons_zero, List.set_cons_succ, List.length_cons, List.length_nil, List.length_map, true_and, and_true, b_bl, Bool.not_true, Bool.not_false, Bool.false_eq_true, if_false, if_true, r_ok, i_int, sl_tup, sl_lst, it_tup, it_lst, it_scr, it_word, it_row, it_way, w_0, w_s, decide_true, decide_false, n_tup, n_lst, n_scr, n_word, n_row, n_way, eq_int, ne_int, c_int, en_tup, en_lst, zp_tup, zp_lst, zp_mix, m_yes, t_lst, t_tup, bind_s, a_int, s_int, g_ii, g_ib, is_non, isnt_non, rv_tup, rv_lst, not_true_eq_false, ne_eq, Nat.zero_le, gl, wn]
  refine (sip_ok l2.jg (by omega) (by omega)).mono ?_
  rintro v S3 ⟨k, rfl, hk, l3⟩
  try simp only [p_seqL, p_par, p_par3, p_asgN, p_asg, p_expr, p_ret, p_nil, p_pass, p_if, p_for, p_try, q_cons, q_nil, q_cb, q_cr, q_call, q_callK, q_prop, q_make, q_bm, q_var, q_c, q_op, q_un, q_b, q_andB, q_orB, q_notB, q_andV, q_orV, q_notV, q_if, q_chain, q_tup, q_lst, q_lstC, q_lc, q_lcC, q_lc2, q_itV, q_itA, q_sl, q_oN, q_oS, sl_0, sl_s, os_some, os_if, f_1, ex_pair, ex_trip, g_unpS, gs_consS, gs_nilS, g_nm, g_subS, sq_tup, sq_lst, List.set_cons_zero, List.set_cons_succ, List.length_cons, List.length_nil, List.length_map, true_and, and_true, b_bl, Bool.not_true, Bool.not_false, Bool.false_eq_true, if_false, if_true, r_ok, i_int, sl_tup, sl_lst, it_tup, it_lst, it_scr, it_word, it_row, it_way, w_0, w_s, decide_true, decide_false, n_tup, n_lst, n_scr, n_word, n_row, n_way, eq_int, ne_int, c_int, en_tup, en_lst, zp_tup, zp_lst, zp_mix, m_yes, t_lst, t_tup, bind_s, a_int, s_int, g_ii, g_ib, is_non, isnt_non, rv_tup, rv_lst, not_true_eq_false, ne_eq, Nat.zero_le, gl, wn]
  refine (sip_ok l3.jg (by omega) (by omega)).mono ?_
  rintro v S4 ⟨j, rfl, hj, l4⟩
  have l04 := ((l1.trans l2).trans l3).trans l4
  have hk' : k < W.length := by omega
  obtain ⟨R, eR, rn⟩ := wr _ (List.getElem_mem hk')
  have fR : ∀ S, fIx (.tup W) (.int (k : Int)) S = some (.tup R) := fun S => by rw [ixt, List.getElem?_eq_getElem hk', eR]
  have kR : KA (.tup R) := by rw [← eR]; exact kWe _ (List.getElem_mem hk')
  have kRe := ka_els kR
  have pw9 : ∀ S, fPow (.int 10) (.int 9) S = some (.int 1000000000) := fun _ => by rfl
  have pw30 : ∀ S, fPow (.int 10) (.int 30) S = some (.int 1000000000000000000000000000000) := fun _ => by rfl
  have ng : ∀ S, fNeg (.int 1) S = some (.int (-1)) := fun _ => rfl
  have ad1 : ∀ S, fAdd (.int 1000000000) (.int 1) S = some (.int 1000000001) := fun _ => rfl
  rw [later_eq]
  try simp only [p_seqL, p_par, p_par3, p_asgN, p_asg, p_expr, p_ret, p_nil, p_pass, p_if, p_for, p_try, q_cons, q_nil, q_cb, q_cr, q_call, q_callK, q_prop, q_make, q_bm, q_var, q_c, q_op, q_un, q_b, q_andB, q_orB, q_notB, q_andV, q_orV, q_notV, q_if, q_chain, q_tup, q_lst, q_lstC, q_lc, q_lcC, q_lc2, q_itV, q_itA, q_sl, q_oN, q_oS, sl_0, sl_s, os_some, os_if, f_1, ex_pair, ex_trip, g_unpS, gs_consS, gs_nilS, g_nm, g_subS, sq_tup, sq_lst, List.set_cons_zero, List.set_cons_succ, List.length_cons, List.length_nil, List.length_map, true_and, and_true, b_bl, Bool.not_true, Bool.not_false, Bool.false_eq_true, if_false, if_true, r_ok, i_int, sl_tup, sl_lst, it_tup, it_lst, it_scr, it_word, it_row, it_way, w_0, w_s, decide_true, decide_false, n_tup, n_lst, n_scr, n_word, n_row, n_way, eq_int, ne_int, c_int, en_tup, en_lst, zp_tup, zp_lst, zp_mix, m_yes, t_lst, t_tup, bind_s, a_int, s_int, g_ii, g_ib, is_non, isnt_non, rv_tup, rv_lst, not_true_eq_false, ne_eq, Nat.zero_le, fR, pw9, pw30, ng, ad1]
  refine ⟨by decide, by decide, ?_⟩
  rw [later_eq, p_seqL]
  have lt4 : ∀ S, fLt (.int (f : Int)) (.int 4) S = some (.bl (decide ((f : Int) < 4))) := fun _ => rfl
  have tR : Tl 10 (.tup R) := ⟨kR, fun l e => by cases e; omega⟩
  have addT : ∀ (a b : List D) S, a.length ≤ 100 → b.length ≤ 100 → fAdd (.tup a) (.tup b) S = some (.tup (a ++ b)) := fun a b S h1 h2 => add_tup a b (by unfold lineN; omega) S
  refine SRes.sat.mono (N := fun en S7 => ∃ row, en = [some (.ref i), some (.tup (ws.map wayD)), some (.tup W), some (.int (f : Int)), some (.int (a : Int)), some (.int (k : Int)), some (.int (j : Int)), some row, some (.lst oddE)] ∧ Lk S S7 i ∧ Tl 10 row ∧ (¬ f < 4 → row = .tup R)) (R := fun _ _ => False) ?_ ?_ (fun _ _ h => h.elim)
  · by_cases f4 : f < 4
    · have e4 : ((f : Int) < 4) = True := eq_true (by omega)
      try simp only [p_seqL, p_par, p_par3, p_asgN, p_asg, p_expr, p_ret, p_nil, p_pass, p_if, p_for, p_try, q_cons, q_nil, q_cb, q_cr, q_call, q_callK, q_prop, q_make, q_bm, q_var, q_c, q_op, q_un, q_b, q_andB, q_orB, q_notB, q_andV, q_orV, q_notV, q_if, q_chain, q_tup, q_lst, q_lstC, q_lc, q_lcC, q_lc2, q_itV, q_itA, q_sl, q_oN, q_oS, sl_0, sl_s, os_some, os_if, f_1, ex_pair, ex_trip, g_unpS, gs_consS, gs_nilS, g_nm, g_subS, sq_tup, sq_lst, List.set_cons_zero, List.set_cons_succ, List.length_cons, List.length_nil, List.length_map, true_and, and_true, b_bl, Bool.not_true, Bool.not_false, Bool.false_eq_true, if_false, if_true, r_ok, i_int, sl_tup, sl_lst, it_tup, it_lst, it_scr, it_word, it_row, it_way, w_0, w_s, decide_true, decide_false, n_tup, n_lst, n_scr, n_word, n_row, n_way, eq_int, ne_int, c_int, en_tup, en_lst, zp_tup, zp_lst, zp_mix, m_yes, t_lst, t_tup, bind_s, a_int, s_int, g_ii, g_ib, is_non, isnt_non, rv_tup, rv_lst, not_true_eq_false, ne_eq, Nat.zero_le, lt4, e4, cu1]
      refine (sip_ok l04.jg (by decide) (by decide)).mono ?_
      rintro v S5 ⟨o, rfl, ho, l5⟩
      have lo : oddE.length = 12 := rfl
      have ix : ∀ T, fIx (.lst oddE) (.int (o : Int)) T = some (oddE[o]'(by omega)) := fun T => by rw [ix_lst, List.getElem?_eq_getElem (by omega)]
      have ov : KA (oddE[o]'(by omega)) := odd_ka (List.getElem_mem _)
      have ixo : fIx (.lst [.int (-1), .int 1000000001, .int 1000000000, .bl true, .non, .str "1", .tup [.int 1], .int 1000000000000000000000000000000, .int 0, .int 0, .int 5, .bl false]) (.int (o : Int)) S5 = some (oddE[o]'(by omega)) := ix S5
      generalize oddE[o]'(by omega) = d at ix ov ixo
      have b1 := addT (R.take j) [d] S5 (by rw [List.length_take]; omega) (by simp)
      have b2 := addT (R.take j ++ [d]) (R.drop (j + 1)) S5 (by rw [List.length_append, List.length_take]; simp only [List.length_cons, List.length_nil]; omega) (by rw [List.length_drop]; omega)
      try simp only [p_seqL, p_par, p_par3, p_asgN, p_asg, p_expr, p_ret, p_nil, p_pass, p_if, p_for, p_try, q_cons, q_nil, q_cb, q_cr, q_call, q_callK, q_prop, q_make, q_bm, q_var, q_c, q_op, q_un, q_b, q_andB, q_orB, q_notB, q_andV, q_orV, q_notV, q_if, q_chain, q_tup, q_lst, q_lstC, q_lc, q_lcC, q_lc2, q_itV, q_itA, q_sl, q_oN, q_oS, sl_0, sl_s, os_some, os_if, f_1, ex_pair, ex_trip, g_unpS, gs_consS, gs_nilS, g_nm, g_subS, sq_tup, sq_lst, List.set_cons_zero, List.set_cons_succ, List.length_cons, List.length_nil, List.length_map, true_and, and_true, b_bl, Bool.not_true, Bool.not_false, Bool.false_eq_true, if_false, if_true, r_ok, i_int, sl_tup, sl_lst, it_tup, it_lst, it_scr, it_word, it_row, it_way, w_0, w_s, decide_true, decide_false, n_tup, n_lst, n_scr, n_word, n_row, n_way, eq_int, ne_int, c_int, en_tup, en_lst, zp_tup, zp_lst, zp_mix, m_yes, t_lst, t_tup, bind_s, a_int, s_int, g_ii, g_ib, is_non, isnt_non, rv_tup, rv_lst, not_true_eq_false, ne_eq, Nat.zero_le, ixo, cu2, b1, b2]
      refine ⟨by decide, _, rfl, l04.trans l5, tl_tup ?_ (by decide) (ka_put kRe ov), fun z => absurd f4 z⟩
      simp only [List.length_append, List.length_take, List.length_drop, List.length_cons, List.length_nil]; omega
    · have e4 : ((f : Int) < 4) = False := eq_false (by omega)
      try simp only [p_seqL, p_par, p_par3, p_asgN, p_asg, p_expr, p_ret, p_nil, p_pass, p_if, p_for, p_try, q_cons, q_nil, q_cb, q_cr, q_call, q_callK, q_prop, q_make, q_bm, q_var, q_c, q_op, q_un, q_b, q_andB, q_orB, q_notB, q_andV, q_orV, q_notV, q_if, q_chain, q_tup, q_lst, q_lstC, q_lc, q_lcC, q_lc2, q_itV, q_itA, q_sl, q_oN, q_oS, sl_0, sl_s, os_some, os_if, f_1, ex_pair, ex_trip, g_unpS, gs_consS, gs_nilS, g_nm, g_subS, sq_tup, sq_lst, List.set_cons_zero, List.set_cons_succ, List.length_cons, List.length_nil, List.length_map, true_and, and_true, b_bl, Bool.not_true, Bool.not_false, Bool.false_eq_true, if_false, if_true, r_ok, i_int, sl_tup, sl_lst, it_tup, it_lst, it_scr, it_word, it_row, it_way, w_0, w_s, decide_true, decide_false, n_tup, n_lst, n_scr, n_word, n_row, n_way, eq_int, ne_int, c_int, en_tup, en_lst, zp_tup, zp_lst, zp_mix, m_yes, t_lst, t_tup, bind_s, a_int, s_int, g_ii, g_ib, is_non, isnt_non, rv_tup, rv_lst, not_true_eq_false, ne_eq, Nat.zero_le, lt4, e4]
      exact ⟨_, rfl, l04, tR, fun _ => rfl⟩
  · rintro en S7 ⟨row, rfl, l7, tr, hr⟩
    rw [later_eq, p_seqL]
    refine SRes.sat.mono (N := fun en S7 => ∃ row, en = [some (.ref i), some (.tup (ws.map wayD)), some (.tup W), some (.int (f : Int)), some (.int (a : Int)), some (.int (k : Int)), some (.int (j : Int)), some row, some (.lst oddE)] ∧ Lk S S7 i ∧ Tl 10 row) (R := fun _ _ => False) ?_ ?_ (fun _ _ h => h.elim)
    · by_cases f4 : f = 4
      · obtain rfl := hr (by omega)
        have e4 : ((f : Int) = 4) = True := eq_true (by omega)
        have b1 := addT R [.int 1] S7 (by omega) (by simp)
        have cd1 : cutD R (some 1) none = R.drop 1 := cut_drop R 1
        have gt : gLst (.tup R) S7 = some (.lst R) := rfl
        have mu : fMul (.tup [.int 0]) (.int (n : Int)) S7 = some (.tup (List.replicate n (.int 0))) := rep_tupU _ rfl n1 (by omega) S7
        try simp only [p_seqL, p_par, p_par3, p_asgN, p_asg, p_expr, p_ret, p_nil, p_pass, p_if, p_for, p_try, q_cons, q_nil, q_cb, q_cr, q_call, q_callK, q_prop, q_make, q_bm, q_var, q_c, q_op, q_un, q_b, q_andB, q_orB, q_notB, q_andV, q_orV, q_notV, q_if, q_chain, q_tup, q_lst, q_lstC, q_lc, q_lcC, q_lc2, q_itV, q_itA, q_sl, q_oN, q_oS, sl_0, sl_s, os_some, os_if, f_1, ex_pair, ex_trip, g_unpS, gs_consS, gs_nilS, g_nm, g_subS, sq_tup, sq_lst, List.set_cons_zero, List.set_cons_succ, List.length_cons, List.length_nil, List.length_map, true_and, and_true, b_bl, Bool.not_true, Bool.not_false, Bool.false_eq_true, if_false, if_true, r_ok, i_int, sl_tup, sl_lst, it_tup, it_lst, it_scr, it_word, it_row, it_way, w_0, w_s, decide_true, decide_false, n_tup, n_lst, n_scr, n_word, n_row, n_way, eq_int, ne_int, c_int, en_tup, en_lst, zp_tup, zp_lst, zp_mix, m_yes, t_lst, t_tup, bind_s, a_int, s_int, g_ii, g_ib, is_non, isnt_non, rv_tup, rv_lst, not_true_eq_false, ne_eq, Nat.zero_le, e4, b1, cd1, gt, gl, rn, mu]
        refine ⟨by decide, by decide, by decide, ?_⟩
        refine (sip_ok l7.jg (by decide) (by decide)).mono ?_
        rintro v S5 ⟨o, rfl, ho, l5⟩
        have hP : ∀ d ∈ ([.tup (R ++ [.int 1]), .tup (R.drop 1), .lst R, .non, .tup (List.replicate n (.int 0)), .tup [], .str "1,0", .int 5] : List D), Tl 10 d := fun d hd => by
          simp only [List.mem_cons, List.not_mem_nil, or_false] at hd
          rcases hd with rfl | rfl | rfl | rfl | rfl | rfl | rfl | rfl
          · exact tl_tup (by simp; omega) (by decide) (ka_app kRe fun e he => by rw [List.mem_singleton.mp he]; exact fun _ => kx_int 1)
          · exact tl_tup (by simp; omega) (by decide) (ka_drop kRe)
          · exact tl_lst kRe
          · exact tl_at rfl (by intro n; rfl) (fun _ e => by cases e)
          · exact tl_tup (by simp; omega) (by decide) (ka_zeros n)
          · exact tl_tup (by simp) (by decide) (by simp)
          · exact tl_at rfl (nr_str _) (fun _ e => by cases e)
          · exact tl_at rfl (nr_int _) (fun _ e => by cases e)
        obtain ⟨d, fd, td⟩ := pick_lst hP (o := o) (by simp only [List.length_cons, List.length_nil]; omega) S5
        try simp only [p_seqL, p_par, p_par3, p_asgN, p_asg, p_expr, p_ret, p_nil, p_pass, p_if, p_for, p_try, q_cons, q_nil, q_cb, q_cr, q_call, q_callK, q_prop, q_make, q_bm, q_var, q_c, q_op, q_un, q_b, q_andB, q_orB, q_notB, q_andV, q_orV, q_notV, q_if, q_chain, q_tup, q_lst, q_lstC, q_lc, q_lcC, q_lc2, q_itV, q_itA, q_sl, q_oN, q_oS, sl_0, sl_s, os_some, os_if, f_1, ex_pair, ex_trip, g_unpS, gs_consS, gs_nilS, g_nm, g_subS, sq_tup, sq_lst, List.set_cons_zero, List.set_cons_succ, List.length_cons, List.length_nil, List.length_map, true_and, and_true, b_bl, Bool.not_true, Bool.not_false, Bool.false_eq_true, if_false, if_true, r_ok, i_int, sl_tup, sl_lst, it_tup, it_lst, it_scr, it_word, it_row, it_way, w_0, w_s, decide_true, decide_false, n_tup, n_lst, n_scr, n_word, n_row, n_way, eq_int, ne_int, c_int, en_tup, en_lst, zp_tup, zp_lst, zp_mix, m_yes, t_lst, t_tup, bind_s, a_int, s_int, g_ii, g_ib, is_non, isnt_non, rv_tup, rv_lst, not_true_eq_false, ne_eq, Nat.zero_le, fd]
        exact ⟨_, rfl, l7.trans l5, td⟩
      · have e4 : ((f : Int) = 4) = False := eq_false (by omega)
        try simp only [p_seqL, p_par, p_par3, p_asgN, p_asg, p_expr, p_ret, p_nil, p_pass, p_if, p_for, p_try, q_cons, q_nil, q_cb, q_cr, q_call, q_callK, q_prop, q_make, q_bm, q_var, q_c, q_op, q_un, q_b, q_andB, q_orB, q_notB, q_andV, q_orV, q_notV, q_if, q_chain, q_tup, q_lst, q_lstC, q_lc, q_lcC, q_lc2, q_itV, q_itA, q_sl, q_oN, q_oS, sl_0, sl_s, os_some, os_if, f_1, ex_pair, ex_trip, g_unpS, gs_consS, gs_nilS, g_nm, g_subS, sq_tup, sq_lst, List.set_cons_zero, List.set_cons_succ, List.length_cons, List.length_nil, List.length_map, true_and, and_true, b_bl, Bool.not_true, Bool.not_false, Bool.false_eq_true, if_false, if_true, r_ok, i_int, sl_tup, sl_lst, it_tup, it_lst, it_scr, it_word, it_row, it_way, w_0, w_s, decide_true, decide_false, n_tup, n_lst, n_scr, n_word, n_row, n_way, eq_int, ne_int, c_int, en_tup, en_lst, zp_tup, zp_lst, zp_mix, m_yes, t_lst, t_tup, bind_s, a_int, s_int, g_ii, g_ib, is_non, isnt_non, rv_tup, rv_lst, not_true_eq_false, ne_eq, Nat.zero_le, e4]
        exact ⟨_, rfl, l7, tr⟩
    · rintro en S8 ⟨row, rfl, l8, tr⟩
      have kP : ∀ e ∈ W.take k ++ [row] ++ W.drop (k + 1), KA e := ka_put kWe tr.1
      have lP : (W.take k ++ [row] ++ W.drop (k + 1)).length ≤ 10 := by
        simp only [List.length_append, List.length_take, List.length_drop, List.length_cons, List.length_nil]; omega
      have b1 := addT (W.take k) [row] S8 (by rw [List.length_take]; omega) (by simp)
      have b2 := addT (W.take k ++ [row]) (W.drop (k + 1)) S8 (by rw [List.length_append, List.length_take]; simp only [List.length_cons, List.length_nil]; omega) (by rw [List.length_drop]; omega)
      rw [later_eq]
      try simp only [p_seqL, p_par, p_par3, p_asgN, p_asg, p_expr, p_ret, p_nil, p_pass, p_if, p_for, p_try, q_cons, q_nil, q_cb, q_cr, q_call, q_callK, q_prop, q_make, q_bm, q_var, q_c, q_op, q_un, q_b, q_andB, q_orB, q_notB, q_andV, q_orV, q_notV, q_if, q_chain, q_tup, q_lst, q_lstC, q_lc, q_lcC, q_lc2, q_itV, q_itA, q_sl, q_oN, q_oS, sl_0, sl_s, os_some, os_if, f_1, ex_pair, ex_trip, g_unpS, gs_consS, gs_nilS, g_nm, g_subS, sq_tup, sq_lst, List.set_cons_zero, List.set_cons_succ, List.length_cons, List.length_nil, List.length_map, true_and, and_true, b_bl, Bool.not_true, Bool.not_false, Bool.false_eq_true, if_false, if_true, r_ok, i_int, sl_tup, sl_lst, it_tup, it_lst, it_scr, it_word, it_row, it_way, w_0, w_s, decide_true, decide_false, n_tup, n_lst, n_scr, n_word, n_row, n_way, eq_int, ne_int, c_int, en_tup, en_lst, zp_tup, zp_lst, zp_mix, m_yes, t_lst, t_tup, bind_s, a_int, s_int, g_ii, g_ib, is_non, isnt_non, rv_tup, rv_lst, not_true_eq_false, ne_eq, Nat.zero_le, cu1, cu2, b1, b2]
      refine ⟨by decide, ?_⟩
      generalize W.take k ++ [row] ++ W.drop (k + 1) = P at kP lP
      rw [later_eq, p_seqL]
      refine SRes.sat.mono (N := fun en S9 => ∃ tk, en = [some (.ref i), some (.tup (ws.map wayD)), some tk, some (.int (f : Int)), some (.int (a : Int)), some (.int (k : Int)), some (.int (j : Int)), some row, some (.lst oddE)] ∧ Lk S S9 i ∧ KA tk) (R := fun _ _ => False) ?_ ?_ (fun _ _ h => h.elim)
      · by_cases f5 : f = 5
        · have e5 : ((f : Int) = 5) = True := eq_true (by omega)
          have cd1 : cutD P (some 1) none = P.drop 1 := cut_drop P 1
          have c01 : cutD P none (some 1) = P.take 1 := cut_take P 1
          have gt : gLst (.tup P) S8 = some (.lst P) := rfl
          have b3 := addT P (P.take 1) S8 (by omega) (by rw [List.length_take]; omega)
          try simp only [p_seqL, p_par, p_par3, p_asgN, p_asg, p_expr, p_ret, p_nil, p_pass, p_if, p_for, p_try, q_cons, q_nil, q_cb, q_cr, q_call, q_callK, q_prop, q_make, q_bm, q_var, q_c, q_op, q_un, q_b, q_andB, q_orB, q_notB, q_andV, q_orV, q_notV, q_if, q_chain, q_tup, q_lst, q_lstC, q_lc, q_lcC, q_lc2, q_itV, q_itA, q_sl, q_oN, q_oS, sl_0, sl_s, os_some, os_if, f_1, ex_pair, ex_trip, g_unpS, gs_consS, gs_nilS, g_nm, g_subS, sq_tup, sq_lst, List.set_cons_zero, List.set_cons_succ, List.length_cons, List.length_nil, List.length_map, true_and, and_true, b_bl, Bool.not_true, Bool.not_false, Bool.false_eq_true, if_false, if_true, r_ok, i_int, sl_tup, sl_lst, it_tup, it_lst, it_scr, it_word, it_row, it_way, w_0, w_s, decide_true, decide_false, n_tup, n_lst, n_scr, n_word, n_row, n_way, eq_int, ne_int, c_int, en_tup, en_lst, zp_tup, zp_lst, zp_mix, m_yes, t_lst, t_tup, bind_s, a_int, s_int, g_ii, g_ib, is_non, isnt_non, rv_tup, rv_lst, not_true_eq_false, ne_eq, Nat.zero_le, e5, cd1, c01, gt, b3]
          refine ⟨by decide, ?_⟩
          refine (sip_ok l8.jg (by decide) (by decide)).mono ?_
          rintro v S5 ⟨o, rfl, ho, l5⟩
          have hP : ∀ d ∈ ([.tup (P ++ P.take 1), .tup (P.drop 1), .lst P, .non, .tup [], row, .dct []] : List D), KA d := fun d hd => by
            simp only [List.mem_cons, List.not_mem_nil, or_false] at hd
            rcases hd with rfl | rfl | rfl | rfl | rfl | rfl | rfl
            · exact ka_tup (by simp; omega) (ka_app kP (ka_take kP))
            · exact ka_tup (by simp; omega) (ka_drop kP)
            · exact (tl_lst (m := 0) kP).1
            · exact (tl_at (m := 0) rfl (by intro n; rfl) (fun _ e => by cases e)).1
            · exact ka_tup (by simp) (by simp)
            · exact tr.1
            · exact (tl_at (m := 0) rfl (by intro n; rfl) (fun _ e => by cases e)).1
          obtain ⟨d, fd, td⟩ := pick_lst hP (o := o) (by simp only [List.length_cons, List.length_nil]; omega) S5
          try simp only [p_seqL, p_par, p_par3, p_asgN, p_asg, p_expr, p_ret, p_nil, p_pass, p_if, p_for, p_try, q_cons, q_nil, q_cb, q_cr, q_call, q_callK, q_prop, q_make, q_bm, q_var, q_c, q_op, q_un, q_b, q_andB, q_orB, q_notB, q_andV, q_orV, q_notV, q_if, q_chain, q_tup, q_lst, q_lstC, q_lc, q_lcC, q_lc2, q_itV, q_itA, q_sl, q_oN, q_oS, sl_0, sl_s, os_some, os_if, f_1, ex_pair, ex_trip, g_unpS, gs_consS, gs_nilS, g_nm, g_subS, sq_tup, sq_lst, List.set_cons_zero, List.set_cons_succ, List.length_cons, List.length_nil, List.length_map, true_and, and_true, b_bl, Bool.not_true, Bool.not_false, Bool.false_eq_true, if_false, if_true, r_ok, i_int, sl_tup, sl_lst, it_tup, it_lst, it_scr, it_word, it_row, it_way, w_0, w_s, decide_true, decide_false, n_tup, n_lst, n_scr, n_word, n_row, n_way, eq_int, ne_int, c_int, en_tup, en_lst, zp_tup, zp_lst, zp_mix, m_yes, t_lst, t_tup, bind_s, a_int, s_int, g_ii, g_ib, is_non, isnt_non, rv_tup, rv_lst, not_true_eq_false, ne_eq, Nat.zero_le, fd]
          exact ⟨_, rfl, l8.trans l5, td⟩
        · have e5 : ((f : Int) = 5) = False := eq_false (by omega)
          try simp only [p_seqL, p_par, p_par3, p_asgN, p_asg, p_expr, p_ret, p_nil, p_pass, p_if, p_for, p_try, q_cons, q_nil, q_cb, q_cr, q_call, q_callK, q_prop, q_make, q_bm, q_var, q_c, q_op, q_un, q_b, q_andB, q_orB, q_notB, q_andV, q_orV, q_notV, q_if, q_chain, q_tup, q_lst, q_lstC, q_lc, q_lcC, q_lc2, q_itV, q_itA, q_sl, q_oN, q_oS, sl_0, sl_s, os_some, os_if, f_1, ex_pair, ex_trip, g_unpS, gs_consS, gs_nilS, g_nm, g_subS, sq_tup, sq_lst, List.set_cons_zero, List.set_cons_succ, List.length_cons, List.length_nil, List.length_map, true_and, and_true, b_bl, Bool.not_true, Bool.not_false, Bool.false_eq_true, if_false, if_true, r_ok, i_int, sl_tup, sl_lst, it_tup, it_lst, it_scr, it_word, it_row, it_way, w_0, w_s, decide_true, decide_false, n_tup, n_lst, n_scr, n_word, n_row, n_way, eq_int, ne_int, c_int, en_tup, en_lst, zp_tup, zp_lst, zp_mix, m_yes, t_lst, t_tup, bind_s, a_int, s_int, g_ii, g_ib, is_non, isnt_non, rv_tup, rv_lst, not_true_eq_false, ne_eq, Nat.zero_le, e5]
          exact ⟨_, rfl, l8, ka_tup (by omega) kP⟩
      · rintro en S9 ⟨tk, rfl, l9, kt⟩
        rw [later_eq]
        by_cases f6 : f = 6
        · have e6 : ((f : Int) = 6) = True := eq_true (by omega)
          obtain ⟨W0, fW0, w0n, _, kW0⟩ : ∃ W0 : List D, fIx (.tup (ws.map wayD)) (.int 0) S9 = some (.tup W0) ∧ W0.length = n ∧ True ∧ KA (.tup W0) := by
            have w0 := List.getElem_mem (l := ws) (show 0 < ws.length by omega)
            refine ⟨(ws[0]).map rowD, ?_, by rw [List.length_map]; exact (hw _ w0).len, trivial, kws _ (List.mem_map.mpr ⟨_, w0, rfl⟩)⟩
            rw [la, List.getElem?_map, List.getElem?_eq_getElem (show 0 < ws.length by omega)]; rfl
          have gt : gLst (.tup (ws.map wayD)) S9 = some (.lst (ws.map wayD)) := rfl
          have m7 := mul7 h0 (by omega) S9
          try simp only [p_seqL, p_par, p_par3, p_asgN, p_asg, p_expr, p_ret, p_nil, p_pass, p_if, p_for, p_try, q_cons, q_nil, q_cb, q_cr, q_call, q_callK, q_prop, q_make, q_bm, q_var, q_c, q_op, q_un, q_b, q_andB, q_orB, q_notB, q_andV, q_orV, q_notV, q_if, q_chain, q_tup, q_lst, q_lstC, q_lc, q_lcC, q_lc2, q_itV, q_itA, q_sl, q_oN, q_oS, sl_0, sl_s, os_some, os_if, f_1, ex_pair, ex_trip, g_unpS, gs_consS, gs_nilS, g_nm, g_subS, sq_tup, sq_lst, List.set_cons_zero, List.set_cons_succ, List.length_cons, List.length_nil, List.length_map, true_and, and_true, b_bl, Bool.not_true, Bool.not_false, Bool.false_eq_true, if_false, if_true, r_ok, i_int, sl_tup, sl_lst, it_tup, it_lst, it_scr, it_word, it_row, it_way, w_0, w_s, decide_true, decide_false, n_tup, n_lst, n_scr, n_word, n_row, n_way, eq_int, ne_int, c_int, en_tup, en_lst, zp_tup, zp_lst, zp_mix, m_yes, t_lst, t_tup, bind_s, a_int, s_int, g_ii, g_ib, is_non, isnt_non, rv_tup, rv_lst, not_true_eq_false, ne_eq, Nat.zero_le, e6, fW0, gt, m7]

          refine ⟨by decide, ?_⟩
          refine (sip_ok l9.jg (by decide) (by decide)).mono ?_
          rintro v S5 ⟨o, rfl, ho, l5⟩
          have hP : ∀ d ∈ ([.lst (ws.map wayD), .non, .tup [], .tup (List.replicate 7 (ws.map wayD)).flatten, .tup W0, .str "", .dct []] : List D), Tl 30 d := fun d hd => by
            simp only [List.mem_cons, List.not_mem_nil, or_false] at hd
            rcases hd with rfl | rfl | rfl | rfl | rfl | rfl | rfl
            · exact tl_lst kws
            · exact tl_at rfl (by intro n; rfl) (fun _ e => by cases e)
            · exact tl_tup (by simp) (by decide) (by simp)
            · refine tl_tup (by simp; omega) (by decide) fun e he => ?_
              obtain ⟨x, hx, hx2⟩ := List.mem_flatten.mp he
              rw [(List.mem_replicate.mp hx).2] at hx2
              exact kws e hx2
            · exact ⟨kW0, fun l e => by cases e; omega⟩
            · exact tl_at rfl (nr_str _) (fun _ e => by cases e)
            · exact tl_at rfl (by intro n; rfl) (fun _ e => by cases e)
          obtain ⟨d, fd, td⟩ := pick_lst hP (o := o) (by simp only [List.length_cons, List.length_nil]; omega) S5
          try simp only [p_seqL, p_par, p_par3, p_asgN, p_asg, p_expr, p_ret, p_nil, p_pass, p_if, p_for, p_try, q_cons, q_nil, q_cb, q_cr, q_call, q_callK, q_prop, q_make, q_bm, q_var, q_c, q_op, q_un, q_b, q_andB, q_orB, q_notB, q_andV, q_orV, q_notV, q_if, q_chain, q_tup, q_lst, q_lstC, q_lc, q_lcC, q_lc2, q_itV, q_itA, q_sl, q_oN, q_oS, sl_0, sl_s, os_some, os_if, f_1, ex_pair, ex_trip, g_unpS, gs_consS, gs_nilS, g_nm, g_subS, sq_tup, sq_lst, List.set_cons_zero, List.set_cons_succ, List.length_cons, List.length_nil, List.length_map, true_and, and_true, b_bl, Bool.not_true, Bool.not_false, Bool.false_eq_true, if_false, if_true, r_ok, i_int, sl_tup, sl_lst, it_tup, it_lst, it_scr, it_word, it_row, it_way, w_0, w_s, decide_true, decide_false, n_tup, n_lst, n_scr, n_word, n_row, n_way, eq_int, ne_int, c_int, en_tup, en_lst, zp_tup, zp_lst, zp_mix, m_yes, t_lst, t_tup, bind_s, a_int, s_int, g_ii, g_ib, is_non, isnt_non, rv_tup, rv_lst, not_true_eq_false, ne_eq, Nat.zero_le, fd]
          exact ⟨td, l9.trans l5⟩
        · have e6 : ((f : Int) = 6) = False := eq_false (by omega)
          try simp only [p_seqL, p_par, p_par3, p_asgN, p_asg, p_expr, p_ret, p_nil, p_pass, p_if, p_for, p_try, q_cons, q_nil, q_cb, q_cr, q_call, q_callK, q_prop, q_make, q_bm, q_var, q_c, q_op, q_un, q_b, q_andB, q_orB, q_notB, q_andV, q_orV, q_notV, q_if, q_chain, q_tup, q_lst, q_lstC, q_lc, q_lcC, q_lc2, q_itV, q_itA, q_sl, q_oN, q_oS, sl_0, sl_s, os_some, os_if, f_1, ex_pair, ex_trip, g_unpS, gs_consS, gs_nilS, g_nm, g_subS, sq_tup, sq_lst, List.set_cons_zero, List.set_cons_succ, List.length_cons, List.length_nil, List.length_map, true_and, and_true, b_bl, Bool.not_true, Bool.not_false, Bool.false_eq_true, if_false, if_true, r_ok, i_int, sl_tup, sl_lst, it_tup, it_lst, it_scr, it_word, it_row, it_way, w_0, w_s, decide_true, decide_false, n_tup, n_lst, n_scr, n_word, n_row, n_way, eq_int, ne_int, c_int, en_tup, en_lst, zp_tup, zp_lst, zp_mix, m_yes, t_lst, t_tup, bind_s, a_int, s_int, g_ii, g_ib, is_non, isnt_non, rv_tup, rv_lst, not_true_eq_false, ne_eq, Nat.zero_le, e6]
          rw [later_eq]
          have b3 := addT ((ws.map wayD).take a) [tk] S9 (by rw [List.length_take]; omega) (by simp)
          have b4 := addT ((ws.map wayD).take a ++ [tk]) ((ws.map wayD).drop (a + 1)) S9 (by rw [List.length_append, List.length_take]; simp only [List.length_cons, List.length_nil]; omega) (by rw [List.length_drop]; omega)
          try simp only [p_seqL, p_par, p_par3, p_asgN, p_asg, p_expr, p_ret, p_nil, p_pass, p_if, p_for, p_try, q_cons, q_nil, q_cb, q_cr, q_call, q_callK, q_prop, q_make, q_bm, q_var, q_c, q_op, q_un, q_b, q_andB, q_orB, q_notB, q_andV, q_orV, q_notV, q_if, q_chain, q_tup, q_lst, q_lstC, q_lc, q_lcC, q_lc2, q_itV, q_itA, q_sl, q_oN, q_oS, sl_0, sl_s, os_some, os_if, f_1, ex_pair, ex_trip, g_unpS, gs_consS, gs_nilS, g_nm, g_subS, sq_tup, sq_lst, List.set_cons_zero, List.set_cons_succ, List.length_cons, List.length_nil, List.length_map, true_and, and_true, b_bl, Bool.not_true, Bool.not_false, Bool.false_eq_true, if_false, if_true, r_ok, i_int, sl_tup, sl_lst, it_tup, it_lst, it_scr, it_word, it_row, it_way, w_0, w_s, decide_true, decide_false, n_tup, n_lst, n_scr, n_word, n_row, n_way, eq_int, ne_int, c_int, en_tup, en_lst, zp_tup, zp_lst, zp_mix, m_yes, t_lst, t_tup, bind_s, a_int, s_int, g_ii, g_ib, is_non, isnt_non, rv_tup, rv_lst, not_true_eq_false, ne_eq, Nat.zero_le, cu1, cu2, b3, b4]

          refine ⟨by decide, tl_tup ?_ (by decide) (ka_put kws kt), l9⟩
          simp only [List.length_append, List.length_take, List.length_drop, List.length_cons, List.length_nil]; omega

end Ag.k04

namespace Ag.k04
open PySem

/-! shown texts are texts -/
theorem ok_catS {a b : Str} (ha : PyData.strOk a = true) (hb : PyData.strOk b = true) : PyData.strOk (a ++ b) = true := by
  unfold PyData.strOk at *
  rw [← Array.all_toList] at *
  have e : (a ++ b).cps.toList = a.cps.toList ++ b.cps.toList := TL.tl_append a b
  rw [e, List.all_append, ha, hb]; rfl
theorem char_lt (c : Char) : c.toNat < 1114112 := by
  have := c.valid
  unfold UInt32.isValidChar Nat.isValidChar at this
  show c.val.toNat < 1114112
  omega
theorem ok_ofS (s : String) : PyData.strOk (Str.ofString s) = true := by
  rw [Str.ofString_eq_toList]
  unfold PyData.strOk
  rw [← Array.all_toList]
  refine List.all_eq_true.mpr fun c hc => ?_
  obtain ⟨d, _, rfl⟩ := List.mem_map.mp hc
  exact decide_eq_true (char_lt d)
theorem ok_join : ∀ ts : List Str, (∀ t ∈ ts, PyData.strOk t = true) → PyData.strOk (Str.join ", " ts) = true
  | [], _ => by decide +kernel
  | [x], h => h x (by simp)
  | x :: y :: r, h => by
    have ih := ok_join (y :: r) fun t ht => h t (by simp [ht])
    show PyData.strOk (x ++ ", " ++ Str.join ", " (y :: r)) = true
    exact ok_catS (ok_catS (h x (by simp)) (by decide +kernel)) ih
structure Rs (d : D) : Prop where
  ex : ∃ p, d.py = some p ∧ PyData.strOk (PyData.shown p) = true
theorem rs_int (i : Int) : Rs (.int i) := ⟨.int i, rfl, ok_ofS _⟩
theorem rs_all : ∀ {l : List D}, (∀ d ∈ l, Rs d) → ∃ ps, D.pys l = some ps ∧ ∀ t ∈ PyData.shownAll ps, PyData.strOk t = true
  | [], _ => ⟨[], rfl, by simp [PyData.shownAll]⟩
  | d :: l, h => by
    obtain ⟨p, a, b⟩ := (h d (by simp)).ex
    obtain ⟨ps, a2, b2⟩ := rs_all (l := l) fun c hc => h c (by simp [hc])
    refine ⟨p :: ps, by simp only [D.pys, a, a2], fun t ht => ?_⟩
    simp only [PyData.shownAll, List.mem_cons] at ht
    rcases ht with rfl | ht
    · exact b
    · exact b2 t ht
theorem rs_tup {l : List D} (h : ∀ d ∈ l, Rs d) : Rs (.tup l) := by
  obtain ⟨ps, a, b⟩ := rs_all h
  refine ⟨.tuple ps, by simp only [D.py, a, Option.map_some], ?_⟩
  have e : PyData.shown (.tuple ps) = tupleText (PyData.shownAll ps) := by simp only [PyData.shown]
  rw [e]
  unfold tupleText
  exact ok_catS (ok_catS (by decide +kernel) (ok_join _ b)) (by split <;> decide +kernel)
theorem repr_U {k B : Nat} {d : D} (h : Rb k B d) (hk : k ≤ 60) (hB : B ≤ 16000000) (r : Rs d) : ∃ t, (∀ S, gRepr d S = some (.str t)) ∧ PyData.strOk t = true := by
  obtain ⟨p, a, b⟩ := r.ex
  refine ⟨PyData.shown p, fun S => ?_, b⟩
  obtain ⟨p', a', b', c, e, f⟩ := h.ex
  rw [a] at a'
  cases a'
  unfold gRepr
  rw [pyS_py a]
  simp only
  rw [if_pos]
  refine ⟨b', c, by omega, ?_⟩
  unfold lineN
  omega
theorem rb_ways {n : Nat} {ws : List (List (List Int))} (hw : ∀ w ∈ ws, WayOk n w) (hn : n ≤ 6) (h6 : ws.length ≤ 6) : Rb 3 20000 (.tup (ws.map wayD)) :=
  (rb_tup (k := 2) (B := 2000) (n := 6) (fun d hd => by
    obtain ⟨w, hm, rfl⟩ := List.mem_map.mp hd
    exact (rb_tup (k := 1) (B := 300) (n := 6) (fun d hd => by
      obtain ⟨r, hr, rfl⟩ := List.mem_map.mp hd
      have ro := (hw w hm).row r hr
      exact (rb_tup (k := 0) (B := 41) (n := 6) (fun d hd => by
        obtain ⟨i, hi, rfl⟩ := List.mem_map.mp hd
        have b := ro.in_ i hi
        exact rb_int (k := 40) (by decide) (by have e : (2 : Nat) ^ 40 = 1099511627776 := by decide
                                               omega) (by decide)) (by rw [List.length_map, ro.len]; exact hn)).up (by decide) (by decide)) (by rw [List.length_map, (hw w hm).len]; exact hn)).up (by decide) (by decide)) (by rw [List.length_map]; exact h6)).up (by decide) (by decide)
/-! the law -/
theorem right_ok {S : Sto} {i : Nat} (h : Jg S i) (ht : isTab S 0 472 "_law_right.<locals>.<lambda>" = true) (i0 : 0 < i) : (F_right_l [.ref i] S).sat fun v S' => v = .bl true ∧ Lk S S' i := by
  unfold F_right_l
  simp only [f_run, List.map_cons, List.map_nil, List.length_cons, List.length_nil, Nat.zero_add, Nat.reduceAdd, Nat.reduceSub, List.replicate_succ, List.replicate_zero, List.cons_append, List.nil_append]
  unfold s_right_l
  have r8 := rg1_len 8 S (by decide)
  try simp only [p_seqL, p_par, p_par3, p_asgN, p_asg, p_expr, p_ret, p_nil, p_pass, p_if, p_for, p_try, q_cons, q_nil, q_cb, q_cr, q_call, q_callK, q_prop, q_make, q_bm, q_var, q_c, q_op, q_un, q_b, q_andB, q_orB, q_notB, q_andV, q_orV, q_notV, q_if, q_chain, q_tup, q_lst, q_lstC, q_lc, q_lcC, q_lc2, q_itV, q_itA, q_sl, q_oN, q_oS, sl_0, sl_s, os_some, os_if, f_1, ex_pair, ex_trip, g_unpS, gs_consS, gs_nilS, g_nm, g_subS, sq_tup, sq_lst, List.set_cons_zero, List.set_cons_succ, List.length_cons, List.length_nil, List.length_map, true_and, and_true, b_bl, Bool.not_true, Bool.not_false, Bool.false_eq_true, if_false, if_true, r_ok, i_int, sl_tup, sl_lst, it_tup, it_lst, it_scr, it_word, it_row, it_way, w_0, w_s, decide_true, decide_false, n_tup, n_lst, n_scr, n_word, n_row, n_way, eq_int, ne_int, c_int, en_tup, en_lst, zp_tup, zp_lst, zp_mix, m_yes, t_lst, t_tup, bind_s, a_int, s_int, g_ii, g_ib, is_non, isnt_non, rv_tup, rv_lst, not_true_eq_false, ne_eq, Nat.zero_le, show (8 : Int) = ((8 : Nat) : Int) from rfl, r8]
  refine for_T (li_rg0 8) (fun k en S' => (∃ x1 x2 x3 x4 x5 x6, en = [some (.ref i), x1, x2, x3, x4, x5, x6]) ∧ Lk S S' i) ⟨⟨none, none, none, none, none, none, rfl⟩, .refl h⟩ ?_ ?_
  · rintro k e en S1 _ _ ⟨⟨x1, x2, x3, x4, x5, x6, rfl⟩, l1⟩
    try simp only [p_seqL, p_par, p_par3, p_asgN, p_asg, p_expr, p_ret, p_nil, p_pass, p_if, p_for, p_try, q_cons, q_nil, q_cb, q_cr, q_call, q_callK, q_prop, q_make, q_bm, q_var, q_c, q_op, q_un, q_b, q_andB, q_orB, q_notB, q_andV, q_orV, q_notV, q_if, q_chain, q_tup, q_lst, q_lstC, q_lc, q_lcC, q_lc2, q_itV, q_itA, q_sl, q_oN, q_oS, sl_0, sl_s, os_some, os_if, f_1, ex_pair, ex_trip, g_unpS, gs_consS, gs_nilS, g_nm, g_subS, sq_tup, sq_lst, List.set_cons_zero, List.set_cons_succ, List.length_cons, List.length_nil, List.length_map, true_and, and_true, b_bl, Bool.not_true, Bool.not_false, Bool.false_eq_true, if_false, if_true, r_ok, i_int, sl_tup, sl_lst, it_tup, it_lst, it_scr, it_word, it_row, it_way, w_0, w_s, decide_true, decide_false, n_tup, n_lst, n_scr, n_word, n_row, n_way, eq_int, ne_int, c_int, en_tup, en_lst, zp_tup, zp_lst, zp_mix, m_yes, t_lst, t_tup, bind_s, a_int, s_int, g_ii, g_ib, is_non, isnt_non, rv_tup, rv_lst, not_true_eq_false, ne_eq, Nat.zero_le]
    refine (pair_drawQ l1.jg (by decide) (by decide)).mono ?_
    rintro v S2 ⟨⟨hs, ws, rfl, H, _, hm, hw, h0, h4⟩, l2⟩
    have l02 := l1.trans l2
    try simp only [p_seqL, p_par, p_par3, p_asgN, p_asg, p_expr, p_ret, p_nil, p_pass, p_if, p_for, p_try, q_cons, q_nil, q_cb, q_cr, q_call, q_callK, q_prop, q_make, q_bm, q_var, q_c, q_op, q_un, q_b, q_andB, q_orB, q_notB, q_andV, q_orV, q_notV, q_if, q_chain, q_tup, q_lst, q_lstC, q_lc, q_lcC, q_lc2, q_itV, q_itA, q_sl, q_oN, q_oS, sl_0, sl_s, os_some, os_if, f_1, ex_pair, ex_trip, g_unpS, gs_consS, gs_nilS, g_nm, g_subS, sq_tup, sq_lst, List.set_cons_zero, List.set_cons_succ, List.length_cons, List.length_nil, List.length_map, true_and, and_true, b_bl, Bool.not_true, Bool.not_false, Bool.false_eq_true, if_false, if_true, r_ok, i_int, sl_tup, sl_lst, it_tup, it_lst, it_scr, it_word, it_row, it_way, w_0, w_s, decide_true, decide_false, n_tup, n_lst, n_scr, n_word, n_row, n_way, eq_int, ne_int, c_int, en_tup, en_lst, zp_tup, zp_lst, zp_mix, m_yes, t_lst, t_tup, bind_s, a_int, s_int, g_ii, g_ib, is_non, isnt_non, rv_tup, rv_lst, not_true_eq_false, ne_eq, Nat.zero_le]
    have n1 : 1 ≤ hs.length := List.length_pos_iff.mpr H.ne
    have n6 := H.six
    have hw' : ∀ w ∈ ws, WayOk hs.length w := fun w z => (hw w z).ok
    rw [later_eq]
    try simp only [p_seqL, p_par, p_par3, p_asgN, p_asg, p_expr, p_ret, p_nil, p_pass, p_if, p_for, p_try, q_cons, q_nil, q_cb, q_cr, q_call, q_callK, q_prop, q_make, q_bm, q_var, q_c, q_op, q_un, q_b, q_andB, q_orB, q_notB, q_andV, q_orV, q_notV, q_if, q_chain, q_tup, q_lst, q_lstC, q_lc, q_lcC, q_lc2, q_itV, q_itA, q_sl, q_oN, q_oS, sl_0, sl_s, os_some, os_if, f_1, ex_pair, ex_trip, g_unpS, gs_consS, gs_nilS, g_nm, g_subS, sq_tup, sq_lst, List.set_cons_zero, List.set_cons_succ, List.length_cons, List.length_nil, List.length_map, true_and, and_true, b_bl, Bool.not_true, Bool.not_false, Bool.false_eq_true, if_false, if_true, r_ok, i_int, sl_tup, sl_lst, it_tup, it_lst, it_scr, it_word, it_row, it_way, w_0, w_s, decide_true, decide_false, n_tup, n_lst, n_scr, n_word, n_row, n_way, eq_int, ne_int, c_int, en_tup, en_lst, zp_tup, zp_lst, zp_mix, m_yes, t_lst, t_tup, bind_s, a_int, s_int, g_ii, g_ib, is_non, isnt_non, rv_tup, rv_lst, not_true_eq_false, ne_eq, Nat.zero_le]
    refine (bent_ok l02.jg hw' h0 h4 n1 n6).mono ?_
    rintro v S3 ⟨tv, l3⟩
    have l03 := l02.trans l3
    try simp only [p_seqL, p_par, p_par3, p_asgN, p_asg, p_expr, p_ret, p_nil, p_pass, p_if, p_for, p_try, q_cons, q_nil, q_cb, q_cr, q_call, q_callK, q_prop, q_make, q_bm, q_var, q_c, q_op, q_un, q_b, q_andB, q_orB, q_notB, q_andV, q_orV, q_notV, q_if, q_chain, q_tup, q_lst, q_lstC, q_lc, q_lcC, q_lc2, q_itV, q_itA, q_sl, q_oN, q_oS, sl_0, sl_s, os_some, os_if, f_1, ex_pair, ex_trip, g_unpS, gs_consS, gs_nilS, g_nm, g_subS, sq_tup, sq_lst, List.set_cons_zero, List.set_cons_succ, List.length_cons, List.length_nil, List.length_map, true_and, and_true, b_bl, Bool.not_true, Bool.not_false, Bool.false_eq_true, if_false, if_true, r_ok, i_int, sl_tup, sl_lst, it_tup, it_lst, it_scr, it_word, it_row, it_way, w_0, w_s, decide_true, decide_false, n_tup, n_lst, n_scr, n_word, n_row, n_way, eq_int, ne_int, c_int, en_tup, en_lst, zp_tup, zp_lst, zp_mix, m_yes, t_lst, t_tup, bind_s, a_int, s_int, g_ii, g_ib, is_non, isnt_non, rv_tup, rv_lst, not_true_eq_false, ne_eq, Nat.zero_le]
    rw [later_eq, p_seqL]
    refine SRes.sat.mono (N := fun en S7 => ∃ th, en = [some (.ref i), some (.int (e : Int)), some th, x3, x4, some (.tup (hs.map .str)), some (.tup (ws.map wayD))] ∧ Lk S S7 i ∧ KA th) (R := fun _ _ => False) ?_ ?_ (fun _ _ h => h.elim)
    · have e1 := isi_t (kx_kd (tv.1 0)) S3
      cases q : isT v with
      | false =>
        rw [q] at e1
        try simp only [p_seqL, p_par, p_par3, p_asgN, p_asg, p_expr, p_ret, p_nil, p_pass, p_if, p_for, p_try, q_cons, q_nil, q_cb, q_cr, q_call, q_callK, q_prop, q_make, q_bm, q_var, q_c, q_op, q_un, q_b, q_andB, q_orB, q_notB, q_andV, q_orV, q_notV, q_if, q_chain, q_tup, q_lst, q_lstC, q_lc, q_lcC, q_lc2, q_itV, q_itA, q_sl, q_oN, q_oS, sl_0, sl_s, os_some, os_if, f_1, ex_pair, ex_trip, g_unpS, gs_consS, gs_nilS, g_nm, g_subS, sq_tup, sq_lst, List.set_cons_zero, List.set_cons_succ, List.length_cons, List.length_nil, List.length_map, true_and, and_true, b_bl, Bool.not_true, Bool.not_false, Bool.false_eq_true, if_false, if_true, r_ok, i_int, sl_tup, sl_lst, it_tup, it_lst, it_scr, it_word, it_row, it_way, w_0, w_s, decide_true, decide_false, n_tup, n_lst, n_scr, n_word, n_row, n_way, eq_int, ne_int, c_int, en_tup, en_lst, zp_tup, zp_lst, zp_mix, m_yes, t_lst, t_tup, bind_s, a_int, s_int, g_ii, g_ib, is_non, isnt_non, rv_tup, rv_lst, not_true_eq_false, ne_eq, Nat.zero_le, e1]
        exact ⟨_, rfl, l03, tv.1⟩
      | true =>
        rw [q] at e1
        obtain ⟨l, rfl⟩ : ∃ l, v = .tup l := by cases v <;> first | exact ⟨_, rfl⟩ | (cases q; done)
        try simp only [p_seqL, p_par, p_par3, p_asgN, p_asg, p_expr, p_ret, p_nil, p_pass, p_if, p_for, p_try, q_cons, q_nil, q_cb, q_cr, q_call, q_callK, q_prop, q_make, q_bm, q_var, q_c, q_op, q_un, q_b, q_andB, q_orB, q_notB, q_andV, q_orV, q_notV, q_if, q_chain, q_tup, q_lst, q_lstC, q_lc, q_lcC, q_lc2, q_itV, q_itA, q_sl, q_oN, q_oS, sl_0, sl_s, os_some, os_if, f_1, ex_pair, ex_trip, g_unpS, gs_consS, gs_nilS, g_nm, g_subS, sq_tup, sq_lst, List.set_cons_zero, List.set_cons_succ, List.length_cons, List.length_nil, List.length_map, true_and, and_true, b_bl, Bool.not_true, Bool.not_false, Bool.false_eq_true, if_false, if_true, r_ok, i_int, sl_tup, sl_lst, it_tup, it_lst, it_scr, it_word, it_row, it_way, w_0, w_s, decide_true, decide_false, n_tup, n_lst, n_scr, n_word, n_row, n_way, eq_int, ne_int, c_int, en_tup, en_lst, zp_tup, zp_lst, zp_mix, m_yes, t_lst, t_tup, bind_s, a_int, s_int, g_ii, g_ib, is_non, isnt_non, rv_tup, rv_lst, not_true_eq_false, ne_eq, Nat.zero_le, e1]
        refine (sip_ok l03.jg (by decide) (by decide)).mono ?_
        rintro v S5 ⟨c, rfl, hc, l5⟩
        have l05 := l03.trans l5
        have ll := tv.2 l rfl
        have kws : ∀ e ∈ ws.map wayD, KA e := fun e he => by
          obtain ⟨w, hm, rfl⟩ := List.mem_map.mp he
          exact ka_way (by rw [(hw' w hm).len]; omega) fun r hr => by rw [((hw' w hm).row r hr).len]; omega
        have b1 := add_tup (ws.map wayD) l (by rw [List.length_map]; unfold lineN; omega) S5
        by_cases c0 : (c : Int) = 0
        · have e0 : ((c : Int) = 0) = True := eq_true c0
          try simp only [p_seqL, p_par, p_par3, p_asgN, p_asg, p_expr, p_ret, p_nil, p_pass, p_if, p_for, p_try, q_cons, q_nil, q_cb, q_cr, q_call, q_callK, q_prop, q_make, q_bm, q_var, q_c, q_op, q_un, q_b, q_andB, q_orB, q_notB, q_andV, q_orV, q_notV, q_if, q_chain, q_tup, q_lst, q_lstC, q_lc, q_lcC, q_lc2, q_itV, q_itA, q_sl, q_oN, q_oS, sl_0, sl_s, os_some, os_if, f_1, ex_pair, ex_trip, g_unpS, gs_consS, gs_nilS, g_nm, g_subS, sq_tup, sq_lst, List.set_cons_zero, List.set_cons_succ, List.length_cons, List.length_nil, List.length_map, true_and, and_true, b_bl, Bool.not_true, Bool.not_false, Bool.false_eq_true, if_false, if_true, r_ok, i_int, sl_tup, sl_lst, it_tup, it_lst, it_scr, it_word, it_row, it_way, w_0, w_s, decide_true, decide_false, n_tup, n_lst, n_scr, n_word, n_row, n_way, eq_int, ne_int, c_int, en_tup, en_lst, zp_tup, zp_lst, zp_mix, m_yes, t_lst, t_tup, bind_s, a_int, s_int, g_ii, g_ib, is_non, isnt_non, rv_tup, rv_lst, not_true_eq_false, ne_eq, Nat.zero_le, e0, b1]
          exact ⟨_, rfl, l05, ka_tup (by rw [List.length_append, List.length_map]; omega) (ka_app kws (ka_els tv.1))⟩
        · have e0 : ((c : Int) = 0) = False := eq_false c0
          try simp only [p_seqL, p_par, p_par3, p_asgN, p_asg, p_expr, p_ret, p_nil, p_pass, p_if, p_for, p_try, q_cons, q_nil, q_cb, q_cr, q_call, q_callK, q_prop, q_make, q_bm, q_var, q_c, q_op, q_un, q_b, q_andB, q_orB, q_notB, q_andV, q_orV, q_notV, q_if, q_chain, q_tup, q_lst, q_lstC, q_lc, q_lcC, q_lc2, q_itV, q_itA, q_sl, q_oN, q_oS, sl_0, sl_s, os_some, os_if, f_1, ex_pair, ex_trip, g_unpS, gs_consS, gs_nilS, g_nm, g_subS, sq_tup, sq_lst, List.set_cons_zero, List.set_cons_succ, List.length_cons, List.length_nil, List.length_map, true_and, and_true, b_bl, Bool.not_true, Bool.not_false, Bool.false_eq_true, if_false, if_true, r_ok, i_int, sl_tup, sl_lst, it_tup, it_lst, it_scr, it_word, it_row, it_way, w_0, w_s, decide_true, decide_false, n_tup, n_lst, n_scr, n_word, n_row, n_way, eq_int, ne_int, c_int, en_tup, en_lst, zp_tup, zp_lst, zp_mix, m_yes, t_lst, t_tup, bind_s, a_int, s_int, g_ii, g_ib, is_non, isnt_non, rv_tup, rv_lst, not_true_eq_false, ne_eq, Nat.zero_le, e0]
          exact ⟨_, rfl, l05, tv.1⟩
    · rintro en S7 ⟨th, rfl, l7, kt⟩
      have tb : isTab S7 0 472 "_law_right.<locals>.<lambda>" = true := by
        rw [tab_at0 (l7.oth 0 (by have := h.lt; omega) (by omega))]; exact ht
      have nn : ∀ l : List D, isNon (.lst l) = false := fun _ => rfl
      have ns : isNon .non = true := rfl
      have gl : ∀ T, gLen (.tup (hs.map D.str)) T = some (.int (hs.length : Int)) := fun T => by
        show some (D.int ((hs.map D.str).length : Int)) = _
        rw [List.length_map]
      rw [later_eq]
      rcases verdict (n := hs.length) (kt 3) S7 with ⟨x, t, B⟩ | ⟨us, rfl, hu, u0, u6, du⟩
      · have lv : ∀ en, slotD en 5 = some (.tup (hs.map .str)) → slotD en 2 = some th → liveR [(0, lam_0), (1, lam_1)] "_law_right.<locals>.<lambda>" F_is_ended_l en S7 (.lst [.str "ways", .str t]) = .ok (.bl true) S7 := fun en a b => live_bad l7.jg.cl H B (kx_nr (kt 0)) a b
        try simp only [p_seqL, p_par, p_par3, p_asgN, p_asg, p_expr, p_ret, p_nil, p_pass, p_if, p_for, p_try, q_cons, q_nil, q_cb, q_cr, q_call, q_callK, q_prop, q_make, q_bm, q_var, q_c, q_op, q_un, q_b, q_andB, q_orB, q_notB, q_andV, q_orV, q_notV, q_if, q_chain, q_tup, q_lst, q_lstC, q_lc, q_lcC, q_lc2, q_itV, q_itA, q_sl, q_oN, q_oS, sl_0, sl_s, os_some, os_if, f_1, ex_pair, ex_trip, g_unpS, gs_consS, gs_nilS, g_nm, g_subS, sq_tup, sq_lst, List.set_cons_zero, List.set_cons_succ, List.length_cons, List.length_nil, List.length_map, true_and, and_true, b_bl, Bool.not_true, Bool.not_false, Bool.false_eq_true, if_false, if_true, r_ok, i_int, sl_tup, sl_lst, it_tup, it_lst, it_scr, it_word, it_row, it_way, w_0, w_s, decide_true, decide_false, n_tup, n_lst, n_scr, n_word, n_row, n_way, eq_int, ne_int, c_int, en_tup, en_lst, zp_tup, zp_lst, zp_mix, m_yes, t_lst, t_tup, bind_s, a_int, s_int, g_ii, g_ib, is_non, isnt_non, rv_tup, rv_lst, not_true_eq_false, ne_eq, Nat.zero_le, gl, B.due]
        rw [later_eq]
        try simp only [p_seqL, p_par, p_par3, p_asgN, p_asg, p_expr, p_ret, p_nil, p_pass, p_if, p_for, p_try, q_cons, q_nil, q_cb, q_cr, q_call, q_callK, q_prop, q_make, q_bm, q_var, q_c, q_op, q_un, q_b, q_andB, q_orB, q_notB, q_andV, q_orV, q_notV, q_if, q_chain, q_tup, q_lst, q_lstC, q_lc, q_lcC, q_lc2, q_itV, q_itA, q_sl, q_oN, q_oS, sl_0, sl_s, os_some, os_if, f_1, ex_pair, ex_trip, g_unpS, gs_consS, gs_nilS, g_nm, g_subS, sq_tup, sq_lst, List.set_cons_zero, List.set_cons_succ, List.length_cons, List.length_nil, List.length_map, true_and, and_true, b_bl, Bool.not_true, Bool.not_false, Bool.false_eq_true, if_false, if_true, r_ok, i_int, sl_tup, sl_lst, it_tup, it_lst, it_scr, it_word, it_row, it_way, w_0, w_s, decide_true, decide_false, n_tup, n_lst, n_scr, n_word, n_row, n_way, eq_int, ne_int, c_int, en_tup, en_lst, zp_tup, zp_lst, zp_mix, m_yes, t_lst, t_tup, bind_s, a_int, s_int, g_ii, g_ib, is_non, isnt_non, rv_tup, rv_lst, not_true_eq_false, ne_eq, Nat.zero_le, p_acts, p_app, q_live, tb, nn]
        rw [lv _ rfl rfl, r_ok]
        try simp only [p_seqL, p_par, p_par3, p_asgN, p_asg, p_expr, p_ret, p_nil, p_pass, p_if, p_for, p_try, q_cons, q_nil, q_cb, q_cr, q_call, q_callK, q_prop, q_make, q_bm, q_var, q_c, q_op, q_un, q_b, q_andB, q_orB, q_notB, q_andV, q_orV, q_notV, q_if, q_chain, q_tup, q_lst, q_lstC, q_lc, q_lcC, q_lc2, q_itV, q_itA, q_sl, q_oN, q_oS, sl_0, sl_s, os_some, os_if, f_1, ex_pair, ex_trip, g_unpS, gs_consS, gs_nilS, g_nm, g_subS, sq_tup, sq_lst, List.set_cons_zero, List.set_cons_succ, List.length_cons, List.length_nil, List.length_map, true_and, and_true, b_bl, Bool.not_true, Bool.not_false, Bool.false_eq_true, if_false, if_true, r_ok, i_int, sl_tup, sl_lst, it_tup, it_lst, it_scr, it_word, it_row, it_way, w_0, w_s, decide_true, decide_false, n_tup, n_lst, n_scr, n_word, n_row, n_way, eq_int, ne_int, c_int, en_tup, en_lst, zp_tup, zp_lst, zp_mix, m_yes, t_lst, t_tup, bind_s, a_int, s_int, g_ii, g_ib, is_non, isnt_non, rv_tup, rv_lst, not_true_eq_false, ne_eq, Nat.zero_le]
        exact ⟨⟨_, _, _, _, _, _, rfl⟩, l7⟩
      · obtain ⟨t, rep, so⟩ := repr_U (rb_ways hu n6 u6) (by decide) (by decide) (rs_tup fun d hd => by
          obtain ⟨w, hw, rfl⟩ := List.mem_map.mp hd
          exact rs_tup fun d hd => by
            obtain ⟨r, hr, rfl⟩ := List.mem_map.mp hd
            exact rs_tup fun d hd => by
              obtain ⟨z, hz, rfl⟩ := List.mem_map.mp hd
              exact rs_int z)
        have lv : ∀ en, slotD en 5 = some (.tup (hs.map .str)) → slotD en 2 = some (.tup (us.map wayD)) → liveR [(0, lam_0), (1, lam_1)] "_law_right.<locals>.<lambda>" F_is_ended_l en S7 (.lst [.str "told", .str t]) = .ok (.bl true) S7 := fun en a b => live_good l7.jg.cl H hu u0 u6 a b rep so
        try simp only [p_seqL, p_par, p_par3, p_asgN, p_asg, p_expr, p_ret, p_nil, p_pass, p_if, p_for, p_try, q_cons, q_nil, q_cb, q_cr, q_call, q_callK, q_prop, q_make, q_bm, q_var, q_c, q_op, q_un, q_b, q_andB, q_orB, q_notB, q_andV, q_orV, q_notV, q_if, q_chain, q_tup, q_lst, q_lstC, q_lc, q_lcC, q_lc2, q_itV, q_itA, q_sl, q_oN, q_oS, sl_0, sl_s, os_some, os_if, f_1, ex_pair, ex_trip, g_unpS, gs_consS, gs_nilS, g_nm, g_subS, sq_tup, sq_lst, List.set_cons_zero, List.set_cons_succ, List.length_cons, List.length_nil, List.length_map, true_and, and_true, b_bl, Bool.not_true, Bool.not_false, Bool.false_eq_true, if_false, if_true, r_ok, i_int, sl_tup, sl_lst, it_tup, it_lst, it_scr, it_word, it_row, it_way, w_0, w_s, decide_true, decide_false, n_tup, n_lst, n_scr, n_word, n_row, n_way, eq_int, ne_int, c_int, en_tup, en_lst, zp_tup, zp_lst, zp_mix, m_yes, t_lst, t_tup, bind_s, a_int, s_int, g_ii, g_ib, is_non, isnt_non, rv_tup, rv_lst, not_true_eq_false, ne_eq, Nat.zero_le, gl, du]
        rw [later_eq]
        try simp only [p_seqL, p_par, p_par3, p_asgN, p_asg, p_expr, p_ret, p_nil, p_pass, p_if, p_for, p_try, q_cons, q_nil, q_cb, q_cr, q_call, q_callK, q_prop, q_make, q_bm, q_var, q_c, q_op, q_un, q_b, q_andB, q_orB, q_notB, q_andV, q_orV, q_notV, q_if, q_chain, q_tup, q_lst, q_lstC, q_lc, q_lcC, q_lc2, q_itV, q_itA, q_sl, q_oN, q_oS, sl_0, sl_s, os_some, os_if, f_1, ex_pair, ex_trip, g_unpS, gs_consS, gs_nilS, g_nm, g_subS, sq_tup, sq_lst, List.set_cons_zero, List.set_cons_succ, List.length_cons, List.length_nil, List.length_map, true_and, and_true, b_bl, Bool.not_true, Bool.not_false, Bool.false_eq_true, if_false, if_true, r_ok, i_int, sl_tup, sl_lst, it_tup, it_lst, it_scr, it_word, it_row, it_way, w_0, w_s, decide_true, decide_false, n_tup, n_lst, n_scr, n_word, n_row, n_way, eq_int, ne_int, c_int, en_tup, en_lst, zp_tup, zp_lst, zp_mix, m_yes, t_lst, t_tup, bind_s, a_int, s_int, g_ii, g_ib, is_non, isnt_non, rv_tup, rv_lst, not_true_eq_false, ne_eq, Nat.zero_le, ns, p_acts, p_app, q_live, tb, rep]
        refine ⟨by decide, ?_⟩
        rw [lv _ rfl rfl, r_ok]
        try simp only [p_seqL, p_par, p_par3, p_asgN, p_asg, p_expr, p_ret, p_nil, p_pass, p_if, p_for, p_try, q_cons, q_nil, q_cb, q_cr, q_call, q_callK, q_prop, q_make, q_bm, q_var, q_c, q_op, q_un, q_b, q_andB, q_orB, q_notB, q_andV, q_orV, q_notV, q_if, q_chain, q_tup, q_lst, q_lstC, q_lc, q_lcC, q_lc2, q_itV, q_itA, q_sl, q_oN, q_oS, sl_0, sl_s, os_some, os_if, f_1, ex_pair, ex_trip, g_unpS, gs_consS, gs_nilS, g_nm, g_subS, sq_tup, sq_lst, List.set_cons_zero, List.set_cons_succ, List.length_cons, List.length_nil, List.length_map, true_and, and_true, b_bl, Bool.not_true, Bool.not_false, Bool.false_eq_true, if_false, if_true, r_ok, i_int, sl_tup, sl_lst, it_tup, it_lst, it_scr, it_word, it_row, it_way, w_0, w_s, decide_true, decide_false, n_tup, n_lst, n_scr, n_word, n_row, n_way, eq_int, ne_int, c_int, en_tup, en_lst, zp_tup, zp_lst, zp_mix, m_yes, t_lst, t_tup, bind_s, a_int, s_int, g_ii, g_ib, is_non, isnt_non, rv_tup, rv_lst, not_true_eq_false, ne_eq, Nat.zero_le]
        exact ⟨⟨_, _, _, _, _, _, rfl⟩, l7⟩
  · rintro en S1 ⟨⟨x1, x2, x3, x4, x5, x6, rfl⟩, l1⟩
    rw [later_eq]
    try simp only [p_seqL, p_par, p_par3, p_asgN, p_asg, p_expr, p_ret, p_nil, p_pass, p_if, p_for, p_try, q_cons, q_nil, q_cb, q_cr, q_call, q_callK, q_prop, q_make, q_bm, q_var, q_c, q_op, q_un, q_b, q_andB, q_orB, q_notB, q_andV, q_orV, q_notV, q_if, q_chain, q_tup, q_lst, q_lstC, q_lc, q_lcC, q_lc2, q_itV, q_itA, q_sl, q_oN, q_oS, sl_0, sl_s, os_some, os_if, f_1, ex_pair, ex_trip, g_unpS, gs_consS, gs_nilS, g_nm, g_subS, sq_tup, sq_lst, List.set_cons_zero, List.set_cons_succ, List.length_cons, List.length_nil, List.length_map, true_and, and_true, b_bl, Bool.not_true, Bool.not_false, Bool.false_eq_true, if_false, if_true, r_ok, i_int, sl_tup, sl_lst, it_tup, it_lst, it_scr, it_word, it_row, it_way, w_0, w_s, decide_true, decide_false, n_tup, n_lst, n_scr, n_word, n_row, n_way, eq_int, ne_int, c_int, en_tup, en_lst, zp_tup, zp_lst, zp_mix, m_yes, t_lst, t_tup, bind_s, a_int, s_int, g_ii, g_ib, is_non, isnt_non, rv_tup, rv_lst, not_true_eq_false, ne_eq, Nat.zero_le]
    exact l1

end Ag.k04

namespace Ag.k04
open PySem

theorem jug_at {ns : List Int} {S : Sto} (hS : Cl S) (hl : ns.length ≤ 63) (k : Nat) : (F_jug_l [.scr (ns.map .int), .int (k : Int)] S).sat fun v S' => v = .ref S.length ∧ Jg S' S.length ∧ ∃ o, S' = S ++ [o] := by
  unfold F_jug_l
  rw [f_run]
  show (s_jug_l [some (.scr (ns.map .int)), some (.int (k : Int)), none, none, none] S).sat _ _
  unfold s_jug_l
  have m1 : mulOk 53 (k : Int) = true := by
    unfold mulOk
    rw [decide_eq_true (by decide)]; rfl
  have m2 : mulOk 37013 (k : Int) = true := by
    unfold mulOk
    rw [decide_eq_true (by decide)]; rfl
  have m3 : ∀ z : Int, mulOk z 59063 = true := fun z => mulOk_r (by decide)
  have rest : ∀ g : Int, (sSeq (sAsg (mOp fAdd (mC (.int 122949823)) (mOp fMul (mC (.int 37013)) (mVar 1))) (gNm 3))
      (sSeq (sFor (mItV (mOp fAdd (mLst (mCons (mVar 2) mNil)) (mSl (mVar 0) oNone (oSome (mC (.int 6)))))) (gNm 4) (sAsg (mOp fMod (mCB (f1 gInt) (mCons (mOp fAdd (mOp fMul (mVar 3) (mC (.int 59063))) (mVar 4)) mNil)) (mC (.int 2147483269))) (gNm 3)))
      (sRet (mLstC (mCons (mIf (mB (mOp fGe (mCB (f1 gAbs) (mCons (mVar 2) mNil)) (mOp fPow (mC (.int 10)) (mC (.int 18))))) (mCB (f1 gAbs) (mCons (mVar 2) mNil)) (mC (.int 0))) (mCons (mVar 3) (mCons (mC (.int 0)) mNil))))))
      [some (.scr (ns.map .int)), some (.int (k : Int)), some (.int g), none, none] S).sat (fun _ S' => D.non = .ref S.length ∧ Jg S' S.length ∧ ∃ o, S' = S ++ [o]) fun v S' => v = .ref S.length ∧ Jg S' S.length ∧ ∃ o, S' = S ++ [o] := fun g => by
    have ad : fAdd (.lst [.int g]) (.lst ((ns.map .int).take 6)) S = some (.lst ((g :: ns.take 6).map .int)) := by
      show (if 1 + ((ns.map D.int).take 6).length ≤ lineN then some (D.lst ([.int g] ++ (ns.map .int).take 6)) else none) = _
      rw [if_pos (by rw [List.length_take]; unfold lineN; omega)]
      simp [List.map_take]
    simp only [p_seq, p_asgN, q_op, q_c, q_var, sl_0, sl_s, os_some, fMul, m2, if_true, add_int, List.set_cons_zero, List.set_cons_succ, p_for, q_itV, q_lst, q_cons, q_nil, List.length_cons, List.length_nil, q_sl, q_oN, q_oS, intD, fSl, rdOf, Option.map_some, cut_6, ad, itOf]
    refine ⟨by decide, for_inv (li_ls _) (fun j en S' => ∃ (s : Int) (x : Option D), en = [some (.scr (ns.map .int)), some (.int (k : Int)), some (.int g), some (.int s), x] ∧ S' = S) ?_ ?_ ⟨_, none, rfl, rfl⟩⟩
    · rintro j d en S' hd ⟨s, x, rfl, rfl⟩
      obtain ⟨e, _, _, rfl⟩ := map_get hd
      simp only [g_nm, List.set_cons_zero, List.set_cons_succ, p_asgN, q_op, q_cb, q_cons, q_nil, q_c, q_var, sl_0, sl_s, os_some, fMul, m3, if_true, add_int, f1, gInt, fMod]
      simp only [show (0 : Int) < 2147483269 by decide, if_true, os_some]
      exact ⟨_, _, rfl, trivial⟩
    · rintro en S' ⟨s, x, rfl, rfl⟩
      have fin : ∀ a : Int, Jg (S' ++ [.lst [.int a, .int s, .int 0]]) S'.length := fun a => ⟨cl_app hS (bel_lst fun d hd => by
        simp only [List.mem_cons, List.not_mem_nil, or_false] at hd
        rcases hd with rfl | rfl | rfl <;> exact nr_int _), a, s, 0, by simp⟩
      simp only [p_ret, q_lstC, q_cons, q_nil, q_if, q_b, q_op, q_cb, q_c, q_var, sl_0, sl_s, os_some, f1, gAbs, fPow, os_if, fGe, cmpI, bOf, List.length_cons, List.length_nil]
      refine ⟨by decide, ?_⟩
      generalize (if g < 0 then -g else g) = ag
      by_cases hc : decide (10 ^ Int.toNat 18 ≤ ag) = true
      · rw [if_pos hc]; exact ⟨by decide, trivial, fin _, _, rfl⟩
      · rw [if_neg hc]; exact ⟨by decide, trivial, fin _, _, rfl⟩
  rw [p_seq, p_asgN]
  simp only [q_if, q_b, q_op, q_cb, q_cons, q_nil, q_c, q_var, sl_0, sl_s, os_some, f1, len_scr, List.length_map, fLt, cmpI, bOf, fMul, m1, if_true, add_int, List.set_cons_zero, List.set_cons_succ]
  by_cases hk : k < ns.length
  · have : decide ((k : Int) < (ns.length : Int)) = true := decide_eq_true (by omega)
    simp only [this, if_true, ix_scr]
    rw [show (ns.map D.int)[k]? = some (.int ns[k]) by rw [List.getElem?_map, List.getElem?_eq_getElem hk]; rfl, os_some]
    exact rest ns[k]
  · have : decide ((k : Int) < (ns.length : Int)) = false := decide_eq_false (by omega)
    simp only [this, Bool.false_eq_true, if_false]
    exact rest (53 * (k : Int) + 11)

/-! the law's end: jugs, a table ahead, lambdas of the law -/
theorem quiet_ok {S : Sto} {i : Nat} (h : Jg S i) (ht : isTab S 0 472 "_law_right.<locals>.<lambda>" = true) (i0 : 0 < i) : (F_quiet_l [.ref i] S).sat fun v S' => v = .bl true ∧ Lk S S' i := by
  unfold F_quiet_l
  simp only [f_run, List.map_cons, List.map_nil, List.length_cons, List.length_nil, Nat.zero_add, Nat.reduceAdd, Nat.reduceSub, List.replicate_succ, List.replicate_zero, List.cons_append, List.nil_append]
  unfold s_quiet_l
  simp only [p_seq, p_par, p_par3, p_asgN, p_asg, p_expr, p_ret, p_nil, p_pass, p_if, p_for, p_try, q_cons, q_nil, q_cb, q_cr, q_call, q_callK, q_prop, q_make, q_bm, q_var, q_c, q_op, q_un, q_b, q_andB, q_orB, q_notB, q_andV, q_orV, q_notV, q_if, q_chain, q_tup, q_lst, q_lstC, q_lc, q_lcC, q_lc2, q_itV, q_itA, q_sl, q_oN, q_oS, sl_0, sl_s, os_some, os_if, f_1, ex_pair, ex_trip, g_unpS, gs_consS, gs_nilS, g_nm, g_subS, sq_tup, sq_lst, List.set_cons_zero, List.set_cons_succ, List.length_cons, List.length_nil, List.length_map, true_and, and_true, b_bl, Bool.not_true, Bool.not_false, Bool.false_eq_true, if_false, if_true, r_ok, i_int, sl_tup, sl_lst, it_tup, it_lst, it_scr, it_word, it_row, it_way, w_0, w_s, decide_true, decide_false, n_tup, n_lst, n_scr, n_word, n_row, n_way, eq_int, ne_int, c_int, en_tup, en_lst, zp_tup, zp_lst, zp_mix, m_yes, t_lst, t_tup, bind_s, a_int, s_int, g_ii, g_ib, is_non, isnt_non, rv_tup, rv_lst, not_true_eq_false, ne_eq, Nat.zero_le]
  refine (right_ok h ht i0).mono ?_
  rintro v S1 ⟨rfl, l⟩
  simp only [p_seq, p_par, p_par3, p_asgN, p_asg, p_expr, p_ret, p_nil, p_pass, p_if, p_for, p_try, q_cons, q_nil, q_cb, q_cr, q_call, q_callK, q_prop, q_make, q_bm, q_var, q_c, q_op, q_un, q_b, q_andB, q_orB, q_notB, q_andV, q_orV, q_notV, q_if, q_chain, q_tup, q_lst, q_lstC, q_lc, q_lcC, q_lc2, q_itV, q_itA, q_sl, q_oN, q_oS, sl_0, sl_s, os_some, os_if, f_1, ex_pair, ex_trip, g_unpS, gs_consS, gs_nilS, g_nm, g_subS, sq_tup, sq_lst, List.set_cons_zero, List.set_cons_succ, List.length_cons, List.length_nil, List.length_map, true_and, and_true, b_bl, Bool.not_true, Bool.not_false, Bool.false_eq_true, if_false, if_true, r_ok, i_int, sl_tup, sl_lst, it_tup, it_lst, it_scr, it_word, it_row, it_way, w_0, w_s, decide_true, decide_false, n_tup, n_lst, n_scr, n_word, n_row, n_way, eq_int, ne_int, c_int, en_tup, en_lst, zp_tup, zp_lst, zp_mix, m_yes, t_lst, t_tup, bind_s, a_int, s_int, g_ii, g_ib, is_non, isnt_non, rv_tup, rv_lst, not_true_eq_false, ne_eq, Nat.zero_le]
  exact l
theorem law_good (ns : List Int) (hl : ns.length ≤ 63) : ∃ S, F_law [.scr (ns.map .int)] S0 = .ok (.bl true) S := by
  suffices h : (F_law [.scr (ns.map .int)] S0).sat fun v _ => v = .bl true by
    obtain ⟨v, S, e, rfl⟩ := h.eq
    exact ⟨S, e⟩
  unfold F_law
  simp only [f_run, List.map_cons, List.map_nil, List.length_cons, List.length_nil, Nat.zero_add, Nat.reduceAdd, Nat.reduceSub, List.replicate_succ, List.replicate_zero, List.cons_append, List.nil_append]
  unfold s_law
  obtain ⟨n, hn, h5⟩ : ∃ n : Nat, (if (if (5 : Int) < (ns.length : Int) then 5 else (ns.length : Int)) > 2 then (if (5 : Int) < (ns.length : Int) then 5 else (ns.length : Int)) else 2) = (n : Int) ∧ n ≤ 63 := by
    refine ⟨(if (if (5 : Int) < (ns.length : Int) then 5 else (ns.length : Int)) > 2 then (if (5 : Int) < (ns.length : Int) then 5 else (ns.length : Int)) else 2).toNat, ?_, ?_⟩ <;> split <;> (try split) <;> omega
  have r1 := rg1_len n S0 (by omega)
  have c0 : Cl S0 := fun o ho n _ => by
    have : o = .tab 472 "_law_right.<locals>.<lambda>" := by simpa [S0, tabs3] using ho
    rw [this]; rfl
  try simp only [p_seqL, p_par, p_par3, p_asgN, p_asg, p_expr, p_ret, p_nil, p_pass, p_if, p_for, p_try, q_cons, q_nil, q_cb, q_cr, q_call, q_callK, q_prop, q_make, q_bm, q_var, q_c, q_op, q_un, q_b, q_andB, q_orB, q_notB, q_andV, q_orV, q_notV, q_if, q_chain, q_tup, q_lst, q_lstC, q_lc, q_lcC, q_lc2, q_itV, q_itA, q_sl, q_oN, q_oS, sl_0, sl_s, os_some, os_if, f_1, ex_pair, ex_trip, g_unpS, gs_consS, gs_nilS, g_nm, g_subS, sq_tup, sq_lst, List.set_cons_zero, List.set_cons_succ, List.length_cons, List.length_nil, List.length_map, true_and, and_true, b_bl, Bool.not_true, Bool.not_false, Bool.false_eq_true, if_false, if_true, r_ok, i_int, sl_tup, sl_lst, it_tup, it_lst, it_scr, it_word, it_row, it_way, w_0, w_s, decide_true, decide_false, n_tup, n_lst, n_scr, n_word, n_row, n_way, eq_int, ne_int, c_int, en_tup, en_lst, zp_tup, zp_lst, zp_mix, m_yes, t_lst, t_tup, bind_s, a_int, s_int, g_ii, g_ib, is_non, isnt_non, rv_tup, rv_lst, not_true_eq_false, ne_eq, Nat.zero_le, len_scr, List.length_map, fMin2, fMax2, hn, r1]
  refine lc_T (li_rg0 _) (fun k acc S' => Cl S' ∧ acc = List.replicate k (.bl true) ∧ 0 < S'.length ∧ isTab S' 0 472 "_law_right.<locals>.<lambda>" = true) ⟨c0, rfl, by decide, by decide +kernel⟩ ?_ ?_
  · rintro k d acc S' hd _ ⟨hc, rfl, sp, ht⟩
    have hk : k < n := by
      have := (List.getElem?_eq_some_iff.mp hd).1
      simpa using this
    try simp only [p_seqL, p_par, p_par3, p_asgN, p_asg, p_expr, p_ret, p_nil, p_pass, p_if, p_for, p_try, q_cons, q_nil, q_cb, q_cr, q_call, q_callK, q_prop, q_make, q_bm, q_var, q_c, q_op, q_un, q_b, q_andB, q_orB, q_notB, q_andV, q_orV, q_notV, q_if, q_chain, q_tup, q_lst, q_lstC, q_lc, q_lcC, q_lc2, q_itV, q_itA, q_sl, q_oN, q_oS, sl_0, sl_s, os_some, os_if, f_1, ex_pair, ex_trip, g_unpS, gs_consS, gs_nilS, g_nm, g_subS, sq_tup, sq_lst, List.set_cons_zero, List.set_cons_succ, List.length_cons, List.length_nil, List.length_map, true_and, and_true, b_bl, Bool.not_true, Bool.not_false, Bool.false_eq_true, if_false, if_true, r_ok, i_int, sl_tup, sl_lst, it_tup, it_lst, it_scr, it_word, it_row, it_way, w_0, w_s, decide_true, decide_false, n_tup, n_lst, n_scr, n_word, n_row, n_way, eq_int, ne_int, c_int, en_tup, en_lst, zp_tup, zp_lst, zp_mix, m_yes, t_lst, t_tup, bind_s, a_int, s_int, g_ii, g_ib, is_non, isnt_non, rv_tup, rv_lst, not_true_eq_false, ne_eq, Nat.zero_le]
    refine (jug_at hc hl d).mono ?_
    rintro v S1 ⟨rfl, j1, o, rfl⟩
    have t2 : isTab (S' ++ [o]) 0 472 "_law_right.<locals>.<lambda>" = true := by rw [tab_at0 (S := S') (List.getElem?_append_left sp)]; exact ht
    refine (quiet_ok j1 t2 sp).mono ?_
    rintro v S3 ⟨rfl, l2⟩
    try simp only [p_seqL, p_par, p_par3, p_asgN, p_asg, p_expr, p_ret, p_nil, p_pass, p_if, p_for, p_try, q_cons, q_nil, q_cb, q_cr, q_call, q_callK, q_prop, q_make, q_bm, q_var, q_c, q_op, q_un, q_b, q_andB, q_orB, q_notB, q_andV, q_orV, q_notV, q_if, q_chain, q_tup, q_lst, q_lstC, q_lc, q_lcC, q_lc2, q_itV, q_itA, q_sl, q_oN, q_oS, sl_0, sl_s, os_some, os_if, f_1, ex_pair, ex_trip, g_unpS, gs_consS, gs_nilS, g_nm, g_subS, sq_tup, sq_lst, List.set_cons_zero, List.set_cons_succ, List.length_cons, List.length_nil, List.length_map, true_and, and_true, b_bl, Bool.not_true, Bool.not_false, Bool.false_eq_true, if_false, if_true, r_ok, i_int, sl_tup, sl_lst, it_tup, it_lst, it_scr, it_word, it_row, it_way, w_0, w_s, decide_true, decide_false, n_tup, n_lst, n_scr, n_word, n_row, n_way, eq_int, ne_int, c_int, en_tup, en_lst, zp_tup, zp_lst, zp_mix, m_yes, t_lst, t_tup, bind_s, a_int, s_int, g_ii, g_ib, is_non, isnt_non, rv_tup, rv_lst, not_true_eq_false, ne_eq, Nat.zero_le]
    refine ⟨by rw [List.length_replicate]; unfold lineN; omega, l2.jg.cl, ?_, by rw [l2.same]; simp, ?_⟩
    · rw [List.replicate_succ']
    · rw [tab_at0 (S := S' ++ [o]) (l2.oth 0 (by simp) (by omega))]
      exact t2
  · rintro acc S' ⟨hc, rfl, _⟩
    rw [List.length_range]
    have this : gAll (.lst (List.replicate n (.bl true))) S' = some (.bl true) := all_true n S'
    try simp only [p_seqL, p_par, p_par3, p_asgN, p_asg, p_expr, p_ret, p_nil, p_pass, p_if, p_for, p_try, q_cons, q_nil, q_cb, q_cr, q_call, q_callK, q_prop, q_make, q_bm, q_var, q_c, q_op, q_un, q_b, q_andB, q_orB, q_notB, q_andV, q_orV, q_notV, q_if, q_chain, q_tup, q_lst, q_lstC, q_lc, q_lcC, q_lc2, q_itV, q_itA, q_sl, q_oN, q_oS, sl_0, sl_s, os_some, os_if, f_1, ex_pair, ex_trip, g_unpS, gs_consS, gs_nilS, g_nm, g_subS, sq_tup, sq_lst, List.set_cons_zero, List.set_cons_succ, List.length_cons, List.length_nil, List.length_map, true_and, and_true, b_bl, Bool.not_true, Bool.not_false, Bool.false_eq_true, if_false, if_true, r_ok, i_int, sl_tup, sl_lst, it_tup, it_lst, it_scr, it_word, it_row, it_way, w_0, w_s, decide_true, decide_false, n_tup, n_lst, n_scr, n_word, n_row, n_way, eq_int, ne_int, c_int, en_tup, en_lst, zp_tup, zp_lst, zp_mix, m_yes, t_lst, t_tup, bind_s, a_int, s_int, g_ii, g_ib, is_non, isnt_non, rv_tup, rv_lst, not_true_eq_false, ne_eq, Nat.zero_le, this]

end Ag.k04

namespace Ag.k04
open PySem PySem.Spec PyProof.Rows L2
structure Kc (K : PySem.W.Frag) (mg : Str → Option Value) : Prop extends Kn fa fn ex K mg where
  iso : Iso K isoC isoT
  ex0 : ErB K "ValueError" "ValueError.__new__" "InvalidWays" "index"
  ex1 : ErB K "ValueError" "ValueError.__new__" "InvalidMinds" "index"
  ex2 : ∃ p, PropOf K (He.ga K "Council") "ways" p (prG K "Council" "ways")
  ex3 : ∀ c ∈ csE, PySem.W.exmAny K (.ref (He.ga K c)) [.ref (He.ga K "WrongValue"), .ref (He.ga K "WrongName"), .ref (He.ga K "NoAnswer")] = some true
  ex4 : ∀ c ∈ (["InvalidMinds", "InvalidWays"] : List Str), XfC K (He.ga K c) ∧ PySem.W.findIn K (.ref (He.ga K c)) "index" = some none
  ex5 : ∀ c ∈ ([] : List Str), XfC K (He.ga K c) ∧ PySem.W.findIn K (.ref (He.ga K c)) "given" = some none
  ex6 : ErrsT K errR
  ex7 : codeRefB K (df_right_l.loc K) 476 = true
theorem kc_of {K : PySem.W.Frag} {mg : Str → Option Value} (c : Kn fa fn ex K mg) : Kc K mg := by
  have h := c.t.ex
  simp only [ex, Bool.and_eq_true] at h
  exact { c with iso := isoB_ok h.1.1.1.1.1.1.1.1, ex0 := erBB_ok bas_V h.1.1.1.1.1.1.1.2, ex1 := erBB_ok bas_V h.1.1.1.1.1.1.2, ex2 := propB_ok h.1.1.1.1.1.2, ex3 := exmB_ok h.1.1.1.1.2, ex4 := xfsB_ok h.1.1.1.2, ex5 := xfsB_ok h.1.1.2, ex6 := errsT_of h.1.2, ex7 := h.2 }
section
variable {P : Program} {w : World} {K : PySem.W.Frag} {mg : Str → Option Value} {base : Heap}
theorem sc_InvalidWaysd_initd : FnScope N_InvalidWaysd_initd ["self", "index"] (defScope st_InvalidWaysd_initd) := ⟨rfl, rfl, rfl, by decide +kernel, rfl, by decide +kernel, by decide +kernel⟩
theorem us_InvalidWaysd_initd (C : Kc K mg) : ∃ fd, FnOk P w K mg base (L2N.CX P w) 1 (df_InvalidWaysd_initd.loc K) fd ["self", "index"] (spX K (He.ga K "InvalidWays") "index") ∧ PySem.W.keepIn K (.ref (df_InvalidWaysd_initd.loc K)) = true ∧ Binds K fd ["self", "index"] [] ∧ FnAt K df_InvalidWaysd_initd fd := by
  obtain ⟨fd, F⟩ := C.df 0 (d := df_InvalidWaysd_initd) rfl
  exact ⟨fd, spXB_ok C.ex0 F sc_InvalidWaysd_initd (by exact Or.inl rfl) (by exact Or.inl rfl) (by decide) (by decide), F.kp, F.bindsN fun _ _ _ _ _ _ us hl => match us, hl with | [_, _], _ => rfl, F⟩
theorem sc_is_integer : FnScope N_is_integer ["value"] (defScope st_is_integer) := ⟨rfl, rfl, rfl, by decide +kernel, rfl, by decide +kernel, by decide +kernel⟩
theorem us_is_integer (C : Kc K mg) (T : TbL mg base) : ∃ fd, FnG P w K mg base 1 (df_is_integer.loc K) fd ["value"] (spOf K 1 F_is_integer) ∧ PySem.W.keepIn K (.ref (df_is_integer.loc K)) = true ∧ Binds K fd ["value"] [] ∧ FnAt K df_is_integer fd := by
  obtain ⟨fd, F⟩ := C.df 1 (d := df_is_integer) rfl
  refine ⟨fd, fn_ok F sc_is_integer fun cdv A outer s0 H E B => ?_, F.kp, F.bindsN fun _ _ _ _ _ _ us hl => match us, hl with | [_], _ => rfl, F⟩
  exact (ss_one (s_ret (e_and (e_cb (b_isiZ C.iso) rfl (C.free 10 rfl) bt_isinstance (a_cons (vr 0) (a_cons (g_ty (C.free 12 rfl) bt_int) a_nil))) (e_one (e_not (e_cb (b_isiZ C.iso) rfl (C.free 10 rfl) bt_isinstance (a_cons (vr 0) (a_cons (g_ty (C.free 13 rfl) bt_bool) a_nil))))))))
theorem sc_is_within : FnScope N_is_within ["value", "least", "most"] (defScope st_is_within) := ⟨rfl, rfl, rfl, by decide +kernel, rfl, by decide +kernel, by decide +kernel⟩
theorem us_is_within (C : Kc K mg) (T : TbL mg base) : ∃ fd, FnG P w K mg base 2 (df_is_within.loc K) fd ["value", "least", "most"] (spOf K 3 F_is_within) ∧ PySem.W.keepIn K (.ref (df_is_within.loc K)) = true ∧ Binds K fd ["value", "least", "most"] [] ∧ FnAt K df_is_within fd := by
  obtain ⟨fd0, G0, k0, b0, A0⟩ := us_is_integer (P := P) (w := w) (base := base) C T
  obtain ⟨fd, F⟩ := C.df 2 (d := df_is_within) rfl
  refine ⟨fd, fn_ok F sc_is_within fun cdv A outer s0 H E B => ?_, F.kp, F.bindsN fun _ _ _ _ _ _ us hl => match us, hl with | [_, _, _], _ => rfl, F⟩
  exact (ss_one (s_ret (e_and (e_call B G0 (by decide) rfl (C.glo 14 rfl) k0 b0 (a_cons (vr 0) a_nil)) (e_one (e_chain o_le o_le (vr 1) (vr 0) (vr 2))))))
theorem sc_is_row : FnScope N_is_row ["value", "count"] (defScope st_is_row) := ⟨rfl, rfl, rfl, by decide +kernel, rfl, by decide +kernel, by decide +kernel⟩
theorem us_is_row (C : Kc K mg) (T : TbL mg base) : ∃ fd, FnG P w K mg base 3 (df_is_row.loc K) fd ["value", "count"] (spOf K 2 F_is_row) ∧ PySem.W.keepIn K (.ref (df_is_row.loc K)) = true ∧ Binds K fd ["value", "count"] [] ∧ FnAt K df_is_row fd := by
  obtain ⟨fd0, G0, k0, b0, A0⟩ := us_is_within (P := P) (w := w) (base := base) C T
  obtain ⟨fd, F⟩ := C.df 3 (d := df_is_row) rfl
  refine ⟨fd, fn_ok F sc_is_row fun cdv A outer s0 H E B => ?_, F.kp, F.bindsN fun _ _ _ _ _ _ us hl => match us, hl with | [_, _], _ => rfl, F⟩
  exact (ss_cons (s_if (PW.pt (w_or (t_not (t_val (e_cb (b_isiZ C.iso) rfl (C.free 10 rfl) bt_isinstance (a_cons (vr 0) (a_cons (g_ty (C.free 11 rfl) bt_tuple) a_nil))))) (w_or1 (t_cmp (o_ne B.u64) (e_cb b_len rfl (C.free 3 rfl) bt_len (a_cons (vr 0) a_nil)) (vr 1) (nomark _))))) (ss_one (s_ret k_bl)) ss_nil)
  (ss_one (s_ret (e_and (e_cb (b_all B.calm) rfl (C.free 0 rfl) bt_all (a_cons (e_lc B.calm sc_is_row.nd (i_val (vr 0)) (own := [("weight", 2)]) (blk_ok (by kernel_rfl)) (fun _ _ _ _ _ => (gw_name (i := 2) (by decide) sc_is_row.nd rfl (by first | exact Or.inl rfl | exact Or.inr rfl))) (fun _ _ _ _ _ => ts_nil) (fun _ _ _ _ _ => (e_call (bd_blk B) G0 (by decide) rfl (C.glo 15 rfl) k0 b0 (a_cons (vr 2) (a_cons k_int (a_cons (g_int (C.int 16 rfl)) a_nil)))))) a_nil)) (e_one (e_cmp o_gt (e_cb (b_sum B.calm) rfl (C.free 17 rfl) bt_sum (a_cons (vr 0) a_nil)) k_int (nomark _)))))))
theorem sc_is_way : FnScope N_is_way ["value", "count"] (defScope st_is_way) := ⟨rfl, rfl, rfl, by decide +kernel, rfl, by decide +kernel, by decide +kernel⟩
theorem us_is_way (C : Kc K mg) (T : TbL mg base) : ∃ fd, FnG P w K mg base 4 (df_is_way.loc K) fd ["value", "count"] (spOf K 2 F_is_way) ∧ PySem.W.keepIn K (.ref (df_is_way.loc K)) = true ∧ Binds K fd ["value", "count"] [] ∧ FnAt K df_is_way fd := by
  obtain ⟨fd0, G0, k0, b0, A0⟩ := us_is_row (P := P) (w := w) (base := base) C T
  obtain ⟨fd, F⟩ := C.df 4 (d := df_is_way) rfl
  refine ⟨fd, fn_ok F sc_is_way fun cdv A outer s0 H E B => ?_, F.kp, F.bindsN fun _ _ _ _ _ _ us hl => match us, hl with | [_, _], _ => rfl, F⟩
  exact (ss_one (s_ret (e_and (e_cb (b_isiZ C.iso) rfl (C.free 10 rfl) bt_isinstance (a_cons (vr 0) (a_cons (g_ty (C.free 11 rfl) bt_tuple) a_nil))) (e_and (e_cmp (o_eq B.u64) (e_cb b_len rfl (C.free 3 rfl) bt_len (a_cons (vr 0) a_nil)) (vr 1) (nomark _)) (e_one (e_cb (b_all B.calm) rfl (C.free 0 rfl) bt_all (a_cons (e_lc B.calm sc_is_way.nd (i_val (vr 0)) (own := [("row", 2)]) (blk_ok (by kernel_rfl)) (fun _ _ _ _ _ => (gw_name (i := 2) (by decide) sc_is_way.nd rfl (by first | exact Or.inl rfl | exact Or.inr rfl))) (fun _ _ _ _ _ => ts_nil) (fun _ _ _ _ _ => (e_call (bd_blk B) G0 (by decide) rfl (C.glo 18 rfl) k0 b0 (a_cons (vr 2) (a_cons (vr 1) a_nil))))) a_nil)))))))
theorem sc_wrong_way : FnScope N_wrong_way ["ways", "count"] (defScope st_wrong_way) := ⟨rfl, rfl, rfl, by decide +kernel, rfl, by decide +kernel, by decide +kernel⟩
theorem us_wrong_way (C : Kc K mg) (T : TbL mg base) : ∃ fd, FnG P w K mg base 5 (df_wrong_way.loc K) fd ["ways", "count"] (spOf K 2 F_wrong_way) ∧ PySem.W.keepIn K (.ref (df_wrong_way.loc K)) = true ∧ Binds K fd ["ways", "count"] [] ∧ FnAt K df_wrong_way fd := by
  obtain ⟨fd0, G0, k0, b0, A0⟩ := us_is_way (P := P) (w := w) (base := base) C T
  obtain ⟨fd, F⟩ := C.df 5 (d := df_wrong_way) rfl
  refine ⟨fd, fn_ok F sc_wrong_way fun cdv A outer s0 H E B => ?_, F.kp, F.bindsN fun _ _ _ _ _ _ us hl => match us, hl with | [_, _], _ => rfl, F⟩
  exact (ss_cons (s_if (PW.pt (w_or (t_not (t_val (e_cb (b_isiZ C.iso) rfl (C.free 10 rfl) bt_isinstance (a_cons (vr 0) (a_cons (g_ty (C.free 11 rfl) bt_tuple) a_nil))))) (w_or1 (t_cmp (o_eq B.u64) (e_cb b_len rfl (C.free 3 rfl) bt_len (a_cons (vr 0) a_nil)) k_int (nomark _))))) (ss_one (s_ret (e_tup (a_cons k_non a_nil)))) ss_nil)
  (ss_cons (s_for B.hp B.calm (j_enum rfl (C.free 9 rfl) (a_cons (vr 0) a_nil)) (g_unp B.calm (gs_cons (g_name (i := 2) sc_wrong_way.nd rfl (by first | exact Or.inl rfl | exact Or.inr rfl)) (gs_cons (g_name (i := 3) sc_wrong_way.nd rfl (by first | exact Or.inl rfl | exact Or.inr rfl)) gs_nil))) (ss_one (s_if (PW.pt (w_or (t_not (t_val (e_call B G0 (by decide) rfl (C.glo 19 rfl) k0 b0 (a_cons (vr 3) (a_cons (vr 1) a_nil))))) (w_or1 (t_cmp o_ge (vr 2) (g_int (C.int 20 rfl)) (nomark _))))) (ss_one (s_ret (e_tup (a_cons (vr 2) a_nil)))) ss_nil)))
  (ss_one (s_ret (e_tup a_nil)))))
theorem sc_InvalidMindsd_initd : FnScope N_InvalidMindsd_initd ["self", "index"] (defScope st_InvalidMindsd_initd) := ⟨rfl, rfl, rfl, by decide +kernel, rfl, by decide +kernel, by decide +kernel⟩
theorem us_InvalidMindsd_initd (C : Kc K mg) : ∃ fd, FnOk P w K mg base (L2N.CX P w) 1 (df_InvalidMindsd_initd.loc K) fd ["self", "index"] (spX K (He.ga K "InvalidMinds") "index") ∧ PySem.W.keepIn K (.ref (df_InvalidMindsd_initd.loc K)) = true ∧ Binds K fd ["self", "index"] [] ∧ FnAt K df_InvalidMindsd_initd fd := by
  obtain ⟨fd, F⟩ := C.df 6 (d := df_InvalidMindsd_initd) rfl
  exact ⟨fd, spXB_ok C.ex1 F sc_InvalidMindsd_initd (by exact Or.inl rfl) (by exact Or.inl rfl) (by decide) (by decide), F.kp, F.bindsN fun _ _ _ _ _ _ us hl => match us, hl with | [_, _], _ => rfl, F⟩
theorem sc_is_name : FnScope N_is_name ["value"] (defScope st_is_name) := ⟨rfl, rfl, rfl, by decide +kernel, rfl, by decide +kernel, by decide +kernel⟩
theorem us_is_name (C : Kc K mg) (T : TbL mg base) : ∃ fd, FnG P w K mg base 1 (df_is_name.loc K) fd ["value"] (spOf K 1 F_is_name) ∧ PySem.W.keepIn K (.ref (df_is_name.loc K)) = true ∧ Binds K fd ["value"] [] ∧ FnAt K df_is_name fd := by
  obtain ⟨fd, F⟩ := C.df 7 (d := df_is_name) rfl
  refine ⟨fd, fn_ok F sc_is_name fun cdv A outer s0 H E B => ?_, F.kp, F.bindsN fun _ _ _ _ _ _ us hl => match us, hl with | [_], _ => rfl, F⟩
  exact (ss_cons (s_if (PW.pt (w_or (t_not (t_val (e_cb (b_isiZ C.iso) rfl (C.free 10 rfl) bt_isinstance (a_cons (vr 0) (a_cons (g_ty (C.free 25 rfl) bt_str) a_nil))))) (w_or1 (t_not (t_chain o_le o_le k_int (e_cb b_len rfl (C.free 3 rfl) bt_len (a_cons (vr 0) a_nil)) (g_int (C.int 26 rfl))))))) (ss_one (s_ret k_bl)) ss_nil)
  (ss_one (s_ret (e_and (e_cmp (o_in B.u65) (e_ix x_ix (vr 0) k_int (fun _ _ => rfl)) (g_str (C.str 23 rfl)) rfl) (e_one (e_cb (b_all B.calm) rfl (C.free 0 rfl) bt_all (a_cons (e_lc B.calm sc_is_name.nd (i_val (vr 0)) (own := [("sign", 1)]) (blk_ok (by kernel_rfl)) (fun _ _ _ _ _ => (gw_name (i := 1) (by decide) sc_is_name.nd rfl (by first | exact Or.inl rfl | exact Or.inr rfl))) (fun _ _ _ _ _ => ts_nil) (fun _ _ _ _ _ => (e_or (e_cmp (o_in (bd_blk B).u65) (vr 1) (g_str (C.str 23 rfl)) rfl) (e_one (e_cmp (o_in (bd_blk B).u65) (vr 1) (g_str (C.str 24 rfl)) rfl))))) a_nil)))))))
theorem sc_wrong_mind : FnScope N_wrong_mind ["minds"] (defScope st_wrong_mind) := ⟨rfl, rfl, rfl, by decide +kernel, rfl, by decide +kernel, by decide +kernel⟩
theorem us_wrong_mind (C : Kc K mg) (T : TbL mg base) : ∃ fd, FnG P w K mg base 2 (df_wrong_mind.loc K) fd ["minds"] (spOf K 1 F_wrong_mind) ∧ PySem.W.keepIn K (.ref (df_wrong_mind.loc K)) = true ∧ Binds K fd ["minds"] [] ∧ FnAt K df_wrong_mind fd := by
  obtain ⟨fd0, G0, k0, b0, A0⟩ := us_is_name (P := P) (w := w) (base := base) C T
  obtain ⟨fd, F⟩ := C.df 8 (d := df_wrong_mind) rfl
  refine ⟨fd, fn_ok F sc_wrong_mind fun cdv A outer s0 H E B => ?_, F.kp, F.bindsN fun _ _ _ _ _ _ us hl => match us, hl with | [_], _ => rfl, F⟩
  exact (ss_cons (s_if (PW.pt (w_or (t_not (t_val (e_cb (b_isiZ C.iso) rfl (C.free 10 rfl) bt_isinstance (a_cons (vr 0) (a_cons (g_ty (C.free 11 rfl) bt_tuple) a_nil))))) (w_or1 (t_cmp (o_eq B.u64) (e_cb b_len rfl (C.free 3 rfl) bt_len (a_cons (vr 0) a_nil)) k_int (nomark _))))) (ss_one (s_ret (e_tup (a_cons k_non a_nil)))) ss_nil)
  (ss_cons (s_for B.hp B.calm (j_enum rfl (C.free 9 rfl) (a_cons (vr 0) a_nil)) (g_unp B.calm (gs_cons (g_name (i := 1) sc_wrong_mind.nd rfl (by first | exact Or.inl rfl | exact Or.inr rfl)) (gs_cons (g_name (i := 2) sc_wrong_mind.nd rfl (by first | exact Or.inl rfl | exact Or.inr rfl)) gs_nil))) (ss_one (s_if (PW.pt (w_or (t_not (t_val (e_call B G0 (by decide) rfl (C.glo 27 rfl) k0 b0 (a_cons (vr 2) a_nil)))) (w_or (t_cmp o_ge (vr 1) (g_int (C.int 28 rfl)) (nomark _)) (w_or1 (t_cmp (o_in B.u65) (vr 2) (e_sl (vr 0) o_none (o_some (vr 1))) rfl))))) (ss_one (s_ret (e_tup (a_cons (vr 1) a_nil)))) ss_nil)))
  (ss_one (s_ret (e_tup a_nil)))))
theorem sc_Councild_initd : FnScope N_Councild_initd ["self", "minds", "ways"] (defScope st_Councild_initd) := ⟨rfl, rfl, rfl, by decide +kernel, rfl, by decide +kernel, by decide +kernel⟩
theorem us_Councild_initd (C : Kc K mg) (T : TbL mg base) : ∃ fd, FnG P w K mg base 6 (df_Councild_initd.loc K) fd ["self", "minds", "ways"] (spOf K 3 F_Councild_initd) ∧ PySem.W.keepIn K (.ref (df_Councild_initd.loc K)) = true ∧ Binds K fd ["self", "minds", "ways"] [] ∧ FnAt K df_Councild_initd fd := by
  obtain ⟨fd0, G0, k0, b0, A0⟩ := us_InvalidWaysd_initd (P := P) (w := w) (base := base) C
  obtain ⟨fd1, G1, k1, b1, A1⟩ := us_wrong_way (P := P) (w := w) (base := base) C T
  obtain ⟨fd2, G2, k2, b2, A2⟩ := us_InvalidMindsd_initd (P := P) (w := w) (base := base) C
  obtain ⟨fd3, G3, k3, b3, A3⟩ := us_wrong_mind (P := P) (w := w) (base := base) C T
  obtain ⟨fd, F⟩ := C.df 9 (d := df_Councild_initd) rfl
  refine ⟨fd, fn_ok F sc_Councild_initd fun cdv A outer s0 H E B => ?_, F.kp, F.bindsN fun _ _ _ _ _ _ us hl => match us, hl with | [_, _, _], _ => rfl, F⟩
  exact (ss_cons (s_set (i := 3) sc_Councild_initd.nd rfl (by first | exact Or.inl rfl | exact Or.inr rfl) (e_call B G3 (by decide) rfl (C.glo 29 rfl) k3 b3 (a_cons (vr 1) a_nil)))
  (ss_cons (s_if (t_cmp (o_ne B.u64) (vr 3) (e_tup a_nil) (nomark _)) (ss_one (s_raiseB B (by decide) C.ex1 G2 b2 rfl (C.glo 22 rfl) (e_ix x_ix (vr 3) k_int (fun _ _ => rfl)))) ss_nil)
  (ss_cons (s_set (i := 3) sc_Councild_initd.nd rfl (by first | exact Or.inl rfl | exact Or.inr rfl) (e_call B G1 (by decide) rfl (C.glo 21 rfl) k1 b1 (a_cons (vr 2) (a_cons (e_cb b_len rfl (C.free 3 rfl) bt_len (a_cons (vr 1) a_nil)) a_nil))))
  (ss_cons (s_if (t_cmp (o_ne B.u64) (vr 3) (e_tup a_nil) (nomark _)) (ss_one (s_raiseB B (by decide) C.ex0 G0 b0 rfl (C.glo 8 rfl) (e_ix x_ix (vr 3) k_int (fun _ _ => rfl)))) ss_nil)
  (ss_cons (s_fld (one_ ⟨He.cls_ok (C.ok 5 rfl), He.noat_ok (C.ok 7 rfl)⟩) (vr 0) (vr 1))
  (ss_one (s_fld (one_ ⟨He.cls_ok (C.ok 5 rfl), He.noat_ok (C.ok 6 rfl)⟩) (vr 0) (vr 2))))))))
theorem sc_Council_ways : FnScope N_Council_ways ["self"] (defScope st_Council_ways) := ⟨rfl, rfl, rfl, by decide +kernel, rfl, by decide +kernel, by decide +kernel⟩
theorem us_Council_ways (C : Kc K mg) (T : TbL mg base) : ∃ fd, FnG P w K mg base 1 (df_Council_ways.loc K) fd ["self"] (spOf K 1 F_Council_ways) ∧ PySem.W.keepIn K (.ref (df_Council_ways.loc K)) = true ∧ Binds K fd ["self"] [] ∧ FnAt K df_Council_ways fd := by
  obtain ⟨fd, F⟩ := C.df 10 (d := df_Council_ways) rfl
  refine ⟨fd, fn_ok F sc_Council_ways fun cdv A outer s0 H E B => ?_, F.kp, F.bindsN fun _ _ _ _ _ _ us hl => match us, hl with | [_], _ => rfl, F⟩
  exact (ss_one (s_ret (e_fld (one_ ⟨He.cls_ok (C.ok 5 rfl), He.noat_ok (C.ok 6 rfl)⟩) (vr 0))))
def NL_0 : List Str := ["_law_jug_here", "_law_again", "_law_thing", "_law_due_here", "_law_acts", "_law_heads_here", "_law_talks"]
theorem lamS_0 : LamX.LamS (defScope (top 48)) lam_0.sc := LamX.lamS_by (by decide +kernel)
theorem lok_0 : LOk NL_0 (defScope (top 48)) lam_0 := lok_ok (by decide +kernel)
def NL_1 : List Str := ["_law_jug_here", "_law_again", "_law_thing", "_law_due_here", "_law_acts", "_law_heads_here", "_law_talks"]
theorem lamS_1 : LamX.LamS (defScope (top 48)) lam_1.sc := LamX.lamS_by (by decide +kernel)
theorem lok_1 : LOk NL_1 (defScope (top 48)) lam_1 := lok_ok (by decide +kernel)
theorem tb_ok (C : Kc K mg) (T : TbL mg base) : ∀ p ∈ tbL, BodOk P w K mg base p.2.1 7 p.1 p.2.2 := by
  obtain ⟨fd0, G0, k0, b0, A0⟩ := us_Councild_initd (P := P) (w := w) (base := base) C T
  obtain ⟨fd1, G1, k1, b1, A1⟩ := us_Council_ways (P := P) (w := w) (base := base) C T
  have kw0 : ∀ v, KwB K fd0 ["self", "minds", "ways"] ["ways", "minds"] [1, 0] (v :: ·) := kwb_ofM A0 _ _ fun _ _ _ _ _ _ _ ws hl => match ws, hl with | [_, _], _ => rfl
  have e1 : BodOk P w K mg base "_law_right.<locals>.<lambda>" 7 lam_1 lb_1 := ⟨⟨_, _, lamS_1, lok_1⟩, fun _ _ _ _ => rfl, fun A2 outer2 s2 H2 E2 f2 d2 cl2 BL => (e_prop BL (He.cls_ok (C.ok 5 rfl)) C.ex2.choose_spec G1 (by decide) b1 (e_makeK (frz := true) BL (He.mkr_ok (C.ok 31 rfl)) G0 (by decide) rfl (C.glo 30 rfl) kw0 (k_cons (vr 0) (k_cons (vr 1) k_nil)) rfl))⟩
  have e0 : BodOk P w K mg base "_law_right.<locals>.<lambda>" 7 lam_0 lb_0 := ⟨⟨_, _, lamS_0, lok_0⟩, fun _ _ _ _ => rfl, fun A2 outer2 s2 H2 E2 f2 d2 cl2 BL => (e_prop BL (He.cls_ok (C.ok 5 rfl)) C.ex2.choose_spec G1 (by decide) b1 (e_make (frz := true) BL (He.mkr_ok (C.ok 31 rfl)) G0 (by decide) rfl (C.glo 30 rfl) b0 (a_cons (vr 0) (a_cons (vr 1) a_nil))))⟩
  exact (tb_cons e0 (tb_cons e1 tb_nil))
theorem sc_ended_l : FnScope N_ended_l ["_law_act"] (defScope st_ended_l) := ⟨rfl, rfl, rfl, by decide +kernel, rfl, by decide +kernel, by decide +kernel⟩
theorem us_ended_l (C : Kc K mg) (T : TbL mg base) : ∃ fd, FnG P w K mg base 9 (df_ended_l.loc K) fd ["_law_act"] (spOf K 1 F_ended_l) ∧ PySem.W.keepIn K (.ref (df_ended_l.loc K)) = true ∧ Binds K fd ["_law_act"] [] ∧ FnAt K df_ended_l fd := by
  obtain ⟨fd, F⟩ := C.df 11 (d := df_ended_l) rfl
  refine ⟨fd, fn_scop (fn_ok F sc_ended_l fun cdv A outer s0 H E B => ?_), F.kp, F.bindsN fun _ _ _ _ _ _ us hl => match us, hl with | [_], _ => rfl, F⟩
  exact (ss_cons (s_tryE (cs := csE) (n := "e") (i := 1) B C.ex3 rfl rfl rfl sc_ended_l.nd rfl rfl ⟨rfl, by decide, .inl (C.glo 33 rfl)⟩ ⟨rfl, by decide, .inl (C.glo 34 rfl)⟩ ⟨rfl, by decide, .inl (C.glo 35 rfl)⟩ (fun W2 pn xe B => (ss_one (s_set (i := 2) sc_ended_l.nd rfl (by first | exact Or.inl rfl | exact Or.inr rfl) (pe_cloC (i := 0) (k := 7) B (by decide) (tb_ok C T) rfl (by first | exact Or.inl rfl | exact Or.inr (Or.inl rfl) | exact Or.inr (Or.inr rfl)))))) (fun a pn o hc hv B => (ss_cons (s_set (i := 3) sc_ended_l.nd rfl (by first | exact Or.inl rfl | exact Or.inr rfl) (e_lst (a_cons (e_lst (a_cons (e_cb (b_isiE C.ex6 (b_isiZ C.iso)) rfl (C.free 10 rfl) bt_isinstance (a_cons (vr 1) (a_cons (g_cls (C.glo 44 rfl)) a_nil))) (a_cons k_str a_nil))) (a_cons (e_lst (a_cons (e_cb (b_isiE C.ex6 (b_isiZ C.iso)) rfl (C.free 10 rfl) bt_isinstance (a_cons (vr 1) (a_cons (g_cls (C.glo 43 rfl)) a_nil))) (a_cons k_str a_nil))) a_nil))))
  (ss_cons (s_set (i := 3) sc_ended_l.nd rfl (by first | exact Or.inl rfl | exact Or.inr rfl) (e_op o_add (vr 3) (e_lst (a_cons (e_lst (a_cons (e_cb (b_isiE C.ex6 (b_isiZ C.iso)) rfl (C.free 10 rfl) bt_isinstance (a_cons (vr 1) (a_cons (g_cls (C.glo 42 rfl)) a_nil))) (a_cons k_str a_nil))) (a_cons (e_lst (a_cons (e_cb (b_isiE C.ex6 (b_isiZ C.iso)) rfl (C.free 10 rfl) bt_isinstance (a_cons (vr 1) (a_cons (g_cls (C.glo 41 rfl)) a_nil))) (a_cons k_str a_nil))) a_nil)))))
  (ss_cons (s_set (i := 3) sc_ended_l.nd rfl (by first | exact Or.inl rfl | exact Or.inr rfl) (e_op o_add (vr 3) (e_lst (a_cons (e_lst (a_cons (e_cb (b_isiE C.ex6 (b_isiZ C.iso)) rfl (C.free 10 rfl) bt_isinstance (a_cons (vr 1) (a_cons (g_cls (C.glo 22 rfl)) a_nil))) (a_cons k_str a_nil))) (a_cons (e_lst (a_cons (e_cb (b_isiE C.ex6 (b_isiZ C.iso)) rfl (C.free 10 rfl) bt_isinstance (a_cons (vr 1) (a_cons (g_cls (C.glo 8 rfl)) a_nil))) (a_cons k_str a_nil))) a_nil)))))
  (ss_cons (s_set (i := 3) sc_ended_l.nd rfl (by first | exact Or.inl rfl | exact Or.inr rfl) (e_op o_add (vr 3) (e_lst (a_cons (e_lst (a_cons (e_cb (b_isiE C.ex6 (b_isiZ C.iso)) rfl (C.free 10 rfl) bt_isinstance (a_cons (vr 1) (a_cons (g_cls (C.glo 40 rfl)) a_nil))) (a_cons k_str a_nil))) (a_cons (e_lst (a_cons (e_cb (b_isiE C.ex6 (b_isiZ C.iso)) rfl (C.free 10 rfl) bt_isinstance (a_cons (vr 1) (a_cons (g_cls (C.glo 39 rfl)) a_nil))) (a_cons k_str a_nil))) a_nil)))))
  (ss_cons (s_set (i := 3) sc_ended_l.nd rfl (by first | exact Or.inl rfl | exact Or.inr rfl) (e_op o_add (vr 3) (e_lst (a_cons (e_lst (a_cons (e_cb (b_isiE C.ex6 (b_isiZ C.iso)) rfl (C.free 10 rfl) bt_isinstance (a_cons (vr 1) (a_cons (g_cls (C.glo 38 rfl)) a_nil))) (a_cons k_str a_nil))) (a_cons (e_lst (a_cons (e_cb (b_isiE C.ex6 (b_isiZ C.iso)) rfl (C.free 10 rfl) bt_isinstance (a_cons (vr 1) (a_cons (g_cls (C.glo 37 rfl)) a_nil))) (a_cons k_str a_nil))) a_nil)))))
  (ss_cons (s_set (i := 4) sc_ended_l.nd rfl (by first | exact Or.inl rfl | exact Or.inr rfl) (e_bm PySem.F.plainAttrs_str PySem.F.slot_str_join PySem.F.type_str_join m_join tv_str k_str (a_cons (e_lcF (own := [("_law_pair_here", 7)]) (.suite hc hv) sc_ended_l.nd (i_hot (e_op o_add (vr 3) (e_lst (a_cons (e_lst (a_cons (e_cb (b_isiE C.ex6 (b_isiZ C.iso)) rfl (C.free 10 rfl) bt_isinstance (a_cons (vr 1) (a_cons (g_cls (C.glo 36 rfl)) a_nil))) (a_cons k_str a_nil))) a_nil)))) (blk_ok (by kernel_rfl)) (fun _ _ _ _ _ => (gw_name (i := 7) (by decide) sc_ended_l.nd rfl (by first | exact Or.inl rfl | exact Or.inr rfl))) (fun _ _ _ _ _ => (ts_one (t_val (e_ix x_ix (vr 7) k_int (fun _ _ => rfl))))) (fun _ _ _ _ _ => (e_ix x_ix (vr 7) k_int (fun _ _ => rfl)))) a_nil)))
  (ss_cons (s_set (i := 5) sc_ended_l.nd rfl (by first | exact Or.inl rfl | exact Or.inr rfl) (e_lst (a_cons (e_cb (b_isiE C.ex6 (b_isiZ C.iso)) rfl (C.free 10 rfl) bt_isinstance (a_cons (vr 1) (a_cons (g_cls (C.glo 33 rfl)) a_nil))) (a_cons (e_cb (b_isiE C.ex6 (b_isiZ C.iso)) rfl (C.free 10 rfl) bt_isinstance (a_cons (vr 1) (a_cons (g_cls (C.glo 34 rfl)) a_nil))) (a_cons (e_cb (b_isiE C.ex6 (b_isiZ C.iso)) rfl (C.free 10 rfl) bt_isinstance (a_cons (vr 1) (a_cons (g_cls (C.glo 35 rfl)) a_nil))) a_nil)))))
  (ss_cons (s_set (i := 6) sc_ended_l.nd rfl (by first | exact Or.inl rfl | exact Or.inr rfl) (e_if (t_cmp (o_eq B.u64) (vr 4) k_str (nomark _)) k_int (e_if (t_cmp (o_in B.u65) (vr 4) (e_lst (a_cons k_str (a_cons k_str a_nil))) rfl) k_int k_int)))
  (ss_cons (s_if (t_cmp (o_ne B.u64) (vr 5) (e_lcF (own := [("_law_k", 8)]) (.suite hc hv) sc_ended_l.nd (j_range1F rfl (C.free 4 rfl) (a_cons k_int a_nil)) (blk_ok (by kernel_rfl)) (fun _ _ _ _ _ => (gw_name (i := 8) (by decide) sc_ended_l.nd rfl (by first | exact Or.inl rfl | exact Or.inr rfl))) (fun _ _ _ _ _ => ts_nil) (fun _ _ _ _ _ => (e_cmp (o_eq (bw_blk B).u64) (vr 8) (vr 6) (nomark _)))) (nomark _)) (ss_one (s_ret (e_lst (a_cons k_str (a_cons k_str a_nil))))) ss_nil)
  (ss_cons (s_if (t_cmp (o_eq B.u64) (vr 4) k_str (nomark _)) (ss_one (s_ret (e_lst (a_cons (vr 4) (a_cons k_str a_nil))))) ss_nil)
  (ss_one (s_ret (e_lst (a_cons (vr 4) (a_cons (e_if (t_cmp (o_in B.u65) (vr 4) (e_lst (a_cons k_str (a_cons k_str (a_cons k_str (a_cons k_str a_nil))))) rfl) (e_cb (b_reprW B) rfl (C.free 32 rfl) bt_repr (a_cons (e_xf C.ex4 (vr 1)) a_nil)) (e_cb (b_reprW B) rfl (C.free 32 rfl) bt_repr (a_cons (e_xf C.ex5 (vr 1)) a_nil))) a_nil)))))))))))))))))
  (ss_one (s_ret (e_lst (a_cons k_str (a_cons (e_cb (b_repr B) rfl (C.free 32 rfl) bt_repr (a_cons (vr 2) a_nil)) a_nil))))))
theorem sc_is_ended_l : FnScope N_is_ended_l ["_law_acts", "_law_due_here"] (defScope st_is_ended_l) := ⟨rfl, rfl, rfl, by decide +kernel, rfl, by decide +kernel, by decide +kernel⟩
theorem us_is_ended_l (C : Kc K mg) (T : TbL mg base) : ∃ fd, FnG P w K mg base 10 (df_is_ended_l.loc K) fd ["_law_acts", "_law_due_here"] (spOf K 2 F_is_ended_l) ∧ PySem.W.keepIn K (.ref (df_is_ended_l.loc K)) = true ∧ Binds K fd ["_law_acts", "_law_due_here"] [] ∧ FnAt K df_is_ended_l fd := by
  obtain ⟨fd0, G0, k0, b0, A0⟩ := us_ended_l (P := P) (w := w) (base := base) C T
  obtain ⟨fd, F⟩ := C.df 12 (d := df_is_ended_l) rfl
  refine ⟨fd, fn_ok F sc_is_ended_l fun cdv A outer s0 H E B => ?_, F.kp, F.bindsN fun _ _ _ _ _ _ us hl => match us, hl with | [_, _], _ => rfl, F⟩
  exact (ss_one (s_ret (e_cmp (o_eq B.u64) (e_lc B.calm sc_is_ended_l.nd (i_val (vr 0)) (own := [("_law_act", 2)]) (blk_ok (by kernel_rfl)) (fun _ _ _ _ _ => (gw_name (i := 2) (by decide) sc_is_ended_l.nd rfl (by first | exact Or.inl rfl | exact Or.inr rfl))) (fun _ _ _ _ _ => ts_nil) (fun _ _ _ _ _ => (e_call (bd_blk B) G0 (by decide) rfl (C.glo 45 rfl) k0 b0 (a_cons (vr 2) a_nil)))) (e_op o_mul (e_lst (a_cons (vr 1) a_nil)) (e_cb b_len rfl (C.free 3 rfl) bt_len (a_cons (vr 0) a_nil))) (nomark _))))
theorem sc_is_row_l : FnScope N_is_row_l ["_law_row_here", "_law_size"] (defScope st_is_row_l) := ⟨rfl, rfl, rfl, by decide +kernel, rfl, by decide +kernel, by decide +kernel⟩
theorem us_is_row_l (C : Kc K mg) (T : TbL mg base) : ∃ fd, FnG P w K mg base 1 (df_is_row_l.loc K) fd ["_law_row_here", "_law_size"] (spOf K 2 F_is_row_l) ∧ PySem.W.keepIn K (.ref (df_is_row_l.loc K)) = true ∧ Binds K fd ["_law_row_here", "_law_size"] [] ∧ FnAt K df_is_row_l fd := by
  obtain ⟨fd, F⟩ := C.df 13 (d := df_is_row_l) rfl
  refine ⟨fd, fn_ok F sc_is_row_l fun cdv A outer s0 H E B => ?_, F.kp, F.bindsN fun _ _ _ _ _ _ us hl => match us, hl with | [_, _], _ => rfl, F⟩
  exact (ss_cons (s_if (PW.pt (w_or (t_not (t_val (e_cb (b_isiZ C.iso) rfl (C.free 10 rfl) bt_isinstance (a_cons (vr 0) (a_cons (g_ty (C.free 11 rfl) bt_tuple) a_nil))))) (w_or1 (t_cmp (o_ne B.u64) (e_cb b_len rfl (C.free 3 rfl) bt_len (a_cons (vr 0) a_nil)) (vr 1) (nomark _))))) (ss_one (s_ret k_bl)) ss_nil)
  (ss_cons (s_for B.hp B.calm (i_val (vr 0)) (g_name (i := 2) sc_is_row_l.nd rfl (by first | exact Or.inl rfl | exact Or.inr rfl)) (ss_one (s_if (PW.pt (w_or (t_not (t_val (e_cb (b_isiZ C.iso) rfl (C.free 10 rfl) bt_isinstance (a_cons (vr 2) (a_cons (g_ty (C.free 12 rfl) bt_int) a_nil))))) (w_or (t_val (e_cb (b_isiZ C.iso) rfl (C.free 10 rfl) bt_isinstance (a_cons (vr 2) (a_cons (g_ty (C.free 13 rfl) bt_bool) a_nil)))) (w_or1 (t_not (t_chain o_le o_le k_int (vr 2) (e_op o_pow k_int k_int))))))) (ss_one (s_ret k_bl)) ss_nil)))
  (ss_one (s_ret (e_cmp o_gt (e_cb (b_sum B.calm) rfl (C.free 17 rfl) bt_sum (a_cons (vr 0) a_nil)) k_int (nomark _))))))
theorem sc_due_l : FnScope N_due_l ["_law_thing", "_law_size"] (defScope st_due_l) := ⟨rfl, rfl, rfl, by decide +kernel, rfl, by decide +kernel, by decide +kernel⟩
theorem us_due_l (C : Kc K mg) (T : TbL mg base) : ∃ fd, FnG P w K mg base 2 (df_due_l.loc K) fd ["_law_thing", "_law_size"] (spOf K 2 F_due_l) ∧ PySem.W.keepIn K (.ref (df_due_l.loc K)) = true ∧ Binds K fd ["_law_thing", "_law_size"] [] ∧ FnAt K df_due_l fd := by
  obtain ⟨fd0, G0, k0, b0, A0⟩ := us_is_row_l (P := P) (w := w) (base := base) C T
  obtain ⟨fd, F⟩ := C.df 14 (d := df_due_l) rfl
  refine ⟨fd, fn_ok F sc_due_l fun cdv A outer s0 H E B => ?_, F.kp, F.bindsN fun _ _ _ _ _ _ us hl => match us, hl with | [_, _], _ => rfl, F⟩
  exact (ss_cons (s_if (PW.pt (w_or (t_not (t_val (e_cb (b_isiZ C.iso) rfl (C.free 10 rfl) bt_isinstance (a_cons (vr 0) (a_cons (g_ty (C.free 11 rfl) bt_tuple) a_nil))))) (w_or1 (t_cmp (o_eqT B.u64) (vr 0) (e_tup a_nil) (nomark _))))) (ss_one (s_ret (e_lst (a_cons k_str (a_cons k_str a_nil))))) ss_nil)
  (ss_cons (s_for B.hp B.calm (j_range1 rfl (C.free 4 rfl) (a_cons (e_cb b_len rfl (C.free 3 rfl) bt_len (a_cons (vr 0) a_nil)) a_nil)) (g_name (i := 2) sc_due_l.nd rfl (by first | exact Or.inl rfl | exact Or.inr rfl)) (ss_cons (s_if (PW.pt (w_or (t_cmp (o_eq B.u64) (vr 2) k_int (nomark _)) (w_or (t_not (t_val (e_cb (b_isiZ C.iso) rfl (C.free 10 rfl) bt_isinstance (a_cons (e_ix x_ix (vr 0) (vr 2) (fun _ _ => rfl)) (a_cons (g_ty (C.free 11 rfl) bt_tuple) a_nil))))) (w_or1 (t_cmp (o_ne B.u64) (e_cb b_len rfl (C.free 3 rfl) bt_len (a_cons (e_ix x_ix (vr 0) (vr 2) (fun _ _ => rfl)) a_nil)) (vr 1) (nomark _)))))) (ss_one (s_ret (e_lst (a_cons k_str (a_cons (e_cb (b_repr B) rfl (C.free 32 rfl) bt_repr (a_cons (vr 2) a_nil)) a_nil))))) ss_nil)
  (ss_one (s_if (t_cmp (o_neN B.u64) (e_lc B.calm sc_due_l.nd (i_val (e_ix x_ix (vr 0) (vr 2) (fun _ _ => rfl))) (own := [("_law_row_here", 3)]) (blk_ok (by kernel_rfl)) (fun _ _ _ _ _ => (gw_name (i := 3) (by decide) sc_due_l.nd rfl (by first | exact Or.inl rfl | exact Or.inr rfl))) (fun _ _ _ _ _ => (ts_one (t_not (t_val (e_call (bd_blk B) G0 (by decide) rfl (C.glo 47 rfl) k0 b0 (a_cons (vr 3) (a_cons (vr 1) a_nil))))))) (fun _ _ _ _ _ => (vr 3))) (e_lst a_nil) (nomark _)) (ss_one (s_ret (e_lst (a_cons k_str (a_cons (e_cb (b_repr B) rfl (C.free 32 rfl) bt_repr (a_cons (vr 2) a_nil)) a_nil))))) ss_nil))))
  (ss_one (s_ret k_non))))
theorem sc_sip_l : FnScope N_sip_l ["_law_jug_here", "_law_most"] (defScope st_sip_l) := ⟨rfl, rfl, rfl, by decide +kernel, rfl, by decide +kernel, by decide +kernel⟩
theorem us_sip_l (C : Kc K mg) (T : TbL mg base) : ∃ fd, FnG P w K mg base 1 (df_sip_l.loc K) fd ["_law_jug_here", "_law_most"] (spOf K 2 F_sip_l) ∧ PySem.W.keepIn K (.ref (df_sip_l.loc K)) = true ∧ Binds K fd ["_law_jug_here", "_law_most"] [] ∧ FnAt K df_sip_l fd := by
  obtain ⟨fd, F⟩ := C.df 15 (d := df_sip_l) rfl
  refine ⟨fd, fn_ok F sc_sip_l fun cdv A outer s0 H E B => ?_, F.kp, F.bindsN fun _ _ _ _ _ _ us hl => match us, hl with | [_, _], _ => rfl, F⟩
  exact (ss_cons (s_if (t_cmp o_gt (e_ix x_ix (vr 0) k_int (fun _ _ => rfl)) k_int (nomark _)) (ss_cons (s_asg (e_cb b_divmod rfl (C.free 49 rfl) bt_divmod (a_cons (e_ix x_ix (vr 0) k_int (fun _ _ => rfl)) (a_cons (vr 1) a_nil))) (g_unp B.calm (gs_cons (g_sub set_ok (vr 0) k_int) (gs_cons (g_name (i := 2) sc_sip_l.nd rfl (by first | exact Or.inl rfl | exact Or.inr rfl)) gs_nil))))
  (ss_one (s_ret (vr 2)))) ss_nil)
  (ss_cons (s_asg (e_op o_add (e_ix x_ix (vr 0) k_int (fun _ _ => rfl)) k_int) (g_sub set_ok (vr 0) k_int))
  (ss_cons (s_asg (e_op o_mod (e_cty b_int rfl (C.free 12 rfl) bt_int (a_cons (e_op o_add (e_op o_mul (e_ix x_ix (vr 0) k_int (fun _ _ => rfl)) k_int) (e_op o_mul k_int (e_ix x_ix (vr 0) k_int (fun _ _ => rfl)))) a_nil)) k_int) (g_sub set_ok (vr 0) k_int))
  (ss_one (s_ret (e_op o_mod (e_cty b_int rfl (C.free 12 rfl) bt_int (a_cons (e_op o_div (e_ix x_ix (vr 0) k_int (fun _ _ => rfl)) k_int) a_nil)) (vr 1)))))))
theorem sc_bent_l : FnScope N_bent_l ["_law_jug_here", "_law_talks"] (defScope st_bent_l) := ⟨rfl, rfl, rfl, by decide +kernel, rfl, by decide +kernel, by decide +kernel⟩
theorem us_bent_l (C : Kc K mg) (T : TbL mg base) : ∃ fd, FnG P w K mg base 2 (df_bent_l.loc K) fd ["_law_jug_here", "_law_talks"] (spOf K 2 F_bent_l) ∧ PySem.W.keepIn K (.ref (df_bent_l.loc K)) = true ∧ Binds K fd ["_law_jug_here", "_law_talks"] [] ∧ FnAt K df_bent_l fd := by
  obtain ⟨fd0, G0, k0, b0, A0⟩ := us_sip_l (P := P) (w := w) (base := base) C T
  obtain ⟨fd, F⟩ := C.df 16 (d := df_bent_l) rfl
  refine ⟨fd, fn_ok F sc_bent_l fun cdv A outer s0 H E B => ?_, F.kp, F.bindsN fun _ _ _ _ _ _ us hl => match us, hl with | [_, _], _ => rfl, F⟩
  exact (ss_cons (s_par (i := 3) (j := 4) B.calm sc_bent_l.nd rfl rfl (by decide) rfl rfl (a_cons (e_call B G0 (by decide) rfl (C.glo 50 rfl) k0 b0 (a_cons (vr 0) (a_cons k_int a_nil))) (a_cons (e_call B G0 (by decide) rfl (C.glo 50 rfl) k0 b0 (a_cons (vr 0) (a_cons (e_cb b_len rfl (C.free 3 rfl) bt_len (a_cons (vr 1) a_nil)) a_nil))) a_nil)) rfl)
  (ss_cons (s_set (i := 2) sc_bent_l.nd rfl (by first | exact Or.inl rfl | exact Or.inr rfl) (e_ix x_ix (vr 1) (vr 4) (fun _ _ => rfl)))
  (ss_cons (s_par (i := 5) (j := 6) B.calm sc_bent_l.nd rfl rfl (by decide) rfl rfl (a_cons (e_call B G0 (by decide) rfl (C.glo 50 rfl) k0 b0 (a_cons (vr 0) (a_cons (e_cb b_len rfl (C.free 3 rfl) bt_len (a_cons (vr 2) a_nil)) a_nil))) (a_cons (e_call B G0 (by decide) rfl (C.glo 50 rfl) k0 b0 (a_cons (vr 0) (a_cons (e_cb b_len rfl (C.free 3 rfl) bt_len (a_cons (vr 2) a_nil)) a_nil))) a_nil)) rfl)
  (ss_cons (s_par (i := 7) (j := 8) B.calm sc_bent_l.nd rfl rfl (by decide) rfl rfl (a_cons (e_ix x_ix (vr 2) (vr 5) (fun _ _ => rfl)) (a_cons (e_lst (a_cons (e_un u_neg k_int) (a_cons (e_op o_add (e_op o_pow k_int k_int) k_int) (a_cons (e_op o_pow k_int k_int) (a_cons k_bl (a_cons k_non (a_cons k_str (a_cons (e_tup (a_cons k_int a_nil)) (a_cons (e_op o_pow k_int k_int) (a_cons k_int (a_cons k_int (a_cons k_int (a_cons k_bl a_nil))))))))))))) a_nil)) rfl)
  (ss_cons (s_if (t_cmp o_lt (vr 3) k_int (nomark _)) (ss_one (s_set (i := 7) sc_bent_l.nd rfl (by first | exact Or.inl rfl | exact Or.inr rfl) (e_op o_add (e_op o_add (e_sl (vr 7) o_none (o_some (vr 6))) (e_tup (a_cons (e_ix x_ix (vr 8) (e_call B G0 (by decide) rfl (C.glo 50 rfl) k0 b0 (a_cons (vr 0) (a_cons k_int a_nil))) (fun _ _ => rfl)) a_nil))) (e_sl (vr 7) (o_some (e_op o_add (vr 6) k_int)) o_none)))) ss_nil)
  (ss_cons (s_if (t_cmp (o_eq B.u64) (vr 3) k_int (nomark _)) (ss_one (s_set (i := 7) sc_bent_l.nd rfl (by first | exact Or.inl rfl | exact Or.inr rfl) (e_ix x_ix (e_lst (a_cons (e_op o_add (vr 7) (e_tup (a_cons k_int a_nil))) (a_cons (e_sl (vr 7) (o_some k_int) o_none) (a_cons (e_cty b_lst rfl (C.free 51 rfl) bt_list (a_cons (vr 7) a_nil)) (a_cons k_non (a_cons (e_op o_mul (e_tup (a_cons k_int a_nil)) (e_cb b_len rfl (C.free 3 rfl) bt_len (a_cons (vr 7) a_nil))) (a_cons (e_tup a_nil) (a_cons k_str (a_cons k_int a_nil))))))))) (e_call B G0 (by decide) rfl (C.glo 50 rfl) k0 b0 (a_cons (vr 0) (a_cons k_int a_nil))) (fun _ _ => rfl)))) ss_nil)
  (ss_cons (s_set (i := 2) sc_bent_l.nd rfl (by first | exact Or.inl rfl | exact Or.inr rfl) (e_op o_add (e_op o_add (e_sl (vr 2) o_none (o_some (vr 5))) (e_tup (a_cons (vr 7) a_nil))) (e_sl (vr 2) (o_some (e_op o_add (vr 5) k_int)) o_none)))
  (ss_cons (s_if (t_cmp (o_eq B.u64) (vr 3) k_int (nomark _)) (ss_one (s_set (i := 2) sc_bent_l.nd rfl (by first | exact Or.inl rfl | exact Or.inr rfl) (e_ix x_ix (e_lst (a_cons (e_op o_add (vr 2) (e_sl (vr 2) o_none (o_some k_int))) (a_cons (e_sl (vr 2) (o_some k_int) o_none) (a_cons (e_cty b_lst rfl (C.free 51 rfl) bt_list (a_cons (vr 2) a_nil)) (a_cons k_non (a_cons (e_tup a_nil) (a_cons (vr 7) (a_cons e_dct0 a_nil)))))))) (e_call B G0 (by decide) rfl (C.glo 50 rfl) k0 b0 (a_cons (vr 0) (a_cons k_int a_nil))) (fun _ _ => rfl)))) ss_nil)
  (ss_cons (s_if (t_cmp (o_eq B.u64) (vr 3) k_int (nomark _)) (ss_one (s_ret (e_ix x_ix (e_lst (a_cons (e_cty b_lst rfl (C.free 51 rfl) bt_list (a_cons (vr 1) a_nil)) (a_cons k_non (a_cons (e_tup a_nil) (a_cons (e_op o_mul (vr 1) k_int) (a_cons (e_ix x_ix (vr 1) k_int (fun _ _ => rfl)) (a_cons k_str (a_cons e_dct0 a_nil)))))))) (e_call B G0 (by decide) rfl (C.glo 50 rfl) k0 b0 (a_cons (vr 0) (a_cons k_int a_nil))) (fun _ _ => rfl)))) ss_nil)
  (ss_one (s_ret (e_op o_add (e_op o_add (e_sl (vr 1) o_none (o_some (vr 4))) (e_tup (a_cons (vr 2) a_nil))) (e_sl (vr 1) (o_some (e_op o_add (vr 4) k_int)) o_none)))))))))))))
theorem sc_row_l : FnScope N_row_l ["_law_jug_here", "_law_size"] (defScope st_row_l) := ⟨rfl, rfl, rfl, by decide +kernel, rfl, by decide +kernel, by decide +kernel⟩
theorem us_row_l (C : Kc K mg) (T : TbL mg base) : ∃ fd, FnG P w K mg base 2 (df_row_l.loc K) fd ["_law_jug_here", "_law_size"] (spOf K 2 F_row_l) ∧ PySem.W.keepIn K (.ref (df_row_l.loc K)) = true ∧ Binds K fd ["_law_jug_here", "_law_size"] [] ∧ FnAt K df_row_l fd := by
  obtain ⟨fd0, G0, k0, b0, A0⟩ := us_sip_l (P := P) (w := w) (base := base) C T
  obtain ⟨fd, F⟩ := C.df 17 (d := df_row_l) rfl
  refine ⟨fd, fn_scop (fn_ok F sc_row_l fun cdv A outer s0 H E B => ?_), F.kp, F.bindsN fun _ _ _ _ _ _ us hl => match us, hl with | [_, _], _ => rfl, F⟩
  exact (ss_cons (s_setLcC (i := 2) B.calm sc_row_l.nd rfl rfl rfl (j_range1 rfl (C.free 4 rfl) (a_cons (vr 1) a_nil)) (own := [("_law_k", 3)]) (blk_ok (by kernel_rfl)) (fun _ _ _ _ _ => (gw_name (i := 3) (by decide) sc_row_l.nd rfl (by first | exact Or.inl rfl | exact Or.inr rfl))) (fun _ _ _ _ _ => ts_nil) (fun _ _ _ _ _ => (e_ix x_ix (e_lst (a_cons k_int (a_cons k_int (a_cons k_int (a_cons k_int (a_cons k_int (a_cons k_int (a_cons k_int a_nil)))))))) (e_call (bd_blk B) G0 (by decide) rfl (C.glo 50 rfl) k0 b0 (a_cons (vr 0) (a_cons k_int a_nil))) (fun _ _ => rfl))))
  (ss_cons (s_if (t_cmp (o_eq B.u64) (e_cb (b_sum B.calm) rfl (C.free 17 rfl) bt_sum (a_cons (vr 2) a_nil)) k_int (nomark _)) (ss_one (s_asg (e_ix x_ix (e_lst (a_cons k_int (a_cons k_int (a_cons (e_op o_pow k_int k_int) a_nil)))) (e_call B G0 (by decide) rfl (C.glo 50 rfl) k0 b0 (a_cons (vr 0) (a_cons k_int a_nil))) (fun _ _ => rfl)) (g_sub set_ok (vr 2) (e_call B G0 (by decide) rfl (C.glo 50 rfl) k0 b0 (a_cons (vr 0) (a_cons (vr 1) a_nil)))))) ss_nil)
  (ss_one (s_ret (e_cty b_tup rfl (C.free 11 rfl) bt_tuple (a_cons (vr 2) a_nil))))))
theorem sc_talk_l : FnScope N_talk_l ["_law_jug_here", "_law_size"] (defScope st_talk_l) := ⟨rfl, rfl, rfl, by decide +kernel, rfl, by decide +kernel, by decide +kernel⟩
theorem us_talk_l (C : Kc K mg) (T : TbL mg base) : ∃ fd, FnG P w K mg base 3 (df_talk_l.loc K) fd ["_law_jug_here", "_law_size"] (spOf K 2 F_talk_l) ∧ PySem.W.keepIn K (.ref (df_talk_l.loc K)) = true ∧ Binds K fd ["_law_jug_here", "_law_size"] [] ∧ FnAt K df_talk_l fd := by
  obtain ⟨fd0, G0, k0, b0, A0⟩ := us_row_l (P := P) (w := w) (base := base) C T
  obtain ⟨fd, F⟩ := C.df 18 (d := df_talk_l) rfl
  refine ⟨fd, fn_ok F sc_talk_l fun cdv A outer s0 H E B => ?_, F.kp, F.bindsN fun _ _ _ _ _ _ us hl => match us, hl with | [_, _], _ => rfl, F⟩
  exact (ss_one (s_ret (e_cty b_tup rfl (C.free 11 rfl) bt_tuple (a_cons (e_lc B.calm sc_talk_l.nd (j_range1 rfl (C.free 4 rfl) (a_cons (vr 1) a_nil)) (own := [("_law_k", 2)]) (blk_ok (by kernel_rfl)) (fun _ _ _ _ _ => (gw_name (i := 2) (by decide) sc_talk_l.nd rfl (by first | exact Or.inl rfl | exact Or.inr rfl))) (fun _ _ _ _ _ => ts_nil) (fun _ _ _ _ _ => (e_call (bd_blk B) G0 (by decide) rfl (C.glo 53 rfl) k0 b0 (a_cons (vr 0) (a_cons (vr 1) a_nil))))) a_nil))))
theorem sc_pair_l : FnScope N_pair_l ["_law_jug_here", "_law_most_here"] (defScope st_pair_l) := ⟨rfl, rfl, rfl, by decide +kernel, rfl, by decide +kernel, by decide +kernel⟩
theorem us_pair_l (C : Kc K mg) (T : TbL mg base) : ∃ fd, FnG P w K mg base 4 (df_pair_l.loc K) fd ["_law_jug_here", "_law_most_here"] (spOf K 2 F_pair_l) ∧ PySem.W.keepIn K (.ref (df_pair_l.loc K)) = true ∧ Binds K fd ["_law_jug_here", "_law_most_here"] [] ∧ FnAt K df_pair_l fd := by
  obtain ⟨fd0, G0, k0, b0, A0⟩ := us_sip_l (P := P) (w := w) (base := base) C T
  obtain ⟨fd1, G1, k1, b1, A1⟩ := us_talk_l (P := P) (w := w) (base := base) C T
  obtain ⟨fd, F⟩ := C.df 19 (d := df_pair_l) rfl
  refine ⟨fd, fn_scop (fn_ok F sc_pair_l fun cdv A outer s0 H E B => ?_), F.kp, F.bindsN fun _ _ _ _ _ _ us hl => match us, hl with | [_, _], _ => rfl, F⟩
  exact (ss_cons (s_set (i := 2) sc_pair_l.nd rfl (by first | exact Or.inl rfl | exact Or.inr rfl) (e_op o_add k_int (e_call B G0 (by decide) rfl (C.glo 50 rfl) k0 b0 (a_cons (vr 0) (a_cons (vr 1) a_nil)))))
  (ss_cons (s_set (i := 3) sc_pair_l.nd rfl (by first | exact Or.inl rfl | exact Or.inr rfl) (e_lstC (a_cons k_str (a_cons k_str (a_cons k_str (a_cons k_str (a_cons k_str (a_cons k_str (a_cons k_str (a_cons k_str a_nil))))))))))
  (ss_cons (s_set (i := 4) sc_pair_l.nd rfl (by first | exact Or.inl rfl | exact Or.inr rfl) (e_lstC a_nil))
  (ss_cons (s_for B.hp B.calm (j_range1 rfl (C.free 4 rfl) (a_cons (vr 2) a_nil)) (g_name (i := 5) sc_pair_l.nd rfl (by first | exact Or.inl rfl | exact Or.inr rfl)) (ss_one (s_expr (e_bm PySem.F.plainAttrs_list PySem.F.slot_list_append PySem.F.type_list_append m_append tv_lst (vr 4) (a_cons (e_bm PySem.F.plainAttrs_list PySem.F.slot_list_pop PySem.F.type_list_pop m_popAt tv_lst (vr 3) (a_cons (e_call B G0 (by decide) rfl (C.glo 50 rfl) k0 b0 (a_cons (vr 0) (a_cons (e_cb b_len rfl (C.free 3 rfl) bt_len (a_cons (vr 3) a_nil)) a_nil))) a_nil)) a_nil)))))
  (ss_one (s_ret (e_lst (a_cons (e_cty b_tup rfl (C.free 11 rfl) bt_tuple (a_cons (vr 4) a_nil)) (a_cons (e_cty b_tup rfl (C.free 11 rfl) bt_tuple (a_cons (e_lc B.calm sc_pair_l.nd (j_range1 rfl (C.free 4 rfl) (a_cons (e_op o_add k_int (e_call B G0 (by decide) rfl (C.glo 50 rfl) k0 b0 (a_cons (vr 0) (a_cons k_int a_nil)))) a_nil)) (own := [("_law_k", 5)]) (blk_ok (by kernel_rfl)) (fun _ _ _ _ _ => (gw_name (i := 5) (by decide) sc_pair_l.nd rfl (by first | exact Or.inl rfl | exact Or.inr rfl))) (fun _ _ _ _ _ => ts_nil) (fun _ _ _ _ _ => (e_call (bd_blk B) G1 (by decide) rfl (C.glo 54 rfl) k1 b1 (a_cons (vr 0) (a_cons (vr 2) a_nil))))) a_nil)) a_nil)))))))))
theorem sc_right_l : FnScope N_right_l ["_law_jug_here"] (defScope st_right_l) := ⟨rfl, rfl, rfl, by decide +kernel, rfl, by decide +kernel, by decide +kernel⟩
theorem us_right_l (C : Kc K mg) (T : TbL mg base) : ∃ fd, FnG P w K mg base 11 (df_right_l.loc K) fd ["_law_jug_here"] (spOf K 1 F_right_l) ∧ PySem.W.keepIn K (.ref (df_right_l.loc K)) = true ∧ Binds K fd ["_law_jug_here"] [] ∧ FnAt K df_right_l fd := by
  obtain ⟨fd0, G0, k0, b0, A0⟩ := us_is_ended_l (P := P) (w := w) (base := base) C T
  obtain ⟨fd1, G1, k1, b1, A1⟩ := us_due_l (P := P) (w := w) (base := base) C T
  obtain ⟨fd2, G2, k2, b2, A2⟩ := us_sip_l (P := P) (w := w) (base := base) C T
  obtain ⟨fd3, G3, k3, b3, A3⟩ := us_bent_l (P := P) (w := w) (base := base) C T
  obtain ⟨fd4, G4, k4, b4, A4⟩ := us_pair_l (P := P) (w := w) (base := base) C T
  obtain ⟨fd, F⟩ := C.df 20 (d := df_right_l) rfl
  refine ⟨fd, fn_okC F C.ex7 sc_right_l fun A outer s0 H E B => ?_, F.kp, F.bindsN fun _ _ _ _ _ _ us hl => match us, hl with | [_], _ => rfl, F⟩
  exact (ss_cons (s_for B.hp B.calm (j_range1 rfl (C.free 4 rfl) (a_cons k_int a_nil)) (g_name (i := 1) sc_right_l.nd rfl (by first | exact Or.inl rfl | exact Or.inr rfl)) (ss_cons (s_asg (e_call B G4 (by decide) rfl (C.glo 55 rfl) k4 b4 (a_cons (vr 0) (a_cons k_int a_nil))) (g_unp B.calm (gs_cons (g_name (i := 5) sc_right_l.nd rfl (by first | exact Or.inl rfl | exact Or.inr rfl)) (gs_cons (g_name (i := 6) sc_right_l.nd rfl (by first | exact Or.inl rfl | exact Or.inr rfl)) gs_nil))))
  (ss_cons (s_set (i := 2) sc_right_l.nd rfl (by first | exact Or.inl rfl | exact Or.inr rfl) (e_call B G3 (by decide) rfl (C.glo 52 rfl) k3 b3 (a_cons (vr 0) (a_cons (vr 6) a_nil))))
  (ss_cons (s_if (PW.pt (w_and (t_val (e_cb (b_isiZ C.iso) rfl (C.free 10 rfl) bt_isinstance (a_cons (vr 2) (a_cons (g_ty (C.free 11 rfl) bt_tuple) a_nil)))) (w_and1 (t_cmp (o_eq B.u64) (e_call B G2 (by decide) rfl (C.glo 50 rfl) k2 b2 (a_cons (vr 0) (a_cons k_int a_nil))) k_int (nomark _))))) (ss_one (s_set (i := 2) sc_right_l.nd rfl (by first | exact Or.inl rfl | exact Or.inr rfl) (e_op o_add (vr 6) (vr 2)))) ss_nil)
  (ss_cons (s_set (i := 3) sc_right_l.nd rfl (by first | exact Or.inl rfl | exact Or.inr rfl) (e_call B G1 (by decide) rfl (C.glo 48 rfl) k1 b1 (a_cons (vr 2) (a_cons (e_cb b_len rfl (C.free 3 rfl) bt_len (a_cons (vr 5) a_nil)) a_nil))))
  (ss_acts (s_acts (i := 4) (L := lam_0) sc_right_l.nd rfl (by first | exact Or.inl rfl | exact Or.inr rfl) (.inl rfl) (T.1 (476, 472) (by decide)) rfl rfl lamS_0 rfl rfl rfl)
  (ss_app (s_app (L := lam_1) rfl (by first | exact Or.inl rfl | exact Or.inr (Or.inl rfl) | exact Or.inr (Or.inr rfl)) (by decide) (by decide) (T.1 (476, 472) (by decide)) rfl rfl lamS_1 rfl (by simp) rfl rfl rfl rfl rfl rfl)
  (ss_oneG (s_ifG (t_notG (t_valG (e_live (cs := [(0, lam_0), (1, lam_1)]) (i := 4) B G0 (by decide) rfl (C.glo 46 rfl) k0 b0 (fun _ => rfl) (cs_cons lok_0 (cs_cons lok_1 cs_nil)) rfl (by first | exact Or.inl rfl | exact Or.inr (Or.inl rfl) | exact Or.inr (Or.inr rfl)) (e_if (t_cmp o_is (vr 3) k_non (nomark _)) (e_lst (a_cons k_str (a_cons (e_cb (b_repr B) rfl (C.free 32 rfl) bt_repr (a_cons (vr 2) a_nil)) a_nil))) (vr 3)) rfl))) (ss_one (s_ret k_bl)) ss_nil)))))))))
  (ss_one (s_ret k_bl)))
theorem sc_quiet_l : FnScope N_quiet_l ["_law_jug_here"] (defScope st_quiet_l) := ⟨rfl, rfl, rfl, by decide +kernel, rfl, by decide +kernel, by decide +kernel⟩
theorem us_quiet_l (C : Kc K mg) (T : TbL mg base) : ∃ fd, FnG P w K mg base 12 (df_quiet_l.loc K) fd ["_law_jug_here"] (spOf K 1 F_quiet_l) ∧ PySem.W.keepIn K (.ref (df_quiet_l.loc K)) = true ∧ Binds K fd ["_law_jug_here"] [] ∧ FnAt K df_quiet_l fd := by
  obtain ⟨fd0, G0, k0, b0, A0⟩ := us_right_l (P := P) (w := w) (base := base) C T
  obtain ⟨fd, F⟩ := C.df 21 (d := df_quiet_l) rfl
  refine ⟨fd, fn_ok F sc_quiet_l fun cdv A outer s0 H E B => ?_, F.kp, F.bindsN fun _ _ _ _ _ _ us hl => match us, hl with | [_], _ => rfl, F⟩
  exact (ss_cons (s_tryQ (ss_one (s_set (i := 1) sc_quiet_l.nd rfl (by first | exact Or.inl rfl | exact Or.inr rfl) (e_call (bd_nox B) G0 (by decide) rfl (C.glo 56 rfl) k0 b0 (a_cons (vr 0) a_nil)))))
  (ss_one (s_ret (vr 1))))
theorem sc_jug_l : FnScope N_jug_l ["_law_script", "_law_at"] (defScope st_jug_l) := ⟨rfl, rfl, rfl, by decide +kernel, rfl, by decide +kernel, by decide +kernel⟩
theorem us_jug_l (C : Kc K mg) (T : TbL mg base) : ∃ fd, FnG P w K mg base 1 (df_jug_l.loc K) fd ["_law_script", "_law_at"] (spOf K 2 F_jug_l) ∧ PySem.W.keepIn K (.ref (df_jug_l.loc K)) = true ∧ Binds K fd ["_law_script", "_law_at"] [] ∧ FnAt K df_jug_l fd := by
  obtain ⟨fd, F⟩ := C.df 22 (d := df_jug_l) rfl
  refine ⟨fd, fn_ok F sc_jug_l fun cdv A outer s0 H E B => ?_, F.kp, F.bindsN fun _ _ _ _ _ _ us hl => match us, hl with | [_, _], _ => rfl, F⟩
  exact (ss_cons (s_set (i := 2) sc_jug_l.nd rfl (by first | exact Or.inl rfl | exact Or.inr rfl) (e_if (t_cmp o_lt (vr 1) (e_cb b_len rfl (C.free 3 rfl) bt_len (a_cons (vr 0) a_nil)) (nomark _)) (e_ix x_ix (vr 0) (vr 1) (fun _ _ => rfl)) (e_op o_add (e_op o_mul k_int (vr 1)) k_int)))
  (ss_cons (s_set (i := 3) sc_jug_l.nd rfl (by first | exact Or.inl rfl | exact Or.inr rfl) (e_op o_add k_int (e_op o_mul k_int (vr 1))))
  (ss_cons (s_for B.hp B.calm (i_val (e_op o_add (e_lst (a_cons (vr 2) a_nil)) (e_sl (vr 0) o_none (o_some k_int)))) (g_name (i := 4) sc_jug_l.nd rfl (by first | exact Or.inl rfl | exact Or.inr rfl)) (ss_one (s_set (i := 3) sc_jug_l.nd rfl (by first | exact Or.inl rfl | exact Or.inr rfl) (e_op o_mod (e_cty b_int rfl (C.free 12 rfl) bt_int (a_cons (e_op o_add (e_op o_mul (vr 3) k_int) (vr 4)) a_nil)) k_int))))
  (ss_one (s_ret (e_lstC (a_cons (e_if (t_cmp o_ge (e_cb b_abs rfl (C.free 58 rfl) bt_abs (a_cons (vr 2) a_nil)) (e_op o_pow k_int k_int) (nomark _)) (e_cb b_abs rfl (C.free 58 rfl) bt_abs (a_cons (vr 2) a_nil)) k_int) (a_cons (vr 3) (a_cons k_int a_nil)))))))))
theorem sc_law : FnScope N_law ["_law_script"] (defScope st_law) := ⟨rfl, rfl, rfl, by decide +kernel, rfl, by decide +kernel, by decide +kernel⟩
theorem us_law (C : Kc K mg) (T : TbL mg base) : ∃ fd, FnG P w K mg base 13 (df_law.loc K) fd ["_law_script"] (spOf K 1 F_law) ∧ PySem.W.keepIn K (.ref (df_law.loc K)) = true ∧ Binds K fd ["_law_script"] [] ∧ FnAt K df_law fd := by
  obtain ⟨fd0, G0, k0, b0, A0⟩ := us_quiet_l (P := P) (w := w) (base := base) C T
  obtain ⟨fd1, G1, k1, b1, A1⟩ := us_jug_l (P := P) (w := w) (base := base) C T
  obtain ⟨fd, F⟩ := C.df 23 (d := df_law) rfl
  refine ⟨fd, fn_ok F sc_law fun cdv A outer s0 H E B => ?_, F.kp, F.bindsN fun _ _ _ _ _ _ us hl => match us, hl with | [_], _ => rfl, F⟩
  exact (ss_one (s_ret (e_cb (b_all B.calm) rfl (C.free 0 rfl) bt_all (a_cons (e_lc B.calm sc_law.nd (j_range1 rfl (C.free 4 rfl) (a_cons (e_cb (b_max2 B.calm) rfl (C.free 1 rfl) bt_max (a_cons k_int (a_cons (e_cb (b_min2 B.calm) rfl (C.free 2 rfl) bt_min (a_cons (e_cb b_len rfl (C.free 3 rfl) bt_len (a_cons (vr 0) a_nil)) (a_cons k_int a_nil))) a_nil))) a_nil)) (own := [("_law_at", 1)]) (blk_ok (by kernel_rfl)) (fun _ _ _ _ _ => (gw_name (i := 1) (by decide) sc_law.nd rfl (by first | exact Or.inl rfl | exact Or.inr rfl))) (fun _ _ _ _ _ => ts_nil) (fun _ _ _ _ _ => (e_call (bd_blk B) G0 (by decide) rfl (C.glo 57 rfl) k0 b0 (a_cons (e_call (bd_blk B) G1 (by decide) rfl (C.glo 59 rfl) k1 b1 (a_cons (vr 0) (a_cons (vr 1) a_nil))) a_nil)))) a_nil))))
end
end Ag.k04

namespace Ag.k04
open PySem PySem.Spec PyProof.Rows L2
theorem fin {P : Program} {w : World} {K : PySem.W.Frag} {h : Heap} {mg : Str → Option Value} {f : Addr} (X : K.In h) (G : h.Ns mainGlobals mg) (hf : mg ("law" : Str) = some (.ref f)) (c : Told fa fn ex K) (t : ToldT tabsL K h) :
    ∃ (Kf : PySem.W.Frag) (cs : List (Addr × Addr)) (fd : FuncData) (pr : Sp), Kf.In h ∧ (∀ p ∈ cs, h.get? p.2 = some { cls := .none, data := .fields #[] }) ∧ (∀ p ∈ cs, Kf.lookup p.2 = none) ∧ (∀ p ∈ cs, PySem.W.CodeHd h p.1 p.2) ∧ (∀ (s : Shared) (u : Value), BindsTo s fd ⟨[u], []⟩ [("_law_script", u)]) ∧
      (∀ (A : Hp) (a : Addr) (ns : List Int), ns.length ≤ 63 → (∀ p ∈ cs, A p.2 = some (.tbl #[])) → (∀ c, A c = none ∨ c ∈ cs.map (·.2) ∨ ∃ o xs, A c = some (.frz o (.lst xs))) → SqL Kf A a (ns.map V.int) → pr [.ref a] A (fun v _ => v = .bl true) fun _ _ _ => False) ∧
      ∀ low : Heap, Kf.In low → low.Ns mainGlobals mg → (∀ p ∈ cs, LamX.TabB low mg p.1 p.2) → low.NoDigits → FnG P w Kf mg low 13 f fd ["_law_script"] pr := by
  have C := kc_of (kn_of X G c)
  have e := hf.symm.trans (He.glo_ok X G (c.fa (.glo "law") (by simp [fa])))
  cases e
  obtain ⟨fd, F⟩ := C.df 23 (d := df_law) rfl
  have b := FunD.bindsA (ps := ["_law_script"]) F fun _ _ _ _ _ _ us hl => match us, hl with | [_], _ => rfl
  refine ⟨K, tabsL, fd, spOf K 1 F_law, X, t.tab, t.out, t.code, fun s v => b s [v] rfl, fun A a ns hl ho only sq => law_spT (ts := tabs3.map fun t : Addr × Addr × Str => (t.2.1, t.2.2)) (by decide) law_good hl (fun p hp => ?_) (fun c => only c) sq, fun low KL GL TB ND => ?_⟩
  · obtain ⟨x, hx, rfl⟩ := List.mem_map.mp hp
    exact ho (x.1, x.2.1) (List.mem_map.mpr ⟨x, hx, rfl⟩)
  obtain ⟨fd2, G2, _, _, A2⟩ := us_law (P := P) (w := w) (base := low) C ⟨TB, ND⟩
  exact same_fd A2 F ▸ G2
end Ag.k04
open PySem PySem.W PySem.Calls PyProof.Rows
theorem PySem.Challenge.cw_alwaysagree_k04_ways_refused_holds : PySem.Challenge.rw_alwaysagree_k04_ways_refused.Holds := by
  w_on; o_law
  refine HandSHeadRun.head_any (r := OpenLaw.row PySem.Challenge.rw_alwaysagree_k04_ways_refused) (q := view (OpenLaw.row PySem.Challenge.rw_alwaysagree_k04_ways_refused).prog [50]) (H := Ag.k04.hk) (ob := Ag.k04.ob) (M := 20000) (loose := Ag.k04.loose) (d := HandSHeadRun.topDef (OpenLaw.row PySem.Challenge.rw_alwaysagree_k04_ways_refused).prog 50) (kwd := [])
    Ag.k04.ob_eq (by kernel_rfl) (fun s => by kernel_rfl) Ag.k04.run (by kernel_rfl) (by kernel_rfl) (by kernel_rfl) (by rfl) (by first | assumption | decide +kernel) (by decide +kernel) ⟨rfl, rfl, rfl, rfl, rfl, by decide +kernel⟩ ?hw ?hc
  case hw => w_witness2
  case hc =>
    refine Ag.walk_GT (l := PySem.Challenge.rw_alwaysagree_k04_ways_refused) (n := 63) (lv := 13) (par := "_law_script") rfl (by decide) (by kernel_rfl) ⟨rfl, by decide, by decide⟩ ?F
    intro w mg fa h Y G hmg0
    obtain ⟨K, KX, c, t⟩ := Y
    have hmg : mg ("law" : PySem.Str) = some (.ref fa) := by
      have e : (HandSHeadRun.topDef (OpenLaw.row PySem.Challenge.rw_alwaysagree_k04_ways_refused).prog 50).name = ("law" : PySem.Str) := by kernel_rfl
      rw [← e]
      exact hmg0
    exact Ag.k04.fin KX G hmg c t
