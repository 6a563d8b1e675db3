import PyProof.Rows.All
import Wide.All
import OpenK.AllK
import Wide.FinOn
import HandS.ForMost
import HandS.ForExc
import HandS.Walk
import HandS.HeadHook4
import KE.KDictKeyed
import HandS.NoneIn
import HandS.Property
import HandS.MakeKwOnly
import HandS.ClsMeth
import HandS.Wide
import HandS.IsInst
import HandS.TupAny
import HandS.TupMul
import HandS.Deep
import HandS.RaiseMore
import KE.KTupSum
import HandS.Zip
import KE.GoesEnum
import KE.GoesMore
import KE.KTurns
import HandS.Style
import KE.KStateDown
import HandS.Head0
import HandS.Head1
import HandS.Head2
import HandS.HeadEnd
import HandS.Words
import HandS.Strs
import HandS.Conv
import KE.KDictWalk
import KE.DataMinMax
import KE.KDictList
import KE.KDictCopyH
import HandS.SetFor
import HandS.SetBool
import HandS.TupSets
import KE.KDictDisplayH
import KE.SortData
import KE.KCallOwn
import PyProof.InstNe
import HandS.Text
import KE.KIntText
import PyProof.Conv_bool
import PyProof.StrLawsRepr
import PySem.Challenge.RW_alwaysagree_k02_councils_made
set_option Elab.async false
set_option linter.all false
set_option maxRecDepth 100000
set_option maxHeartbeats 0
namespace Ag
open PySem PySem.Spec PyProof.Rows L2
/-! ### keys: whole numbers, tuples of them, tuples of such tuples -/
mutual
def hashI : NestedKey → Int
  | .num i => hashInt i
  | .tup ks => reduceHash (Builtin.Tuple.tupleHashOf (hashIs ks))
  | _ => 0
def hashIs : List NestedKey → List Int
  | [] => []
  | k :: ks => hashI k :: hashIs ks
end
mutual
def numK : NestedKey → Bool
  | .num _ => true
  | .tup ks => numKs ks
  | _ => false
def numKs : List NestedKey → Bool
  | [] => true
  | k :: ks => numK k && numKs ks
end
mutual
theorem hash_num (w : World) : ∀ k : NestedKey, numK k = true → k.hash w = hashI k
  | .num i, _ => rfl
  | .tup ks, h => by
    simp only [NestedKey.hash, hashI]
    rw [hash_nums w ks (by simpa only [numK] using h)]
  | .none, h => by simp [numK] at h
  | .text _, h => by simp [numK] at h
theorem hash_nums (w : World) : ∀ ks : List NestedKey, numKs ks = true → NestedKey.hashes w ks = hashIs ks
  | [], _ => rfl
  | k :: ks, h => by
    have h := Bool.and_eq_true_iff.mp (show (numK k && numKs ks) = true from h)
    simp only [NestedKey.hashes, hashIs]
    rw [hash_num w k h.1, hash_nums w ks h.2]
end
mutual
/-- the key k stands at v -/
inductive KeyH (K : PySem.W.Frag) (H : Hp) : NestedKey → V → Prop
  | num (i : Int) : KeyH K H (.num i) (.int i)
  | tup {a : Addr} {vs : List V} {ks : List NestedKey} : SqT K H a vs → KeyHs K H ks vs → KeyH K H (.tup ks) (.ref a)
inductive KeyHs (K : PySem.W.Frag) (H : Hp) : List NestedKey → List V → Prop
  | nil : KeyHs K H [] []
  | cons {k : NestedKey} {v : V} {ks : List NestedKey} {vs : List V} : KeyH K H k v → KeyHs K H ks vs → KeyHs K H (k :: ks) (v :: vs)
end
section
variable {X : Cx} {pins : List (Addr × Obj)} {σ : L2.St} {H : Hp} {s : Shared}
mutual
theorem key_is (I : L2.Inv X pins σ H s) : ∀ {k : NestedKey} {v : V} {u : Value}, KeyH X.K H k v → RelV v u → NestedIs s.heap k u
  | _, _, _, .num i, r => by
    obtain ⟨t, rfl⟩ := r
    exact .int i t
  | _, _, _, .tup (a := a) h g, r => by
    cases r
    obtain ⟨its, rv, ⟨o, ho, hc, n, hd⟩, _⟩ := I.tuple h
    exact .tup ho hc hd (by simpa using keys_are I g rv)
theorem keys_are (I : L2.Inv X pins σ H s) : ∀ {ks : List NestedKey} {vs : List V} {us : List Value}, KeyHs X.K H ks vs → Vals vs us → NestedAll s.heap ks us
  | _, _, _, .nil, .nil => .nil
  | _, _, _, .cons h g, .cons r q => .cons (key_is I h r) (keys_are I g q)
end
/-- the entries of the dict at a -/
def dicP (a : Addr) (o : Obj) (xs : List (NestedKey × Addr × Value)) (h : Heap) : Prop := (a == sysModules) = false ∧ h.get? a = some o ∧ ∃ es ep, o.ExactDict ∧ o.data = .dict es ep ∧ es.toList = xs.map fun x => (⟨hashI x.1, .ref x.2.1, x.2.2⟩ : DictEntry)
def DicO (a : Addr) (o : Obj) (xs : List (NestedKey × Addr × Value)) : HO := .ext (dicP a o xs)
theorem dicO_new {P : Program} {w : World} {h : Heap} {a : Addr} {o : Obj} {xs : List (NestedKey × Addr × Value)} (R : dicP a o xs h) : ObjOk P w H h a (DicO a o xs) := by
  exact ⟨R, ⟨o, R.2.1⟩, fun h1 h2 p k => ⟨p.1, k o p.2.1, p.2.2⟩⟩
/-- what stands of the keys of a dict -/
structure Keyed (K : PySem.W.Frag) (H : Hp) (xs : List (NestedKey × Addr × Value)) : Prop where
  key : ∀ x ∈ xs, KeyH K H x.1 (.ref x.2.1) ∧ numK x.1 = true ∧ x.1.depth ≤ 8
  nd : (xs.map (·.1)).Nodup
theorem dic_get (I : L2.Inv X pins σ H s) {a : Addr} {o : Obj} {xs : List (NestedKey × Addr × Value)} (ha : H a = some (DicO a o xs)) (hk : Keyed X.K H xs) : (a == sysModules) = false ∧ s.heap.DictOfH (nestedKind X.prog X.w) a xs := by
  obtain ⟨h0, ho, es, ep, hx, hd, he⟩ := (I.hok a _ ha).1
  refine ⟨h0, o, es, ep, ho, hx, hd, ?_, fun x hxm => ⟨key_is I (hk.key x hxm).1 rfl, (hk.key x hxm).2.2⟩, hk.nd⟩
  rw [he]
  refine List.map_congr_left fun x hxm => ?_
  show _ = (⟨x.1.hash X.w, .ref x.2.1, x.2.2⟩ : DictEntry)
  rw [hash_num X.w x.1 (hk.key x hxm).2.1]
theorem dic_put {P : Program} {w : World} {h : Heap} {a : Addr} {xs : List (NestedKey × Addr × Value)} (h0 : (a == sysModules) = false) (R : h.DictOfH (nestedKind P w) a xs) (hn : ∀ x ∈ xs, numK x.1 = true) : ∃ o, dicP a o xs h := by
  obtain ⟨o, es, ep, ho, hx, hd, he, _⟩ := R
  refine ⟨o, h0, ho, es, ep, hx, hd, ?_⟩
  rw [he]
  refine List.map_congr_left fun x hxm => ?_
  show (⟨x.1.hash w, .ref x.2.1, x.2.2⟩ : DictEntry) = _
  rw [hash_num w x.1 (hn x hxm)]
/-- k in d -/
def rDIn (K : PySem.W.Frag) (neg : Bool) : V → V → Hp → VK → Prop := fun x y H Q => ∃ (k : NestedKey) (b a : Addr) (o : Obj) (xs : List (NestedKey × Addr × Value)), x = .ref b ∧ y = .ref a ∧ H a = some (DicO a o xs) ∧ Keyed K H xs ∧ KeyH K H k (.ref b) ∧ k.depth ≤ 8 ∧ Q (.bl (if neg then !(atKey xs k).isSome else (atKey xs k).isSome)) H
theorem o_dIn (hu : X.A.units + 64 < cLine) : OpR X (compareOp .In) (rDIn X.K false) := by
  intro pins s σ H x y v u Q I rx ry h
  obtain ⟨k, b, a, o, xs, rfl, rfl, ha, hk, hb, hd, q⟩ := h
  cases rx; cases ry
  obtain ⟨h0, R⟩ := dic_get I ha hk
  exact wpAny_in_heap (knd := nestedKind X.prog X.w) (by show X.A.in1.units + 8 < cLine; show X.A.units + 1 + 8 < cLine; omega) ⟨key_is I hb rfl, hd⟩ h0 R ⟨.bl (atKey xs k).isSome, H, I.tok _, rfl, q⟩
theorem room8 (hu : X.A.units + 64 < cLine) : (nestedKind X.prog X.w).room X.A.in1 := by
  show X.A.units + 1 + 8 < cLine
  omega
theorem o_dNotIn (hu : X.A.units + 64 < cLine) : OpR X (compareOp .NotIn) (rDIn X.K true) := by
  intro pins s σ H x y v u Q I rx ry h
  obtain ⟨k, b, a, o, xs, rfl, rfl, ha, hk, hb, hd, q⟩ := h
  cases rx; cases ry
  obtain ⟨h0, R⟩ := dic_get I ha hk
  refine notIn_keyed (room8 hu) ⟨key_is I hb rfl, hd⟩ h0 ⟨xs, R, rfl⟩ ?_
  rw [valueAt_pairsH, Option.isSome_map]
  exact ⟨.bl (!(atKey xs k).isSome), H, I.tok _, rfl, q⟩
/-- d[k] -/
def rDIx (K : PySem.W.Frag) : R2 := fun x y H Q => ∃ (k : NestedKey) (b a : Addr) (o : Obj) (xs : List (NestedKey × Addr × Value)) (p : Addr × Value) (v : V), x = .ref a ∧ y = .ref b ∧ H a = some (DicO a o xs) ∧ Keyed K H xs ∧ KeyH K H k (.ref b) ∧ k.depth ≤ 8 ∧ atKey xs k = some p ∧ RelV v p.2 ∧ Q v H
theorem ix_dic (hu : X.A.units + 64 < cLine) : IxR X (rDIx X.K) := by
  intro value slice pins s σ H x y v u Q I rx ry h hs
  obtain ⟨k, b, a, o, xs, p, r, rfl, rfl, ha, hk, hb, hd, hp, hv, q⟩ := h
  cases rx; cases ry
  obtain ⟨h0, R⟩ := dic_get I ha hk
  exact tail_any R.typeIs slot_dict_getitem.lookup (wpAny_getItem_heap (room8 hu) ⟨key_is I hb rfl, hd⟩ R hp ⟨r, H, I.tok _, hv, q⟩) hs
/-- d[k] = v -/
def rDSet (K : PySem.W.Frag) : TSet := fun o i v H Q => ∃ (k : NestedKey) (b a : Addr) (ob : Obj) (xs : List (NestedKey × Addr × Value)), o = .ref a ∧ i = .ref b ∧ H a = some (DicO a ob xs) ∧ Keyed K H xs ∧ KeyH K H k (.ref b) ∧ numK k = true ∧ k.depth ≤ 8 ∧ xs.length ≤ sizeLine ∧ ∀ u ob, RelV v u → Q (upd H a (DicO a ob (storedH xs k b u)))
theorem stored_num {xs : List (NestedKey × Addr × Value)} {k : NestedKey} {b : Addr} {u : Value} (h : ∀ x ∈ xs, numK x.1 = true) (hk : numK k = true) : ∀ x ∈ storedH xs k b u, numK x.1 = true := by
  intro x hx
  unfold storedH at hx
  split at hx
  · obtain ⟨y, hy, rfl⟩ := List.mem_map.mp hx
    unfold putAt
    split <;> exact h y hy
  · rcases List.mem_append.mp hx with hx | hx
    · exact h x hx
    · have : x = (k, b, u) := by simpa using hx
      rw [this]; exact hk
theorem set_dic (hu : X.A.units + 64 < cLine) : PSet X (rDSet X.K) := by
  intro pins s σ H o i v ov iv u Q I ro ri rv h
  obtain ⟨k, b, a, ob, xs, rfl, rfl, ha, hk, hb, hn, hd, hl, q⟩ := h
  cases ro; cases ri
  obtain ⟨h0, R⟩ := dic_get I ha hk
  refine wpAny_setItem_heap (room8 hu) ⟨key_is I hb rfl, hd⟩ R (fun h' R' sb => ?_) hl
  obtain ⟨o2, R2⟩ := dic_put h0 R' (stored_num (fun x hx => (hk.key x hx).2.1) hn)
  exact ⟨upd H a (DicO a o2 (storedH xs k b u)), I.write (e := a) (by rw [ha]; trivial) (.inl rfl) (fun c z hc hz => (sb.2 c hc).trans hz) ⟨o2, R2.2.1⟩ (dicO_new R2), q u o2 rv⟩
/-- {} -/
def tDNew : TE := fun _ H Q => ∀ p o, H p = none → Q (.ref p) (upd H p (DicO p o []))
theorem pe_dnew {pos : Pos} : PE X (.Dict [] [] pos) tDNew := ⟨fun pins s σ H Q I h => by
  have R : dicP s.heap.objs.size { cls := .type "dict", data := .dict #[] } [] (s.heap.push { cls := .type "dict", data := .dict #[] }) := ⟨beq_eq_false_iff_ne.mpr (Ne.symm (Nat.ne_of_lt I.big)), Heap.get?_push_size _ rfl, #[], 0, ⟨rfl, rfl, rfl⟩, rfl, rfl⟩
  exact wpAny_Dict_empty ⟨.ref s.heap.objs.size, _, I.laid (t' := s.toks) (fun _ _ q => Heap.get?_push_of_some _ q) (Nat.le_refl _) (dicO_new R), rfl, h _ _ (I.hok.fresh (Nat.le_refl _))⟩⟩
/-- len(d) -/
theorem len_dic : CallR X (.builtin "len") (fun vs H Q => ∃ (a : Addr) (o : Obj) (xs : List (NestedKey × Addr × Value)), vs = [.ref a] ∧ H a = some (DicO a o xs) ∧ Keyed X.K H xs ∧ xs.length ≤ sizeLine ∧ Q (.int xs.length) H) := by
  intro pins s σ H vs us Q I r h
  obtain ⟨a, o, xs, rfl, ha, hk, hl, q⟩ := h
  rw [Vals.ref1 r]
  obtain ⟨h0, R⟩ := dic_get I ha hk
  have hz : (pairsH xs).length = xs.length := pairsH_length xs
  refine PyProof.Rows.call_len_slot (n := ((pairsH xs).length : Nat)) R.typeIs F.slot_dict_len (fun Q' hq => len_keyed h0 ⟨xs, R, rfl⟩ hq) (by omega) (by rw [sizeLine_eq] at hl; omega) ?_
  exact ⟨.int xs.length, H, I.tok _, ⟨_, by rw [hz]⟩, q⟩
end
end Ag

/-! Ag: plain data D, a store of cells, and how they stand in the layer's abstract heap. -/
namespace Ag
open PySem L2

inductive D where
  | non | bl (b : Bool) | int (i : Int) | str (x : Str) | ty (n : String) | gl (x : Str)
  | tup (l : List D) | lst (l : List D) | scr (l : List D) | ref (i : Nat) | obj (c : Str) (ns : List Str) (l : List D) | dct (l : List D)

inductive Ob where
  | lst (l : List D) | ins (c : Str) (ns : List Str) (l : List D) | dic (l : List D)
abbrev Sto := List Ob
abbrev En := List (Option D)

def D.isS : D → Bool
  | .str _ => true
  | _ => false
/-- a tuple of texts, one at least: its methods may be called -/
def names : List D → Bool
  | [] => false
  | l => l.all D.isS
def NoD (H : Hp) (a : Addr) : Prop := ∃ o u, H a = some (.frz o u) ∧ o.dict = none
def optK (f : D → Option NestedKey) : List D → Option (List NestedKey)
  | [] => some []
  | d :: l => (f d).bind fun k => (optK f l).map (k :: ·)
/-- a key of a dict -/
def keyF : Nat → D → Option NestedKey
  | _, .int i => some (.num i)
  | f + 1, .tup l => (optK (keyF f) l).map .tup
  | _, _ => none
def keyD (d : D) : Option NestedKey := keyF 4 d
/-- the cells' addresses, and addresses that no value may name -/
structure Mp where
  c : List Addr
  h : List Addr
def Off (m : Mp) (a : Addr) : Prop := a ∉ m.c ∧ a ∉ m.h
section
variable (K : PySem.W.Frag)
mutual
inductive Rep (m : Mp) (H : Hp) : V → D → Prop
  | non : Rep m H .non .non
  | bl (b : Bool) : Rep m H (.bl b) (.bl b)
  | int (i : Int) : Rep m H (.int i) (.int i)
  | str (x : Str) : Rep m H (.str x) (.str x)
  | ty (n : String) : Rep m H (.ty n) (.ty n)
  | gl (x : Str) : Rep m H (.ref (He.ga K x)) (.gl x)
  | tup {a : Addr} {xs : List V} {ds : List D} : SqT K H a xs → (names ds = true → NoD H a) → Reps m H xs ds → Rep m H (.ref a) (.tup ds)
  | lst {a : Addr} {xs : List V} {ds : List D} : H a = some (.lst xs) → Off m a → Reps m H xs ds → Rep m H (.ref a) (.lst ds)
  | scr {a : Addr} {xs : List V} {ds : List D} : ((∃ o, H a = some (.frz o (.lst xs))) ∨ ∀ H', SqL K H' a xs) → Reps m H xs ds → Rep m H (.ref a) (.scr ds)
  | ref {a : Addr} {i : Nat} : m.c[i]? = some a → Rep m H (.ref a) (.ref i)
  | obj {a dx : Addr} {c : Str} {fs : List (Str × V)} {ns : List Str} {ds : List D} : H a = some (.ins (He.ga K c) dx fs) → Off m a → fs.map (·.1) = ns → Reps m H (fs.map (·.2)) ds → Rep m H (.ref a) (.obj c ns ds)
  | dct {a : Addr} {o : Obj} {l : List D} {xs : List (NestedKey × Addr × Value)} : H a = some (DicO a o xs) → Off m a → DicR m H l xs → (xs.map (·.1)).Nodup → Rep m H (.ref a) (.dct l)
/-- keys and values by turns, and the entries of a dict -/
inductive DicR (m : Mp) (H : Hp) : List D → List (NestedKey × Addr × Value) → Prop
  | nil : DicR m H [] []
  | cons {kd vd : D} {k : NestedKey} {b : Addr} {u : Value} {v : V} {l : List D} {xs : List (NestedKey × Addr × Value)} : keyD kd = some k → Rep m H (.ref b) kd → RelV v u → Rep m H v vd → DicR m H l xs → DicR m H (kd :: vd :: l) ((k, b, u) :: xs)
inductive Reps (m : Mp) (H : Hp) : List V → List D → Prop
  | nil : Reps m H [] []
  | cons {v : V} {vs : List V} {d : D} {ds : List D} : Rep m H v d → Reps m H vs ds → Reps m H (v :: vs) (d :: ds)
end

def ObR (m : Mp) (H : Hp) (a : Addr) : Ob → Prop
  | .dic l => ∃ o xs, H a = some (DicO a o xs) ∧ DicR K m H l xs ∧ (xs.map (·.1)).Nodup
  | .lst ds => ∃ vs, H a = some (.lst vs) ∧ Reps K m H vs ds
  | .ins c ns ds => ∃ dx fs, H a = some (.ins (He.ga K c) dx fs) ∧ fs.map (·.1) = ns ∧ Reps K m H (fs.map (·.2)) ds

structure Sim (m : Mp) (S : Sto) (H : Hp) : Prop where
  len : m.c.length = S.length
  nd : m.c.Nodup
  cell : ∀ (i : Nat) (a : Addr) (o : Ob), m.c[i]? = some a → S[i]? = some o → ObR K m H a o
  hid : ∀ a ∈ m.h, ∃ o, H a = some o
  dis : ∀ a ∈ m.c, a ∉ m.h
end

structure Tr (m : Mp) (H : Hp) (m' : Mp) (H' : Hp) : Prop where
  pre : ∃ ex, m'.c = m.c ++ ex ∧ ∀ a ∈ ex, H a = none ∨ a ∈ m.h
  hid : ∀ a ∈ m'.h, a ∈ m.h ∨ H a = none
  keep : ∀ a o, H a = some o → Off m a → H' a = some o
  tup : ∀ a xs, H a = some (.tup xs) → H' a = some (.tup xs)
  frz : ∀ a o u, H a = some (.frz o u) → H' a = some (.frz o u)
structure Ext (m : Mp) (H : Hp) (m' : Mp) (H' : Hp) : Prop where
  pre : ∃ ex, m'.c = m.c ++ ex ∧ ∀ a ∈ ex, H a = none
  hs : m'.h = m.h
  trk : ∀ a o, H a = some o → ∃ o', H' a = some o'
  keep : ∀ a o, H a = some o → a ∉ m.c → H' a = some o
  tup : ∀ a xs, H a = some (.tup xs) → H' a = some (.tup xs)
  frz : ∀ a o u, H a = some (.frz o u) → H' a = some (.frz o u)
theorem Ext.tr {m m' : Mp} {H H' : Hp} (e : Ext m H m' H') : Tr m H m' H' := ⟨let ⟨ex, h1, h2⟩ := e.pre; ⟨ex, h1, fun a ha => .inl (h2 a ha)⟩, fun a h => .inl (by rw [← e.hs]; exact h), fun a o h n => e.keep a o h n.1, e.tup, e.frz⟩
theorem Ext.refl {m : Mp} {H : Hp} : Ext m H m H := ⟨⟨[], by simp, by simp⟩, rfl, fun _ o h => ⟨o, h⟩, fun _ _ h _ => h, fun _ _ h => h, fun _ _ _ h => h⟩
theorem Ext.memc {m m' : Mp} {H H' : Hp} (e : Ext m H m' H') {a : Addr} {o : HO} (h : H a = some o) (n : a ∉ m.c) : a ∉ m'.c := by
  obtain ⟨ex, e1, hx⟩ := e.pre
  rw [e1]
  intro hm
  rcases List.mem_append.mp hm with h1 | h1
  · exact n h1
  · rw [hx a h1] at h; cases h
theorem Tr.mem {m m' : Mp} {H H' : Hp} (e : Tr m H m' H') {a : Addr} {o : HO} (h : H a = some o) (n : Off m a) : Off m' a := by
  obtain ⟨ex, e1, hx⟩ := e.pre
  refine ⟨?_, fun hm => ?_⟩
  · rw [e1]
    intro hm
    rcases List.mem_append.mp hm with h1 | h1
    · exact n.1 h1
    · rcases hx a h1 with h2 | h2
      · rw [h2] at h; cases h
      · exact n.2 h2
  · rcases e.hid a hm with h1 | h1
    · exact n.2 h1
    · rw [h1] at h; cases h
theorem pre_at {m m' : Mp} {ex : List Addr} (e : m'.c = m.c ++ ex) {a : Addr} {i : Nat} (h : m.c[i]? = some a) : m'.c[i]? = some a := by
  rw [e, List.getElem?_append_left (List.getElem?_eq_some_iff.mp h).1]
  exact h
theorem Ext.trans {m m1 m2 : Mp} {H H1 H2 : Hp} (a : Ext m H m1 H1) (b : Ext m1 H1 m2 H2) : Ext m H m2 H2 := by
  obtain ⟨ex, e1, hx⟩ := a.pre
  obtain ⟨ey, e2, hy⟩ := b.pre
  refine ⟨⟨ex ++ ey, by rw [e2, e1]; simp, fun c hc => ?_⟩, b.hs.trans a.hs, fun c o h => ?_, fun c o h n => b.keep c o (a.keep c o h n) (a.memc h n), fun c xs h => b.tup c xs (a.tup c xs h), fun c o u h => b.frz c o u (a.frz c o u h)⟩
  · rcases List.mem_append.mp hc with h1 | h1
    · exact hx c h1
    · have h2 := hy c h1
      cases q : H c with
      | none => rfl
      | some o =>
        obtain ⟨o', q'⟩ := a.trk c o q
        rw [q'] at h2; cases h2
  · obtain ⟨o', q'⟩ := a.trk c o h
    exact b.trk c o' q'

section
variable {K : PySem.W.Frag} {m m' : Mp} {H H' : Hp}
theorem SqT.ext (e : Tr m H m' H') {a : Addr} {xs : List V} (h : SqT K H a xs) : SqT K H' a xs := by
  rcases h with (h | ⟨o, h⟩) | h
  · exact .inl (.inl (e.tup _ _ h))
  · exact .inl (.inr ⟨o, e.frz _ _ _ h⟩)
  · exact .inr h
mutual
theorem Rep.ext (e : Tr m H m' H') : ∀ (d : D) (v : V), Rep K m H v d → Rep K m' H' v d
  | .non, v, h => by cases h; exact .non
  | .bl b, v, h => by cases h; exact .bl b
  | .int b, v, h => by cases h; exact .int b
  | .str b, v, h => by cases h; exact .str b
  | .ty b, v, h => by cases h; exact .ty b
  | .gl b, v, h => by cases h; exact .gl b
  | .tup l, v, h => by
    cases h with
    | tup h1 hd h2 => exact .tup (SqT.ext e h1) (fun z => let ⟨o, u, a, b⟩ := hd z; ⟨o, u, e.frz _ _ _ a, b⟩) (Reps.ext e l _ h2)
  | .lst l, v, h => by
    cases h with
    | lst h1 h2 h3 => exact .lst (e.keep _ _ h1 h2) (e.mem h1 h2) (Reps.ext e l _ h3)
  | .scr l, v, h => by
    cases h with
    | scr h1 h2 =>
      refine .scr ?_ (Reps.ext e l _ h2)
      rcases h1 with ⟨o, h1⟩ | h1
      · exact .inl ⟨o, e.frz _ _ _ h1⟩
      · exact .inr h1
  | .ref i, v, h => by
    cases h with
    | ref h1 =>
      obtain ⟨ex, e1, _⟩ := e.pre
      exact .ref (pre_at e1 h1)
  | .obj c ns l, v, h => by
    cases h with
    | obj h1 h2 h3 h4 => exact .obj (e.keep _ _ h1 h2) (e.mem h1 h2) h3 (Reps.ext e l _ h4)
  | .dct l, v, h => by
    cases h with
    | dct h1 h2 h3 h4 => exact .dct (e.keep _ _ h1 h2) (e.mem h1 h2) (DicR.ext e l _ h3) h4
theorem DicR.ext (e : Tr m H m' H') : ∀ (l : List D) (xs : List (NestedKey × Addr × Value)), DicR K m H l xs → DicR K m' H' l xs
  | [], xs, h => by cases h; exact .nil
  | [_], xs, h => by cases h
  | kd :: vd :: l, xs, h => by
    cases h with
    | cons a b c d r => exact .cons a (Rep.ext e kd _ b) c (Rep.ext e vd _ d) (DicR.ext e l _ r)
theorem Reps.ext (e : Tr m H m' H') : ∀ (ds : List D) (vs : List V), Reps K m H vs ds → Reps K m' H' vs ds
  | [], vs, h => by cases h; exact .nil
  | d :: ds, vs, h => by
    cases h with
    | cons h1 h2 => exact .cons (Rep.ext e d _ h1) (Reps.ext e ds _ h2)
end
theorem DicR.tr (e : Tr m H m' H') {l : List D} {xs : List (NestedKey × Addr × Value)} (h : DicR K m H l xs) : DicR K m' H' l xs := DicR.ext e l xs h
theorem Rep.tr (e : Tr m H m' H') {d : D} {v : V} (h : Rep K m H v d) : Rep K m' H' v d := Rep.ext e d v h
theorem Rep.to (e : Ext m H m' H') {d : D} {v : V} (h : Rep K m H v d) : Rep K m' H' v d := Rep.ext e.tr d v h
theorem Reps.tr (e : Tr m H m' H') {ds : List D} {vs : List V} (h : Reps K m H vs ds) : Reps K m' H' vs ds := Reps.ext e ds vs h
theorem Reps.to (e : Ext m H m' H') {ds : List D} {vs : List V} (h : Reps K m H vs ds) : Reps K m' H' vs ds := Reps.ext e.tr ds vs h
theorem Reps.len : ∀ {vs : List V} {ds : List D}, Reps K m H vs ds → vs.length = ds.length
  | [], [], _ => rfl
  | [], _ :: _, h => by cases h
  | _ :: _, [], h => by cases h
  | _ :: vs, _ :: ds, h => by
    cases h with
    | cons _ h2 => simp [Reps.len h2]
theorem Reps.get : ∀ {vs : List V} {ds : List D} {i : Nat} {d : D}, Reps K m H vs ds → ds[i]? = some d → ∃ v, vs[i]? = some v ∧ Rep K m H v d
  | [], [], _, _, _, e => by simp at e
  | [], _ :: _, _, _, h, _ => by cases h
  | _ :: _, [], _, _, h, _ => by cases h
  | v :: vs, c :: ds, 0, d, h, e => by
    cases h with
    | cons h1 _ =>
      have e' : c = d := by simpa using e
      subst e'
      exact ⟨v, rfl, h1⟩
  | v :: vs, c :: ds, i + 1, d, h, e => by
    cases h with
    | cons _ h2 =>
      obtain ⟨w, h3, h4⟩ := Reps.get (i := i) (d := d) h2 (by simpa using e)
      exact ⟨w, by simpa using h3, h4⟩
theorem Reps.get' {vs : List V} {ds : List D} {i : Nat} {v : V} (h : Reps K m H vs ds) (e : vs[i]? = some v) : ∃ d, ds[i]? = some d ∧ Rep K m H v d := by
  have hl := h.len
  have hi := (List.getElem?_eq_some_iff.mp e).1
  have hd : ds[i]? = some (ds[i]'(by omega)) := List.getElem?_eq_getElem (by omega)
  obtain ⟨w, h1, h2⟩ := h.get hd
  rw [e] at h1; cases h1
  exact ⟨_, hd, h2⟩
theorem Reps.app : ∀ {vs us : List V} {ds es : List D}, Reps K m H vs ds → Reps K m H us es → Reps K m H (vs ++ us) (ds ++ es)
  | [], _, [], _, _, h => h
  | [], _, _ :: _, _, h, _ => by cases h
  | _ :: _, _, [], _, h, _ => by cases h
  | v :: vs, us, d :: ds, es, h, g => by
    cases h with
    | cons h1 h2 => exact .cons h1 (Reps.app h2 g)
theorem Reps.drop : ∀ {vs : List V} {ds : List D} (n : Nat), Reps K m H vs ds → Reps K m H (vs.drop n) (ds.drop n)
  | _, _, 0, h => by simpa using h
  | [], [], n + 1, h => by simpa using h
  | [], _ :: _, _ + 1, h => by cases h
  | _ :: _, [], _ + 1, h => by cases h
  | v :: vs, d :: ds, n + 1, h => by
    cases h with
    | cons _ h2 => simpa using Reps.drop n h2
theorem Reps.take : ∀ {vs : List V} {ds : List D} (n : Nat), Reps K m H vs ds → Reps K m H (vs.take n) (ds.take n)
  | _, _, 0, h => by simpa using Reps.nil
  | [], [], n + 1, h => by simpa using h
  | [], _ :: _, _ + 1, h => by cases h
  | _ :: _, [], _ + 1, h => by cases h
  | v :: vs, d :: ds, n + 1, h => by
    cases h with
    | cons h1 h2 => simpa using Reps.cons h1 (Reps.take n h2)
theorem Reps.set : ∀ {vs : List V} {ds : List D} {v : V} {d : D} (n : Nat), Reps K m H vs ds → Rep K m H v d → Reps K m H (vs.set n v) (ds.set n d)
  | [], [], _, _, n, h, _ => by simpa using h
  | [], _ :: _, _, _, _, h, _ => by cases h
  | _ :: _, [], _, _, _, h, _ => by cases h
  | w :: vs, c :: ds, v, d, 0, h, r => by
    cases h with
    | cons _ h2 => exact .cons r h2
  | w :: vs, c :: ds, v, d, n + 1, h, r => by
    cases h with
    | cons h1 h2 => exact .cons h1 (Reps.set n h2 r)
theorem Reps.erase : ∀ {vs : List V} {ds : List D} (n : Nat), Reps K m H vs ds → Reps K m H (vs.eraseIdx n) (ds.eraseIdx n)
  | [], [], n, h => by simpa using h
  | [], _ :: _, _, h => by cases h
  | _ :: _, [], _, h => by cases h
  | w :: vs, c :: ds, 0, h => by
    cases h with
    | cons _ h2 => simpa using h2
  | w :: vs, c :: ds, n + 1, h => by
    cases h with
    | cons h1 h2 => simpa using Reps.cons h1 (Reps.erase n h2)
theorem Reps.rev {vs : List V} {ds : List D} (h : Reps K m H vs ds) : Reps K m H vs.reverse ds.reverse := by
  induction vs generalizing ds with
  | nil => cases h; exact .nil
  | cons v vs ih =>
    cases h with
    | cons h1 h2 =>
      simp only [List.reverse_cons]
      exact (ih h2).app (.cons h1 .nil)
theorem Reps.flatten {vs : List V} {ds : List D} (h : Reps K m H vs ds) : ∀ k : Nat, Reps K m H (List.replicate k vs).flatten (List.replicate k ds).flatten
  | 0 => by simpa using Reps.nil
  | k + 1 => by
    simp only [List.replicate_succ, List.flatten_cons]
    exact h.app (Reps.flatten h k)

theorem ObR.tr (e : Tr m H m' H') {a : Addr} {o : Ob} (h : ObR K m H a o) (same : H' a = H a) : ObR K m' H' a o := by
  cases o with
  | lst ds =>
    obtain ⟨vs, h1, h2⟩ := h
    exact ⟨vs, by rw [same]; exact h1, h2.tr e⟩
  | ins c ns ds =>
    obtain ⟨dx, fs, h1, h2, h3⟩ := h
    exact ⟨dx, fs, by rw [same]; exact h1, h2, h3.tr e⟩
  | dic l =>
    obtain ⟨o, xs, h1, h2, h3⟩ := h
    exact ⟨o, xs, by rw [same]; exact h1, h2.tr e, h3⟩
theorem Sim.trk {S : Sto} (s : Sim K m S H) {a : Addr} (h : a ∈ m.c) : ∃ o, H a = some o ∧ (∀ xs, o ≠ .tup xs) ∧ ∀ x y, o ≠ .frz x y := by
  obtain ⟨i, hi, e⟩ := List.mem_iff_getElem.mp h
  have hi2 : i < S.length := by rw [← s.len]; exact hi
  have := s.cell i a S[i] (by rw [List.getElem?_eq_getElem hi, e]) (List.getElem?_eq_getElem hi2)
  cases q : S[i] with
  | lst ds => rw [q] at this; obtain ⟨vs, h1, _⟩ := this; exact ⟨_, h1, fun _ => nofun, fun _ _ => nofun⟩
  | ins c ns ds => rw [q] at this; obtain ⟨dx, fs, h1, _⟩ := this; exact ⟨_, h1, fun _ => nofun, fun _ _ => nofun⟩
  | dic l => rw [q] at this; obtain ⟨o, xs, h1, _⟩ := this; exact ⟨_, h1, fun _ => nofun, fun _ _ => nofun⟩
theorem Sim.fresh {S : Sto} (s : Sim K m S H) {p : Addr} (h : H p = none) : p ∉ m.c := fun hm => by
  obtain ⟨o, e, _⟩ := s.trk hm
  rw [h] at e; cases e
theorem Sim.off {S : Sto} (s : Sim K m S H) {p : Addr} (h : H p = none) : Off m p := ⟨s.fresh h, fun hm => by
    obtain ⟨o, e⟩ := s.hid p hm
    rw [h] at e; cases e⟩
/-- a new object, not a cell -/
theorem Ext.new {p : Addr} {o : HO} (h : H p = none) : Ext m H m (upd H p o) := by
  have k : ∀ a u, H a = some u → (upd H p o) a = some u := fun a u q => by rw [upd_ne (ne_of_none q h)]; exact q
  exact ⟨⟨[], by simp, by simp⟩, rfl, fun a u q => ⟨u, k a u q⟩, fun a u q _ => k a u q, fun a xs q => k a _ q, fun a u x q => k a _ q⟩
theorem Sim.same {S : Sto} (s : Sim K m S H) (hc : m'.c = m.c) (e : Tr m H m' H') (h : ∀ a ∈ m.c, H' a = H a) (hh : ∀ a ∈ m'.h, ∃ o, H' a = some o) (hd : ∀ a ∈ m'.c, a ∉ m'.h) : Sim K m' S H' :=
  ⟨by rw [hc]; exact s.len, by rw [hc]; exact s.nd, fun i a o h1 h2 => by
    rw [hc] at h1
    exact (s.cell i a o h1 h2).tr e (h a (List.mem_of_getElem? h1)), hh, hd⟩
theorem Sim.new {S : Sto} (s : Sim K m S H) {p : Addr} {o : HO} (h : H p = none) : Sim K m S (upd H p o) :=
  s.same rfl (Ext.new h).tr (fun a ha => upd_ne (fun z => s.fresh h (z ▸ ha))) (fun a ha => by
    obtain ⟨u, q⟩ := s.hid a ha
    exact (Ext.new (m := m) h).trk a u q) s.dis
/-- a new cell -/
def Mp.add (m : Mp) (p : Addr) : Mp := ⟨m.c ++ [p], m.h⟩
theorem Ext.cell {p : Addr} {o : HO} (h : H p = none) : Ext m H (m.add p) (upd H p o) := by
  have k : ∀ a u, H a = some u → (upd H p o) a = some u := fun a u q => by rw [upd_ne (ne_of_none q h)]; exact q
  exact ⟨⟨[p], rfl, fun a ha => by
    have : a = p := by simpa using ha
    rw [this]; exact h⟩, rfl, fun a u q => ⟨u, k a u q⟩, fun a u q _ => k a u q, fun a xs q => k a _ q, fun a u x q => k a _ q⟩
theorem Sim.grow {S : Sto} {ob : Ob} (s : Sim K m S H) {p : Addr} {o : HO} (h : H p = none) (r : ObR K (m.add p) (upd H p o) p ob) : Sim K (m.add p) (S ++ [ob]) (upd H p o) := by
  refine ⟨by simp [Mp.add, s.len], ?_, fun i a u h1 h2 => ?_, fun a ha => by
    obtain ⟨u, q⟩ := s.hid a ha
    exact (Ext.cell (m := m) h).trk a u q, fun a ha => by
    rcases List.mem_append.mp (show a ∈ m.c ++ [p] from ha) with z | z
    · exact s.dis a z
    · have e : a = p := by simpa using z
      rw [e]; exact (s.off h).2⟩
  · show (m.c ++ [p]).Nodup
    rw [List.nodup_append]
    refine ⟨s.nd, by simp, fun a ha b hb => ?_⟩
    have : b = p := by simpa using hb
    subst this
    intro z; subst z; exact s.fresh h ha
  · have h1 : (m.c ++ [p])[i]? = some a := h1
    by_cases hi : i < m.c.length
    · rw [List.getElem?_append_left hi] at h1
      rw [List.getElem?_append_left (by rw [← s.len]; exact hi)] at h2
      exact (s.cell i a u h1 h2).tr (Ext.cell h).tr (upd_ne fun z => s.fresh h (z ▸ List.mem_of_getElem? h1))
    · have e : i = m.c.length := by
        have := (List.getElem?_eq_some_iff.mp h1).1
        simp at this; omega
      subst e
      have e1 : p = a := by simpa using h1
      have e2 : ob = u := by rw [s.len] at h2; simpa using h2
      subst e1 e2
      exact r
theorem Sim.last {S : Sto} (s : Sim K m S H) (p : Addr) : (m.add p).c[S.length]? = some p := by
  show (m.c ++ [p])[S.length]? = some p
  rw [← s.len]; simp
/-- a cell is written -/
theorem Ext.put {S : Sto} (s : Sim K m S H) {a : Addr} {u : HO} (hm : a ∈ m.c) : Ext m H m (upd H a u) := by
  obtain ⟨o, h, h1, h2⟩ := s.trk hm
  refine ⟨⟨[], by simp, by simp⟩, rfl, fun b w q => ?_, fun b w q n => ?_, fun b xs q => ?_, fun b x y q => ?_⟩
  · by_cases e : b = a
    · subst e; exact ⟨u, upd_same⟩
    · exact ⟨w, by rw [upd_ne e]; exact q⟩
  · rw [upd_ne (fun z => n (by rw [z]; exact hm))]; exact q
  · rw [upd_ne fun z => h1 xs (by rw [z, h] at q; exact Option.some.inj q)]; exact q
  · rw [upd_ne fun z => h2 x y (by rw [z, h] at q; exact Option.some.inj q)]; exact q
theorem Sim.put {S : Sto} {a : Addr} {u : HO} {i : Nat} {ob : Ob} (s : Sim K m S H) (hi : m.c[i]? = some a) (r : ObR K m (upd H a u) a ob) : Sim K m (S.set i ob) (upd H a u) := by
  have e : Ext m H m (upd H a u) := Ext.put s (List.mem_of_getElem? hi)
  refine ⟨by simp [s.len], s.nd, fun j b w h1 h2 => ?_, fun b hb => by
    obtain ⟨w, q⟩ := s.hid b hb
    exact e.trk b w q, s.dis⟩
  by_cases hj : j = i
  · subst hj
    rw [hi] at h1; cases h1
    have hjl : j < S.length := by
      have := (List.getElem?_eq_some_iff.mp hi).1
      rw [← s.len]; exact this
    rw [List.getElem?_set_self hjl] at h2
    cases h2
    exact r
  · rw [List.getElem?_set_ne (Ne.symm hj)] at h2
    refine (s.cell j b w h1 h2).tr e.tr (upd_ne fun z => hj ?_)
    subst z
    exact (List.getElem?_inj (List.getElem?_eq_some_iff.mp h1).1 s.nd).mp (h1.trans hi.symm)
/-- an address is hidden, and opened again -/
def Mp.hide (m : Mp) (p : Addr) : Mp := ⟨m.c, p :: m.h⟩
theorem Tr.hide {p : Addr} {o : HO} (h : H p = none) : Tr m H (m.hide p) (upd H p o) := by
  have k : ∀ a u, H a = some u → (upd H p o) a = some u := fun a u q => by rw [upd_ne (ne_of_none q h)]; exact q
  refine ⟨⟨[], by simp [Mp.hide], by simp⟩, fun a ha => ?_, fun a u q _ => k a u q, fun a xs q => k a _ q, fun a u x q => k a _ q⟩
  rcases List.mem_cons.mp ha with e | e
  · exact .inr (by rw [e]; exact h)
  · exact .inl e
theorem Sim.hide {S : Sto} (s : Sim K m S H) {p : Addr} {o : HO} (h : H p = none) : Sim K (m.hide p) S (upd H p o) :=
  s.same rfl (Tr.hide h) (fun a ha => upd_ne (fun z => s.fresh h (z ▸ ha))) (fun a ha => by
    rcases List.mem_cons.mp ha with e | e
    · subst e; exact ⟨_, upd_same⟩
    · obtain ⟨u, q⟩ := s.hid a e
      exact (Ext.new (m := m) h).trk a u q) fun a ha hm => by
    rcases List.mem_cons.mp hm with e | e
    · exact s.fresh h (by rw [← e]; exact ha)
    · exact s.dis a ha e
end
/-! ### results -/
inductive Res (α : Type) where
  | ok (a : α) (S : Sto) | exc (c : Str) (fs : List (Str × D)) (S : Sto) | stuck
def Res.bind {α β : Type} (r : Res α) (k : α → Sto → Res β) : Res β := match r with
  | .ok a S => k a S
  | .exc c fs S => .exc c fs S
  | .stuck => .stuck
inductive SRes where
  | next (en : En) (S : Sto) | ret (d : D) (S : Sto) | brk (en : En) (S : Sto) | cnt (en : En) (S : Sto) | exc (c : Str) (fs : List (Str × D)) (en : En) (S : Sto) | stuck

abbrev EM := En → Sto → Res D
abbrev BM := En → Sto → Res Bool
abbrev AM := En → Sto → Res (List D)
abbrev SM := En → Sto → SRes
abbrev GM := D → En → Sto → Res En

section
variable (K : PySem.W.Frag)
structure EnvR (m : Mp) (H : Hp) (σ : St) (en : En) : Prop where
  len : σ.length = en.length
  at_ : ∀ (i : Nat) (d : D), en[i]? = some (some d) → ∃ v, σ[i]? = some (some v) ∧ Rep K m H v d
def ExR (m : Mp) (H : Hp) : Option Addr → List (Str × D) → Prop
  | none, fs => fs = []
  | some d, fs => ∃ vs : List (Str × V), H d = some (.xd vs) ∧ vs.map (·.1) = fs.map (·.1) ∧ Reps K m H (vs.map (·.2)) (fs.map (·.2))
variable (W : WX)
def PostG {α : Type} {β : Type} (R : Mp → Hp → β → α → Prop) (σ : St) (m : Mp) (H : Hp) (r : Res α) (Q : β → Hp → Prop) : Prop := match r with
  | .ok d S' => ∀ v m' H', Ext m H m' H' → Sim K m' S' H' → R m' H' v d → Q v H'
  | .exc c fs S' => ∀ od m' H', Ext m H m' H' → Sim K m' S' H' → ExR K m' H' od fs → W (.ref (He.ga K c)) od σ H'
  | .stuck => False
abbrev Post (σ : St) (m : Mp) (H : Hp) (r : Res D) (Q : VK) : Prop := PostG K W (Rep K) σ m H r Q
abbrev PostL (σ : St) (m : Mp) (H : Hp) (r : Res (List D)) (Q : List V → Hp → Prop) : Prop := PostG K W (Reps K) σ m H r Q
abbrev PostB (σ : St) (m : Mp) (H : Hp) (r : Res Bool) (Q : Bool → Hp → Prop) : Prop := PostG K W (fun _ _ (b : Bool) c => b = c) σ m H r Q
abbrev PostE (σ : St) (m : Mp) (H : Hp) (r : Res En) (Q : St → Hp → Prop) : Prop := PostG K W (EnvR K) σ m H r Q
def SPost (m : Mp) (H : Hp) (r : SRes) (E : Ends) : Prop := match r with
  | .next en S' => ∀ σ' m' H', Ext m H m' H' → Sim K m' S' H' → EnvR K m' H' σ' en → E.nx σ' H'
  | .brk en S' => ∀ σ' m' H', Ext m H m' H' → Sim K m' S' H' → EnvR K m' H' σ' en → E.bk σ' H'
  | .cnt en S' => ∀ σ' m' H', Ext m H m' H' → Sim K m' S' H' → EnvR K m' H' σ' en → E.ct σ' H'
  | .ret d S' => ∀ v m' H', Ext m H m' H' → Sim K m' S' H' → Rep K m' H' v d → E.rt v H'
  | .exc c fs en S' => ∀ σ' od m' H', Ext m H m' H' → Sim K m' S' H' → EnvR K m' H' σ' en → ExR K m' H' od fs → W (.ref (He.ga K c)) od σ' H'
  | .stuck => False

def tE (e : EM) : TE := fun σ H Q => ∃ en S m, EnvR K m H σ en ∧ Sim K m S H ∧ Post K W σ m H (e en S) Q
def tT (e : BM) : TT := fun σ H Q => ∃ en S m, EnvR K m H σ en ∧ Sim K m S H ∧ PostB K W σ m H (e en S) Q
def tA (e : AM) : TA := fun σ H Q => ∃ en S m, EnvR K m H σ en ∧ Sim K m S H ∧ PostL K W σ m H (e en S) Q
def tS (e : SM) : TS := fun E σ H => ∃ en S m, EnvR K m H σ en ∧ Sim K m S H ∧ SPost K W m H (e en S) E
def tG (g : GM) : TG := fun v σ H Q => ∃ d en S m, EnvR K m H σ en ∧ Sim K m S H ∧ Rep K m H v d ∧ PostE K W σ m H (g d en S) Q
end

section
variable {K : PySem.W.Frag} {W : WX} {m m' : Mp} {H H' : Hp} {σ : St}
theorem EnvR.tr (e : Tr m H m' H') {en : En} (h : EnvR K m H σ en) : EnvR K m' H' σ en :=
  ⟨h.len, fun i d q => by
    obtain ⟨v, h1, h2⟩ := h.at_ i d q
    exact ⟨v, h1, h2.tr e⟩⟩
theorem EnvR.to (e : Ext m H m' H') {en : En} (h : EnvR K m H σ en) : EnvR K m' H' σ en := h.tr e.tr
theorem PostG.to {α β : Type} {R : Mp → Hp → β → α → Prop} {r : Res α} {Q : β → Hp → Prop} (h : PostG K W R σ m H r Q) (e : Ext m H m' H') : PostG K W R σ m' H' r Q := by
  cases r with
  | ok d S => exact fun v m2 H2 e2 => h v m2 H2 (e.trans e2)
  | exc c fs S => exact fun v m2 H2 e2 => h v m2 H2 (e.trans e2)
  | stuck => exact h
theorem SPost.to {r : SRes} {E : Ends} (h : SPost K W m H r E) (e : Ext m H m' H') : SPost K W m' H' r E := by
  cases r with
  | next en S => exact fun v m2 H2 e2 => h v m2 H2 (e.trans e2)
  | brk en S => exact fun v m2 H2 e2 => h v m2 H2 (e.trans e2)
  | cnt en S => exact fun v m2 H2 e2 => h v m2 H2 (e.trans e2)
  | ret d S => exact fun v m2 H2 e2 => h v m2 H2 (e.trans e2)
  | exc c fs en S => exact fun v od m2 H2 e2 => h v od m2 H2 (e.trans e2)
  | stuck => exact h
/-- one thing, then another -/
theorem PostG.bind {α β α' β' : Type} {R : Mp → Hp → β → α → Prop} {R' : Mp → Hp → β' → α' → Prop} {r : Res α} {k : α → Sto → Res α'} {Q : β' → Hp → Prop} (h : PostG K W R' σ m H (r.bind k) Q) :
    PostG K W R σ m H r (fun v H1 => ∃ d S1 m1, Ext m H m1 H1 ∧ Sim K m1 S1 H1 ∧ R m1 H1 v d ∧ PostG K W R' σ m1 H1 (k d S1) Q) := by
  cases r with
  | ok d S => exact fun v m1 H1 e s r1 => ⟨d, S, m1, e, s, r1, h.to e⟩
  | exc c fs S => exact h
  | stuck => exact h
theorem PostG.mono {α β : Type} {R : Mp → Hp → β → α → Prop} {r : Res α} {Q Q' : β → Hp → Prop} (h : PostG K W R σ m H r Q) (hq : ∀ v H1, Q v H1 → Q' v H1) : PostG K W R σ m H r Q' := by
  cases r with
  | ok d S => exact fun v m1 H1 e s r1 => hq _ _ (h v m1 H1 e s r1)
  | exc c fs S => exact h
  | stuck => exact h
end
end Ag

namespace Ag
open PySem L2
section
variable {X : Cx} {W : WX} {e a b c o : Expr} {es : List Expr} {pos p apos : Pos} {ma mb mc : EM}
theorem PE.imp {t t' : TE} (h : PE X e t) (f : ∀ σ H Q, t' σ H Q → t σ H Q) : PE X e t' := ⟨fun pins s σ H Q I hw => h.run pins s σ H Q I (f _ _ _ hw)⟩
theorem PT.imp {t t' : TT} (h : PT X e t) (f : ∀ σ H Q, t' σ H Q → t σ H Q) : PT X e t' := ⟨fun pins s σ H Q I hw => h.run pins s σ H Q I (f _ _ _ hw)⟩
theorem PW.imp {t t' : TT} (h : PW X e t) (f : ∀ σ H Q, t' σ H Q → t σ H Q) : PW X e t' := ⟨fun wh pins s σ H Q I hw => h.run wh pins s σ H Q I (f _ _ _ hw)⟩
theorem PA.imp {t t' : TA} (h : PA X es t) (f : ∀ σ H Q, t' σ H Q → t σ H Q) : PA X es t' := ⟨fun ps pins s σ H Q I hw => h.run ps pins s σ H Q I (f _ _ _ hw)⟩
theorem PS.imp {st : Stmt} {t t' : TS} (h : PS X st t) (f : ∀ E σ H, t' E σ H → t E σ H) : PS X st t' := ⟨fun pins s σ H E I hw => h.run pins s σ H E I (f _ _ _ hw)⟩
theorem PSs.imp {st : List Stmt} {t t' : TS} (h : PSs X st t) (f : ∀ E σ H, t' E σ H → t E σ H) : PSs X st t' := ⟨fun pins s σ H E I hw => h.run pins s σ H E I (f _ _ _ hw)⟩
theorem PG.imp {t t' : TG} (h : PG X e t) (f : ∀ v σ H Q, t' v σ H Q → t v σ H Q) : PG X e t' := ⟨fun pins s σ H v u Q I r hw => h.run pins s σ H v u Q I r (f _ _ _ _ hw)⟩

def ofO {α : Type} (o : Option α) (S : Sto) : Res α := match o with
  | some r => .ok r S
  | none => .stuck
/-- names and constants -/
def mVar (i : Nat) : EM := fun en S => ofO (match en[i]? with | some (some d) => some d | _ => none) S
def mC (d : D) : EM := fun _ S => .ok d S
theorem e_var {i : Nat} {x : Str} (hN : X.N[i]? = some x) (hv : Vis X.env.scope x) (hd : (x == ("__debug__" : Str)) = false := by decide) (hcd : (x == ("__classdict__" : Str)) = false := by decide) : PE X (.Name x pos) (tE X.K W (mVar i)) := by
  refine PE.imp (pe_var hN hv hd hcd) ?_
  rintro σ H Q ⟨en, S, m, er, si, h⟩
  unfold mVar ofO at h
  cases q : en[i]? with
  | none => rw [q] at h; exact h.elim
  | some od =>
    cases od with
    | none => rw [q] at h; exact h.elim
    | some d =>
      rw [q] at h
      obtain ⟨v, h1, h2⟩ := er.at_ i d q
      exact ⟨v, h1, h v m H .refl si h2⟩
theorem e_c {v : V} {d : D} (h : PE X e (tC v)) (r : ∀ m H, Rep X.K m H v d) : PE X e (tE X.K W (mC d)) :=
  PE.imp h fun σ H Q ⟨en, S, m, er, si, k⟩ => k v m H .refl si (r m H)

/-- two values by a rule -/
def rO2 (K : PySem.W.Frag) (f : D → D → Sto → Option D) : R2 := fun x y H Q => ∃ d e S m r, Sim K m S H ∧ Rep K m H x d ∧ Rep K m H y e ∧ f d e S = some r ∧ ∀ v H', Ext m H m H' → Sim K m S H' → Rep K m H' v r → Q v H'
def rO1 (K : PySem.W.Frag) (f : D → Sto → Option D) : V → Hp → VK → Prop := fun x H Q => ∃ d S m r, Sim K m S H ∧ Rep K m H x d ∧ f d S = some r ∧ ∀ v H', Ext m H m H' → Sim K m S H' → Rep K m H' v r → Q v H'
def rOL (K : PySem.W.Frag) (f : List D → Sto → Option D) : List V → Hp → VK → Prop := fun xs H Q => ∃ ds S m r, Sim K m S H ∧ Reps K m H xs ds ∧ f ds S = some r ∧ ∀ v H', Ext m H m H' → Sim K m S H' → Rep K m H' v r → Q v H'
def mOp (f : D → D → Sto → Option D) (ma mb : EM) : EM := fun en S => (ma en S).bind fun d S1 => (mb en S1).bind fun e S2 => ofO (f d e S2) S2
def mUn (f : D → Sto → Option D) (ma : EM) : EM := fun en S => (ma en S).bind fun d S1 => ofO (f d S1) S1
theorem op_to {f : D → D → Sto → Option D} {σ : L2.St} {H : Hp} {Q : VK} (h : tE X.K W (mOp f ma mb) σ H Q) : tOp (rO2 X.K f) (tE X.K W ma) (tE X.K W mb) σ H Q := by
  obtain ⟨en, S, m, er, si, h⟩ := h
  refine ⟨en, S, m, er, si, h.bind.mono ?_⟩
  rintro v H1 ⟨d, S1, m1, e1, s1, r1, h1⟩
  refine ⟨en, S1, m1, er.to e1, s1, h1.bind.mono ?_⟩
  rintro w H2 ⟨c, S2, m2, e2, s2, r2, h2⟩
  cases q : f d c S2 with
  | none => rw [q] at h2; exact h2.elim
  | some r =>
    rw [q] at h2
    exact ⟨d, c, S2, m2, r, s2, r1.to e2, r2, q, fun z H3 e3 s3 r3 => h2 z m2 H3 e3 s3 r3⟩
theorem e_op {op : Operator} {f : D → D → Sto → Option D} (ho : OpR X (binaryOp op) (rO2 X.K f)) (ha : PE X a (tE X.K W ma)) (hb : PE X b (tE X.K W mb)) : PE X (.BinOp a op b pos) (tE X.K W (mOp f ma mb)) :=
  PE.imp (pe_op ho ha hb) fun _ _ _ => op_to
theorem e_cmp {op : CmpOp} {f : D → D → Sto → Option D} (ho : OpR X (compareOp op) (rO2 X.K f)) (ha : PE X a (tE X.K W ma)) (hb : PE X b (tE X.K W mb)) (hm : behindInMarks op b = false) : PE X (.Compare a [op] [b] pos) (tE X.K W (mOp f ma mb)) :=
  PE.imp (pe_cmpR ho ha hb hm) fun _ _ _ => op_to
theorem e_un {op : UnaryOp} {f : D → Sto → Option D} (ho : UnR X (unaryOp op) (rO1 X.K f)) (ha : PE X a (tE X.K W ma)) : PE X (.UnaryOp op a pos) (tE X.K W (mUn f ma)) := by
  refine PE.imp (pe_un ho ha) ?_
  rintro σ H Q ⟨en, S, m, er, si, h⟩
  refine ⟨en, S, m, er, si, h.bind.mono ?_⟩
  rintro v H1 ⟨d, S1, m1, e1, s1, r1, h1⟩
  cases q : f d S1 with
  | none => rw [q] at h1; exact h1.elim
  | some r =>
    rw [q] at h1
    exact ⟨d, S1, m1, r, s1, r1, q, fun z H3 e3 s3 r3 => h1 z m1 H3 e3 s3 r3⟩
theorem e_ix {f : D → D → Sto → Option D} (ho : IxR X (rO2 X.K f)) (ha : PE X a (tE X.K W ma)) (hb : PE X b (tE X.K W mb)) (hs : PlainIx b) : PE X (.Subscript a b pos) (tE X.K W (mOp f ma mb)) :=
  PE.imp (pe_ix ho ha hb hs) fun _ _ _ => op_to

/-! tests -/
def bOf : D → Option Bool
  | .bl b => some b
  | _ => none
def mB (ma : EM) : BM := fun en S => (ma en S).bind fun d S1 => ofO (bOf d) S1
theorem b_to {σ : L2.St} {H : Hp} {Q : Bool → Hp → Prop} (h : tT X.K W (mB ma) σ H Q) : tE X.K W ma σ H fun x H1 => ∃ c, x = .bl c ∧ Q c H1 := by
  obtain ⟨en, S, m, er, si, h⟩ := h
  refine ⟨en, S, m, er, si, h.bind.mono ?_⟩
  rintro v H1 ⟨d, S1, m1, e1, s1, r1, h1⟩
  cases r1 with
  | bl b => exact ⟨b, rfl, h1 b m1 H1 .refl s1 rfl⟩
  | _ => exact h1.elim
theorem t_val (ha : PE X a (tE X.K W ma)) (he : ∀ whole, isTrue a X.env whole = (do let v ← whole; standAt a.pos; holding [v] (truthy v)) := by intro _; rfl) : PT X a (tT X.K W (mB ma)) :=
  PT.imp (pt_val ha he) fun _ _ _ => b_to
theorem t_cmp {op : CmpOp} {f : D → D → Sto → Option D} (ho : OpR X (compareOp op) (rO2 X.K f)) (ha : PE X a (tE X.K W ma)) (hb : PE X b (tE X.K W mb)) (hm : behindInMarks op b = false) : PT X (.Compare a [op] [b] pos) (tT X.K W (mB (mOp f ma mb))) :=
  PT.imp (pt_cmpR ho ha hb hm) fun _ _ _ h => op_to (b_to h)
def mAndB (t u : BM) : BM := fun en S => (t en S).bind fun c S1 => if c = true then u en S1 else .ok false S1
def mOrB (t u : BM) : BM := fun en S => (t en S).bind fun c S1 => if c = true then .ok true S1 else u en S1
def mNotB (t : BM) : BM := fun en S => (t en S).bind fun c S1 => .ok (!c) S1
variable {ta tb : BM} {rest : List Expr}
theorem w_and1 (ha : PT X a (tT X.K W ta)) : PW X (.BoolOp .And [a] pos) (tT X.K W ta) := pw_and1 ha
theorem w_or1 (ha : PT X a (tT X.K W ta)) : PW X (.BoolOp .Or [a] pos) (tT X.K W ta) := pw_or1 ha
theorem w_and (ha : PT X a (tT X.K W ta)) (hb : PW X (.BoolOp .And (b :: rest) pos) (tT X.K W tb)) : PW X (.BoolOp .And (a :: b :: rest) pos) (tT X.K W (mAndB ta tb)) := by
  refine PW.imp (pw_and ha hb) ?_
  rintro σ H Q ⟨en, S, m, er, si, h⟩
  refine ⟨en, S, m, er, si, h.bind.mono ?_⟩
  rintro v H1 ⟨d, S1, m1, e1, s1, rfl, h1⟩
  cases v with
  | true => exact ⟨en, S1, m1, er.to e1, s1, h1⟩
  | false => exact h1 false m1 H1 .refl s1 rfl
theorem w_or (ha : PT X a (tT X.K W ta)) (hb : PW X (.BoolOp .Or (b :: rest) pos) (tT X.K W tb)) : PW X (.BoolOp .Or (a :: b :: rest) pos) (tT X.K W (mOrB ta tb)) := by
  refine PW.imp (pw_or ha hb) ?_
  rintro σ H Q ⟨en, S, m, er, si, h⟩
  refine ⟨en, S, m, er, si, h.bind.mono ?_⟩
  rintro v H1 ⟨d, S1, m1, e1, s1, rfl, h1⟩
  cases v with
  | false => exact ⟨en, S1, m1, er.to e1, s1, h1⟩
  | true => exact h1 true m1 H1 .refl s1 rfl
theorem t_not (ha : PT X a (tT X.K W ta)) : PT X (.UnaryOp .Not a pos) (tT X.K W (mNotB ta)) := by
  refine PT.imp (pt_not ha) ?_
  rintro σ H Q ⟨en, S, m, er, si, h⟩
  refine ⟨en, S, m, er, si, h.bind.mono ?_⟩
  rintro v H1 ⟨d, S1, m1, e1, s1, rfl, h1⟩
  exact h1 (!v) m1 H1 .refl s1 rfl
/-- as values, by bools -/
def mAndV (ma mb : EM) : EM := fun en S => (ma en S).bind fun d S1 => match bOf d with | some true => mb en S1 | some false => .ok (.bl false) S1 | none => .stuck
def mOrV (ma mb : EM) : EM := fun en S => (ma en S).bind fun d S1 => match bOf d with | some false => mb en S1 | some true => .ok (.bl true) S1 | none => .stuck
def mNotV (ma : EM) : EM := mUn (fun d _ => (bOf d).map fun b => .bl (!b)) ma
theorem e_one {op : BoolOp} (h : PE X a (tE X.K W ma)) : PE X (.BoolOp op [a] pos) (tE X.K W ma) := pe_one h
theorem e_and (ha : PE X a (tE X.K W ma)) (hb : PE X (.BoolOp .And (b :: rest) pos) (tE X.K W mb)) : PE X (.BoolOp .And (a :: b :: rest) pos) (tE X.K W (mAndV ma mb)) := by
  refine PE.imp (pe_and ha hb) ?_
  rintro σ H Q ⟨en, S, m, er, si, h⟩
  refine ⟨en, S, m, er, si, h.bind.mono ?_⟩
  rintro v H1 ⟨d, S1, m1, e1, s1, r1, h1⟩
  cases r1 with
  | bl b =>
    cases b with
    | true => exact ⟨true, rfl, en, S1, m1, er.to e1, s1, h1⟩
    | false => exact ⟨false, rfl, h1 _ m1 H1 .refl s1 (.bl false)⟩
  | _ => exact h1.elim
theorem e_or (ha : PE X a (tE X.K W ma)) (hb : PE X (.BoolOp .Or (b :: rest) pos) (tE X.K W mb)) : PE X (.BoolOp .Or (a :: b :: rest) pos) (tE X.K W (mOrV ma mb)) := by
  refine PE.imp (pe_or ha hb) ?_
  rintro σ H Q ⟨en, S, m, er, si, h⟩
  refine ⟨en, S, m, er, si, h.bind.mono ?_⟩
  rintro v H1 ⟨d, S1, m1, e1, s1, r1, h1⟩
  cases r1 with
  | bl b =>
    cases b with
    | false => exact ⟨false, rfl, en, S1, m1, er.to e1, s1, h1⟩
    | true => exact ⟨true, rfl, h1 _ m1 H1 .refl s1 (.bl true)⟩
  | _ => exact h1.elim
theorem e_not (ha : PE X a (tE X.K W ma)) : PE X (.UnaryOp .Not a pos) (tE X.K W (mNotV ma)) := by
  refine PE.imp (pe_not ha) ?_
  rintro σ H Q ⟨en, S, m, er, si, h⟩
  refine ⟨en, S, m, er, si, h.bind.mono ?_⟩
  rintro v H1 ⟨d, S1, m1, e1, s1, r1, h1⟩
  cases r1 with
  | bl b => exact ⟨b, rfl, h1 _ m1 H1 .refl s1 (.bl _)⟩
  | _ => exact h1.elim
def mIf (t : BM) (ma mb : EM) : EM := fun en S => (t en S).bind fun c S1 => if c = true then ma en S1 else mb en S1
theorem e_if (hc : PT X c (tT X.K W ta)) (ha : PE X a (tE X.K W ma)) (hb : PE X b (tE X.K W mb)) : PE X (.IfExp c a b pos) (tE X.K W (mIf ta ma mb)) := by
  refine PE.imp (pe_ifExp hc ha hb) ?_
  rintro σ H Q ⟨en, S, m, er, si, h⟩
  refine ⟨en, S, m, er, si, h.bind.mono ?_⟩
  rintro v H1 ⟨d, S1, m1, e1, s1, rfl, h1⟩
  cases v with
  | true => exact ⟨en, S1, m1, er.to e1, s1, h1⟩
  | false => exact ⟨en, S1, m1, er.to e1, s1, h1⟩
/-- a chain of two -/
def mChain (f g : D → D → Sto → Option D) (ma mb mc : EM) : EM := fun en S => (ma en S).bind fun d S1 => (mb en S1).bind fun e S2 => match (f d e S2).bind bOf with
  | some true => (mc en S2).bind fun h S3 => ofO (g e h S3) S3
  | some false => .ok (.bl false) S2
  | none => .stuck
theorem chain_to {f g : D → D → Sto → Option D} {σ : L2.St} {H : Hp} {Q : VK} (h : tE X.K W (mChain f g ma mb mc) σ H Q) : tChain (rO2 X.K f) (rO2 X.K g) (tE X.K W ma) (tE X.K W mb) (tE X.K W mc) σ H Q := by
  obtain ⟨en, S, m, er, si, h⟩ := h
  refine ⟨en, S, m, er, si, h.bind.mono ?_⟩
  rintro v H1 ⟨d, S1, m1, e1, s1, r1, h1⟩
  refine ⟨en, S1, m1, er.to e1, s1, h1.bind.mono ?_⟩
  rintro w H2 ⟨c, S2, m2, e2, s2, r2, h2⟩
  cases q : f d c S2 with
  | none => rw [q] at h2; exact h2.elim
  | some r =>
    rw [q] at h2
    refine ⟨d, c, S2, m2, r, s2, r1.to e2, r2, q, fun z H3 e3 s3 r3 => ?_⟩
    cases r3 with
    | bl k =>
      cases k with
      | false => exact ⟨false, rfl, h2 _ m2 H3 e3 s3 (.bl false)⟩
      | true =>
        refine ⟨true, rfl, en, S2, m2, ((er.to e1).to e2).to e3, s3, ?_⟩
        have h3 : Post X.K W σ m2 H2 ((mc en S2).bind fun h S3 => ofO (g c h S3) S3) Q := h2
        refine (h3.to e3).bind.mono ?_
        rintro u H4 ⟨x, S4, m4, e4, s4, r4, h4⟩
        cases q2 : g c x S4 with
        | none => rw [q2] at h4; exact h4.elim
        | some r' =>
          rw [q2] at h4
          exact ⟨c, x, S4, m4, r', s4, (r2.to e3).to e4, r4, q2, fun z H5 e5 s5 r5 => h4 z m4 H5 e5 s5 r5⟩
    | _ => exact h2.elim
theorem e_chain {op op' : CmpOp} {f g : D → D → Sto → Option D} (ho : OpR X (compareOp op) (rO2 X.K f)) (ho' : OpR X (compareOp op') (rO2 X.K g)) (ha : PE X a (tE X.K W ma)) (hb : PE X b (tE X.K W mb)) (hc : PE X c (tE X.K W mc))
    (hm : lastMarks [op, op'] [b, c] = false := by with_unfolding_all rfl) : PE X (.Compare a [op, op'] [b, c] pos) (tE X.K W (mChain f g ma mb mc)) :=
  PE.imp (pe_chain ho ho' ha hb hc hm) fun _ _ _ => chain_to
theorem t_chain {op op' : CmpOp} {f g : D → D → Sto → Option D} (ho : OpR X (compareOp op) (rO2 X.K f)) (ho' : OpR X (compareOp op') (rO2 X.K g)) (ha : PE X a (tE X.K W ma)) (hb : PE X b (tE X.K W mb)) (hc : PE X c (tE X.K W mc))
    (hm : lastMarks [op, op'] [b, c] = false := by with_unfolding_all rfl) : PT X (.Compare a [op, op'] [b, c] pos) (tT X.K W (mB (mChain f g ma mb mc))) :=
  PT.imp (pt_chain ho ho' ha hb hc hm) fun _ _ _ h => chain_to (b_to h)

/-! argument lists, displays -/
def mNil : AM := fun _ S => .ok [] S
def mCons (ma : EM) (mr : AM) : AM := fun en S => (ma en S).bind fun d S1 => (mr en S1).bind fun ds S2 => .ok (d :: ds) S2
variable {mr : AM}
theorem a_nil : PA X [] (tA X.K W mNil) := PA.imp pa_nil fun σ H Q ⟨en, S, m, er, si, h⟩ => h [] m H .refl si .nil
theorem a_cons (ha : PE X a (tE X.K W ma)) (hr : PA X es (tA X.K W mr)) (hs : starEach (a :: es) X.env = (false, eval a X.env) :: starEach es X.env := by rfl) : PA X (a :: es) (tA X.K W (mCons ma mr)) := by
  refine PA.imp (pa_cons ha hr hs) ?_
  rintro σ H Q ⟨en, S, m, er, si, h⟩
  refine ⟨en, S, m, er, si, h.bind.mono ?_⟩
  rintro v H1 ⟨d, S1, m1, e1, s1, r1, h1⟩
  refine ⟨en, S1, m1, er.to e1, s1, h1.bind.mono ?_⟩
  rintro vs H2 ⟨ds, S2, m2, e2, s2, r2, h2⟩
  exact h2 (v :: vs) m2 H2 .refl s2 (.cons (r1.to e2) r2)
def lineN : Nat := 16777216
theorem line_eq : lineN = sizeLine := sizeLine_eq.symm
def mTup (mr : AM) : EM := fun en S => (mr en S).bind fun ds S1 => ofO (if ds.length ≤ lineN then some (.tup ds) else none) S1
def mLst (mr : AM) : EM := fun en S => (mr en S).bind fun ds S1 => ofO (if ds.length ≤ lineN then some (.lst ds) else none) S1
/-- a list that is to be changed: a cell -/
def mLstC (mr : AM) : EM := fun en S => (mr en S).bind fun ds S1 => if ds.length ≤ lineN then .ok (.ref S1.length) (S1 ++ [.lst ds]) else .stuck
/-- a tuple that was just laid has no dict -/
theorem newTup {pins : List (Addr × Obj)} {s : Shared} {σ : L2.St} {H : Hp} {Q : VK} {xs : List V} {its : List Value} (I : Inv X pins σ H s) (r : Vals xs its) (hz : xs.length ≤ sizeLine) (q : ∀ p o, H p = none → o.dict = none → Q (.ref p) (upd H p (.frz o (.tup xs)))) :
    EP X pins σ Q (.ref s.heap.objs.size) { s with heap := s.heap.push { cls := .type "tuple", data := .seq its.toArray } } :=
  ⟨.ref _, _, I.laid (t' := s.toks) (o := .frz _ (.tup xs)) (fun _ _ z => Heap.get?_push_of_some _ z) (Nat.le_refl _) ⟨Heap.get?_push_size _ rfl, hz, its, r, ⟨_, Heap.get?_push_size _ rfl, rfl, _, rfl⟩⟩, rfl, q _ _ (I.hok.fresh (Nat.le_refl _)) rfl⟩
theorem pe_tupF {k : Nat} {t : TA} (h : PA X es t) : PE X (.Tuple es k pos) (fun σ H Q => t σ H fun xs H1 => xs.length ≤ sizeLine ∧ ∀ p o, H1 p = none → o.dict = none → Q (.ref p) (upd H1 p (.frz o (.tup xs)))) :=
  ⟨fun pins s σ H Q I hq => wpAny_Tuple_spliced (thn (h.run pos pins s σ H _ I hq) fun us s1 ⟨_, _, J, r, z, q⟩ => ⟨r.length ▸ z, newTup J r z q⟩)⟩
theorem tupF {K : PySem.W.Frag} {m : Mp} {H : Hp} {q : Addr} {o : Obj} {xs : List V} {ds : List D} (ho : o.dict = none) (h : Reps K m (upd H q (.frz o (.tup xs))) xs ds) : Rep K m (upd H q (.frz o (.tup xs))) (.ref q) (.tup ds) := .tup (.inl (.inr ⟨o, upd_same⟩)) (fun _ => ⟨o, _, upd_same, ho⟩) h
theorem e_tup {k : Nat} (h : PA X es (tA X.K W mr)) : PE X (.Tuple es k pos) (tE X.K W (mTup mr)) := by
  refine PE.imp (pe_tupF h) ?_
  rintro σ H Q ⟨en, S, m, er, si, h⟩
  refine ⟨en, S, m, er, si, h.bind.mono ?_⟩
  rintro vs H1 ⟨ds, S1, m1, e1, s1, r1, h1⟩
  by_cases hl : ds.length ≤ lineN
  · rw [if_pos hl] at h1
    refine ⟨by rw [r1.len, ← line_eq]; exact hl, fun q o hq ho => h1 _ m1 _ (.new hq) (s1.new hq) (tupF ho (r1.to (.new hq)))⟩
  · rw [if_neg hl] at h1; exact h1.elim
theorem e_lst (h : PA X es (tA X.K W mr)) : PE X (.List es pos) (tE X.K W (mLst mr)) := by
  refine PE.imp (pe_lst h) ?_
  rintro σ H Q ⟨en, S, m, er, si, h⟩
  refine ⟨en, S, m, er, si, h.bind.mono ?_⟩
  rintro vs H1 ⟨ds, S1, m1, e1, s1, r1, h1⟩
  by_cases hl : ds.length ≤ lineN
  · rw [if_pos hl] at h1
    refine ⟨by rw [r1.len, ← line_eq]; exact hl, fun q hq => h1 _ m1 _ (.new hq) (s1.new hq) (.lst upd_same (s1.off hq) (r1.to (.new hq)))⟩
  · rw [if_neg hl] at h1; exact h1.elim
theorem e_lstC (h : PA X es (tA X.K W mr)) : PE X (.List es pos) (tE X.K W (mLstC mr)) := by
  refine PE.imp (pe_lst h) ?_
  rintro σ H Q ⟨en, S, m, er, si, h⟩
  refine ⟨en, S, m, er, si, h.bind.mono ?_⟩
  rintro vs H1 ⟨ds, S1, m1, e1, s1, r1, h1⟩
  by_cases hl : ds.length ≤ lineN
  · rw [if_pos hl] at h1
    refine ⟨by rw [r1.len, ← line_eq]; exact hl, fun q hq => h1 _ (m1.add q) _ (.cell hq) (s1.grow hq ⟨vs, upd_same, r1.to (.cell hq)⟩) (.ref (s1.last q))⟩
  · rw [if_neg hl] at h1; exact h1.elim

/-! built-in calls -/
def mCB (f : List D → Sto → Option D) (mr : AM) : EM := fun en S => (mr en S).bind fun ds S1 => ofO (f ds S1) S1
theorem cb_to {f : List D → Sto → Option D} {σ : L2.St} {H : Hp} {Q : VK} (h : tE X.K W (mCB f mr) σ H Q) : tCB (rOL X.K f) (tA X.K W mr) σ H Q := by
  obtain ⟨en, S, m, er, si, h⟩ := h
  refine ⟨en, S, m, er, si, h.bind.mono ?_⟩
  rintro vs H1 ⟨ds, S1, m1, e1, s1, r1, h1⟩
  cases q : f ds S1 with
  | none => rw [q] at h1; exact h1.elim
  | some r =>
    rw [q] at h1
    exact ⟨ds, S1, m1, r, s1, r1, q, fun z H3 e3 s3 r3 => h1 z m1 H3 e3 s3 r3⟩
theorem e_cb {x : Str} {id : String} {f : List D → Sto → Option D} (hc : CallR X (.builtin id) (rOL X.K f)) (hg : Gl X x) (hm : X.mg x = none) (hv : bootBuiltins x = some (.builtin id)) (ha : PA X (e :: es) (tA X.K W mr))
    (hn : x ≠ "__name__" := by decide) (hd : (x == ("__debug__" : Str)) = false := by decide) (hs : starEach (e :: es) X.env = (false, eval e X.env) :: starEach es X.env := by rfl) (hb : (backTo pos (starEach es X.env)).any (·.1) = false := by rfl) :
    PE X (.Call (.Name x p) (e :: es) [] pos) (tE X.K W (mCB f mr)) := PE.imp (pe_callB hc hg hm hv ha hn hd hs hb) fun _ _ _ => cb_to
theorem e_cty {x : Str} {T : String} {f : List D → Sto → Option D} (hc : CallR X (.type T) (rOL X.K f)) (hg : Gl X x) (hm : X.mg x = none) (hv : bootBuiltins x = some (.type T)) (ha : PA X (e :: es) (tA X.K W mr))
    (hn : x ≠ "__name__" := by decide) (hd : (x == ("__debug__" : Str)) = false := by decide) (hs : starEach (e :: es) X.env = (false, eval e X.env) :: starEach es X.env := by rfl) (hb : (backTo pos (starEach es X.env)).any (·.1) = false := by rfl) :
    PE X (.Call (.Name x p) (e :: es) [] pos) (tE X.K W (mCB f mr)) := PE.imp (pe_callTy hc hg hm hv ha hn hd hs hb) fun _ _ _ => cb_to
end

/-! ### statements -/
section
variable {X : Cx} {W : WX} {e a b c : Expr} {pos : Pos} {ma : EM} {st : Stmt} {rest sa sb : List Stmt} {s1 s2 : SM} {t : BM} {g : GM}
def eS (r : Res D) (en : En) (k : D → Sto → SRes) : SRes := match r with
  | .ok d S => k d S
  | .exc c fs S => .exc c fs en S
  | .stuck => .stuck
theorem eS_to {m : Mp} {H : Hp} {σ : L2.St} {r : Res D} {en : En} {k : D → Sto → SRes} {E : Ends} (er : EnvR X.K m H σ en) (h : SPost X.K W m H (eS r en k) E) :
    Post X.K W σ m H r (fun v H1 => ∃ d S1 m1, Ext m H m1 H1 ∧ Sim X.K m1 S1 H1 ∧ Rep X.K m1 H1 v d ∧ SPost X.K W m1 H1 (k d S1) E) := by
  cases r with
  | ok d S => exact fun v m1 H1 e s r1 => ⟨d, S, m1, e, s, r1, h.to e⟩
  | exc c fs S => exact fun od m1 H1 e s x => h σ od m1 H1 e s (er.to e) x
  | stuck => exact h
def sNil : SM := fun en S => .next en S
def sSeq (a b : SM) : SM := fun en S => match a en S with
  | .next en1 S1 => b en1 S1
  | r => r
theorem ss_nil : PSs X [] (tS X.K W sNil) := PSs.imp pss_nil fun E σ H ⟨en, S, m, er, si, h⟩ => h σ m H .refl si er
theorem ss_cons (h1 : PS X st (tS X.K W s1)) (h2 : PSs X rest (tS X.K W s2)) : PSs X (st :: rest) (tS X.K W (sSeq s1 s2)) := by
  refine PSs.imp (pss_cons h1 h2) ?_
  rintro E σ H ⟨en, S, m, er, si, h⟩
  refine ⟨en, S, m, er, si, ?_⟩
  unfold sSeq at h
  cases q : s1 en S with
  | next en1 S1 =>
    rw [q] at h
    exact fun σ' m' H' e s r => ⟨en1, S1, m', r, s, SPost.to h e⟩
  | ret d S1 => rw [q] at h; exact h
  | brk en1 S1 => rw [q] at h; exact h
  | cnt en1 S1 => rw [q] at h; exact h
  | exc c fs en1 S1 => rw [q] at h; exact h
  | stuck => rw [q] at h; exact h
theorem ss_one (h1 : PS X st (tS X.K W s1)) : PSs X [st] (tS X.K W s1) := pss_one h1
def sPass : SM := fun en S => .next en S
theorem s_pass : PS X (.Pass pos) (tS X.K W sPass) := PS.imp ps_pass fun E σ H ⟨en, S, m, er, si, h⟩ => h σ m H .refl si er
theorem s_break : PS X (.Break pos) (tS X.K W fun en S => .brk en S) := PS.imp ps_break fun E σ H ⟨en, S, m, er, si, h⟩ => h σ m H .refl si er
theorem s_continue : PS X (.Continue pos) (tS X.K W fun en S => .cnt en S) := PS.imp ps_continue fun E σ H ⟨en, S, m, er, si, h⟩ => h σ m H .refl si er
def sExpr (ma : EM) : SM := fun en S => eS (ma en S) en fun _ S1 => .next en S1
theorem s_expr (he : PE X e (tE X.K W ma)) (hs : swapsWith e none pos.line X.env = pure false := by rfl) : PS X (.Expr e pos) (tS X.K W (sExpr ma)) := by
  refine PS.imp (ps_expr he hs) ?_
  rintro E σ H ⟨en, S, m, er, si, h⟩
  refine ⟨en, S, m, er, si, (eS_to er h).mono ?_⟩
  rintro v H1 ⟨d, S1, m1, e1, s1, r1, h1⟩
  exact h1 σ m1 H1 .refl s1 (er.to e1)
def sRet (ma : EM) : SM := fun en S => eS (ma en S) en fun d S1 => .ret d S1
theorem s_ret (he : PE X e (tE X.K W ma)) : PS X (.Return (some e) pos) (tS X.K W (sRet ma)) := by
  refine PS.imp (ps_ret he) ?_
  rintro E σ H ⟨en, S, m, er, si, h⟩
  refine ⟨en, S, m, er, si, (eS_to er h).mono ?_⟩
  rintro v H1 ⟨d, S1, m1, e1, s1, r1, h1⟩
  exact h1 v m1 H1 .refl s1 r1
theorem s_retN : PS X (.Return none pos) (tS X.K W fun _ S => .ret .non S) := PS.imp ps_retN fun E σ H ⟨en, S, m, er, si, h⟩ => h _ m H .refl si .non
def bS (r : Res Bool) (en : En) (k : Bool → Sto → SRes) : SRes := match r with
  | .ok d S => k d S
  | .exc c fs S => .exc c fs en S
  | .stuck => .stuck
theorem bS_to {m : Mp} {H : Hp} {σ : L2.St} {r : Res Bool} {en : En} {k : Bool → Sto → SRes} {E : Ends} (er : EnvR X.K m H σ en) (h : SPost X.K W m H (bS r en k) E) :
    PostB X.K W σ m H r (fun v H1 => ∃ S1 m1, Ext m H m1 H1 ∧ Sim X.K m1 S1 H1 ∧ SPost X.K W m1 H1 (k v S1) E) := by
  cases r with
  | ok d S => exact fun v m1 H1 e s r1 => ⟨S, m1, e, s, by subst r1; exact h.to e⟩
  | exc c fs S => exact fun od m1 H1 e s x => h σ od m1 H1 e s (er.to e) x
  | stuck => exact h
def sIf (t : BM) (a b : SM) : SM := fun en S => bS (t en S) en fun c S1 => if c = true then a en S1 else b en S1
theorem s_if (hc : PT X c (tT X.K W t)) (ha : PSs X sa (tS X.K W s1)) (hb : PSs X sb (tS X.K W s2)) : PS X (.If c sa sb pos) (tS X.K W (sIf t s1 s2)) := by
  refine PS.imp (ps_if hc ha hb) ?_
  rintro E σ H ⟨en, S, m, er, si, h⟩
  refine ⟨en, S, m, er, si, (bS_to er h).mono ?_⟩
  rintro v H1 ⟨S1, m1, e1, s1, h1⟩
  cases v with
  | true => exact ⟨en, S1, m1, er.to e1, s1, h1⟩
  | false => exact ⟨en, S1, m1, er.to e1, s1, h1⟩

/-! targets, assignment -/
def gNm (i : Nat) : GM := fun d en S => .ok (en.set i (some d)) S
theorem EnvR.set {K : PySem.W.Frag} {m : Mp} {H : Hp} {σ : L2.St} {en : En} {i : Nat} {v : V} {d : D} (er : EnvR K m H σ en) (r : Rep K m H v d) : EnvR K m H (σ.set i (some v)) (en.set i (some d)) := by
  refine ⟨by simp [er.len], fun j c q => ?_⟩
  by_cases hj : i = j
  · subst hj
    have hl : i < en.length := by
      by_cases hl : i < en.length
      · exact hl
      · rw [List.getElem?_eq_none (by simpa using hl)] at q; cases q
    rw [List.getElem?_set_self hl] at q
    cases q
    exact ⟨v, by rw [List.getElem?_set_self (by rw [er.len]; exact hl)], r⟩
  · rw [List.getElem?_set_ne hj] at q
    obtain ⟨w, h1, h2⟩ := er.at_ j c q
    exact ⟨w, by rw [List.getElem?_set_ne hj]; exact h1, h2⟩
theorem g_name {i : Nat} {x : Str} (hN : X.N.Nodup) (hi : X.N[i]? = some x) (hx : Loc X.env.scope x) (hf : X.fn x = true ∨ X.env.scope.names.lookup x = some .local := by first | exact Or.inl rfl | exact Or.inr rfl) : PG X (.Name x pos) (tG X.K W (gNm i)) :=
  PG.imp (pg_name hN hi hx hf) fun v σ H Q ⟨d, en, S, m, er, si, r, h⟩ => h _ m H .refl si (er.set r)
def sAsg (ma : EM) (g : GM) : SM := fun en S => eS (ma en S) en fun d S1 => match g d en S1 with
  | .ok en' S2 => .next en' S2
  | .exc c fs S2 => .exc c fs en S2
  | .stuck => .stuck
theorem asg_to {E : Ends} {σ : L2.St} {H : Hp} (h : tS X.K W (sAsg ma g) E σ H) : tAsg (tE X.K W ma) (tG X.K W g) E σ H := by
  obtain ⟨en, S, m, er, si, h⟩ := h
  refine ⟨en, S, m, er, si, (eS_to er h).mono ?_⟩
  rintro v H1 ⟨d, S1, m1, e1, s1, r1, h1⟩
  refine ⟨d, en, S1, m1, er.to e1, s1, r1, ?_⟩
  cases q : g d en S1 with
  | ok en' S2 => rw [q] at h1; exact fun σ' m' H' e s r => h1 σ' m' H' e s r
  | exc c fs S2 => rw [q] at h1; exact fun od m' H' e s x => h1 σ od m' H' e s ((er.to e1).to e) x
  | stuck => rw [q] at h1; exact h1
theorem s_set {i : Nat} {x : Str} {pos' : Pos} (hN : X.N.Nodup) (hi : X.N[i]? = some x) (hx : Loc X.env.scope x) (he : PE X e (tE X.K W ma)) (hs : swapsWith e (some (.Name x pos')) pos.line X.env = pure false := by rfl)
    (hf : X.fn x = true ∨ X.env.scope.names.lookup x = some .local := by first | exact Or.inl rfl | exact Or.inr rfl) : PS X (.Assign [.Name x pos'] e pos) (tS X.K W (sAsg ma (gNm i))) := by
  refine PS.imp (ps_set hN hi hx he hs hf) ?_
  intro E σ H h
  refine (?_ : tAsg (tE X.K W ma) (gName i) E σ H)
  obtain ⟨en, S, m, er, si, h⟩ := h
  refine ⟨en, S, m, er, si, (eS_to er h).mono ?_⟩
  rintro v H1 ⟨d, S1, m1, e1, s1, r1, h1⟩
  exact h1 _ m1 H1 .refl s1 ((er.to e1).set r1)
theorem s_asg {tg : Expr} (he : PE X e (tE X.K W ma)) (hg : PG X tg (tG X.K W g)) (h1 : swapsWithSole [tg] e pos.line X.env = pure false := by rfl) (h2 : swappedStores [tg] e X.env = pure none := by rfl) (h3 : (assignEach [tg] X.env).map (·.2) = [assign tg X.env] := by rfl) :
    PS X (.Assign [tg] e pos) (tS X.K W (sAsg ma g)) := PS.imp (ps_asg he hg h1 h2 h3) fun _ _ _ => asg_to
end
end Ag

namespace Ag
open PySem L2
/-! ### iterables -/
abbrev Nxt := Nat → Sto → Option (Option D)
structure ItD where
  nxt : Nxt
  n : Nat
abbrev IM := En → Sto → Res ItD
def WalkD (K : PySem.W.Frag) (m : Mp) (H : Hp) (J : L2.It) (nxt : Nxt) : Prop := ∀ m' S' H', Tr m H m' H' → Sim K m' S' H' → ∀ k, match nxt k S' with
  | none => True
  | some none => J.stop k H'
  | some (some d) => J.go k H' ∧ ∀ x H'', J.yld k H' x H'' → Ext m' H' m' H'' ∧ Sim K m' S' H'' ∧ Rep K m' H'' x d
def tI (K : PySem.W.Frag) (W : WX) (mi : IM) : TI := fun σ H R => ∃ en S m, EnvR K m H σ en ∧ Sim K m S H ∧ PostG K W (fun m' H' (J : L2.It) (it : ItD) => WalkD K m' H' J it.nxt) σ m H (mi en S) R
theorem PI.imp {X : Cx} {tg it : Expr} {t t' : TI} (h : PI X tg it t) (f : ∀ σ H Q, t' σ H Q → t σ H Q) : PI X tg it t' := ⟨fun pins s σ H R I hw => h.run pins s σ H R I (f _ _ _ hw)⟩

/-! ### for -/
def forM (nxt : Nxt) (g : GM) (b : SM) : Nat → Nat → En → Sto → SRes
  | 0, k, en, S => match nxt k S with
    | some none => .next en S
    | _ => .stuck
  | f + 1, k, en, S => match nxt k S with
    | none => .stuck
    | some none => .next en S
    | some (some d) => match g d en S with
      | .ok en1 S1 => (match b en1 S1 with
        | .next en2 S2 => forM nxt g b f (k + 1) en2 S2
        | .cnt en2 S2 => forM nxt g b f (k + 1) en2 S2
        | .brk en2 S2 => .next en2 S2
        | .ret d S2 => .ret d S2
        | .exc c fs en2 S2 => .exc c fs en2 S2
        | .stuck => .stuck)
      | .exc c fs S1 => .exc c fs en S1
      | .stuck => .stuck
def sFor (mi : IM) (g : GM) (b : SM) : SM := fun en S => match mi en S with
  | .ok it S1 => forM it.nxt g b it.n 0 en S1
  | .exc c fs S1 => .exc c fs en S1
  | .stuck => .stuck
section
variable {X : Cx} {W : WX} {tg iter c : Expr} {body : List Stmt} {pos : Pos} {mi : IM} {g : GM} {b : SM} {t : BM}
theorem s_for (hp : PassesOwn (model X.prog X.w) X.A X.env X.xe) (hc : X.calm = true) (hi : PI X tg iter (tI X.K W mi)) (hg : PG X tg (tG X.K W g)) (hb : PSs X body (tS X.K W b))
    (hs : ∀ x, foldedSetIterable iter X.env x = pure x := by intro _; rfl) : PS X (.For tg iter body [] pos) (tS X.K W (sFor mi g b)) := by
  refine PS.imp (ps_for hp hc hi hg hb hs) ?_
  rintro E σ H ⟨en, S, m, er, si, h⟩
  refine ⟨en, S, m, er, si, ?_⟩
  unfold sFor at h
  cases q : mi en S with
  | stuck => rw [q] at h; exact h
  | exc c fs S1 => rw [q] at h; exact fun od m1 H1 e s x => h σ od m1 H1 e s (er.to e) x
  | ok it S1 =>
    rw [q] at h
    intro J m1 H1 e1 s1 wk
    refine ⟨fun i f σ2 H2 => ∃ en2 S2 m2, Ext m1 H1 m2 H2 ∧ EnvR X.K m2 H2 σ2 en2 ∧ Sim X.K m2 S2 H2 ∧ SPost X.K W m2 H2 (forM it.nxt g b f i en2 S2) E, ⟨it.n, en, S1, m1, .refl, er.to e1, s1, SPost.to h e1⟩, ?_⟩
    rintro i f σ2 H2 ⟨en2, S2, m2, e2, er2, s2, h2⟩
    have wk2 := wk m2 S2 H2 e2.tr s2 i
    cases qn : it.nxt i S2 with
    | none => cases f <;> (simp only [forM, qn] at h2; exact h2.elim)
    | some od =>
      rw [qn] at wk2
      cases od with
      | none =>
        have h3 : SPost X.K W m2 H2 (.next en2 S2) E := by cases f <;> simpa only [forM, qn] using h2
        exact .inl ⟨wk2, h3 σ2 m2 H2 .refl s2 er2⟩
      | some d =>
        cases f with
        | zero => simp only [forM, qn] at h2; exact h2.elim
        | succ f =>
          refine .inr ⟨wk2.1, fun σ' H' => ∃ en2 S2 m2, Ext m1 H1 m2 H' ∧ EnvR X.K m2 H' σ' en2 ∧ Sim X.K m2 S2 H' ∧ SPost X.K W m2 H' (forM it.nxt g b f (i + 1) en2 S2) E, fun σ' H' z => ⟨f, Nat.lt_succ_self f, z⟩, ?_⟩
          intro x H3 y
          obtain ⟨e3, s3, r3⟩ := wk2.2 x H3 y
          refine ⟨d, en2, S2, m2, er2.to e3, s3, r3, ?_⟩
          have h4 := SPost.to h2 e3
          simp only [forM, qn] at h4
          cases qg : g d en2 S2 with
          | stuck => rw [qg] at h4; exact h4
          | exc c fs S4 => rw [qg] at h4; exact fun od m' H' e s z => h4 σ2 od m' H' e s ((er2.to e3).to e) z
          | ok en4 S4 =>
            rw [qg] at h4
            intro σ4 m4 H4 e4 s4 r4
            refine ⟨en4, S4, m4, r4, s4, ?_⟩
            have h5 := SPost.to h4 e4
            have eb : Ext m1 H1 m4 H4 := (e2.trans e3).trans e4
            cases qb : b en4 S4 with
            | next en5 S5 => simp only [qb] at h5; exact fun σ' m' H' e s r => ⟨en5, S5, m', eb.trans e, r, s, SPost.to h5 e⟩
            | cnt en5 S5 => simp only [qb] at h5; exact fun σ' m' H' e s r => ⟨en5, S5, m', eb.trans e, r, s, SPost.to h5 e⟩
            | brk en5 S5 => simp only [qb] at h5; exact h5
            | ret d5 S5 => simp only [qb] at h5; exact h5
            | exc c fs en5 S5 => simp only [qb] at h5; exact h5
            | stuck => simp only [qb] at h5; exact h5

/-! ### while -/
def whF (t : BM) (b : SM) : Nat → En → Sto → SRes
  | 0, _, _ => .stuck
  | n + 1, en, S => bS (t en S) en fun c S1 => if c = true then (match b en S1 with
      | .next en2 S2 => whF t b n en2 S2
      | .cnt en2 S2 => whF t b n en2 S2
      | .brk en2 S2 => .next en2 S2
      | .ret d S2 => .ret d S2
      | .exc c fs en2 S2 => .exc c fs en2 S2
      | .stuck => .stuck) else .next en S1
open Classical in
noncomputable def sWh (t : BM) (b : SM) : SM := fun en S => if h : ∃ n, whF t b n en S ≠ .stuck then whF t b (Classical.choose h) en S else .stuck
theorem whF_mono {t : BM} {b : SM} : ∀ (n : Nat) (en : En) (S : Sto), whF t b n en S ≠ .stuck → whF t b (n + 1) en S = whF t b n en S
  | 0, en, S, h => absurd rfl h
  | n + 1, en, S, h => by
    unfold whF at h ⊢
    cases q : t en S with
    | stuck => simp only [q, bS] at h ⊢
    | exc c fs S1 => simp only [q, bS] at h ⊢
    | ok c S1 =>
      simp only [q, bS] at h ⊢
      cases c with
      | false => rfl
      | true =>
        simp only [if_true] at h ⊢
        cases qb : b en S1 with
        | next en2 S2 => simp only [qb] at h ⊢; exact whF_mono n en2 S2 h
        | cnt en2 S2 => simp only [qb] at h ⊢; exact whF_mono n en2 S2 h
        | _ => simp only [qb]
theorem whF_le {t : BM} {b : SM} {n k : Nat} {en : En} {S : Sto} (hk : n ≤ k) (h : whF t b n en S ≠ .stuck) : whF t b k en S = whF t b n en S := by
  induction hk with
  | refl => rfl
  | step hk ih => rw [whF_mono _ _ _ (by rw [ih]; exact h), ih]
theorem sWh_of {t : BM} {b : SM} {n : Nat} {en : En} {S : Sto} (h : whF t b n en S ≠ .stuck) : sWh t b en S = whF t b n en S := by
  have hx : ∃ n, whF t b n en S ≠ .stuck := ⟨n, h⟩
  unfold sWh
  rw [dif_pos hx]
  have h2 := Classical.choose_spec hx
  rcases Nat.le_total n (Classical.choose hx) with l | l
  · exact whF_le l h
  · exact (whF_le l h2).symm
theorem sWh_eq {t : BM} {b : SM} (en : En) (S : Sto) : sWh t b en S = bS (t en S) en fun c S1 => if c = true then (match b en S1 with
      | .next en2 S2 => sWh t b en2 S2
      | .cnt en2 S2 => sWh t b en2 S2
      | .brk en2 S2 => .next en2 S2
      | .ret d S2 => .ret d S2
      | .exc c fs en2 S2 => .exc c fs en2 S2
      | .stuck => .stuck) else .next en S1 := by
  cases q : t en S with
  | stuck =>
    have : ∀ n, whF t b n en S = .stuck := fun n => by cases n <;> simp [whF, q, bS]
    unfold sWh
    rw [dif_neg (by simp [this])]
    rfl
  | exc c fs S1 =>
    have : whF t b 1 en S = .exc c fs en S1 := by simp [whF, q, bS]
    rw [sWh_of (n := 1) (by rw [this]; nofun), this]
    rfl
  | ok c S1 =>
    simp only [bS]
    cases c with
    | false =>
      have : whF t b 1 en S = .next en S1 := by simp [whF, q, bS]
      rw [sWh_of (n := 1) (by rw [this]; nofun), this]
      rfl
    | true =>
      simp only [if_true]
      have again : ∀ en2 S2, (∀ n, whF t b (n + 1) en S = whF t b n en2 S2) → sWh t b en S = sWh t b en2 S2 := fun en2 S2 e => by
        by_cases hx : ∃ n, whF t b n en2 S2 ≠ .stuck
        · obtain ⟨n, hn⟩ := hx
          rw [sWh_of hn, sWh_of (n := n + 1) (by rw [e]; exact hn), e]
        · have hy : ¬ ∃ n, whF t b n en S ≠ .stuck := fun ⟨n, hn⟩ => by
            cases n with
            | zero => exact hn rfl
            | succ n => rw [e] at hn; exact hx ⟨n, hn⟩
          unfold sWh
          rw [dif_neg hx, dif_neg hy]
      cases qb : b en S1 with
      | next en2 S2 => exact again en2 S2 fun n => by simp [whF, q, bS, qb]
      | cnt en2 S2 => exact again en2 S2 fun n => by simp [whF, q, bS, qb]
      | stuck =>
        have : ∀ n, whF t b n en S = .stuck := fun n => by cases n <;> simp [whF, q, bS, qb]
        unfold sWh
        rw [dif_neg (by simp [this])]
      | brk en2 S2 =>
        have : whF t b 1 en S = .next en2 S2 := by simp [whF, q, bS, qb]
        rw [sWh_of (n := 1) (by rw [this]; nofun), this]
      | ret d S2 =>
        have : whF t b 1 en S = .ret d S2 := by simp [whF, q, bS, qb]
        rw [sWh_of (n := 1) (by rw [this]; nofun), this]
      | exc c fs en2 S2 =>
        have : whF t b 1 en S = .exc c fs en2 S2 := by simp [whF, q, bS, qb]
        rw [sWh_of (n := 1) (by rw [this]; nofun), this]
theorem s_while (hp : PassesOwn (model X.prog X.w) X.A X.env X.xe) (hc : PT X c (tT X.K W t)) (hb : PSs X body (tS X.K W b)) : PS X (.While c body [] pos) (tS X.K W (sWh t b)) := by
  refine PS.imp (ps_while hp hc hb) ?_
  rintro E σ H ⟨en, S, m, er, si, h⟩
  unfold sWh at h
  by_cases hx : ∃ n, whF t b n en S ≠ .stuck
  · rw [dif_pos hx] at h
    refine ⟨fun n σ2 H2 => ∃ en2 S2 m2, EnvR X.K m2 H2 σ2 en2 ∧ Sim X.K m2 S2 H2 ∧ SPost X.K W m2 H2 (whF t b n en2 S2) E, ⟨_, en, S, m, er, si, h⟩, ?_⟩
    rintro n σ2 H2 ⟨en2, S2, m2, er2, s2, h2⟩
    cases n with
    | zero => exact h2.elim
    | succ n =>
      refine ⟨en2, S2, m2, er2, s2, (bS_to er2 h2).mono ?_⟩
      rintro v H3 ⟨S3, m3, e3, s3, h3⟩
      cases v with
      | false => exact h3 σ2 m3 H3 .refl s3 (er2.to e3)
      | true =>
        refine ⟨fun σ' H' => ∃ en2 S2 m2, EnvR X.K m2 H' σ' en2 ∧ Sim X.K m2 S2 H' ∧ SPost X.K W m2 H' (whF t b n en2 S2) E, fun σ' H' z => ⟨n, Nat.lt_succ_self n, z⟩, en2, S3, m3, er2.to e3, s3, ?_⟩
        simp only [if_true] at h3
        cases qb : b en2 S3 with
        | next en5 S5 => simp only [qb] at h3; exact fun σ' m' H' e s r => ⟨en5, S5, m', r, s, SPost.to h3 e⟩
        | cnt en5 S5 => simp only [qb] at h3; exact fun σ' m' H' e s r => ⟨en5, S5, m', r, s, SPost.to h3 e⟩
        | brk en5 S5 => simp only [qb] at h3; exact h3
        | ret d5 S5 => simp only [qb] at h3; exact h3
        | exc c fs en5 S5 => simp only [qb] at h3; exact h3
        | stuck => simp only [qb] at h3; exact h3
  · rw [dif_neg hx] at h; exact h.elim
end

/-! ### targets of several names -/
section
variable {X : Cx} {W : WX} {e : Expr} {es : List Expr} {pos : Pos} {g : GM}
abbrev GsM := List D → En → Sto → Res En
def tGs (K : PySem.W.Frag) (W : WX) (g : GsM) : TGs := fun vs σ H Q => ∃ ds en S m, EnvR K m H σ en ∧ Sim K m S H ∧ Reps K m H vs ds ∧ PostE K W σ m H (g ds en S) Q
theorem PGs.imp {t t' : TGs} (h : PGs X es t) (f : ∀ v σ H Q, t' v σ H Q → t v σ H Q) : PGs X es t' := ⟨fun pins s σ H v u Q I r hw => h.run pins s σ H v u Q I r (f _ _ _ _ hw)⟩
def gsNil : GsM := fun ds en S => match ds with | [] => .ok en S | _ => .stuck
def gsCons (g : GM) (r : GsM) : GsM := fun ds en S => match ds with
  | [] => .stuck
  | d :: ds => match g d en S with
    | .ok en1 S1 => (match r ds en1 S1 with
      | .ok en2 S2 => .ok en2 S2
      | _ => .stuck)
    | _ => .stuck
variable {r : GsM}
theorem gs_nil : PGs X [] (tGs X.K W gsNil) := PGs.imp pgs_nil fun vs σ H Q ⟨ds, en, S, m, er, si, rp, h⟩ => by
  cases rp with
  | nil => exact ⟨rfl, h _ m H .refl si er⟩
  | cons h1 h2 => exact h.elim
theorem gs_cons (h1 : PG X e (tG X.K W g)) (h2 : PGs X es (tGs X.K W r)) (hs : (assignEach (e :: es) X.env).map (·.2) = assign e X.env :: (assignEach es X.env).map (·.2) := by rfl) : PGs X (e :: es) (tGs X.K W (gsCons g r)) := by
  refine PGs.imp (pgs_cons h1 h2 hs) ?_
  rintro vs σ H Q ⟨ds, en, S, m, er, si, rp, h⟩
  cases rp with
  | nil => exact h.elim
  | cons h1 h2 =>
    rename_i v vs d ds
    refine ⟨v, vs, rfl, d, en, S, m, er, si, h1, ?_⟩
    unfold gsCons at h
    cases q : g d en S with
    | stuck => simp only [q] at h; exact h
    | exc c fs S1 => simp only [q] at h; exact h.elim
    | ok en1 S1 =>
      simp only [q] at h
      intro σ1 m1 H1 e1 s1 r1
      refine ⟨ds, en1, S1, m1, r1, s1, h2.to e1, ?_⟩
      cases q2 : r ds en1 S1 with
      | stuck => simp only [q2] at h; exact h
      | ok en2 S2 => simp only [q2] at h; exact PostG.to h e1
      | exc c fs S2 => simp only [q2] at h; exact h.elim
/-- a tuple or a list is unpacked -/
def seqOf : D → Sto → Option (List D)
  | .tup l, _ => some l
  | .lst l, _ => some l
  | .ref i, S => match S[i]? with
    | some (.lst l) => some l
    | _ => none
  | _, _ => none
theorem seq_at {K : PySem.W.Frag} {m : Mp} {H : Hp} {S : Sto} {v : V} {d : D} {l : List D} (si : Sim K m S H) (r : Rep K m H v d) (h : seqOf d S = some l) :
    ∃ a vs, v = .ref a ∧ ((SqT K H a vs ∧ d = .tup l) ∨ (H a = some (.lst vs) ∧ (d = .lst l ∨ ∃ i, d = .ref i ∧ S[i]? = some (.lst l)))) ∧ Reps K m H vs l := by
  cases r with
  | tup h1 hd h2 => cases h; exact ⟨_, _, rfl, .inl ⟨h1, rfl⟩, h2⟩
  | lst h1 h2 h3 => cases h; exact ⟨_, _, rfl, .inr ⟨h1, .inl rfl⟩, h3⟩
  | ref h1 =>
    rename_i a i
    simp only [seqOf] at h
    cases q : S[i]? with
    | none => rw [q] at h; cases h
    | some o =>
      rw [q] at h
      cases o with
      | lst l' =>
        cases h
        obtain ⟨vs, h2, h3⟩ := si.cell i a _ h1 q
        exact ⟨a, vs, rfl, .inr ⟨h2, .inr ⟨i, rfl, q⟩⟩, h3⟩
      | ins c ns l' => cases h
      | dic kvs => cases h
  | _ => cases h
def gUnp (n : Nat) (r : GsM) : GM := fun d en S => match seqOf d S with
  | some l => if l.length = n then (match r l en S with
    | .ok en2 S2 => .ok en2 S2
    | _ => .stuck) else .stuck
  | none => .stuck
theorem PG.or {t u : TG} (h1 : PG X e t) (h2 : PG X e u) : PG X e (fun v σ H Q => t v σ H Q ∨ u v σ H Q) := ⟨fun pins s σ H v u Q I r hw => hw.elim (h1.run pins s σ H v u Q I r) (h2.run pins s σ H v u Q I r)⟩
theorem unp_to {n : Nat} {v : V} {σ : L2.St} {H : Hp} {Q : L2.St → Hp → Prop} (h : tG X.K W (gUnp n r) v σ H Q) : gTup X.K n (tGs X.K W r) v σ H Q ∨ gUnl X.K n (tGs X.K W r) v σ H Q := by
  obtain ⟨d, en, S, m, er, si, rp, h⟩ := h
  unfold gUnp at h
  cases q : seqOf d S with
  | none => simp only [q] at h; exact h.elim
  | some l =>
    simp only [q] at h
    by_cases hl : l.length = n
    · rw [if_pos hl] at h
      obtain ⟨a, vs, rfl, h1, h2⟩ := seq_at si rp q
      have hn : vs.length = n := by rw [h2.len]; exact hl
      have hk : tGs X.K W r vs σ H Q := ⟨l, en, S, m, er, si, h2, by
        cases q2 : r l en S with
        | stuck => simp only [q2] at h; exact h
        | ok en2 S2 => simp only [q2] at h; exact h
        | exc c fs S2 => simp only [q2] at h; exact h.elim⟩
      rcases h1 with ⟨h1, _⟩ | ⟨h1, _⟩
      · exact .inl ⟨a, vs, rfl, h1, hn, hk⟩
      · exact .inr ⟨a, vs, rfl, .inl (.inl h1), hn, hk⟩
    · rw [if_neg hl] at h; exact h.elim
theorem g_unp {k n : Nat} (hc : X.calm = true) (h : PGs X es (tGs X.K W r)) (hn : (assignEach es X.env).length = n := by rfl) (hst : (assignEach es X.env).findIdx? (·.1) = none := by rfl) : PG X (.Tuple es k pos) (tG X.K W (gUnp n r)) :=
  PG.imp (PG.or (pg_tup hc h hn hst) (pg_unl hc h hn hst)) fun _ _ _ _ => unp_to

/-! x[i] = v -/
def fSet : D → D → D → Sto → Option Sto
  | .ref r, .int i, d, S => match S[r]? with
    | some (.lst l) => (ixN l.length i).map fun k => S.set r (.lst (l.set k d))
    | _ => none
  | _, _, _, _ => none
def gSubM (f : D → D → D → Sto → Option Sto) (mo mi : EM) : GM := fun d en S => (mo en S).bind fun o S1 => (mi en S1).bind fun i S2 => match f o i d S2 with
  | some S3 => .ok en S3
  | none => .stuck
def rSetO (K : PySem.W.Frag) (f : D → D → D → Sto → Option Sto) : V → V → V → Hp → (Hp → Prop) → Prop := fun o i v H Q => ∃ od id d S m S', Sim K m S H ∧ Rep K m H o od ∧ Rep K m H i id ∧ Rep K m H v d ∧ f od id d S = some S' ∧ ∀ H', Ext m H m H' → Sim K m S' H' → Q H'
theorem set_ok : PSet X (rSetO X.K fSet) := by
  intro pins s σ H o i v ov iv u Q I ro ri rv h
  obtain ⟨od, id, d, S, m, S', si, r1, r2, r3, hf, hq⟩ := h
  cases r1 with
  | ref h1 =>
    rename_i a k
    cases r2 with
    | int j =>
      simp only [fSet] at hf
      cases q : S[k]? with
      | none => rw [q] at hf; cases hf
      | some ob =>
        rw [q] at hf
        cases ob with
        | ins c ns l => cases hf
        | dic kvs => cases hf
        | lst l =>
          obtain ⟨vs, h2, h3⟩ := si.cell k a _ h1 q
          cases qj : ixN l.length j with
          | none => simp only [qj] at hf; cases hf
          | some n =>
            simp only [qj, Option.map_some] at hf
            cases hf
            refine set_list pins s σ H _ _ v ov iv u Q I ro ri rv ⟨a, vs, j, n, rfl, rfl, h2, by rw [h3.len]; exact qj, ?_⟩
            have e : Ext m H m (upd H a (.lst (vs.set n v))) := Ext.put si (List.mem_of_getElem? h1)
            exact hq _ e (si.put h1 ⟨_, upd_same, (h3.set n r3).to e⟩)
    | _ => cases hf
  | _ => cases hf
theorem g_sub {o i : Expr} {mo mi : EM} {f : D → D → D → Sto → Option Sto} (hs : PSet X (rSetO X.K f)) (ho : PE X o (tE X.K W mo)) (hi : PE X i (tE X.K W mi))
    (h1 : ∀ v : Value, assign (o.Subscript i pos) X.env v = (do let ov ← holding [v] (eval o X.env); let iv ← holding [v, ov] (eval i X.env); standAt pos; holding [v, ov, iv] (setItem ov iv v); PySem.release [v, ov, iv] []) := by intro _; rfl) : PG X (.Subscript o i pos) (tG X.K W (gSubM f mo mi)) := by
  refine PG.imp (pg_sub ho hi hs h1) ?_
  rintro v σ H Q ⟨d, en, S, m, er, si, rp, h⟩
  refine ⟨en, S, m, er, si, (PostG.bind (R := Rep X.K) h).mono ?_⟩
  rintro ov H1 ⟨od, S1, m1, e1, s1, r1, h1⟩
  refine ⟨en, S1, m1, er.to e1, s1, (PostG.bind (R := Rep X.K) h1).mono ?_⟩
  rintro iv H2 ⟨id, S2, m2, e2, s2, r2, h2⟩
  cases q : f od id d S2 with
  | none => rw [q] at h2; exact h2.elim
  | some S3 =>
    rw [q] at h2
    exact ⟨od, id, d, S2, m2, S3, s2, r1.to e2, r2, (rp.to e1).to e2, q, fun H3 e3 s3 => h2 σ m2 H3 e3 s3 (((er.to e1).to e2).to e3)⟩
end

/-! ### list comprehensions -/
section
variable {X : Cx} {W : WX} {e : Expr} {es : List Expr} {pos : Pos} {g : GM}
def W0 : WX := fun _ _ _ _ => False
def wipeE (en : En) : List Nat → En
  | [] => en
  | v :: vs => (wipeE en vs).set v none
theorem EnvR.wipe {K : PySem.W.Frag} {m : Mp} {H : Hp} {σ : L2.St} {en : En} (er : EnvR K m H σ en) : ∀ vs : List Nat, EnvR K m H (L2.wipe σ vs) (wipeE en vs)
  | [] => er
  | v :: vs => by
    have ih := EnvR.wipe er vs
    refine ⟨by simp [L2.wipe, wipeE, ih.len], fun j c q => ?_⟩
    simp only [wipeE] at q
    simp only [L2.wipe]
    by_cases hj : v = j
    · subst hj
      rw [List.getElem?_set] at q
      simp at q
    · rw [List.getElem?_set_ne hj] at q
      obtain ⟨w, h1, h2⟩ := ih.at_ j c q
      exact ⟨w, by rw [List.getElem?_set_ne hj]; exact h1, h2⟩
/-- a target that touches the slots vs alone -/
def tGw (K : PySem.W.Frag) (W : WX) (vs : List Nat) (g : GM) : TG := fun v σ H Q => ∃ d en S m, EnvR K m H σ en ∧ Sim K m S H ∧ Rep K m H v d ∧ PostG K W (fun m' H' (σ' : L2.St) en' => EnvR K m' H' σ' en' ∧ L2.wipe σ' vs = L2.wipe σ vs) σ m H (g d en S) Q
theorem wipe_set {σ : L2.St} {i : Nat} {v : Option V} : ∀ {vs : List Nat}, i ∈ vs → L2.wipe (σ.set i v) vs = L2.wipe σ vs
  | [], h => by cases h
  | w :: vs, h => by
    by_cases hm : i ∈ vs
    · simp only [L2.wipe]; rw [wipe_set hm]
    · have e : i = w := by
        rcases List.mem_cons.mp h with z | z
        · exact z
        · exact absurd z hm
      subst e
      have aux : ∀ us : List Nat, i ∉ us → L2.wipe (σ.set i v) us = (L2.wipe σ us).set i v := by
        intro us
        induction us with
        | nil => intro _; rfl
        | cons u us ih =>
          intro hu
          simp only [L2.wipe]
          rw [ih (fun z => hu (List.mem_cons_of_mem _ z)), List.set_comm _ _ (fun z => hu (by rw [z]; exact List.mem_cons_self))]
      simp only [L2.wipe]
      rw [aux vs hm, List.set_set]
theorem gw_name {i : Nat} {x : Str} {vs : List Nat} (hi2 : i ∈ vs) (hN : X.N.Nodup) (hi : X.N[i]? = some x) (hx : Loc X.env.scope x) (hf : X.fn x = true ∨ X.env.scope.names.lookup x = some .local := by first | exact Or.inl rfl | exact Or.inr rfl) : PG X (.Name x pos) (tGw X.K W vs (gNm i)) :=
  PG.imp (pg_name hN hi hx hf) fun v σ H Q ⟨d, en, S, m, er, si, r, h⟩ => h _ m H .refl si ⟨er.set r, wipe_set hi2⟩
def tGsw (K : PySem.W.Frag) (W : WX) (vs : List Nat) (g : GsM) : TGs := fun us σ H Q => ∃ ds en S m, EnvR K m H σ en ∧ Sim K m S H ∧ Reps K m H us ds ∧ PostG K W (fun m' H' (σ' : L2.St) en' => EnvR K m' H' σ' en' ∧ L2.wipe σ' vs = L2.wipe σ vs) σ m H (g ds en S) Q
variable {r : GsM} {vs : List Nat}
theorem gws_nil : PGs X [] (tGsw X.K W vs gsNil) := PGs.imp pgs_nil fun us σ H Q ⟨ds, en, S, m, er, si, rp, h⟩ => by
  cases rp with
  | nil => exact ⟨rfl, h _ m H .refl si ⟨er, rfl⟩⟩
  | cons h1 h2 => exact h.elim
theorem gws_cons (h1 : PG X e (tGw X.K W vs g)) (h2 : PGs X es (tGsw X.K W vs r)) (hs : (assignEach (e :: es) X.env).map (·.2) = assign e X.env :: (assignEach es X.env).map (·.2) := by rfl) : PGs X (e :: es) (tGsw X.K W vs (gsCons g r)) := by
  refine PGs.imp (pgs_cons h1 h2 hs) ?_
  rintro us σ H Q ⟨ds, en, S, m, er, si, rp, h⟩
  cases rp with
  | nil => exact h.elim
  | cons h1 h2 =>
    rename_i v us d ds
    refine ⟨v, us, rfl, d, en, S, m, er, si, h1, ?_⟩
    unfold gsCons at h
    cases q : g d en S with
    | stuck => simp only [q] at h; exact h
    | exc c fs S1 => simp only [q] at h; exact h.elim
    | ok en1 S1 =>
      simp only [q] at h
      intro σ1 m1 H1 e1 s1 r1
      refine ⟨ds, en1, S1, m1, r1.1, s1, h2.to e1, ?_⟩
      cases q2 : r ds en1 S1 with
      | stuck => simp only [q2] at h; exact h
      | ok en2 S2 =>
        simp only [q2] at h
        exact fun σ2 m2 H2 e2 s2 r2 => h σ2 m2 H2 (e1.trans e2) s2 ⟨r2.1, r2.2.trans r1.2⟩
      | exc c fs S2 => simp only [q2] at h; exact h.elim
theorem gw_unp {k n : Nat} (hc : X.calm = true) (h : PGs X es (tGsw X.K W vs r)) (hn : (assignEach es X.env).length = n := by rfl) (hst : (assignEach es X.env).findIdx? (·.1) = none := by rfl) : PG X (.Tuple es k pos) (tGw X.K W vs (gUnp n r)) := by
  refine PG.imp (PG.or (pg_tup hc h hn hst) (pg_unl hc h hn hst)) ?_
  rintro v σ H Q ⟨d, en, S, m, er, si, rp, h⟩
  unfold gUnp at h
  cases q : seqOf d S with
  | none => simp only [q] at h; exact h.elim
  | some l =>
    simp only [q] at h
    by_cases hl : l.length = n
    · rw [if_pos hl] at h
      obtain ⟨a, us, rfl, h1, h2⟩ := seq_at si rp q
      have hn : us.length = n := by rw [h2.len]; exact hl
      have hk : tGsw X.K W vs r us σ H Q := ⟨l, en, S, m, er, si, h2, by
        cases q2 : r l en S with
        | stuck => simp only [q2] at h; exact h
        | ok en2 S2 => simp only [q2] at h; exact h
        | exc c fs S2 => simp only [q2] at h; exact h.elim⟩
      rcases h1 with ⟨h1, _⟩ | ⟨h1, _⟩
      · exact .inl ⟨a, us, rfl, h1, hn, hk⟩
      · exact .inr ⟨a, us, rfl, .inl (.inl h1), hn, hk⟩
    · rw [if_neg hl] at h; exact h.elim
/-- the turns of a comprehension -/
def lcM (nxt : Nxt) (g : GM) (t : BM) (e : EM) (en : En) : Nat → Nat → List D → Sto → Res (List D)
  | 0, k, acc, S => match nxt k S with
    | some none => .ok acc S
    | _ => .stuck
  | f + 1, k, acc, S => match nxt k S with
    | none => .stuck
    | some none => .ok acc S
    | some (some d) => match g d en S with
      | .ok en1 S1 => (match t en1 S1 with
        | .ok b S2 => if b = true then (match e en1 S2 with
            | .ok y S3 => if acc.length < lineN then lcM nxt g t e en f (k + 1) (acc ++ [y]) S3 else .stuck
            | _ => .stuck) else lcM nxt g t e en f (k + 1) acc S2
        | _ => .stuck)
      | _ => .stuck
def mYes : BM := fun _ S => .ok true S
theorem ts_nil : PTs X [] (tT X.K W mYes) := ⟨fun pins s σ H Q I hw => pts_nil.run pins s σ H Q I (by
  obtain ⟨en, S, m, er, si, h⟩ := hw
  exact h true m H .refl si rfl)⟩
theorem ts_one {c : Expr} {t : BM} (h : PT X c (tT X.K W t)) : PTs X [c] (tT X.K W t) := pts_one h
/-- the value is frozen, or a cell -/
def mLc (mi : IM) (vs : List Nat) (g : GM) (t : BM) (e : EM) : EM := fun en S => (mi en S).bind fun it S1 => match lcM it.nxt g t e (wipeE en vs) it.n 0 [] S1 with
  | .ok l S2 => .ok (.lst l) S2
  | _ => .stuck
def mLcC (mi : IM) (vs : List Nat) (g : GM) (t : BM) (e : EM) : EM := fun en S => (mi en S).bind fun it S1 => match lcM it.nxt g t e (wipeE en vs) it.n 0 [] S1 with
  | .ok l S2 => .ok (.ref S2.length) (S2 ++ [.lst l])
  | _ => .stuck
theorem Tr.ext {m m1 m2 : Mp} {H H1 H2 : Hp} (a : Tr m H m1 H1) (b : Ext m1 H1 m2 H2) (hk : ∀ x o, H x = some o → ∃ o', H1 x = some o') : Tr m H m2 H2 := by
  obtain ⟨ex, e1, hx⟩ := a.pre
  obtain ⟨ey, e2, hy⟩ := b.pre
  refine ⟨⟨ex ++ ey, by rw [e2, e1]; simp, fun c hc => ?_⟩, fun c hc => a.hid c (by rw [← b.hs]; exact hc), fun c o h n => b.keep c o (a.keep c o h n) (a.mem h n).1, fun c xs h => b.tup c xs (a.tup c xs h), fun c o u h => b.frz c o u (a.frz c o u h)⟩
  rcases List.mem_append.mp hc with h1 | h1
  · exact hx c h1
  · have h2 := hy c h1
    cases q : H c with
    | none => exact .inl rfl
    | some o =>
      obtain ⟨o', q'⟩ := hk c o q
      rw [q'] at h2; cases h2
/-- the state within a comprehension over the base (m1, H1): the new list at A -/
structure LcSt (K : PySem.W.Frag) (m1 : Mp) (H1 : Hp) (A : Addr) (m : Mp) (H : Hp) (S : Sto) (acc : List D) : Prop where
  ext : Ext m1 H1 ⟨m.c, m1.h⟩ H
  tr : Tr m1 H1 m H
  hh : m.h = A :: m1.h
  off : A ∉ m.c
  sim : Sim K m S H
  lst : ∃ vs, H A = some (.lst vs) ∧ Reps K m H vs acc
theorem LcSt.to {K : PySem.W.Frag} {m1 m m' : Mp} {H1 H H' : Hp} {A : Addr} {S S' : Sto} {acc : List D} (l : LcSt K m1 H1 A m H S acc) (e : Ext m H m' H') (s : Sim K m' S' H') : LcSt K m1 H1 A m' H' S' acc := by
  obtain ⟨vs, h1, h2⟩ := l.lst
  have e2 : Ext ⟨m.c, m1.h⟩ H ⟨m'.c, m1.h⟩ H' := ⟨e.pre, rfl, e.trk, e.keep, e.tup, e.frz⟩
  exact ⟨l.ext.trans e2, l.tr.ext e l.ext.trk, e.hs.trans l.hh, e.memc h1 l.off, s, vs, e.keep _ _ h1 l.off, h2.to e⟩
theorem LcSt.push {K : PySem.W.Frag} {m1 m : Mp} {H1 H : Hp} {A : Addr} {S : Sto} {acc : List D} {y : V} {d : D} (hA : H1 A = none) (l : LcSt K m1 H1 A m H S acc) (r : Rep K m H y d) {vs : List V} (h1 : H A = some (.lst vs)) :
    LcSt K m1 H1 A m (upd H A (.lst (vs ++ [y]))) S (acc ++ [d]) := by
  obtain ⟨vs', h1', h2⟩ := l.lst
  rw [h1] at h1'; cases h1'
  have k1 : ∀ a o, H1 a = some o → (upd H A (.lst (vs ++ [y]))) a = H a := fun a o q => upd_ne (ne_of_none q hA)
  have t : Tr m H m (upd H A (.lst (vs ++ [y]))) := by
    refine ⟨⟨[], by simp, by simp⟩, fun a h => .inl h, fun a o q n => ?_, fun a xs q => ?_, fun a o u q => ?_⟩
    · rw [upd_ne fun z => n.2 (by rw [z, l.hh]; exact List.mem_cons_self)]; exact q
    · rw [upd_ne fun z => by rw [z, h1] at q; cases q]; exact q
    · rw [upd_ne fun z => by rw [z, h1] at q; cases q]; exact q
  refine ⟨⟨l.ext.pre, rfl, fun a o q => ?_, fun a o q n => ?_, fun a xs q => ?_, fun a o u q => ?_⟩, ⟨l.tr.pre, l.tr.hid, fun a o q n => ?_, fun a xs q => ?_, fun a o u q => ?_⟩, l.hh, l.off, ?_, _, upd_same, (h2.app (.cons r .nil)).tr t⟩
  · rw [k1 a o q]; exact l.ext.trk a o q
  · rw [k1 a o q]; exact l.ext.keep a o q n
  · rw [k1 a _ q]; exact l.ext.tup a xs q
  · rw [k1 a _ q]; exact l.ext.frz a o u q
  · rw [k1 a o q]; exact l.tr.keep a o q n
  · rw [k1 a _ q]; exact l.tr.tup a xs q
  · rw [k1 a _ q]; exact l.tr.frz a o u q
  · refine l.sim.same rfl t (fun a ha => upd_ne fun z => l.off (by rw [← z]; exact ha)) (fun a ha => ?_) l.sim.dis
    by_cases z : a = A
    · subst z; exact ⟨_, upd_same⟩
    · obtain ⟨o, q⟩ := l.sim.hid a ha
      exact ⟨o, by rw [upd_ne z]; exact q⟩
theorem lc_run {K : PySem.W.Frag} {it : ItD} {g : GM} {t : BM} {el : EM} {vs : List Nat} {m1 : Mp} {H1 : Hp} {S1 : Sto} {σ : L2.St} {en : En} {J : L2.It} {A : Addr} {Q : Hp → Prop} (er : EnvR K m1 H1 σ en) (s1 : Sim K m1 S1 H1) (wk : WalkD K m1 H1 J it.nxt) (hA : H1 A = none)
    (l : List D) (S2 : Sto) (q : lcM it.nxt g t el (wipeE en vs) it.n 0 [] S1 = .ok l S2) (fin : ∀ m H, LcSt K m1 H1 A m H S2 l → Q H) :
    ∃ Wv : Nat → Nat → Hp → Prop, (∃ m, Wv 0 m (upd H1 A (.lst []))) ∧ ∀ i m H, Wv i m H →
      (J.stop i H ∧ Q H) ∨ (J.go i H ∧ ∃ Nx : Hp → Prop, (∀ H', Nx H' → ∃ m', m' < m ∧ Wv (i + 1) m' H') ∧ ∀ x H', J.yld i H x H' → tGw K W0 vs g x (L2.wipe σ vs) H' fun σ2 H2 => L2.wipe σ2 vs = L2.wipe σ vs ∧ tT K W0 t σ2 H2 fun b H3 =>
        if b = true then tE K W0 el σ2 H3 fun y H4 => ∃ acc, H4 A = some (.lst acc) ∧ acc.length < sizeLine ∧ Nx (upd H4 A (.lst (acc ++ [y]))) else Nx H3) := by
  have wid : ∀ us : List Nat, L2.wipe (L2.wipe σ us) us = L2.wipe σ us := by
    intro us
    induction us with
    | nil => rfl
    | cons u us ih =>
      by_cases hm : u ∈ us
      · simp only [L2.wipe]; rw [wipe_set hm, ih]
      · have aux : ∀ ws : List Nat, u ∉ ws → ∀ τ : L2.St, L2.wipe (τ.set u none) ws = (L2.wipe τ ws).set u none := by
          intro ws
          induction ws with
          | nil => intro _ _; rfl
          | cons w ws ihw =>
            intro hu τ
            simp only [L2.wipe]
            rw [ihw (fun z => hu (List.mem_cons_of_mem _ z)), List.set_comm _ _ (fun z => hu (by rw [z]; exact List.mem_cons_self))]
        simp only [L2.wipe]
        rw [aux us hm, ih, List.set_set]
  have st0 : LcSt K m1 H1 A (m1.hide A) (upd H1 A (.lst [])) S1 [] := by
    have tr := Tr.hide (m := m1) (o := .lst []) hA
    refine ⟨⟨⟨[], by simp [Mp.hide], by simp⟩, rfl, fun a o q => ⟨o, ?_⟩, fun a o q _ => ?_, fun a xs q => ?_, fun a o u q => ?_⟩, tr, rfl, s1.fresh hA, s1.hide hA, [], upd_same, .nil⟩
    all_goals (rw [upd_ne (ne_of_none q hA)]; exact q)
  refine ⟨fun i f H => ∃ m S acc, LcSt K m1 H1 A m H S acc ∧ lcM it.nxt g t el (wipeE en vs) f i acc S = .ok l S2, ⟨it.n, m1.hide A, S1, [], st0, q⟩, ?_⟩
  rintro i f H ⟨m, S, acc, st, h⟩
  have wk2 := wk m S H st.tr st.sim i
  cases qn : it.nxt i S with
  | none => cases f <;> (simp only [lcM, qn] at h; cases h)
  | some od =>
    rw [qn] at wk2
    cases od with
    | none =>
      have h3 : (Res.ok acc S : Res (List D)) = .ok l S2 := by cases f <;> simpa only [lcM, qn] using h
      cases h3
      exact .inl ⟨wk2, fin m H st⟩
    | some d =>
      cases f with
      | zero => simp only [lcM, qn] at h; cases h
      | succ f =>
        refine .inr ⟨wk2.1, fun H' => ∃ m S acc, LcSt K m1 H1 A m H' S acc ∧ lcM it.nxt g t el (wipeE en vs) f (i + 1) acc S = .ok l S2, fun H' z => ⟨f, Nat.lt_succ_self f, z⟩, ?_⟩
        intro x H3 y
        obtain ⟨e3, s3, r3⟩ := wk2.2 x H3 y
        have st3 := st.to e3 s3
        have er3 : EnvR K m H3 (L2.wipe σ vs) (wipeE en vs) := (er.tr st3.tr).wipe vs
        refine ⟨d, wipeE en vs, S, m, er3, s3, r3, ?_⟩
        simp only [lcM, qn] at h
        cases qg : g d (wipeE en vs) S with
        | stuck => rw [qg] at h; cases h
        | exc c fs S4 => rw [qg] at h; cases h
        | ok en4 S4 =>
          simp only [qg] at h
          intro σ4 m4 H4 e4 s4 r4
          have st4 := st3.to e4 s4
          refine ⟨r4.2.trans (wid vs), en4, S4, m4, r4.1, s4, ?_⟩
          cases qt : t en4 S4 with
          | stuck => rw [qt] at h; cases h
          | exc c fs S5 => rw [qt] at h; cases h
          | ok b S5 =>
            simp only [qt] at h
            intro b' m5 H5 e5 s5 hb
            subst hb
            have st5 := st4.to e5 s5
            cases b' with
            | false =>
              simp only [Bool.false_eq_true, if_false] at h ⊢
              exact ⟨m5, S5, acc, st5, h⟩
            | true =>
              simp only [if_true] at h ⊢
              refine ⟨en4, S5, m5, r4.1.to e5, s5, ?_⟩
              cases qe : el en4 S5 with
              | stuck => rw [qe] at h; cases h
              | exc c fs S6 => rw [qe] at h; cases h
              | ok y S6 =>
                simp only [qe] at h
                by_cases hl : acc.length < lineN
                · rw [if_pos hl] at h
                  intro yv m6 H6 e6 s6 r6
                  have st6 := st5.to e6 s6
                  obtain ⟨us, h7, h8⟩ := st6.lst
                  exact ⟨us, h7, by rw [h8.len, ← line_eq]; exact hl, m6, S6, acc ++ [y], st6.push hA r6 h7, h⟩
                · rw [if_neg hl] at h; cases h
theorem LcSt.fin {K : PySem.W.Frag} {m1 m : Mp} {H1 H : Hp} {A : Addr} {S : Sto} {acc : List D} (hA : Off m1 A) (l : LcSt K m1 H1 A m H S acc) : Ext m1 H1 ⟨m.c, m1.h⟩ H ∧ Sim K ⟨m.c, m1.h⟩ S H ∧ Rep K ⟨m.c, m1.h⟩ H (.ref A) (.lst acc) := by
  obtain ⟨vs, h1, h2⟩ := l.lst
  have t : Tr m H ⟨m.c, m1.h⟩ H := ⟨⟨[], by simp, by simp⟩, fun a h => .inl (by rw [l.hh]; exact List.mem_cons_of_mem _ h), fun a o q _ => q, fun a xs q => q, fun a o u q => q⟩
  refine ⟨l.ext, l.sim.same rfl t (fun _ _ => rfl) (fun a ha => l.sim.hid a (by rw [l.hh]; exact List.mem_cons_of_mem _ ha)) (fun a ha hm => l.sim.dis a ha (by rw [l.hh]; exact List.mem_cons_of_mem _ hm)), .lst h1 ⟨l.off, hA.2⟩ (h2.tr t)⟩
theorem LcSt.finC {K : PySem.W.Frag} {m1 m : Mp} {H1 H : Hp} {A : Addr} {S : Sto} {acc : List D} (hn : H1 A = none) (hA : Off m1 A) (l : LcSt K m1 H1 A m H S acc) : Ext m1 H1 ⟨m.c ++ [A], m1.h⟩ H ∧ Sim K ⟨m.c ++ [A], m1.h⟩ (S ++ [.lst acc]) H ∧ Rep K ⟨m.c ++ [A], m1.h⟩ H (.ref A) (.ref S.length) := by
  obtain ⟨vs, h1, h2⟩ := l.lst
  have t : Tr m H ⟨m.c ++ [A], m1.h⟩ H := ⟨⟨[A], rfl, fun a ha => .inr (by
      have e : a = A := by simpa using ha
      rw [e, l.hh]; exact List.mem_cons_self)⟩, fun a h => .inl (by rw [l.hh]; exact List.mem_cons_of_mem _ h), fun a o q _ => q, fun a xs q => q, fun a o u q => q⟩
  have lc : (m.c ++ [A])[S.length]? = some A := by rw [← l.sim.len]; simp
  refine ⟨⟨?_, rfl, l.ext.trk, l.ext.keep, l.ext.tup, l.ext.frz⟩, ⟨by simp [l.sim.len], ?_, fun i a o p1 p2 => ?_, fun a ha => l.sim.hid a (by rw [l.hh]; exact List.mem_cons_of_mem _ ha), fun a ha hm => by
    rcases List.mem_append.mp (show a ∈ m.c ++ [A] from ha) with z | z
    · exact l.sim.dis a z (by rw [l.hh]; exact List.mem_cons_of_mem _ hm)
    · have e : a = A := by simpa using z
      exact hA.2 (by rw [← e]; exact hm)⟩, .ref lc⟩
  · obtain ⟨ex, e1, hx⟩ := l.ext.pre
    have e1 : m.c = m1.c ++ ex := e1
    refine ⟨ex ++ [A], by simp [e1], fun a ha => ?_⟩
    rcases List.mem_append.mp ha with z | z
    · exact hx a z
    · have e : a = A := by simpa using z
      rw [e]; exact hn
  · show (m.c ++ [A]).Nodup
    rw [List.nodup_append]
    refine ⟨l.sim.nd, by simp, fun a ha b hb => ?_⟩
    have : b = A := by simpa using hb
    subst this
    intro z; subst z; exact l.off ha
  · have p1 : (m.c ++ [A])[i]? = some a := p1
    by_cases hi : i < m.c.length
    · rw [List.getElem?_append_left hi] at p1
      rw [List.getElem?_append_left (by rw [← l.sim.len]; exact hi)] at p2
      exact (l.sim.cell i a o p1 p2).tr t rfl
    · have e : i = m.c.length := by
        have := (List.getElem?_eq_some_iff.mp p1).1
        simp at this; omega
      subst e
      have e1 : A = a := by simpa using p1
      have e2 : Ob.lst acc = o := by rw [l.sim.len] at p2; simpa using p2
      subst e1 e2
      exact ⟨vs, h1, h2.tr t⟩
theorem e_lc {elt tg iter : Expr} {ifs : List Expr} {scope : Scope} {own : List (Str × Nat)} {mi : IM} {t : BM} {me : EM} (hc : X.calm = true) (hN : X.N.Nodup) (hi : PI X tg iter (tI X.K W mi)) (ok : BlkOk X.N X.env.scope scope own)
    (hg : ∀ (s : Shared) (H : Hp) (C : Addr) (cl : List (Str × Addr)) (fp : List Addr), PG (X.blk s H scope (compEnvC scope cl C X.env) fp) tg (tGw X.K W0 (own.map (·.2)) g))
    (ht : ∀ (s : Shared) (H : Hp) (C : Addr) (cl : List (Str × Addr)) (fp : List Addr), PTs (X.blk s H scope (compEnvC scope cl C X.env) fp) ifs (tT X.K W0 t))
    (he : ∀ (s : Shared) (H : Hp) (C : Addr) (cl : List (Str × Addr)) (fp : List Addr), PE (X.blk s H scope (compEnvC scope cl C X.env) fp) elt (tE X.K W0 me)) (hs : ∀ x, foldedSetIterable iter X.env x = pure x := by intro _; rfl) :
    PE X (.ListComp elt [⟨tg, iter, ifs, 0⟩] scope pos) (tE X.K W (mLc mi (own.map (·.2)) g t me)) := by
  refine PE.imp (pe_lc hc hN hi ok hg ht he hs) ?_
  rintro σ H Q ⟨en, S, m, er, si, h⟩
  refine ⟨en, S, m, er, si, (PostG.bind (R := fun m' H' (J : L2.It) (it : ItD) => WalkD X.K m' H' J it.nxt) h).mono ?_⟩
  rintro J H1 ⟨it, S1, m1, e1, s1, wk, h1⟩
  intro A hA
  cases q : lcM it.nxt g t me (wipeE en (own.map (·.2))) it.n 0 [] S1 with
  | stuck => rw [q] at h1; exact h1.elim
  | exc c fs S2 => rw [q] at h1; exact h1.elim
  | ok l S2 =>
    rw [q] at h1
    refine lc_run (er.to e1) s1 wk hA l S2 q fun m2 H2 st => ?_
    obtain ⟨f1, f2, f3⟩ := st.fin (s1.off hA)
    exact h1 _ _ H2 f1 f2 f3
theorem e_lcC {elt tg iter : Expr} {ifs : List Expr} {scope : Scope} {own : List (Str × Nat)} {mi : IM} {t : BM} {me : EM} (hc : X.calm = true) (hN : X.N.Nodup) (hi : PI X tg iter (tI X.K W mi)) (ok : BlkOk X.N X.env.scope scope own)
    (hg : ∀ (s : Shared) (H : Hp) (C : Addr) (cl : List (Str × Addr)) (fp : List Addr), PG (X.blk s H scope (compEnvC scope cl C X.env) fp) tg (tGw X.K W0 (own.map (·.2)) g))
    (ht : ∀ (s : Shared) (H : Hp) (C : Addr) (cl : List (Str × Addr)) (fp : List Addr), PTs (X.blk s H scope (compEnvC scope cl C X.env) fp) ifs (tT X.K W0 t))
    (he : ∀ (s : Shared) (H : Hp) (C : Addr) (cl : List (Str × Addr)) (fp : List Addr), PE (X.blk s H scope (compEnvC scope cl C X.env) fp) elt (tE X.K W0 me)) (hs : ∀ x, foldedSetIterable iter X.env x = pure x := by intro _; rfl) :
    PE X (.ListComp elt [⟨tg, iter, ifs, 0⟩] scope pos) (tE X.K W (mLcC mi (own.map (·.2)) g t me)) := by
  refine PE.imp (pe_lc hc hN hi ok hg ht he hs) ?_
  rintro σ H Q ⟨en, S, m, er, si, h⟩
  refine ⟨en, S, m, er, si, (PostG.bind (R := fun m' H' (J : L2.It) (it : ItD) => WalkD X.K m' H' J it.nxt) h).mono ?_⟩
  rintro J H1 ⟨it, S1, m1, e1, s1, wk, h1⟩
  intro A hA
  cases q : lcM it.nxt g t me (wipeE en (own.map (·.2))) it.n 0 [] S1 with
  | stuck => rw [q] at h1; exact h1.elim
  | exc c fs S2 => rw [q] at h1; exact h1.elim
  | ok l S2 =>
    rw [q] at h1
    refine lc_run (er.to e1) s1 wk hA l S2 q fun m2 H2 st => ?_
    obtain ⟨f1, f2, f3⟩ := st.finC hA (s1.off hA)
    exact h1 _ _ H2 f1 f2 f3
/-- y = [..] -/
theorem s_setLc {i : Nat} {y : Str} {py spos : Pos} {elt tg iter : Expr} {ifs : List Expr} {scope : Scope} {own : List (Str × Nat)} {mi : IM} {t : BM} {me : EM} (hc : X.calm = true) (hN : X.N.Nodup) (hy : X.N[i]? = some y) (hyl : X.env.scope.names.lookup y = some .local)
    (hsw : swapsWith (.ListComp elt [⟨tg, iter, ifs, 0⟩] scope pos) (some (.Name y py)) spos.line X.env = pure true) (hi : PI X tg iter (tI X.K W mi)) (ok : BlkOk X.N X.env.scope scope own)
    (hg : ∀ (s : Shared) (H : Hp) (C : Addr) (cl : List (Str × Addr)) (fp : List Addr), PG (X.blk s H scope (compEnvC scope cl C X.env) fp) tg (tGw X.K W0 (own.map (·.2)) g))
    (ht : ∀ (s : Shared) (H : Hp) (C : Addr) (cl : List (Str × Addr)) (fp : List Addr), PTs (X.blk s H scope (compEnvC scope cl C X.env) fp) ifs (tT X.K W0 t))
    (he : ∀ (s : Shared) (H : Hp) (C : Addr) (cl : List (Str × Addr)) (fp : List Addr), PE (X.blk s H scope (compEnvC scope cl C X.env) fp) elt (tE X.K W0 me)) (hs : ∀ x, foldedSetIterable iter X.env x = pure x := by intro _; rfl) :
    PS X (.Assign [.Name y py] (.ListComp elt [⟨tg, iter, ifs, 0⟩] scope pos) spos) (tS X.K W (sAsg (mLc mi (own.map (·.2)) g t me) (gNm i))) := by
  refine PS.imp (ps_setLc hc hN hy hyl hsw hi ok hg ht he hs) ?_
  rintro E σ H ⟨en, S, m, er, si, h⟩
  have h0 := eS_to er h
  refine ⟨en, S, m, er, si, (PostG.bind (R := fun m' H' (J : L2.It) (it : ItD) => WalkD X.K m' H' J it.nxt) h0).mono ?_⟩
  rintro J H1 ⟨it, S1, m1, e1, s1, wk, h1⟩
  intro A hA
  cases q : lcM it.nxt g t me (wipeE en (own.map (·.2))) it.n 0 [] S1 with
  | stuck => rw [q] at h1; exact h1.elim
  | exc c fs S2 => rw [q] at h1; exact h1.elim
  | ok l S2 =>
    rw [q] at h1
    refine lc_run (Q := fun H => E.nx (σ.set i (some (.ref A))) H) (er.to e1) s1 wk hA l S2 q fun m2 H2 st => ?_
    obtain ⟨f1, f2, f3⟩ := st.fin (s1.off hA)
    obtain ⟨d, S3, m3, e3, s3, r3, h3⟩ := h1 _ _ H2 f1 f2 f3
    exact h3 _ m3 H2 .refl s3 ((er.to e3).set r3)
theorem s_setLcC {i : Nat} {y : Str} {py spos : Pos} {elt tg iter : Expr} {ifs : List Expr} {scope : Scope} {own : List (Str × Nat)} {mi : IM} {t : BM} {me : EM} (hc : X.calm = true) (hN : X.N.Nodup) (hy : X.N[i]? = some y) (hyl : X.env.scope.names.lookup y = some .local)
    (hsw : swapsWith (.ListComp elt [⟨tg, iter, ifs, 0⟩] scope pos) (some (.Name y py)) spos.line X.env = pure true) (hi : PI X tg iter (tI X.K W mi)) (ok : BlkOk X.N X.env.scope scope own)
    (hg : ∀ (s : Shared) (H : Hp) (C : Addr) (cl : List (Str × Addr)) (fp : List Addr), PG (X.blk s H scope (compEnvC scope cl C X.env) fp) tg (tGw X.K W0 (own.map (·.2)) g))
    (ht : ∀ (s : Shared) (H : Hp) (C : Addr) (cl : List (Str × Addr)) (fp : List Addr), PTs (X.blk s H scope (compEnvC scope cl C X.env) fp) ifs (tT X.K W0 t))
    (he : ∀ (s : Shared) (H : Hp) (C : Addr) (cl : List (Str × Addr)) (fp : List Addr), PE (X.blk s H scope (compEnvC scope cl C X.env) fp) elt (tE X.K W0 me)) (hs : ∀ x, foldedSetIterable iter X.env x = pure x := by intro _; rfl) :
    PS X (.Assign [.Name y py] (.ListComp elt [⟨tg, iter, ifs, 0⟩] scope pos) spos) (tS X.K W (sAsg (mLcC mi (own.map (·.2)) g t me) (gNm i))) := by
  refine PS.imp (ps_setLc hc hN hy hyl hsw hi ok hg ht he hs) ?_
  rintro E σ H ⟨en, S, m, er, si, h⟩
  have h0 := eS_to er h
  refine ⟨en, S, m, er, si, (PostG.bind (R := fun m' H' (J : L2.It) (it : ItD) => WalkD X.K m' H' J it.nxt) h0).mono ?_⟩
  rintro J H1 ⟨it, S1, m1, e1, s1, wk, h1⟩
  intro A hA
  cases q : lcM it.nxt g t me (wipeE en (own.map (·.2))) it.n 0 [] S1 with
  | stuck => rw [q] at h1; exact h1.elim
  | exc c fs S2 => rw [q] at h1; exact h1.elim
  | ok l S2 =>
    rw [q] at h1
    refine lc_run (Q := fun H => E.nx (σ.set i (some (.ref A))) H) (er.to e1) s1 wk hA l S2 q fun m2 H2 st => ?_
    obtain ⟨f1, f2, f3⟩ := st.finC hA (s1.off hA)
    obtain ⟨d, S3, m3, e3, s3, r3, h3⟩ := h1 _ _ H2 f1 f2 f3
    exact h3 _ m3 H2 .refl s3 ((er.to e3).set r3)
end
end Ag

namespace Ag
open PySem L2
/-! ### defs -/
def runB (n : Nat) (s : SM) : List D → Sto → Res D := fun ds S => match s (ds.map some ++ List.replicate (n - ds.length) none) S with
  | .ret d S' => .ok d S'
  | .next _ S' => .ok .non S'
  | .exc c fs _ S' => .exc c fs S'
  | _ => .stuck
def WofE (E : XK) : WX := fun c od _ H => E c od H
def spOf (K : PySem.W.Frag) (k : Nat) (f : List D → Sto → Res D) : Sp := fun vs H Q E => vs.length = k ∧ ∃ ds S m, Reps K m H vs ds ∧ Sim K m S H ∧ PostG K (WofE E) (Rep K) [] m H (f ds S) Q
theorem env_start {K : PySem.W.Frag} {m : Mp} {H : Hp} {N : List Str} {vs : List V} {ds : List D} (r : Reps K m H vs ds) : EnvR K m H (L2.start N vs) (ds.map some ++ List.replicate (N.length - ds.length) none) := by
  have hl := r.len
  refine ⟨by simp [L2.start, hl], fun i d q => ?_⟩
  by_cases hi : i < ds.length
  · rw [List.getElem?_append_left (by simpa using hi), List.getElem?_map] at q
    cases e : ds[i]? with
    | none => rw [e] at q; cases q
    | some c =>
      rw [e] at q
      have e2 : c = d := by simpa using q
      subst e2
      obtain ⟨v, h1, h2⟩ := r.get e
      refine ⟨v, ?_, h2⟩
      unfold L2.start
      rw [List.getElem?_append_left (by rw [List.length_map, hl]; exact hi), List.getElem?_map, h1]
      rfl
  · rw [List.getElem?_append_right (by simpa using hi), List.getElem?_replicate] at q
    split at q <;> cases q
/-- a def's promise where no repr runs around it -/
structure FnG (P : Program) (w : World) (K : PySem.W.Frag) (mg : Str → Option Value) (base : Heap) (k : Nat) (f : Addr) (fd : FuncData) (ps : List Str) (sp : Sp) : Prop where
  len : ∀ vs H Q E, sp vs H Q E → vs.length = ps.length
  run : ∀ (A : Around) (outer : List Env) (s : Shared) (H : Hp) (args : Args) (us : List Value) (vs : List V) (Q : VK) (E : XK), A.guards = some [] → Room k A → Env0 P w K mg base A outer s H → BindsTo s fd args (ps.zip us) → Vals vs us → sp vs H Q E →
    codeAny (model P w) A (.call (.ref f) args) (CR (L2.CX P w) outer P w H s Q E) s
section
variable {P : Program} {w : World} {K : PySem.W.Frag} {mg : Str → Option Value} {base : Heap} {x qual : Str} {params : Arguments} {body : List Stmt} {scope : Scope} {kws : List (Str × V)} {f : Addr} {fd : FuncData}
theorem FnG.weak {k : Nat} {ps : List Str} {sp sp' : Sp} (F : FnG P w K mg base k f fd ps sp) (h : ∀ vs H Q E, sp' vs H Q E → sp vs H Q E) : FnG P w K mg base k f fd ps sp' :=
  ⟨fun vs H Q E q => F.len _ _ _ _ (h vs H Q E q), fun A outer s H args us vs Q E hg hr he hb hv q => F.run A outer s H args us vs Q E hg hr he hb hv (h _ _ _ _ q)⟩
/-- the context of a def's body -/
structure Bd (X : Cx) (W : WX) (k : Nat) : Prop where
  tk : Takes X W
  hp : PassesOwn (model X.prog X.w) X.A X.env X.xe
  calm : X.calm = true
  room : Room k X.A
  gd : X.A.guards = some []
theorem fn_ok {N ps : List Str} {k : Nat} {s : SM} (F : FunD K x qual params body scope [] kws f fd) (S : FnScope N ps scope)
    (hb : ∀ (cdv : Value) (A : Around) (outer : List Env) (s0 : Shared) (H : Hp) (E : XK), Bd (cxOf (L2.CX P w) P w K mg base N qual scope f cdv A outer s0 H E) (WofE E) k → PSs (cxOf (L2.CX P w) P w K mg base N qual scope f cdv A outer s0 H E) body (tS K (WofE E) s)) :
    FnG P w K mg base (k + 1) f fd ps (spOf K ps.length (runB N.length s)) := by
  obtain ⟨oc, od, dV, kV, doc, pm, an, cdv, ct, osl, rfl, lk, hcd, _, _⟩ := F.ex
  refine ⟨fun vs H Q E h => h.1, fun A outer s0 H args us vs Q E hg hr e0 hbi rv h => ?_⟩
  have hl : vs.length = ps.length := h.1
  have st : ∀ b o, base.get? b = some o → s0.heap.get? b = some o := fun b o e => (e0.bs b o e).1
  have KX : K.In s0.heap := e0.mod.kin.keeps st
  have kinds : ∀ y ∈ ps.zip us, scope.names.lookup y.1 = some .local ∨ (scope.names.lookup y.1 = some .cell ∧ ((PySem.cellsFrom (s0.heap.objs.size + 1) scope.names []).lookup y.1).isSome = true) := fun y hy =>
    (S.par y.1 (List.of_mem_zip hy).1).elim .inl fun q => .inr ⟨q, PySem.W.cellsFrom_some _ _ _ (.inl q)⟩
  refine codeAny_call_function hr.depth (KX _ _ lk) rfl S.co S.gen rfl (PySem.W.codeRec_of KX hcd) (hbi _ _ _ _ ?_)
  refine wpAny_newFunctionEnv_cells S.kind kinds fun env he s1 y => ?_
  subst he
  refine ⟨(e0.mod.nolimit.keeps st).keeps y.toInCall.keep, codeAny_func ?_⟩
  have I : L2.Inv (cxOf (L2.CX P w) P w K mg base N qual scope f cdv A outer s0 H E) [] (L2.start N vs) H s1 := inv_start S hr.hd e0 hl rv y
  have bd : Bd (cxOf (L2.CX P w) P w K mg base N qual scope f cdv A outer s0 H E) (WofE E) k := ⟨takes_of rfl rfl rfl rfl, passes_of rfl, rfl, hr.deeper _, hg⟩
  obtain ⟨_, ds, S0, m, r, si, h⟩ := h
  refine wpAny_mono ((hb cdv A outer s0 H E bd).run [] s1 (L2.start N vs) H { nx := fun _ H' => Q .non H', rt := Q } I ⟨_, S0, m, env_start r, si, ?_⟩) (fun fl s' hs => ?_) fun e s' hs => hs
  · unfold runB at h
    cases q : s (ds.map some ++ List.replicate (N.length - ds.length) none) S0 with
    | next en S' => rw [q] at h; exact fun σ' m' H' e s' _ => h _ m' H' e s' .non
    | ret d S' => rw [q] at h; exact h
    | brk en S' => rw [q] at h; exact h.elim
    | cnt en S' => rw [q] at h; exact h.elim
    | exc c fs en S' => rw [q] at h; exact fun σ' od m' H' e s' _ z => h od m' H' e s' z
    | stuck => rw [q] at h; exact h
  · cases fl with
    | ret u =>
      obtain ⟨v, σ', H', J, r1, q⟩ := hs
      exact ⟨v, H', J.os, J.bare, J.base, J.hok, r1, q⟩
    | next =>
      obtain ⟨σ', H', J, q⟩ := hs
      exact ⟨V.non, H', J.os, J.bare, J.base, J.hok, rfl, q⟩
    | brk => obtain ⟨_, _, _, q⟩ := hs; exact q.elim
    | cont => obtain ⟨_, _, _, q⟩ := hs; exact q.elim
end
theorem bd_blk {X : Cx} {W : WX} {k : Nat} (b : Bd X W k) {s : Shared} {H : Hp} {scope : Scope} {C : Addr} {cl : List (Str × Addr)} {fp : List Addr} : Bd (X.blk s H scope (compEnvC scope cl C X.env) fp) W0 k :=
  ⟨takes0, PassesOwn.never, b.calm, b.room, b.gd⟩
/-- the callee runs -/
theorem run_G {X : Cx} {W : WX} {k j : Nat} {f : Addr} {fd : FuncData} {ps : List Str} {sp : Sp} {pins : List (Addr × Obj)} {σ : L2.St} {H : Hp} {s : Shared} {Q : VK} {us0 us : List Value} {kw : List (Str × Value)} {vs : List V} (B : Bd X W j) (F : FnG X.prog X.w X.K X.mg X.base k f fd ps sp) (hk : k ≤ j)
    (I : L2.Inv X pins σ H s) (hb : BindsTo s fd ⟨us0, kw⟩ (ps.zip us)) (r : Vals vs us) (h : sp vs H Q (WE W σ)) : wpAny (model X.prog X.w) X.A (call (.ref f) us0 kw) (EP X pins σ Q) X.xe s := by
  refine wpAny_call (codeAny_mono (F.run X.A X.stack s H ⟨us0, kw⟩ us vs Q (WE W σ) B.gd (B.room.mono hk) I.env0 hb r h) fun r s' hq => ?_)
  cases r with
  | error e => exact passAt B.tk σ pins H s e s' I hq
  | ok fl => cases fl <;> first | exact I.after hq | exact hq.elim
theorem run_G0 {X : Cx} {W : WX} {k j : Nat} {f : Addr} {fd : FuncData} {ps : List Str} {sp : Sp} {pins : List (Addr × Obj)} {σ : L2.St} {H : Hp} {s : Shared} {Q : VK} {us : List Value} {vs : List V} (B : Bd X W j) (F : FnG X.prog X.w X.K X.mg X.base k f fd ps sp) (hk : k ≤ j)
    (I : L2.Inv X pins σ H s) (hb : Binds X.K fd ps []) (r : Vals vs us) (h : sp vs H Q (WE W σ)) : wpAny (model X.prog X.w) X.A (call (.ref f) us) (EP X pins σ Q) X.xe s := by
  have hl : us.length = ps.length := by rw [← r.length]; exact F.len _ _ _ _ h
  have b := hb s us I.kIn (by rw [List.append_nil]; exact hl)
  rw [List.append_nil] at b
  exact run_G B F hk I b r h

section
variable {X : Cx} {W : WX} {e o : Expr} {es : List Expr} {pos p apos : Pos} {mr : AM} {k n j : Nat} {f : Addr} {fd : FuncData} {ps : List Str} {fm : List D → Sto → Res D} {x : Str} {ma : EM}
def mCall (n : Nat) (fm : List D → Sto → Res D) (mr : AM) : EM := fun en S => (mr en S).bind fun ds S1 => if ds.length = n then fm ds S1 else .stuck
theorem sp_of_post {m : Mp} {H : Hp} {σ : L2.St} {S : Sto} {vs : List V} {ds : List D} {Q : VK} (s : Sim X.K m S H) (r : Reps X.K m H vs ds) (h : Post X.K W σ m H (if ds.length = n then fm ds S else .stuck) Q) : spOf X.K n fm vs H Q (WE W σ) := by
  by_cases hl : ds.length = n
  · rw [if_pos hl] at h
    refine ⟨by rw [r.len]; exact hl, ds, S, m, r, s, ?_⟩
    cases q : fm ds S with
    | ok d S' => rw [q] at h; exact h
    | exc c fs S' => rw [q] at h; exact h
    | stuck => rw [q] at h; exact h
  · rw [if_neg hl] at h; exact h.elim
theorem e_call (B : Bd X W j) (F : FnG X.prog X.w X.K X.mg X.base k f fd ps (spOf X.K n fm)) (hk : k ≤ j) (hg : Gl X x) (hm : X.mg x = some (.ref f)) (hkp : PySem.W.keepIn X.K (.ref f) = true) (hb : Binds X.K fd ps [])
    (ha : PA X (e :: es) (tA X.K W mr)) (hdb : (x == ("__debug__" : Str)) = false := by decide) (he : starEach (e :: es) X.env = (false, eval e X.env) :: starEach es X.env := by rfl) (hpl : (backTo pos (starEach es X.env)).any (·.1) = false := by rfl) :
    PE X (.Call (.Name x p) (e :: es) [] pos) (tE X.K W (mCall n fm mr)) := by
  refine ⟨fun pins s σ H Q I h => ?_⟩
  refine wpAny_Call_Name_kw (ld_glob I hg hm ?_ hdb)
  obtain ⟨en, S, m, er, si, h⟩ := h
  refine PySem.W.callWith_K (h₀ := X.base) I.ok.mod.kin hkp (thn (ha.run pos pins s σ H _ I ⟨en, S, m, er, si, h.bind⟩) fun us s1 ⟨vs, H1, I1, r, ds, S1, m1, e1, sm, r1, h1⟩ => ⟨I1.kIn, ?_⟩) he hpl
  exact run_G0 B F hk I1 hb r (sp_of_post sm r1 h1)

/-! keywords alone: f(k = v, ..), every parameter -/
def tK (K : PySem.W.Frag) (W : WX) (e : AM) : TA := tA K W e
theorem k_nil : PK X [] (tA X.K W mNil) := ⟨fun ps pins s σ H Q I h => pk_nil.run ps pins s σ H Q I (by
  obtain ⟨en, S, m, er, si, h⟩ := h
  exact h [] m H .refl si .nil)⟩
theorem k_cons {nm : Option Str} {kpos : Pos} {kws : List Keyword} (ha : PE X e (tE X.K W ma)) (hr : PK X kws (tA X.K W mr)) : PK X (⟨nm, e, kpos⟩ :: kws) (tA X.K W (mCons ma mr)) := ⟨fun ps pins s σ H Q I h => (pk_cons ha hr).run ps pins s σ H Q I (by
  obtain ⟨en, S, m, er, si, h⟩ := h
  refine ⟨en, S, m, er, si, h.bind.mono ?_⟩
  rintro v H1 ⟨d, S1, m1, e1, s1, r1, h1⟩
  refine ⟨en, S1, m1, er.to e1, s1, h1.bind.mono ?_⟩
  rintro vs H2 ⟨ds, S2, m2, e2, s2, r2, h2⟩
  exact h2 (v :: vs) m2 H2 .refl s2 (.cons (r1.to e2) r2))⟩
def pick {α : Type} (ix : List Nat) (l : List α) : List α := ix.filterMap fun i => l[i]?
theorem Reps.pick {K : PySem.W.Frag} {m : Mp} {H : Hp} {vs : List V} {ds : List D} (r : Reps K m H vs ds) : ∀ ix : List Nat, Reps K m H (pick ix vs) (pick ix ds)
  | [] => .nil
  | i :: ix => by
    have ih := Reps.pick r ix
    unfold Ag.pick at ih ⊢
    cases q : ds[i]? with
    | some d =>
      obtain ⟨v, h1, h2⟩ := r.get q
      simp only [List.filterMap_cons, q, h1]
      exact .cons h2 ih
    | none =>
      have hn : vs[i]? = none := by
        have := r.len
        rw [List.getElem?_eq_none_iff] at q ⊢
        omega
      simp only [List.filterMap_cons, q, hn]
      exact ih
theorem Vals.pick {vs : List V} {us : List Value} (r : Vals vs us) : ∀ ix : List Nat, Vals (pick ix vs) (pick ix us)
  | [] => .nil
  | i :: ix => by
    have ih := Vals.pick r ix
    unfold Ag.pick at ih ⊢
    cases q : vs[i]? with
    | some v =>
      obtain ⟨u, h1, h2⟩ := L2.Vals.get r q
      simp only [List.filterMap_cons, q, h1]
      exact .cons h2 ih
    | none =>
      simp only [List.filterMap_cons, q, L2.Vals.none_of r q]
      exact ih
/-- how the keywords bind -/
def KwB (K : PySem.W.Frag) (fd : FuncData) (ps ks : List Str) (ix : List Nat) (own : List Value → List Value) : Prop := ∀ (s : Shared) (ws : List Value), K.In s.heap → ws.length = ks.length → BindsTo s fd ⟨own [], ks.zip ws⟩ (ps.zip (own (pick ix ws)))
theorem e_callKw {kws : List Keyword} {ks : List Str} {ix : List Nat} (B : Bd X W j) (F : FnG X.prog X.w X.K X.mg X.base k f fd ps (spOf X.K n fm)) (hk : k ≤ j) (hg : Gl X x) (hm : X.mg x = some (.ref f)) (hkp : PySem.W.keepIn X.K (.ref f) = true)
    (hb : KwB X.K fd ps ks ix id) (hkw : PK X kws (tA X.K W mr)) (hll : ks.length = n) (hall : (backToKw pos (keywordEach kws X.env)).all (·.1.isSome) = true := by rfl) (hks : (backToKw pos (keywordEach kws X.env)).filterMap (·.1) = ks := by rfl)
    (hdb : (x == ("__debug__" : Str)) = false := by decide) (hpl : ((backTo pos (starEach [] X.env)).any (·.1) || (backToKw pos (keywordEach kws X.env)).any (·.1.isNone)) = false := by rfl) :
    PE X (.Call (.Name x p) [] kws pos) (tE X.K W (fun en S => (mr en S).bind fun ds S1 => if ds.length = n then (if (pick ix ds).length = n then fm (pick ix ds) S1 else .stuck) else .stuck)) := by
  refine ⟨fun pins s σ H Q I h => ?_⟩
  refine wpAny_Call_Name_kw (ld_glob I hg hm ?_ hdb)
  refine PySem.W.callWith_KW0 (h₀ := X.base) I.ok.mod.kin hkp hall ?_ hpl
  obtain ⟨en, S, m, er, si, h⟩ := h
  refine thn (hkw.run pos pins s σ H (fun vs H1 => ∃ ds S1 m1, Ext m H m1 H1 ∧ Sim X.K m1 S1 H1 ∧ Reps X.K m1 H1 vs ds ∧ Post X.K W σ m1 H1 (if ds.length = n then (if (pick ix ds).length = n then fm (pick ix ds) S1 else .stuck) else .stuck) Q) I ⟨en, S, m, er, si, h.bind⟩) fun ws s2 ⟨zs, H2, I2, rz, ds, S1, m1, e1, s1, r1, h1⟩ => ⟨I2.kIn, ?_⟩
  rw [hks]
  by_cases hl : ds.length = n
  · rw [if_pos hl] at h1
    have hsp := sp_of_post (fm := fm) s1 (r1.pick ix) h1
    have r2 := Vals.pick rz ix
    have hlen : ws.length = ks.length := by rw [← rz.length, r1.len, hl, hll]
    exact run_G (us0 := []) B F hk I2 (hb s2 ws I2.kIn hlen) r2 hsp
  · rw [if_neg hl] at h1; exact h1.elim

/-! ### instances: fields -/
def look (f : Str) : List Str → List D → Option D
  | [], _ => none
  | _ :: _, [] => none
  | g :: ns, d :: ds => if g = f then some d else look f ns ds
def fFld (cs : List Str) (f : Str) : D → Sto → Option D
  | .obj c ns l, _ => if c ∈ cs then look f ns l else none
  | .ref i, S => match S[i]? with
    | some (.ins c ns l) => if c ∈ cs then look f ns l else none
    | _ => none
  | _, _ => none
theorem look_ok {K : PySem.W.Frag} {m : Mp} {H : Hp} {f : Str} : ∀ {fs : List (Str × V)} {ns : List Str} {ds : List D} {d : D}, fs.map (·.1) = ns → Reps K m H (fs.map (·.2)) ds → look f ns ds = some d → ∃ v, fs.lookup f = some v ∧ Rep K m H v d
  | [], _, _, _, h1, h2, h3 => by subst h1; cases h3
  | (g, v) :: fs, ns, ds, d, h1, h2, h3 => by
    subst h1
    cases h2 with
    | cons r1 r2 =>
      rename_i c ds
      simp only [List.map_cons, look] at h3
      by_cases hg : g = f
      · rw [if_pos hg] at h3
        cases h3
        subst hg
        exact ⟨v, by simp [List.lookup], r1⟩
      · rw [if_neg hg] at h3
        obtain ⟨w, h4, h5⟩ := look_ok rfl r2 h3
        have hb : (f == g) = false := beq_eq_false_iff_ne.mpr (fun z => hg z.symm)
        exact ⟨w, by simp [List.lookup, hb, h4], h5⟩
theorem ins_at {K : PySem.W.Frag} {m : Mp} {H : Hp} {S : Sto} {cs : List Str} {f : Str} {v : V} {d r : D} (si : Sim K m S H) (rp : Rep K m H v d) (h : fFld cs f d S = some r) :
    ∃ a c dx fs u, v = .ref a ∧ c ∈ cs ∧ H a = some (.ins (He.ga K c) dx fs) ∧ fs.lookup f = some u ∧ Rep K m H u r := by
  cases rp with
  | obj h1 h2 h3 h4 =>
    rename_i a dx c fs ns ds
    simp only [fFld] at h
    by_cases hc : c ∈ cs
    · rw [if_pos hc] at h
      obtain ⟨u, h5, h6⟩ := look_ok h3 h4 h
      exact ⟨a, c, dx, fs, u, rfl, hc, h1, h5, h6⟩
    · rw [if_neg hc] at h; cases h
  | ref h1 =>
    rename_i a i
    simp only [fFld] at h
    cases q : S[i]? with
    | none => rw [q] at h; cases h
    | some ob =>
      rw [q] at h
      cases ob with
      | dic kvs => cases h
      | lst l => cases h
      | ins c ns l =>
        simp only at h
        by_cases hc : c ∈ cs
        · rw [if_pos hc] at h
          obtain ⟨dx, fs, g1, g2, g3⟩ := si.cell i a _ h1 q
          obtain ⟨u, h5, h6⟩ := look_ok g2 g3 h
          exact ⟨a, c, dx, fs, u, rfl, hc, g1, h5, h6⟩
        · rw [if_neg hc] at h; cases h
  | _ => cases h
theorem e_fld {cs : List Str} {f : Str} (hc : ∀ c ∈ cs, Cls X.K (He.ga X.K c) ∧ NoAttr X.K (He.ga X.K c) f) (ha : PE X e (tE X.K W ma)) (hb : attributeBase e f X.env (eval e X.env) = eval e X.env := by rfl) : PE X (.Attribute e f pos) (tE X.K W (mUn (fFld cs f) ma)) := by
  refine PE.imp (pe_fld ha hb) ?_
  rintro σ H Q ⟨en, S, m, er, si, h⟩
  refine ⟨en, S, m, er, si, h.bind.mono ?_⟩
  rintro v H1 ⟨d, S1, m1, e1, s1, r1, h1⟩
  cases q : fFld cs f d S1 with
  | none => rw [q] at h1; exact h1.elim
  | some r =>
    rw [q] at h1
    obtain ⟨a, c, dx, fs, u, rfl, hcs, g1, g2, g3⟩ := ins_at s1 r1 q
    exact ⟨a, _, dx, fs, u, rfl, g1, (hc c hcs).1, (hc c hcs).2, g2, h1 u m1 H1 .refl s1 g3⟩
/-- the class of an instance -/
def clsD : D → Sto → Option Str
  | .obj c _ _, _ => some c
  | .ref i, S => match S[i]? with
    | some (.ins c _ _) => some c
    | _ => none
  | _, _ => none
theorem cls_at {K : PySem.W.Frag} {m : Mp} {H : Hp} {S : Sto} {v : V} {d : D} {c : Str} (si : Sim K m S H) (rp : Rep K m H v d) (h : clsD d S = some c) :
    ∃ a dx fs, v = .ref a ∧ H a = some (.ins (He.ga K c) dx fs) := by
  cases rp with
  | obj h1 h2 h3 h4 => cases h; exact ⟨_, _, _, rfl, h1⟩
  | ref h1 =>
    rename_i a i
    simp only [clsD] at h
    cases q : S[i]? with
    | none => rw [q] at h; cases h
    | some ob =>
      rw [q] at h
      cases ob with
      | dic kvs => cases h
      | lst l => cases h
      | ins c' ns l =>
        cases h
        obtain ⟨dx, fs, g1, _⟩ := si.cell i a _ h1 q
        exact ⟨a, dx, fs, rfl, g1⟩
  | _ => cases h
/-- a property: the getter fm on an instance of the class c; it raises nothing -/
def mProp (c : Str) (fm : List D → Sto → Res D) (ma : EM) : EM := fun en S => (ma en S).bind fun d S1 => match clsD d S1 with
  | some c' => if c' = c then (match fm [d] S1 with
    | .ok r S2 => .ok r S2
    | _ => .stuck) else .stuck
  | none => .stuck
theorem e_prop {c f : Str} {g pa : Addr} (B : Bd X W j) (hcl : Cls X.K (He.ga X.K c)) (hp : PropOf X.K (He.ga X.K c) f pa g) (F : FnG X.prog X.w X.K X.mg X.base k g fd ps (spOf X.K 1 fm)) (hk : k + 1 ≤ j) (hb : Binds X.K fd ps [])
    (ha : PE X e (tE X.K W ma)) (hab : attributeBase e f X.env (eval e X.env) = eval e X.env := by rfl) : PE X (.Attribute e f pos) (tE X.K W (mProp c fm ma)) := by
  refine ⟨fun pins s σ H Q I h => ?_⟩
  obtain ⟨en, S, m, er, si, h⟩ := h
  refine attr_of hab (thn (ha.run pins s σ H _ I ⟨en, S, m, er, si, h.bind⟩) fun u s1 ⟨x, H1, I1, rx, d, S1, m1, e1, sm, r1, h1⟩ => ?_)
  cases q : clsD d S1 with
  | none => simp only [q] at h1; exact h1.elim
  | some c' =>
    simp only [q] at h1
    by_cases hc : c' = c
    · rw [if_pos hc] at h1
      subst hc
      obtain ⟨a, dx, fs, rfl, g1⟩ := cls_at sm r1 q
      obtain rfl : u = Value.ref a := rx
      have hsp : spOf X.K 1 fm [.ref a] H1 Q fun _ _ _ => False := ⟨rfl, [d], S1, m1, .cons r1 .nil, sm, by
        cases q2 : fm [d] S1 with
        | ok r S2 => simp only [q2] at h1; exact h1
        | exc c fs S2 => simp only [q2] at h1; exact h1.elim
        | stuck => simp only [q2] at h1; exact h1⟩
      obtain ⟨mA, O, _, _, _, _⟩ := ins_get I1.hok g1
      obtain ⟨od, J, _⟩ := O.look
      obtain ⟨rest, hrec⟩ := hp.rec_
      have I2 := I1.tok (s1.toks + 1)
      have hcs : (PySem.W.clsIn X.K (He.ga X.K c')).isSome = true := by
        obtain ⟨cd, z, _⟩ := PySem.W.any_some hcl.hd
        rw [z]; rfl
      have hpg := PySem.W.plainGet_of (hcl.get f)
      refine PySem.W.get_bind I1.kIn J hpg.1 (PySem.W.findObj_data hcs hp.at_ hp.get hp.tak) hpg.2 (wpAny_call (PySem.W.prop_get (s := { s1 with toks := s1.toks + 1 }) I1.kIn hrec ?_))
      have hl : ([Value.ref a] : List Value).length = ps.length := F.len _ _ _ _ hsp
      have b := hb { s1 with toks := s1.toks + 1 } [.ref a] I2.kIn (by rw [List.append_nil]; exact hl)
      rw [List.append_nil] at b
      refine codeAny_mono (F.run X.A.in1 X.stack _ H1 ⟨[.ref a], []⟩ [.ref a] [.ref a] Q (fun _ _ _ => False) B.gd (B.room.mono hk).in1 I2.env0.in1 b (.cons rfl .nil) hsp) fun r s' hq => ?_
      cases r with
      | error er =>
        obtain ⟨_, _, _, _, _, _, _, _, _, _, _, _, z⟩ := hq
        exact z.elim
      | ok fl =>
        cases fl with
        | ret u =>
          obtain ⟨v, H', I3, rv, q3⟩ := I2.after hq
          show wpAny _ _ (handedOut u) _ _ _
          rw [PySem.W.handedOut_of (handed_of rv)]
          exact wpAny_pure ⟨v, H', I3, rv, q3⟩
        | next => exact hq.elim
        | brk => exact hq.elim
        | cont => exact hq.elim
    · rw [if_neg hc] at h1; exact h1.elim
/-- a method o.m(..) of the class c -/
def mMeth (c : Str) (n : Nat) (fm : List D → Sto → Res D) (ma : EM) (mr : AM) : EM := fun en S => (ma en S).bind fun d S1 => match clsD d S1 with
  | some c' => if c' = c then ((mr en S1).bind fun ds S2 => if (d :: ds).length = n then fm (d :: ds) S2 else .stuck) else .stuck
  | none => .stuck
end
end Ag

namespace Ag
open PySem L2
/-! ### cells that are left behind -/
mutual
def below (n : Nat) : D → Bool
  | .ref i => decide (i < n)
  | .tup l => belows n l
  | .lst l => belows n l
  | .scr l => belows n l
  | .obj _ _ l => belows n l
  | .dct l => belows n l
  | _ => true
def belows (n : Nat) : List D → Bool
  | [] => true
  | d :: l => below n d && belows n l
end
def Ob.below (n : Nat) : Ob → Bool
  | .lst l => belows n l
  | .ins _ _ l => belows n l
  | .dic l => belows n l
def cutM (n : Nat) (m : Mp) : Mp := ⟨m.c.take n, m.h⟩
section
variable {K : PySem.W.Frag} {m : Mp} {H : Hp} {n : Nat}
theorem off_cut {a : Addr} (h : Off m a) : Off (cutM n m) a := ⟨fun z => h.1 (List.mem_of_mem_take z), h.2⟩
mutual
theorem Rep.cut : ∀ (d : D) (v : V), below n d = true → Rep K m H v d → Rep K (cutM n m) H v d
  | .non, v, _, h => by cases h; exact .non
  | .bl b, v, _, h => by cases h; exact .bl b
  | .int b, v, _, h => by cases h; exact .int b
  | .str b, v, _, h => by cases h; exact .str b
  | .ty b, v, _, h => by cases h; exact .ty b
  | .gl b, v, _, h => by cases h; exact .gl b
  | .tup l, v, b, h => by
    cases h with
    | tup h1 hd h2 => exact .tup h1 hd (Reps.cut l _ (by simpa [below] using b) h2)
  | .lst l, v, b, h => by
    cases h with
    | lst h1 h2 h3 => exact .lst h1 (off_cut h2) (Reps.cut l _ (by simpa [below] using b) h3)
  | .scr l, v, b, h => by
    cases h with
    | scr h1 h2 => exact .scr h1 (Reps.cut l _ (by simpa [below] using b) h2)
  | .ref i, v, b, h => by
    cases h with
    | ref h1 =>
      have hi : i < n := by simpa [below] using b
      exact .ref (by show (m.c.take n)[i]? = _; rw [List.getElem?_take_of_lt hi]; exact h1)
  | .obj c ns l, v, b, h => by
    cases h with
    | obj h1 h2 h3 h4 => exact .obj h1 (off_cut h2) h3 (Reps.cut l _ (by simpa [below] using b) h4)
  | .dct l, v, b, h => by
    cases h with
    | dct h1 h2 h3 h4 => exact .dct h1 (off_cut h2) (DicR.cut l _ (by simpa [below] using b) h3) h4
theorem DicR.cut : ∀ (l : List D) (xs : List (NestedKey × Addr × Value)), belows n l = true → DicR K m H l xs → DicR K (cutM n m) H l xs
  | [], xs, _, h => by cases h; exact .nil
  | [_], xs, _, h => by cases h
  | kd :: vd :: l, xs, b, h => by
    cases h with
    | cons a r c d q =>
      have b2 : below n kd = true ∧ below n vd = true ∧ belows n l = true := by simpa [belows, Bool.and_eq_true] using b
      exact .cons a (Rep.cut kd _ b2.1 r) c (Rep.cut vd _ b2.2.1 d) (DicR.cut l _ b2.2.2 q)
theorem Reps.cut : ∀ (ds : List D) (vs : List V), belows n ds = true → Reps K m H vs ds → Reps K (cutM n m) H vs ds
  | [], vs, _, h => by cases h; exact .nil
  | d :: ds, vs, b, h => by
    cases h with
    | cons h1 h2 =>
      have b2 : below n d = true ∧ belows n ds = true := by simpa [belows, Bool.and_eq_true] using b
      exact .cons (Rep.cut d _ b2.1 h1) (Reps.cut ds _ b2.2 h2)
end
theorem ObR.cut {a : Addr} {o : Ob} (b : o.below n = true) (h : ObR K m H a o) : ObR K (cutM n m) H a o := by
  cases o with
  | lst l =>
    obtain ⟨vs, h1, h2⟩ := h
    exact ⟨vs, h1, Reps.cut l vs b h2⟩
  | ins c ns l =>
    obtain ⟨dx, fs, h1, h2, h3⟩ := h
    exact ⟨dx, fs, h1, h2, Reps.cut l _ b h3⟩
  | dic l =>
    obtain ⟨o, xs, h1, h2, h3⟩ := h
    exact ⟨o, xs, h1, DicR.cut l xs b h2, h3⟩
theorem Sim.cut {S : Sto} (s : Sim K m S H) (hb : ((S.take n).all (Ob.below n)) = true) : Sim K (cutM n m) (S.take n) H := by
  refine ⟨by simp [cutM, s.len], s.nd.sublist (List.take_sublist _ _), fun i a o h1 h2 => ?_, s.hid, fun a ha => s.dis a (List.mem_of_mem_take ha)⟩
  have hi : i < n := by
    have := (List.getElem?_eq_some_iff.mp h2).1
    rw [List.length_take] at this
    omega
  have h1 : (m.c.take n)[i]? = some a := h1
  rw [List.getElem?_take_of_lt hi] at h1
  refine ObR.cut (List.all_eq_true.mp hb o (List.mem_of_getElem? h2)) (s.cell i a o h1 ?_)
  rw [List.getElem?_take_of_lt hi] at h2
  exact h2
theorem Ext.cut {m' : Mp} {H' : Hp} (e : Ext m H m' H') (hn : m.c.length = n) : Ext m H (cutM n m') H' := by
  obtain ⟨ex, e1, hx⟩ := e.pre
  refine ⟨⟨[], ?_, by simp⟩, e.hs, e.trk, e.keep, e.tup, e.frz⟩
  show m'.c.take n = m.c ++ []
  rw [e1, ← hn]; simp
def optAll (f : D → Option D) : List D → Option (List D)
  | [] => some []
  | d :: l => (f d).bind fun a => (optAll f l).map (a :: ·)
/-- a cell that is given back is frozen, with the cells in it -/
def frzF (n : Nat) (S : Sto) : Nat → D → Option D
  | f + 1, .ref i => if i < n then some (.ref i) else match S[i]? with
    | some (.lst l) => (optAll (frzF n S f) l).map .lst
    | some (.ins c ns l) => (optAll (frzF n S f) l).map (.obj c ns)
    | some (.dic l) => if belows n l = true then some (.dct l) else none
    | none => none
  | _, d => if below n d = true then some d else none
def frzD (n : Nat) (S : Sto) (d : D) : Option D := frzF n S 3 d
theorem frz_plain {v : V} {d r : D} (h : Rep K m H v d) (q : (if below n d = true then some d else none) = some r) : Rep K (cutM n m) H v r := by
  by_cases b : below n d = true
  · rw [if_pos b] at q
    cases q
    exact Rep.cut d v b h
  · rw [if_neg b] at q; cases q
theorem frz_all {f : D → Option D} (hf : ∀ (v : V) (d r : D), Rep K m H v d → f d = some r → Rep K (cutM n m) H v r) : ∀ {vs : List V} {l rs : List D}, Reps K m H vs l → optAll f l = some rs → Reps K (cutM n m) H vs rs
  | [], [], rs, _, q => by cases q; exact .nil
  | [], _ :: _, _, h, _ => by cases h
  | _ :: _, [], _, h, _ => by cases h
  | v :: vs, d :: l, rs, h, q => by
    cases h with
    | cons h1 h2 =>
      obtain ⟨a, qa, q⟩ := Option.bind_eq_some_iff.mp q
      obtain ⟨b, qb, rfl⟩ := Option.map_eq_some_iff.mp q
      exact .cons (hf v d a h1 qa) (frz_all hf h2 qb)
theorem frzF_ok {S : Sto} (s : Sim K m S H) : ∀ (f : Nat) (v : V) (d r : D), Rep K m H v d → frzF n S f d = some r → Rep K (cutM n m) H v r
  | 0, v, d, r, h, q => frz_plain h (by cases d <;> exact q)
  | f + 1, v, d, r, h, q => by
    cases d with
    | ref i =>
      simp only [frzF] at q
      by_cases hi : i < n
      · rw [if_pos hi] at q
        cases q
        exact Rep.cut (.ref i) v (by simpa [below] using hi) h
      · rw [if_neg hi] at q
        cases h with
        | ref h1 =>
          rename_i a
          have off : Off (cutM n m) a := by
            refine ⟨fun z => ?_, s.dis a (List.mem_of_getElem? h1)⟩
            obtain ⟨j, hj, ej⟩ := List.mem_iff_getElem.mp (show a ∈ m.c.take n from z)
            have hjn : j < n := by rw [List.length_take] at hj; omega
            have hjm : j < m.c.length := by rw [List.length_take] at hj; omega
            have e2 : m.c[j]? = some a := by
              rw [← List.getElem?_take_of_lt hjn, List.getElem?_eq_getElem hj, ej]
            have := (List.getElem?_inj hjm s.nd).mp (e2.trans h1.symm)
            omega
          cases qo : S[i]? with
          | none => rw [qo] at q; cases q
          | some o =>
            rw [qo] at q
            have c := s.cell i a o h1 qo
            cases o with
            | dic l =>
              obtain ⟨ob, xs, g1, g2, g3⟩ := c
              simp only at q
              by_cases b : belows n l = true
              · rw [if_pos b] at q
                cases q
                exact .dct g1 off (DicR.cut l xs b g2) g3
              · rw [if_neg b] at q; cases q
            | lst l =>
              obtain ⟨vs, g1, g2⟩ := c
              obtain ⟨rs, qr, rfl⟩ := Option.map_eq_some_iff.mp q
              exact .lst g1 off (frz_all (fun v d r => frzF_ok s f v d r) g2 qr)
            | ins c ns l =>
              obtain ⟨dx, fs, g1, g2, g3⟩ := c
              obtain ⟨rs, qr, rfl⟩ := Option.map_eq_some_iff.mp q
              exact .obj g1 off g2 (frz_all (fun v d r => frzF_ok s f v d r) g3 qr)
    | _ => exact frz_plain h q
theorem frz_ok {S : Sto} {v : V} {d r : D} (s : Sim K m S H) (h : Rep K m H v d) (q : frzD n S d = some r) : Rep K (cutM n m) H v r := frzF_ok s 3 v d r h q
theorem ExR.cut {od : Option Addr} {fs : List (Str × D)} (b : belows n (fs.map (·.2)) = true) (h : ExR K m H od fs) : ExR K (cutM n m) H od fs := by
  cases od with
  | none => exact h
  | some d =>
    obtain ⟨vs, h1, h2, h3⟩ := h
    exact ⟨vs, h1, h2, Reps.cut _ _ b h3⟩
def cutR (n : Nat) : Res D → Res D
  | .ok d S => if (S.take n).all (Ob.below n) = true then (match frzD n S d with
    | some d' => .ok d' (S.take n)
    | none => .stuck) else .stuck
  | .exc c fs S => if (S.take n).all (Ob.below n) = true ∧ belows n (fs.map (·.2)) = true then .exc c fs (S.take n) else .stuck
  | .stuck => .stuck
theorem PostG.cut {W : WX} {σ : L2.St} {r : Res D} {Q : VK} (hn : m.c.length = n) (h : PostG K W (Rep K) σ m H (cutR n r) Q) : PostG K W (Rep K) σ m H r Q := by
  cases r with
  | stuck => exact h
  | ok d S =>
    simp only [cutR] at h
    by_cases b : (S.take n).all (Ob.below n) = true
    · rw [if_pos b] at h
      cases q : frzD n S d with
      | none => simp only [q] at h; exact h.elim
      | some d' =>
        simp only [q] at h
        exact fun v m' H' e s r => h v (cutM n m') H' (e.cut hn) (s.cut b) (frz_ok s r q)
    · rw [if_neg b] at h; exact h.elim
  | exc c fs S =>
    simp only [cutR] at h
    by_cases b : (S.take n).all (Ob.below n) = true ∧ belows n (fs.map (·.2)) = true
    · rw [if_pos b] at h
      exact fun od m' H' e s x => h od (cutM n m') H' (e.cut hn) (s.cut b.1) (x.cut b.2)
    · rw [if_neg b] at h; exact h.elim
def scop (f : List D → Sto → Res D) : List D → Sto → Res D := fun ds S => cutR S.length (f ds S)
theorem sp_scop {k : Nat} {f : List D → Sto → Res D} {vs : List V} {Q : VK} {E : XK} (h : spOf K k (scop f) vs H Q E) : spOf K k f vs H Q E := by
  obtain ⟨hl, ds, S, m, r, s, h⟩ := h
  exact ⟨hl, ds, S, m, r, s, PostG.cut s.len h⟩
end
theorem fn_scop {P : Program} {w : World} {K : PySem.W.Frag} {mg : Str → Option Value} {base : Heap} {j k : Nat} {a : Addr} {fd : FuncData} {ps : List Str} {f : List D → Sto → Res D} (F : FnG P w K mg base j a fd ps (spOf K k f)) : FnG P w K mg base j a fd ps (spOf K k (scop f)) :=
  F.weak fun _ _ _ _ => sp_scop

/-! ### C(..), o.m(..), o.f = e -/
section
variable {X : Cx} {W : WX} {e o : Expr} {es : List Expr} {pos p apos : Pos} {mr : AM} {k n j : Nat} {f : Addr} {fd : FuncData} {ps : List Str} {fm : List D → Sto → Res D} {x c : Str} {ma mv : EM}
/-- a new instance; frz: it does not change any more -/
def mkD (c : Str) (frz : Bool) (fm : List D → Sto → Res D) (ds : List D) (S : Sto) : Res D := match fm (.ref S.length :: ds) (S ++ [.ins c [] []]) with
  | .ok .non S' => if frz = true then cutR S.length (.ok (.ref S.length) S') else .ok (.ref S.length) S'
  | .exc c fs S' => cutR S.length (.exc c fs S')
  | _ => .stuck
def mMake (c : Str) (frz : Bool) (n : Nat) (fm : List D → Sto → Res D) (mr : AM) : EM := fun en S => (mr en S).bind fun ds S1 => if ds.length = n then mkD c frz fm ds S1 else .stuck
theorem mk_to {m : Mp} {H : Hp} {σ : L2.St} {S : Sto} {vs : List V} {ds : List D} {Q : VK} {frz : Bool} (s : Sim X.K m S H) (r : Reps X.K m H vs ds) (h : Post X.K W σ m H (if ds.length = n then mkD c frz fm ds S else .stuck) Q) :
    ∀ x dx, H x = none → H dx = none → dx ≠ x → spOf X.K (n + 1) fm (.ref x :: vs) (upd (upd H dx (.own x)) x (.ins (He.ga X.K c) dx [])) (fun v H2 => v = .non ∧ Q (.ref x) H2) (WE W σ) := by
  intro x dx hx hdx hne
  by_cases hl : ds.length = n
  · rw [if_pos hl] at h
    have hx2 : (upd H dx (.own x)) x = none := by rw [upd_ne (Ne.symm hne)]; exact hx
    have e1 : Ext m H m (upd H dx (.own x)) := .new hdx
    have s1 := s.new (o := .own x) hdx
    have e2 : Ext m (upd H dx (.own x)) (m.add x) (upd (upd H dx (.own x)) x (.ins (He.ga X.K c) dx [])) := .cell hx2
    have s2 : Sim X.K (m.add x) (S ++ [.ins c [] []]) (upd (upd H dx (.own x)) x (.ins (He.ga X.K c) dx [])) := s1.grow hx2 ⟨dx, [], upd_same, rfl, .nil⟩
    have e12 := e1.trans e2
    refine ⟨by rw [List.length_cons, r.len, hl], .ref S.length :: ds, _, m.add x, .cons (.ref (s.last x)) (r.to e12), s2, ?_⟩
    unfold mkD at h
    cases q : fm (.ref S.length :: ds) (S ++ [.ins c [] []]) with
    | stuck => rw [q] at h; exact h
    | exc c' fs S' =>
      rw [q] at h
      have h' := PostG.cut s.len h
      exact fun od m' H' e' s' z => h' od m' H' (e12.trans e') s' z
    | ok d S' =>
      rw [q] at h
      intro v m' H' e' s' rv
      have e3 := e12.trans e'
      have at_ : m'.c[S.length]? = some x := by
        obtain ⟨ex, e4, _⟩ := e'.pre
        exact pre_at e4 (s.last x)
      cases rv with
      | non =>
        simp only at h
        refine ⟨rfl, ?_⟩
        cases frz with
        | true =>
          simp only [if_true] at h
          exact (PostG.cut s.len h) _ m' H' e3 s' (.ref at_)
        | false =>
          simp only [Bool.false_eq_true, if_false] at h
          exact h _ m' H' e3 s' (.ref at_)
      | _ => exact h.elim
  · rw [if_neg hl] at h; exact h.elim
theorem make_guards {A : Around} {C : Addr} {us : List Value} {kw : List (Str × Value)} : (A.under (.builtin "type.__call__" ⟨.ref C :: us, kw⟩)).guards = A.guards := by
  first | rfl | simp [Around.under, Code.guards, Code.isGuard, guardIds, pushGuards]
theorem run_mk {pins : List (Addr × Obj)} {σ : L2.St} {H : Hp} {s : Shared} {Q : VK} {us : List Value} {vs : List V} {kw : List (Str × Value)} {us0 : List Value} (B : Bd X W j) (M : Mk X.K (He.ga X.K c) f) (F : FnG X.prog X.w X.K X.mg X.base k f fd ps (spOf X.K (n + 1) fm)) (hk : k + 1 ≤ j)
    (I : Inv X pins σ H s) (r : Vals vs us) (hb : BindsTo { s with heap := (s.heap.push { cls := .type "dict", data := .dict #[] }).push (PySem.W.instObj (He.ga X.K c) s.heap.objs.size) } fd ⟨.ref (s.heap.objs.size + 1) :: us0, kw⟩ (ps.zip (.ref (s.heap.objs.size + 1) :: us)))
    (h : ∀ x dx, H x = none → H dx = none → dx ≠ x → spOf X.K (n + 1) fm (.ref x :: vs) (upd (upd H dx (.own x)) x (.ins (He.ga X.K c) dx [])) (fun v H2 => v = .non ∧ Q (.ref x) H2) (WE W σ)) :
    wpAny (model X.prog X.w) X.A (call (.ref (He.ga X.K c)) us0 kw) (EP X pins σ Q) X.xe s := by
  have hq := h (s.heap.objs.size + 1) s.heap.objs.size (I.hok.fresh (Nat.le_succ _)) (I.hok.fresh (Nat.le_refl _)) (Nat.ne_of_lt (Nat.lt_succ_self _))
  have I2 := Inv.made (C := He.ga X.K c) I
  have r1 : Vals (V.ref (s.heap.objs.size + 1) :: vs) (Value.ref (s.heap.objs.size + 1) :: us) := .cons rfl r
  refine wpAny_call (make_map (f := f) I.kIn M.makes M.init (beq_iff_eq.mp M.fn) (codeAny_mono (F.run _ X.stack _ _ ⟨Value.ref (s.heap.objs.size + 1) :: us0, kw⟩ (Value.ref (s.heap.objs.size + 1) :: us) _ _ (WE W σ) (make_guards.trans B.gd) ((B.room.mono hk).make _ us0 kw)
    (I2.env0.make _ us0 kw) hb r1 hq) fun r s' hq' => ?_))
  cases r with
  | error e => exact passAt B.tk σ pins _ _ e s' I2 hq'
  | ok fl =>
    cases fl with
    | ret u =>
      obtain ⟨v, H', I3, rv, ev, q3⟩ := I2.after hq'
      subst ev
      exact ⟨rv, ⟨V.ref (s.heap.objs.size + 1), H', I3, rfl, q3⟩⟩
    | next => exact False.elim hq'
    | brk => exact False.elim hq'
    | cont => exact False.elim hq'
theorem e_make {frz : Bool} (B : Bd X W j) (M : Mk X.K (He.ga X.K c) f) (F : FnG X.prog X.w X.K X.mg X.base k f fd ps (spOf X.K (n + 1) fm)) (hk : k + 1 ≤ j) (hg : Gl X c) (hm : X.mg c = some (.ref (He.ga X.K c))) (hb : Binds X.K fd ps [])
    (ha : PA X (e :: es) (tA X.K W mr)) (hdb : (c == ("__debug__" : Str)) = false := by decide) (he : starEach (e :: es) X.env = (false, eval e X.env) :: starEach es X.env := by rfl) (hpl : (backTo pos (starEach es X.env)).any (·.1) = false := by rfl) :
    PE X (.Call (.Name c p) (e :: es) [] pos) (tE X.K W (mMake c frz n fm mr)) := by
  refine ⟨fun pins s σ H Q I h => ?_⟩
  refine wpAny_Call_Name_kw (ld_glob I hg hm ?_ hdb)
  obtain ⟨en, S, m, er, si, h⟩ := h
  refine PySem.W.callWith_K (h₀ := X.base) I.ok.mod.kin M.kp (thn (ha.run pos pins s σ H (fun vs H1 => ∃ ds S1 m1, Ext m H m1 H1 ∧ Sim X.K m1 S1 H1 ∧ Reps X.K m1 H1 vs ds ∧ Post X.K W σ m1 H1 (if ds.length = n then mkD c frz fm ds S1 else .stuck) Q) I ⟨en, S, m, er, si, h.bind⟩) fun us s1 ⟨vs, H1, I1, r, ds, S1, m1, e1, sm, r1, h1⟩ => ⟨I1.kIn, ?_⟩) he hpl
  have hq := mk_to (X := X) (W := W) sm r1 h1
  refine run_mk B M F hk I1 r ?_ hq
  have I2 := Inv.made (C := He.ga X.K c) I1
  have hl : (Value.ref (s1.heap.objs.size + 1) :: us).length = ps.length := by
    have h5 := F.len _ _ _ _ (hq (s1.heap.objs.size + 1) s1.heap.objs.size (I1.hok.fresh (Nat.le_succ _)) (I1.hok.fresh (Nat.le_refl _)) (Nat.ne_of_lt (Nat.lt_succ_self _)))
    rw [← h5, List.length_cons, List.length_cons, r.length]
  have b := hb _ (Value.ref (s1.heap.objs.size + 1) :: us) I2.kIn (by rw [List.append_nil]; exact hl)
  rw [List.append_nil] at b
  exact b
theorem e_makeKw {frz : Bool} {kws : List Keyword} {ks : List Str} {ix : List Nat} (B : Bd X W j) (M : Mk X.K (He.ga X.K c) f) (F : FnG X.prog X.w X.K X.mg X.base k f fd ps (spOf X.K (n + 1) fm)) (hk : k + 1 ≤ j) (hg : Gl X c) (hm : X.mg c = some (.ref (He.ga X.K c)))
    (hb : ∀ (s : Shared) (a : Value) (ws : List Value), X.K.In s.heap → ws.length = ks.length → BindsTo s fd ⟨[a], ks.zip ws⟩ (ps.zip (a :: pick ix ws))) (hkw : PK X kws (tA X.K W mr)) (hll : ks.length = n) (hall : (backToKw pos (keywordEach kws X.env)).all (·.1.isSome) = true := by rfl) (hks : (backToKw pos (keywordEach kws X.env)).filterMap (·.1) = ks := by rfl)
    (hdb : (c == ("__debug__" : Str)) = false := by decide) (hpl : ((backTo pos (starEach [] X.env)).any (·.1) || (backToKw pos (keywordEach kws X.env)).any (·.1.isNone)) = false := by rfl) :
    PE X (.Call (.Name c p) [] kws pos) (tE X.K W (fun en S => (mr en S).bind fun ds S1 => if ds.length = n then (if (pick ix ds).length = n then mkD c frz fm (pick ix ds) S1 else .stuck) else .stuck)) := by
  refine ⟨fun pins s σ H Q I h => ?_⟩
  refine wpAny_Call_Name_kw (ld_glob I hg hm ?_ hdb)
  refine PySem.W.callWith_KW0 (h₀ := X.base) I.ok.mod.kin M.kp hall ?_ hpl
  obtain ⟨en, S, m, er, si, h⟩ := h
  refine thn (hkw.run pos pins s σ H (fun vs H1 => ∃ ds S1 m1, Ext m H m1 H1 ∧ Sim X.K m1 S1 H1 ∧ Reps X.K m1 H1 vs ds ∧ Post X.K W σ m1 H1 (if ds.length = n then (if (pick ix ds).length = n then mkD c frz fm (pick ix ds) S1 else .stuck) else .stuck) Q) I ⟨en, S, m, er, si, h.bind⟩) fun ws s2 ⟨zs, H2, I2, rz, ds, S1, m1, e1, s1, r1, h1⟩ => ⟨I2.kIn, ?_⟩
  rw [hks]
  by_cases hl : ds.length = n
  · rw [if_pos hl] at h1
    have hlen : ws.length = ks.length := by rw [← rz.length, r1.len, hl, hll]
    exact run_mk (us0 := []) B M F hk I2 (Vals.pick rz ix) (hb _ _ ws (Inv.made (C := He.ga X.K c) I2).kIn hlen) (mk_to (X := X) (W := W) s1 (r1.pick ix) h1)
  · rw [if_neg hl] at h1; exact h1.elim
theorem noF : ∀ {fs : List (Str × V)} {ns : List Str} {g : Str}, fs.map (·.1) = ns → g ∉ ns → fs.lookup g = none
  | [], _, _, _, _ => rfl
  | (h, v) :: fs, ns, g, e, n => by
    subst e
    have hb : (g == h) = false := beq_eq_false_iff_ne.mpr (fun z => n (by rw [z]; exact List.mem_cons_self))
    have ih := noF (fs := fs) (g := g) rfl (fun z => n (List.mem_cons_of_mem _ z))
    simp [List.lookup, hb, ih]
/-- the fields of an instance of the class c -/
def namD (c : Str) : D → Sto → Option (List Str)
  | .obj c' ns _, _ => if c' = c then some ns else none
  | .ref i, S => match S[i]? with
    | some (.ins c' ns _) => if c' = c then some ns else none
    | _ => none
  | _, _ => none
theorem nam_at {K : PySem.W.Frag} {m : Mp} {H : Hp} {S : Sto} {v : V} {d : D} {c : Str} {ns : List Str} (si : Sim K m S H) (rp : Rep K m H v d) (h : namD c d S = some ns) :
    ∃ a dx fs, v = .ref a ∧ H a = some (.ins (He.ga K c) dx fs) ∧ fs.map (·.1) = ns := by
  cases rp with
  | obj h1 h2 h3 h4 =>
    rename_i a dx c' fs ns' ds
    simp only [namD] at h
    by_cases hc : c' = c
    · rw [if_pos hc] at h; cases h; subst hc; exact ⟨_, _, _, rfl, h1, h3⟩
    · rw [if_neg hc] at h; cases h
  | ref h1 =>
    rename_i a i
    simp only [namD] at h
    cases q : S[i]? with
    | none => rw [q] at h; cases h
    | some ob =>
      rw [q] at h
      cases ob with
      | dic kvs => cases h
      | lst l => cases h
      | ins c' ns' l =>
        simp only at h
        by_cases hc : c' = c
        · rw [if_pos hc] at h; cases h; subst hc
          obtain ⟨dx, fs, g1, g2, _⟩ := si.cell i a _ h1 q
          exact ⟨a, dx, fs, rfl, g1, g2⟩
        · rw [if_neg hc] at h; cases h
  | _ => cases h
def mMth (c m : Str) (n : Nat) (fm : List D → Sto → Res D) (ma : EM) (mr : AM) : EM := fun en S => (ma en S).bind fun d S1 => match namD c d S1 with
  | some ns => if m ∈ ns then .stuck else (mr en S1).bind fun ds S2 => if (d :: ds).length = n then fm (d :: ds) S2 else .stuck
  | none => .stuck
theorem e_meth {pl : Sem Bool} {mn : Str} (B : Bd X W j) (ho : PE X o (tE X.K W ma)) (hc : Cls X.K (He.ga X.K c)) (hm : Meth X.K (He.ga X.K c) mn f) (F : FnG X.prog X.w X.K X.mg X.base k f fd ps (spOf X.K n fm)) (hk : k ≤ j) (hb : Binds X.K fd ps []) (ha : PA X (e :: es) (tA X.K W mr))
    (hst : starEach (e :: es) X.env = (false, eval e X.env) :: starEach es X.env := by rfl) (hpl : (backTo pos (starEach es X.env)).any (·.1) = false := by rfl)
    (ht : eval (.Call (.Attribute o mn apos) (e :: es) [] pos) X.env = (do
      let ov ← eval o X.env
      standAt apos.atName
      let (f, first) ← holding [ov] (getMethod ov mn pl)
      callWith pos f first (backTo pos (starEach (e :: es) X.env)) (backToKw pos (keywordEach [] X.env))) := by rfl) :
    PE X (.Call (.Attribute o mn apos) (e :: es) [] pos) (tE X.K W (mMth c mn n fm ma mr)) := by
  refine ⟨fun pins s σ H Q I h => ?_⟩
  obtain ⟨en, S, m, er, si, h⟩ := h
  refine PySem.W.methodCall_KW (pl := pl) (thn (ho.run pins s σ H _ I ⟨en, S, m, er, si, h.bind⟩) fun u s1 ⟨x, H1, I1, rx, d, S1, m1, e1, sm, r1, h1⟩ => ?_) ht
  cases q : namD c d S1 with
  | none => simp only [q] at h1; exact h1.elim
  | some ns =>
    simp only [q] at h1
    by_cases hn : mn ∈ ns
    · rw [if_pos hn] at h1; exact h1.elim
    · rw [if_neg hn] at h1
      obtain ⟨a, dx, fs, rfl, g1, g2⟩ := nam_at sm r1 q
      obtain rfl : u = Value.ref a := rx
      refine getmeth_ok I1 g1 hc hm (noF g2 hn) ?_
      refine PySem.W.callWith_K (first := [.ref a]) (h₀ := X.base) I.ok.mod.kin hm.kp (thn (ha.run pos pins s1 σ H1 _ I1 ⟨en, S1, m1, er.to e1, sm, h1.bind⟩) fun us s2 ⟨vs, H2, I2, r, ds, S2, m2, e2, sm2, r2, h2⟩ => ⟨I2.kIn, ?_⟩) hst hpl
      exact run_G0 (us := .ref a :: us) (vs := .ref a :: vs) B F hk I2 hb (.cons rfl r) (sp_of_post sm2 (.cons (r1.to e2) r2) h2)
theorem e_meth0 {pl : Sem Bool} {mn : Str} (B : Bd X W j) (ho : PE X o (tE X.K W ma)) (hc : Cls X.K (He.ga X.K c)) (hm : Meth X.K (He.ga X.K c) mn f) (F : FnG X.prog X.w X.K X.mg X.base k f fd ps (spOf X.K n fm)) (hk : k ≤ j) (hb : Binds X.K fd ps [])
    (ht : eval (.Call (.Attribute o mn apos) [] [] pos) X.env = (do
      let ov ← eval o X.env
      standAt apos.atName
      let (f, first) ← holding [ov] (getMethod ov mn pl)
      callWith pos f first (backTo pos (starEach [] X.env)) (backToKw pos (keywordEach [] X.env))) := by rfl) :
    PE X (.Call (.Attribute o mn apos) [] [] pos) (tE X.K W (mMth c mn n fm ma mNil)) := by
  refine ⟨fun pins s σ H Q I h => ?_⟩
  obtain ⟨en, S, m, er, si, h⟩ := h
  refine PySem.W.methodCall_KW (pl := pl) (thn (ho.run pins s σ H _ I ⟨en, S, m, er, si, h.bind⟩) fun u s1 ⟨x, H1, I1, rx, d, S1, m1, e1, sm, r1, h1⟩ => ?_) ht
  cases q : namD c d S1 with
  | none => simp only [q] at h1; exact h1.elim
  | some ns =>
    simp only [q] at h1
    by_cases hn : mn ∈ ns
    · rw [if_pos hn] at h1; exact h1.elim
    · rw [if_neg hn] at h1
      obtain ⟨a, dx, fs, rfl, g1, g2⟩ := nam_at sm r1 q
      obtain rfl : u = Value.ref a := rx
      refine getmeth_ok I1 g1 hc hm (noF g2 hn) ?_
      exact PySem.W.callWith_K0 (first := [.ref a]) I1.kIn hm.kp (run_G0 (us := [.ref a]) (vs := [.ref a]) B F hk I1 hb (.cons rfl .nil) (sp_of_post sm (.cons r1 .nil) h1))
/-! o.f = e -/
def putL (f : Str) (d : D) : List Str → List D → Option (List Str × List D)
  | [], [] => some ([f], [d])
  | g :: ns, c :: l => if g = f then some (g :: ns, d :: l) else (putL f d ns l).map fun r => (g :: r.1, c :: r.2)
  | _, _ => none
theorem put_ok {K : PySem.W.Frag} {m : Mp} {H : Hp} {f : Str} {v : V} {d : D} (rv : Rep K m H v d) : ∀ {fs : List (Str × V)} {ns : List Str} {ds : List D} {r : List Str × List D}, fs.map (·.1) = ns → Reps K m H (fs.map (·.2)) ds → putL f d ns ds = some r → (putF f v fs).map (·.1) = r.1 ∧ Reps K m H ((putF f v fs).map (·.2)) r.2
  | [], _, _, _, h1, h2, h3 => by
    subst h1
    cases h2
    cases h3
    exact ⟨rfl, .cons rv .nil⟩
  | (g, u) :: fs, ns, ds, r, h1, h2, h3 => by
    subst h1
    cases h2 with
    | cons r1 r2 =>
      rename_i c ds
      simp only [List.map_cons, putL] at h3
      by_cases hg : g = f
      · rw [if_pos hg] at h3
        cases h3
        simp only [putF, if_pos hg]
        exact ⟨rfl, .cons rv r2⟩
      · rw [if_neg hg] at h3
        cases q : putL f d (fs.map (·.1)) ds with
        | none => rw [q] at h3; cases h3
        | some r' =>
          rw [q] at h3
          cases h3
          obtain ⟨i1, i2⟩ := put_ok rv rfl r2 q
          simp only [putF, if_neg hg]
          exact ⟨by simp [i1], .cons r1 i2⟩
def sFldM (cs : List Str) (f : Str) (ma mv : EM) : SM := fun en S => eS (mv en S) en fun d S1 => eS (ma en S1) en fun o S2 => match o with
  | .ref i => (match S2[i]? with
    | some (.ins c ns l) => if c ∈ cs ∧ ns.length < 1000 then (match putL f d ns l with
      | some r => .next en (S2.set i (.ins c r.1 r.2))
      | none => .stuck) else .stuck
    | _ => .stuck)
  | _ => .stuck
theorem s_fld {cs : List Str} {fl : Str} {pos' : Pos} {v : Expr} (hc : ∀ c ∈ cs, Cls X.K (He.ga X.K c) ∧ NoAttr X.K (He.ga X.K c) fl) (ho : PE X o (tE X.K W ma)) (hv : PE X v (tE X.K W mv)) (hs : swapsWith v (some (.Attribute o fl pos')) pos.line X.env = pure false := by rfl) :
    PS X (.Assign [.Attribute o fl pos'] v pos) (tS X.K W (sFldM cs fl ma mv)) := by
  refine PS.imp (ps_fld ho hv hs) ?_
  rintro E σ H ⟨en, S, m, er, si, h⟩
  refine ⟨en, S, m, er, si, (eS_to er h).mono ?_⟩
  rintro y H1 ⟨d, S1, m1, e1, s1, r1, h1⟩
  refine ⟨en, S1, m1, er.to e1, s1, (eS_to (er.to e1) h1).mono ?_⟩
  rintro x H2 ⟨od, S2, m2, e2, s2, r2, h2⟩
  cases r2 with
  | ref hi =>
    rename_i a i
    simp only at h2
    cases q : S2[i]? with
    | none => simp only [q] at h2; exact h2.elim
    | some ob =>
      simp only [q] at h2
      cases ob with
      | dic kvs => exact h2.elim
      | lst l => exact h2.elim
      | ins c ns l =>
        simp only at h2
        by_cases hcs : c ∈ cs ∧ ns.length < 1000
        · rw [if_pos hcs] at h2
          obtain ⟨dx, fs, g1, g2, g3⟩ := s2.cell i a _ hi q
          cases qp : putL fl d ns l with
          | none => simp only [qp] at h2; exact h2.elim
          | some r =>
            simp only [qp] at h2
            have e3 : Ext m2 H2 m2 (upd H2 a (.ins (He.ga X.K c) dx (putF fl y fs))) := Ext.put s2 (List.mem_of_getElem? hi)
            obtain ⟨p1, p2⟩ := put_ok (r1.to e2) g2 g3 qp
            refine ⟨a, _, dx, fs, rfl, g1, (hc c hcs.1).1, (hc c hcs.1).2, by rw [← g2, List.length_map] at hcs; exact hcs.2, ?_⟩
            exact h2 σ m2 _ e3 (s2.put hi ⟨dx, _, upd_same, p1, p2.to e3⟩) (((er.to e1).to e2).to e3)
        · rw [if_neg hcs] at h2; exact h2.elim
  | _ => exact h2.elim
end
end Ag

namespace Ag
open PySem L2
/-! ### plain data -/
mutual
def D.py : D → Option PyData
  | .non => some .none
  | .bl b => some (.bool b)
  | .int i => some (.int i)
  | .str x => some (.str x)
  | .tup l => (D.pys l).map .tuple
  | .lst l => (D.pys l).map .list
  | .scr l => (D.pys l).map .list
  | _ => none
def D.pys : List D → Option (List PyData)
  | [] => some []
  | d :: l => match D.py d, D.pys l with
    | some p, some ps => some (p :: ps)
    | _, _ => none
end
def pyS (d : D) (S : Sto) : Option PyData := match d with
  | .ref i => (match S[i]? with
    | some (.lst l) => (D.pys l).map .list
    | _ => none)
  | d => d.py
section
variable {K : PySem.W.Frag} {m : Mp} {H : Hp}
mutual
theorem dp_of : ∀ (d : D) (v : V) (p : PyData), Rep K m H v d → d.py = some p → Dp K H v p
  | .non, v, p, h, e => by cases h; cases e; exact .non
  | .bl b, v, p, h, e => by cases h; cases e; exact .bl b
  | .int b, v, p, h, e => by cases h; cases e; exact .int b
  | .str b, v, p, h, e => by cases h; cases e; exact .str b
  | .ty b, v, p, h, e => by cases e
  | .gl b, v, p, h, e => by cases e
  | .ref i, v, p, h, e => by cases e
  | .obj c ns l, v, p, h, e => by cases e
  | .tup l, v, p, h, e => by
    cases h with
    | tup h1 hd h2 =>
      cases q : D.pys l with
      | none => simp only [D.py, q] at e; cases e
      | some ps =>
        simp only [D.py, q] at e
        cases e
        exact .tup h1 (dps_of l _ ps h2 q)
  | .lst l, v, p, h, e => by
    cases h with
    | lst h1 h2 h3 =>
      cases q : D.pys l with
      | none => simp only [D.py, q] at e; cases e
      | some ps =>
        simp only [D.py, q] at e
        cases e
        exact .lst (.inl (.inl h1)) (dps_of l _ ps h3 q)
  | .scr l, v, p, h, e => by
    cases h with
    | scr h1 h2 =>
      cases q : D.pys l with
      | none => simp only [D.py, q] at e; cases e
      | some ps =>
        simp only [D.py, q] at e
        cases e
        refine .lst ?_ (dps_of l _ ps h2 q)
        rcases h1 with ⟨o, h1⟩ | h1
        · exact .inl (.inr ⟨o, h1⟩)
        · exact h1 H
theorem dps_of : ∀ (ds : List D) (vs : List V) (ps : List PyData), Reps K m H vs ds → D.pys ds = some ps → DpAll K H vs ps
  | [], vs, ps, h, e => by cases h; cases e; exact .nil
  | d :: ds, vs, ps, h, e => by
    cases h with
    | cons h1 h2 =>
      simp only [D.pys] at e
      cases q1 : D.py d with
      | none => simp only [q1] at e; cases e
      | some p =>
        cases q2 : D.pys ds with
        | none => simp only [q1, q2] at e; cases e
        | some ps' =>
          simp only [q1, q2] at e
          cases e
          exact .cons (dp_of d _ p h1 q1) (dps_of ds _ ps' h2 q2)
end
theorem dpS_of {S : Sto} {d : D} {v : V} {p : PyData} (si : Sim K m S H) (h : Rep K m H v d) (e : pyS d S = some p) : Dp K H v p := by
  cases d with
  | ref i =>
    cases h with
    | ref h1 =>
      rename_i a
      simp only [pyS] at e
      cases q : S[i]? with
      | none => rw [q] at e; cases e
      | some o =>
        rw [q] at e
        cases o with
        | ins c ns l => cases e
        | dic kvs => cases e
        | lst l =>
          obtain ⟨vs, h2, h3⟩ := si.cell i a _ h1 q
          cases q2 : D.pys l with
          | none => simp only [q2] at e; cases e
          | some ps =>
            simp only [q2] at e
            cases e
            exact .lst (.inl (.inl h2)) (dps_of l _ ps h3 q2)
  | _ => exact dp_of _ v p h e
end

/-! ### operators -/
def lstOf : D → Sto → Option (List D)
  | .lst l, _ => some l
  | .ref i, S => match S[i]? with
    | some (.lst l) => some l
    | _ => none
  | _, _ => none
theorem lst_at {K : PySem.W.Frag} {m : Mp} {H : Hp} {S : Sto} {v : V} {d : D} {l : List D} (si : Sim K m S H) (r : Rep K m H v d) (h : lstOf d S = some l) : ∃ a vs, v = .ref a ∧ H a = some (.lst vs) ∧ Reps K m H vs l := by
  have h2 : seqOf d S = some l := by
    cases d <;> first | exact h | cases h
  obtain ⟨a, vs, e, h3, h4⟩ := seq_at si r h2
  rcases h3 with ⟨_, h3⟩ | ⟨h3, _⟩
  · subst h3; cases h
  · exact ⟨a, vs, e, h3, h4⟩
def mulOk (i j : Int) : Bool := decide (i.natAbs < 2 ^ 64) || (decide (j.natAbs < 2 ^ 64) || decide (i.natAbs.log2 + j.natAbs.log2 < 1000000))
def divOk (j : Int) : Bool := decide (0 < j) && decide (j.natAbs.log2 < 9000)
def fAdd : D → D → Sto → Option D
  | .int i, .int j, _ => some (.int (i + j))
  | .str a, .str b, _ => if a.length + b.length ≤ lineN then some (.str (a ++ b)) else none
  | .tup a, .tup b, _ => if a.length + b.length ≤ lineN then some (.tup (a ++ b)) else none
  | x, y, S => match lstOf x S, lstOf y S with
    | some a, some b => if a.length + b.length ≤ lineN then some (.lst (a ++ b)) else none
    | _, _ => none
def fSub : D → D → Sto → Option D
  | .int i, .int j, _ => some (.int (i - j))
  | _, _, _ => none
def fMul : D → D → Sto → Option D
  | .int i, .int j, _ => if mulOk i j = true then some (.int (i * j)) else none
  | .tup a, .int k, _ => if a ≠ [] ∧ 1 ≤ k ∧ k ≤ 1000 ∧ a.length ≤ 1000 ∧ (k = 1 ∨ names (List.replicate k.toNat a).flatten = false) then some (.tup (List.replicate k.toNat a).flatten) else none
  | x, .int k, S => match lstOf x S with
    | some a => if 0 ≤ k ∧ k ≤ 1000 ∧ a.length ≤ 1000 then some (.lst (List.replicate k.toNat a).flatten) else none
    | none => none
  | _, _, _ => none
def fDiv : D → D → Sto → Option D
  | .int i, .int j, _ => if divOk j = true then some (.int (i / j)) else none
  | _, _, _ => none
def fMod : D → D → Sto → Option D
  | .int i, .int j, _ => if 0 < j then some (.int (i % j)) else none
  | _, _, _ => none
def fPow : D → D → Sto → Option D
  | .int i, .int j, _ => if 0 ≤ j ∧ j ≤ 1000 ∧ i.natAbs < 2 ^ 64 then some (.int (i ^ j.toNat)) else none
  | _, _, _ => none
def fNeg : D → Sto → Option D
  | .int i, _ => some (.int (-i))
  | _, _ => none
section
variable {X : Cx}
/-- t + u: new where neither is empty -/
theorem op_catF : OpR X (binaryOp .Add) (fun x y H Q => ∃ a b xs ys, x = .ref a ∧ y = .ref b ∧ SqT X.K H a xs ∧ SqT X.K H b ys ∧ xs.length + ys.length ≤ sizeLine ∧
    (xs = [] → Q (.ref b) H) ∧ (xs ≠ [] → ys = [] → Q (.ref a) H) ∧ (xs ≠ [] → ys ≠ [] → ∀ p o, H p = none → o.dict = none → Q (.ref p) (upd H p (.frz o (.tup (xs ++ ys)))))) := by
  rintro pins s σ H x y v u Q I rx ry ⟨a, b, xs, ys, rfl, rfl, ha, hb, hz, q0, q1, q2⟩
  by_cases both : xs ≠ [] ∧ ys ≠ []
  · cases rx; cases ry
    obtain ⟨us, r, pa, _⟩ := I.tuple ha
    obtain ⟨ws, t, pb, _⟩ := I.tuple hb
    have nu : us ≠ [] := fun z => both.1 (r.nil_iff.mp z)
    have nw : ws ≠ [] := fun z => both.2 (t.nil_iff.mp z)
    exact HT.cat_tup pa pb nu (fun z => absurd z nw) (fun _ => newTup I (r.append t) (by rw [List.length_append]; exact hz) (q2 both.1 both.2)) (by rw [← r.length, ← t.length]; exact hz)
  · refine op_catA pins s σ H _ _ v u Q I rx ry ⟨a, b, xs, ys, rfl, rfl, ha, hb, hz, q0, q1, fun h1 h2 => absurd ⟨h1, h2⟩ both⟩
theorem o_add : OpR X (binaryOp .Add) (rO2 X.K fAdd) := by
  intro pins s σ H x y v u Q I rx ry ⟨d, e, S, m, r, si, hx, hy, hf, hq⟩
  have lists : ∀ l1 l2, lstOf d S = some l1 → lstOf e S = some l2 → (if l1.length + l2.length ≤ lineN then some (.lst (l1 ++ l2)) else none) = some r → wpAny (model X.prog X.w) X.A (binaryOp .Add v u) (EP X pins σ Q) X.xe s := fun l1 l2 q1 q2 hf => by
    by_cases hl : l1.length + l2.length ≤ lineN
    · rw [if_pos hl] at hf
      cases hf
      obtain ⟨a, vs, rfl, h1, h2⟩ := lst_at si hx q1
      obtain ⟨b, us, rfl, h3, h4⟩ := lst_at si hy q2
      exact op_cat pins s σ H _ _ v u Q I rx ry ⟨a, b, vs, us, rfl, rfl, h1, h3, by rw [h2.len, h4.len, ← line_eq]; exact hl, fun p hp => hq _ _ (.new hp) (si.new hp) (.lst upd_same (si.off hp) ((h2.app h4).to (.new hp)))⟩
    · rw [if_neg hl] at hf; cases hf
  unfold fAdd at hf
  split at hf
  · cases hx; cases hy; cases hf
    exact op_add pins s σ H _ _ v u Q I rx ry ⟨_, _, rfl, rfl, hq _ H .refl si (.int _)⟩
  · rename_i a b
    by_cases hl : a.length + b.length ≤ lineN
    · rw [if_pos hl] at hf
      cases hx; cases hy; cases hf
      exact op_add_str pins s σ H _ _ v u Q I rx ry ⟨_, _, rfl, rfl, by rw [← line_eq]; exact hl, hq _ H .refl si (.str _)⟩
    · rw [if_neg hl] at hf; cases hf
  · rename_i a b
    by_cases hl : a.length + b.length ≤ lineN
    · rw [if_pos hl] at hf
      cases hf
      cases hx with
      | tup h1 hd h2 =>
        cases hy with
        | tup h3 hd3 h4 =>
          refine op_catF pins s σ H _ _ v u Q I rx ry ⟨_, _, _, _, rfl, rfl, h1, h3, by rw [h2.len, h4.len, ← line_eq]; exact hl, fun e0 => ?_, fun _ e0 => ?_, fun _ _ p o hp ho => ?_⟩
          · subst e0
            cases h2
            exact hq _ H .refl si (.tup h3 hd3 h4)
          · subst e0
            cases h4
            rw [List.append_nil] at hq
            exact hq _ H .refl si (.tup h1 hd h2)
          · exact hq _ _ (.new hp) (si.new hp) (tupF ho ((h2.app h4).to (.new hp)))
    · rw [if_neg hl] at hf; cases hf
  · cases q1 : lstOf d S with
    | none => rw [q1] at hf; cases hf
    | some l1 =>
      cases q2 : lstOf e S with
      | none => rw [q1, q2] at hf; cases hf
      | some l2 =>
        rw [q1, q2] at hf
        exact lists l1 l2 q1 q2 hf
theorem o_sub : OpR X (binaryOp .Sub) (rO2 X.K fSub) := by
  intro pins s σ H x y v u Q I rx ry ⟨d, e, S, m, r, si, hx, hy, hf, hq⟩
  unfold fSub at hf
  split at hf
  · cases hx; cases hy; cases hf
    exact op_sub pins s σ H _ _ v u Q I rx ry ⟨_, _, rfl, rfl, hq _ H .refl si (.int _)⟩
  · cases hf
/-- a tuple once: itself -/
theorem mul_self (l : Addr) (its : Array Value) (n : Nat) (dd : Option Addr) (sl : Array (Option Value)) (u : Tok) :
    Meets (Builtin.«tuple.__mul__» ⟨[.ref l, .int 1 u], []⟩) (fun _ R s => s.heap.get? l = some { cls := .type "tuple", dict := dd, data := .seq its n, slots := sl } ∧ R (.ok (.ret (Value.ref l))) s) :=
  .of_wp fun prog w A R s h => by
    obtain ⟨hp, g, d, tk, os⟩ := s
    obtain ⟨hl, h⟩ := h
    have i1 := AutoSeq1.idx_int
    wp_walk using wpAny_loadPart' hl
    exact ⟨_, rfl, h⟩
theorem op_once : OpR X (binaryOp .Mult) (fun x y H Q => ∃ l xs, x = .ref l ∧ y = .int 1 ∧ SqT X.K H l xs ∧ Q (.ref l) H) := by
  intro pins s σ H x y v u Q I rx ry ⟨l, xs, ex, ey, sq, q⟩
  subst ex ey
  cases rx
  obtain ⟨t, rfl⟩ := ry
  obtain ⟨its, r, ⟨⟨cls, dd, data, sl⟩, ho, hc, n, hd⟩, hs⟩ := I.tuple sq
  simp only at hc hd
  subst hc hd
  have ti : s.TypeIs (.ref l) "tuple" := ⟨_, ho, rfl⟩
  refine wpAny_binaryOp_repeat_ref (T := "tuple") (U := "int") (by decide) ti (fun z => typeIs_int z 1 t) noFill_tuple_mul F.fills_int_mul F.slot_int_rmul repeat_tuple F.slot_int_index.lookup ?_
  refine call_meets F.slot_int_rmul (typeIs_int s 1 t) F.entry_int_rmul (F.args_int_rmul_2 _ _) (int_rmul_tuple 1 t l its.toArray n dd sl) ⟨ho, rfl, ti, ?_⟩
  exact call_meets F.slot_tuple_mul ti F.entry_tuple_mul (F.args_tuple_mul_2 _ _) (mul_self l its.toArray n dd sl t) ⟨ho, ⟨.ref l, H, I, rfl, q⟩⟩
theorem o_mul : OpR X (binaryOp .Mult) (rO2 X.K fMul) := by
  intro pins s σ H x y v u Q I rx ry ⟨d, e, S, m, r, si, hx, hy, hf, hq⟩
  unfold fMul at hf
  split at hf
  · rename_i i j
    by_cases hl : mulOk i j = true
    · rw [if_pos hl] at hf
      cases hx; cases hy; cases hf
      have fin := hq _ H .refl si (.int (i * j))
      unfold mulOk at hl
      simp only [Bool.or_eq_true, decide_eq_true_eq] at hl
      rcases hl with h | h | h
      · exact op_mul pins s σ H _ _ v u Q I rx ry ⟨_, _, rfl, rfl, .inl ⟨by omega, by omega⟩, fin⟩
      · exact op_mul pins s σ H _ _ v u Q I rx ry ⟨_, _, rfl, rfl, .inr ⟨by omega, by omega⟩, fin⟩
      · exact op_mulW pins s σ H _ _ v u Q I rx ry ⟨_, _, rfl, rfl, h, fin⟩
    · rw [if_neg hl] at hf; cases hf
  · rename_i a k
    by_cases hl : a ≠ [] ∧ 1 ≤ k ∧ k ≤ 1000 ∧ a.length ≤ 1000 ∧ (k = 1 ∨ names (List.replicate k.toNat a).flatten = false)
    · rw [if_pos hl] at hf
      cases hf; cases hy
      cases hx with
      | tup h1 hd h2 =>
        by_cases h11 : k = 1
        · subst h11
          have e1 : (List.replicate (1 : Int).toNat a).flatten = a := by simp
          rw [e1] at hq
          exact op_once pins s σ H _ _ v u Q I rx ry ⟨_, _, rfl, rfl, h1, hq _ H .refl si (.tup h1 hd h2)⟩
        refine op_repT pins s σ H _ _ v u Q I rx ry ⟨_, _, _, rfl, rfl, h1, ?_, by omega, hl.2.2.1, by rw [h2.len]; exact hl.2.2.2.1, fun p hp => ?_⟩
        · intro z; subst z; cases h2; exact hl.1 rfl
        · exact hq _ _ (.new hp) (si.new hp) (.tup (.inl (.inl upd_same)) (fun z => by rcases hl.2.2.2.2 with y | y; exact absurd y h11; rw [y] at z; cases z) ((h2.flatten _).to (.new hp)))
    · rw [if_neg hl] at hf; cases hf
  · rename_i k _ _
    cases q : lstOf d S with
    | none => rw [q] at hf; cases hf
    | some a =>
      simp only [q] at hf
      by_cases hl : 0 ≤ k ∧ k ≤ 1000 ∧ a.length ≤ 1000
      · rw [if_pos hl] at hf
        cases hf; cases hy
        obtain ⟨b, vs, rfl, h1, h2⟩ := lst_at si hx q
        refine op_rep pins s σ H _ _ v u Q I rx ry ⟨b, k, vs, rfl, rfl, h1, by omega, by omega, ?_, fun p hp => ?_⟩
        · rw [h2.len, ← line_eq]
          have : k.toNat ≤ 1000 := by omega
          have := Nat.mul_le_mul hl.2.2 this
          unfold lineN
          omega
        · exact hq _ _ (.new hp) (si.new hp) (.lst upd_same (si.off hp) ((h2.flatten _).to (.new hp)))
      · rw [if_neg hl] at hf; cases hf
  · cases hf
theorem o_div : OpR X (binaryOp .FloorDiv) (rO2 X.K fDiv) := by
  intro pins s σ H x y v u Q I rx ry ⟨d, e, S, m, r, si, hx, hy, hf, hq⟩
  unfold fDiv at hf
  split at hf
  · rename_i i j
    by_cases hl : divOk j = true
    · rw [if_pos hl] at hf
      cases hx; cases hy; cases hf
      unfold divOk at hl
      simp only [Bool.and_eq_true, decide_eq_true_eq] at hl
      exact op_fdivW pins s σ H _ _ v u Q I rx ry ⟨_, _, rfl, rfl, hl, hq _ H .refl si (.int _)⟩
    · rw [if_neg hl] at hf; cases hf
  · cases hf
theorem o_mod : OpR X (binaryOp .Mod) (rO2 X.K fMod) := by
  intro pins s σ H x y v u Q I rx ry ⟨d, e, S, m, r, si, hx, hy, hf, hq⟩
  unfold fMod at hf
  split at hf
  · rename_i i j
    by_cases hl : 0 < j
    · rw [if_pos hl] at hf
      cases hx; cases hy; cases hf
      exact op_mod pins s σ H _ _ v u Q I rx ry ⟨_, _, rfl, rfl, hl, hq _ H .refl si (.int _)⟩
    · rw [if_neg hl] at hf; cases hf
  · cases hf
theorem o_pow : OpR X (binaryOp .Pow) (rO2 X.K fPow) := by
  intro pins s σ H x y v u Q I rx ry ⟨d, e, S, m, r, si, hx, hy, hf, hq⟩
  unfold fPow at hf
  split at hf
  · rename_i i j
    by_cases hl : 0 ≤ j ∧ j ≤ 1000 ∧ i.natAbs < 2 ^ 64
    · rw [if_pos hl] at hf
      cases hx; cases hy; cases hf
      exact op_pow pins s σ H _ _ v u Q I rx ry ⟨_, _, rfl, rfl, ⟨hl.1, by omega, hl.2.2⟩, hq _ H .refl si (.int _)⟩
    · rw [if_neg hl] at hf; cases hf
  · cases hf
theorem u_neg : UnR X (unaryOp .USub) (rO1 X.K fNeg) := by
  intro pins s σ H x v Q I rx ⟨d, S, m, r, si, hx, hf, hq⟩
  unfold fNeg at hf
  split at hf
  · cases hx; cases hf
    exact un_neg pins s σ H _ v Q I rx ⟨_, rfl, hq _ H .refl si (.int _)⟩
  · cases hf

/-! comparisons -/
def cmpI (p : Int → Int → Bool) : D → D → Sto → Option D
  | .int i, .int j, _ => some (.bl (p i j))
  | _, _, _ => none
abbrev fLt := cmpI fun i j => decide (i < j)
abbrev fLe := cmpI fun i j => decide (i ≤ j)
abbrev fGt := cmpI fun i j => decide (j < i)
abbrev fGe := cmpI fun i j => decide (j ≤ i)
theorem o_cmpI {op : CmpOp} {p : Int → Int → Bool} (h : OpR X (compareOp op) (rI0 fun i j => .bl (p i j))) : OpR X (compareOp op) (rO2 X.K (cmpI p)) := by
  intro pins s σ H x y v u Q I rx ry ⟨d, e, S, m, r, si, hx, hy, hf, hq⟩
  unfold cmpI at hf
  split at hf
  · cases hx; cases hy; cases hf
    exact h pins s σ H _ _ v u Q I rx ry ⟨_, _, rfl, rfl, hq _ H .refl si (.bl _)⟩
  · cases hf
theorem o_lt : OpR X (compareOp .Lt) (rO2 X.K fLt) := o_cmpI op_lt
theorem o_le : OpR X (compareOp .LtE) (rO2 X.K fLe) := o_cmpI op_le
theorem o_gt : OpR X (compareOp .Gt) (rO2 X.K fGt) := o_cmpI op_gt
theorem o_ge : OpR X (compareOp .GtE) (rO2 X.K fGe) := o_cmpI op_ge
def eqD (x y : D) (S : Sto) : Option D := match pyS x S, pyS y S with
  | some p, some q => if SeqAt.shaped p = true ∧ SeqAt.shaped q = true then some (.bl (PyData.eqv p q)) else none
  | _, _ => none
def neD (x y : D) (S : Sto) : Option D := match pyS x S, pyS y S with
  | some p, some q => if SeqAt.shaped p = true ∧ SeqAt.shaped q = true then some (.bl (!PyData.eqv p q)) else none
  | _, _ => none
def fEq : D → D → Sto → Option D
  | .str a, .str b, _ => some (.bl (decide (a = b)))
  | x, y, S => eqD x y S
def fNe : D → D → Sto → Option D
  | .str a, .str b, _ => some (.bl (!decide (a = b)))
  | x, y, S => neD x y S
theorem dec_str {a b : Str} : decide (V.str a = V.str b) = decide (a = b) := by
  by_cases h : a = b <;> simp [h]
theorem o_eq (hu : X.A.units + 64 < cLine) : OpR X (compareOp .Eq) (rO2 X.K fEq) := by
  intro pins s σ H x y v u Q I rx ry ⟨d, e, S, m, r, si, hx, hy, hf, hq⟩
  unfold fEq at hf
  split at hf
  · cases hx; cases hy; cases hf
    refine op_eq pins s σ H _ _ v u Q I rx ry ⟨rfl, ?_⟩
    rw [dec_str]
    exact hq _ H .refl si (.bl _)
  unfold eqD at hf
  split at hf
  · rename_i p q q1 q2
    by_cases hl : SeqAt.shaped p = true ∧ SeqAt.shaped q = true
    · rw [if_pos hl] at hf
      cases hf
      exact op_eqD hu pins s σ H _ _ v u Q I rx ry ⟨p, q, dpS_of si hx q1, dpS_of si hy q2, hl.1, hl.2, hq _ H .refl si (.bl _)⟩
    · rw [if_neg hl] at hf; cases hf
  · cases hf
theorem o_ne (hu : X.A.units + 64 < cLine) : OpR X (compareOp .NotEq) (rO2 X.K fNe) := by
  intro pins s σ H x y v u Q I rx ry ⟨d, e, S, m, r, si, hx, hy, hf, hq⟩
  unfold fNe at hf
  split at hf
  · cases hx; cases hy; cases hf
    refine op_ne pins s σ H _ _ v u Q I rx ry ⟨rfl, ?_⟩
    rw [dec_str]
    exact hq _ H .refl si (.bl _)
  unfold neD at hf
  split at hf
  · rename_i p q q1 q2
    by_cases hl : SeqAt.shaped p = true ∧ SeqAt.shaped q = true
    · rw [if_pos hl] at hf
      cases hf
      exact op_neD hu pins s σ H _ _ v u Q I rx ry ⟨p, q, dpS_of si hx q1, dpS_of si hy q2, hl.1, hl.2, hq _ H .refl si (.bl _)⟩
    · rw [if_neg hl] at hf; cases hf
  · cases hf
def isNon : D → Bool
  | .non => true
  | _ => false
theorem isNon_v {K : PySem.W.Frag} {m : Mp} {H : Hp} {v : V} {d : D} (r : Rep K m H v d) : decide (v = .non) = isNon d := by
  cases r <;> first | rfl | (apply decide_eq_false; nofun)
def fIs : D → D → Sto → Option D
  | d, .non, _ => some (.bl (isNon d))
  | .bl a, .bl b, _ => some (.bl (a == b))
  | _, _, _ => none
def fIsNot : D → D → Sto → Option D
  | d, .non, _ => some (.bl (!isNon d))
  | .bl a, .bl b, _ => some (.bl (!(a == b)))
  | _, _, _ => none
theorem o_is : OpR X (compareOp .Is) (rO2 X.K fIs) := by
  intro pins s σ H x y v u Q I rx ry ⟨d, e, S, m, r, si, hx, hy, hf, hq⟩
  unfold fIs at hf
  split at hf
  · cases hy; cases hf
    refine op_isN pins s σ H _ _ v u Q I rx ry ⟨rfl, ?_⟩
    rw [isNon_v hx]
    exact hq _ H .refl si (.bl _)
  · cases hf; cases hx; cases hy; cases rx; cases ry
    rename_i a b
    refine (show wpAny _ _ (isSame (.bool a) (.bool b) >>= fun z => pure (Value.bool z)) _ _ s from wpAny_bind (wpAny_pure (wpAny_pure (fin_bl I (hq _ H .refl si (.bl _)) ?_))))
    cases a <;> cases b <;> rfl
  · cases hf
theorem o_isnot : OpR X (compareOp .IsNot) (rO2 X.K fIsNot) := by
  intro pins s σ H x y v u Q I rx ry ⟨d, e, S, m, r, si, hx, hy, hf, hq⟩
  unfold fIsNot at hf
  split at hf
  · cases hy; cases hf
    refine op_notN pins s σ H _ _ v u Q I rx ry ⟨rfl, ?_⟩
    rw [isNon_v hx]
    exact hq _ H .refl si (.bl _)
  · cases hf; cases hx; cases hy; cases rx; cases ry
    rename_i a b
    refine (show wpAny _ _ (isSame (.bool a) (.bool b) >>= fun z => pure (Value.bool (!z))) _ _ s from wpAny_bind (wpAny_pure (wpAny_pure (fin_bl I (hq _ H .refl si (.bl _)) ?_))))
    cases a <;> cases b <;> rfl
  · cases hf
/-- x in y: a sign in a text, data in a tuple or list -/
def inD (x y : D) (S : Sto) : Option Bool := match x, y with
  | .str a, .str z => if a.cps.size = 1 then some (decide (a.cps.getD 0 0 ∈ z.cps.toList)) else none
  | x, y => match pyS x S, pyS y S with
    | some p, some (.tuple qs) => if SeqAt.shaped p = true ∧ SeqAt.shaped (.tuple qs) = true then some (qs.any fun z => PyData.eqv z p) else none
    | some p, some (.list qs) => if SeqAt.shaped p = true ∧ SeqAt.shaped (.list qs) = true then some (qs.any fun z => PyData.eqv z p) else none
    | _, _ => none
def fIn (x y : D) (S : Sto) : Option D := (inD x y S).map .bl
def fNotIn (x y : D) (S : Sto) : Option D := (inD x y S).map fun b => .bl (!b)
theorem sign_of {a : Str} (h : a.cps.size = 1) : a = ⟨#[a.cps.getD 0 0]⟩ := by
  obtain ⟨⟨l⟩⟩ := a
  match l, h with
  | [c], _ => rfl
theorem o_in (hu : X.A.units + 65 < cLine) : OpR X (compareOp .In) (rO2 X.K fIn) := by
  intro pins s σ H x y v u Q I rx ry ⟨d, e, S, m, r, si, hx, hy, hf, hq⟩
  unfold fIn at hf
  cases qi : inD d e S with
  | none => rw [qi] at hf; cases hf
  | some b =>
    rw [qi] at hf
    cases hf
    have fin := hq _ H .refl si (.bl b)
    unfold inD at qi
    split at qi
    · rename_i a z
      by_cases ha : a.cps.size = 1
      · rw [if_pos ha] at qi
        cases qi
        cases hx; cases hy
        exact op_in_sign pins s σ H _ _ v u Q I rx ry ⟨a.cps.getD 0 0, z, congrArg V.str (sign_of ha), rfl, fin⟩
      · rw [if_neg ha] at qi; cases qi
    · split at qi
      · rename_i p qs q1 q2
        by_cases hl : SeqAt.shaped p = true ∧ SeqAt.shaped (.tuple qs) = true
        · rw [if_pos hl] at qi
          cases qi
          obtain ⟨as, r1⟩ := Dp.reads I p x v (dpS_of si hx q1) rx
          obtain ⟨bs, r2⟩ := Dp.reads I (.tuple qs) y u (dpS_of si hy q2) ry
          exact SeqAt.in_tuple_reads r2 r1 (by have := SeqAt.canLay_of_shaped hl.2; simpa only [PyData.canLay0] using this) (SeqAt.canLay_of_shaped hl.1) (PyProof.Rows.room_in_shaped hl.1 hu) ⟨.bl _, H, I, rfl, fin⟩
        · rw [if_neg hl] at qi; cases qi
      · rename_i p qs q1 q2
        by_cases hl : SeqAt.shaped p = true ∧ SeqAt.shaped (.list qs) = true
        · rw [if_pos hl] at qi
          cases qi
          exact op_inD hu pins s σ H _ _ v u Q I rx ry ⟨p, qs, dpS_of si hx q1, dpS_of si hy q2, hl.1, hl.2, fin⟩
        · rw [if_neg hl] at qi; cases qi
      · cases qi
theorem o_notin (hu : X.A.units + 65 < cLine) : OpR X (compareOp .NotIn) (rO2 X.K fNotIn) := by
  intro pins s σ H x y v u Q I rx ry ⟨d, e, S, m, r, si, hx, hy, hf, hq⟩
  unfold fNotIn at hf
  cases qi : inD d e S with
  | none => rw [qi] at hf; cases hf
  | some b =>
    rw [qi] at hf
    cases hf
    have fin := hq _ H .refl si (.bl (!b))
    unfold inD at qi
    split at qi
    · rename_i a z
      by_cases ha : a.cps.size = 1
      · rw [if_pos ha] at qi
        cases qi
        cases hx; cases hy
        exact op_notIn_sign pins s σ H _ _ v u Q I rx ry ⟨a.cps.getD 0 0, z, congrArg V.str (sign_of ha), rfl, fin⟩
      · rw [if_neg ha] at qi; cases qi
    · split at qi
      · rename_i p qs q1 q2
        by_cases hl : SeqAt.shaped p = true ∧ SeqAt.shaped (.tuple qs) = true
        · rw [if_pos hl] at qi
          cases qi
          obtain ⟨as, r1⟩ := Dp.reads I p x v (dpS_of si hx q1) rx
          obtain ⟨bs, r2⟩ := Dp.reads I (.tuple qs) y u (dpS_of si hy q2) ry
          exact SeqAt.notIn_tuple_reads r2 r1 (by have := SeqAt.canLay_of_shaped hl.2; simpa only [PyData.canLay0] using this) (SeqAt.canLay_of_shaped hl.1) (PyProof.Rows.room_in_shaped hl.1 hu) ⟨.bl _, H, I, rfl, fin⟩
        · rw [if_neg hl] at qi; cases qi
      · rename_i p qs q1 q2
        by_cases hl : SeqAt.shaped p = true ∧ SeqAt.shaped (.list qs) = true
        · rw [if_pos hl] at qi
          cases qi
          exact op_notInD hu pins s σ H _ _ v u Q I rx ry ⟨p, qs, dpS_of si hx q1, dpS_of si hy q2, hl.1, hl.2, fin⟩
        · rw [if_neg hl] at qi; cases qi
      · cases qi
end
end Ag

namespace Ag
open PySem L2
/-! ### enumerate of a tuple -/
def IteT (K : PySem.W.Frag) (a : Addr) : L2.It where
  go := fun i H => ∃ (xs : List V) (x : V), SqT K H a xs ∧ xs[i]? = some x
  yld := fun i H v H' => ∃ T x, v = .ref T ∧ H T = none ∧ H' = upd H T (.tup [.int (i : Nat), x]) ∧ ∀ xs, SqT K H a xs → xs[i]? = some x
  stop := fun i H => ∃ xs : List V, SqT K H a xs ∧ xs.length ≤ i
/-- an enumerate object over a tuple that is through -/
theorem enumT_end {prog : Program} {w : World} {A : Around} {E : Value → Shared → Prop} {s : Shared} {e it t : Addr} {i : Nat} {xs : Array Value} {k : Int} {old : Value} {Q : Option Value → Shared → Prop} (calm : A.handled = none) (he : IsEnum s.heap e it k old) (hi : s.heap.IsTupleIter it t i) (ht : s.heap.IsTuple t xs) (hx : xs.size ≤ i)
    (fin : ∀ g, Heap.ExtBut it s.heap g → Q none { s with heap := g }) : wpAny (model prog w) A (pyNext (.ref e)) Q E s := by
  have ty : s.TypeIs (.ref e) "enumerate" := ⟨_, he, rfl⟩
  unfold pyNext
  refine wpAny_bind (wpAny_attempt (wpAny_callSpecial?_slot (name := Str.ofString "__next__") ty F.slot_enumerate_next (wpAny_call_entry F.slot_enumerate_next ty F.entry_enumerate_next ?_ (F.args_enumerate_next_1 _))))
  refine (show wpAny _ _ (field (.ref e) 2 >>= _) _ _ s from wpAny_bind (wpAny_field he rfl (x := .ref it) rfl (wpAny_bind (wpAny_nextOf_tuple_end (A := A.in1) calm hi ht (Array.getElem?_eq_none hx) ?_))))
  rintro g x eg ⟨ob, ho, hc⟩
  exact wpAny_bind (wpAny_isInstance (T := "StopIteration") (b := true) ⟨ob, ho, hc⟩ isSubtype_stop (wpAny_pure (fin g eg)))
/-- where an enumerate object e with its tuple iterator it stands after i turns -/
def EnAt (e it a : Addr) (i : Nat) (h : Heap) : Prop := (∃ old, IsEnum h e it ((i : Nat) : Int) old) ∧ h.IsTupleIter it a i ∧ e ≠ it
theorem EnAt.lt {e it a : Addr} {i : Nat} {s : Shared} (st : EnAt e it a i s.heap) : ∀ b ∈ [e, it], b < s.heap.objs.size := by
  obtain ⟨⟨_, he⟩, ⟨_, hi, _⟩, _⟩ := st
  intro b hb
  simp only [List.mem_cons, List.not_mem_nil, or_false] at hb
  rcases hb with rfl | rfl
  · exact Heap.lt_size he
  · exact Heap.lt_size hi
theorem EnAt.apart {e it a : Addr} {i : Nat} {s : Shared} {xs : Array Value} (st : EnAt e it a i s.heap) (p : PyProof.Rows.IsTup s.heap a xs) : e ≠ a ∧ a ≠ it := by
  obtain ⟨⟨_, he⟩, ⟨_, hi, ci, _⟩, _⟩ := st
  obtain ⟨_, ha, ca, _⟩ := p
  refine ⟨?_, ?_⟩ <;> rintro rfl
  · have q := he.symm.trans ha
    cases q
    have c2 : Value.type "enumerate" = Value.type "tuple" := ca
    exact absurd (Value.type.inj c2) (by decide)
  · rw [ha] at hi; cases hi
    rw [ca] at ci
    exact absurd (Value.type.inj ci) (by decide)
theorem enumT_turn {P : Program} {w : World} {K : PySem.W.Frag} {elts : List Expr} {kk : Nat} {tpos : Pos} (a e it : Addr) : Turn P w K (.Tuple elts kk tpos) (IteT K a) [e, it] e (EnAt e it a) where
  mem := List.mem_cons_self
  obj := by
    rintro i h ⟨⟨_, he⟩, ⟨o, ho, _, hd⟩, _⟩ b hb
    simp only [List.mem_cons, List.not_mem_nil, or_false] at hb
    rcases hb with rfl | rfl
    · exact ⟨_, he, by rintro _ ⟨⟩⟩
    · exact ⟨o, ho, fun _ q => by rw [hd] at q; cases q⟩
  keep := by
    rintro i h g ⟨⟨old, he⟩, hi, ne⟩ k
    exact ⟨⟨old, k _ (by simp) _ he⟩, hi.at fun o q => k _ (by simp) o q, ne⟩
  item := by
    rintro X rfl rfl rfl calm i pins s σ H E I fr st ⟨ys, y, sq, hy⟩
    have lts := st.lt
    obtain ⟨its, rs, p, _⟩ := I.tuple sq
    obtain ⟨nea, nia⟩ := st.apart p
    obtain ⟨⟨_, he⟩, hi, ne⟩ := st
    obtain ⟨u, hu, ru⟩ := rs.get hy
    have inb : i < its.toArray.size := by simpa using (List.getElem?_eq_some_iff.mp hu).1
    refine wpAny_pyNext_enum_itemC (Draws.tuple (A := X.A.in1) (show X.A.in1.handled = none from I.ok.hd calm) it a nia its.toArray) he (show _ ∧ _ from ⟨hi, p⟩) inb ne (by simp [ne, nea]) ?_
    intro u' g tk hu' eg hi' pair _ same
    obtain rfl : u' = u := by
      have h2 : its.toArray[i]? = some u := by simpa using hu
      exact Option.some.inj (hu'.symm.trans h2)
    refine ⟨_, rfl, wpAny_letOwnedTupleGo_enum (s := { s with heap := g, toks := tk + 1 }) eg ?_⟩
    intro g2 he2 sb
    have top := (sb.2 _ (Nat.ne_of_gt (lts e (by simp)))).trans pair
    have kept : ∀ b ob, b ∉ [e, it] → s.heap.get? b = some ob → g2.get? b = some ob := fun b ob nb q => by
      have n1 : b ≠ e := fun z => nb (by simp [z])
      have n2 : b ≠ it := fun z => nb (by simp [z])
      exact (sb.2 b n1).trans (same b ob (by simpa using n1) (by simpa using n2) q)
    have J := I.turnedNew (t' := tk + 1) (ch := [e, it]) (ob := .tup [.int (i : Nat), y]) kept fr (Nat.le_refl _) ⟨(by decide : 2 ≤ sizeLine), [.int i tk, u'], .cons ⟨_, rfl⟩ (.cons ru .nil), ⟨_, top, rfl, _, rfl⟩⟩
    refine ⟨.ref s.heap.objs.size, _, J, rfl, ⟨_, y, rfl, I.hok.fresh (Nat.le_refl _), rfl, fun zs hz => (I.tuple_inj hz sq).symm ▸ hy⟩, ⟨⟨u', ?_⟩, hi'.1.at fun o q => (sb.2 it (Ne.symm ne)).trans q, ne⟩, fun b hb => ?_⟩
    · simpa using he2
    · rw [upd_ne (Nat.ne_of_lt (lts b hb))]
      exact (fr b hb).1
  done := by
    rintro X rfl rfl rfl calm i pins s σ H E I fr ⟨⟨_, he⟩, hi, _⟩ ⟨ys, sq, hy⟩
    obtain ⟨its, rs, p, _⟩ := I.tuple sq
    obtain ⟨f0, f1, _, f3, f4, f5⟩ := fr it (by simp)
    have over : its.toArray.size ≤ i := by rw [List.size_toArray, ← rs.length]; exact hy
    exact enumT_end (I.ok.hd calm) he hi p over fun g eb => ⟨rfl, I.turned (t' := s.toks) (fun b o nb q => eb b o nb q) f0 f1 f3 f4 f5⟩
  self := by
    rintro A i s Q E ⟨⟨_, he⟩, _⟩ h
    exact wpAny_pyIter_enum he h
set_option maxHeartbeats 1000000 in
theorem enum1_new {v : Value} {o : Obj} {Hh : Heap → Prop} (B : Begins v o Hh) :
    Meets (Builtin.«enumerate.__new__» ⟨[.type "enumerate", v], []⟩) (fun _ R s => Hh s.heap ∧
      R (.ok (.ret (.ref (s.heap.push o).objs.size))) { s with heap := (s.heap.push o).push { cls := .type "enumerate", data := .fields #[.none, .bool false, .ref s.heap.objs.size, rawInt 0, .none, .none] } }) :=
  .of_wp fun prog w A R s h => by
    obtain ⟨hp, g, d, tk, os⟩ := s
    obtain ⟨h1, h⟩ := h
    have hsub := sub_enumerate
    have q1 : ∀ {A' : Around} {E : Value → Shared → Prop} {Q : Value → Shared → Prop}, Q (.ref hp.objs.size) ⟨hp.push o, g, d, tk, os⟩ → wpAny (model prog w) A' (pyIter v) Q E ⟨hp, g, d, tk, os⟩ := fun q => B.iter prog w _ _ ⟨hp, g, d, tk, os⟩ _ h1 q
    wp_walk using q1
    refine wpAny_stack_any fun st => wpAny_pure ?_
    split
    · rename_i c _ _ _ _ _
      cases (c == Value.type "enumerate") <;> (wp_walk using q1; exact ⟨_, rfl, h⟩)
    · wp_walk using q1
      exact ⟨_, rfl, h⟩
theorem enum1_call {prog : Program} {w : World} {A : Around} {E : Value → Shared → Prop} {s : Shared} {v : Value} {o : Obj} {Hh : Heap → Prop} {Q : Value → Shared → Prop} (B : Begins v o Hh) (h1 : Hh s.heap)
    (h : ∀ h', IsEnum h' (s.heap.objs.size + 1) s.heap.objs.size 0 .none → h'.get? s.heap.objs.size = some o → (∀ b o, s.heap.get? b = some o → h'.get? b = some o) → Q (.ref (s.heap.objs.size + 1)) { s with heap := h' }) :
    wpAny (model prog w) A (call (.type "enumerate") [v]) Q E s := by
  refine callType_new F.called_enumerate (by decide) (F.typeCall_enumerate_1 _) (F.newCall_enumerate_1 _) (fun obj => F.args_object_init_2 obj _) F.entry_enumerate_new (enum1_new B) ⟨h1, ?_⟩
  have hz : (s.heap.push o).objs.size = s.heap.objs.size + 1 := Heap.size_push ..
  show _ ∧ _
  rw [hz]
  have he : IsEnum ((s.heap.push o).push { cls := .type "enumerate", data := .fields #[.none, .bool false, .ref s.heap.objs.size, rawInt 0, .none, .none] }) (s.heap.objs.size + 1) s.heap.objs.size 0 .none := by
    have := Heap.get?_push_size (s.heap.push o) (o := { cls := .type "enumerate", data := .fields #[.none, .bool false, .ref s.heap.objs.size, rawInt 0, .none, .none] }) rfl
    rw [hz] at this; exact this
  exact ⟨⟨_, he, rfl⟩, h _ he (Heap.get?_push_of_some _ (Heap.get?_push_size _ B.free)) fun b o x => Heap.get?_push_of_some _ (Heap.get?_push_of_some _ x)⟩
def iEnumT (K : PySem.W.Frag) (ta : TA) : TI := fun σ H R => ta σ H fun vs H1 => ∃ a xs, vs = [.ref a] ∧ SqT K H1 a xs ∧ R (IteT K a) H1
theorem pi_enumT {X : Cx} {e : Expr} {ta : TA} {p pos tpos : Pos} {elts : List Expr} {kk : Nat} (hg : Gl X "enumerate") (hm : X.mg "enumerate" = none) (ha : PA X [e] ta) (hs : starEach [e] X.env = [(false, eval e X.env)] := by rfl) :
    PI X (.Tuple elts kk tpos) (.Call (.Name "enumerate" p) [e] [] pos) (iEnumT X.K ta) := by
  constructor
  intro pins s σ H R I h
  refine PyProof.Rows.Call_ (ld_blt I hg hm PyProof.Rows.boot_enumerate (PyProof.Rows.callWith_type1 (thn (ha.run pos pins s σ H _ I h) ?_) hs rfl))
  rintro us s1 ⟨_, H1, J, rs, a, xs, rfl, sq, q⟩
  obtain ⟨_, rfl, r⟩ := vals1 rs
  cases r
  obtain ⟨its, _, tp, _⟩ := J.tuple sq
  refine enum1_call (begins_tuple a its.toArray) tp fun g he hi kept => wpAny_pyIter_enum he ?_
  refine ⟨s1.heap.objs.size + 1, [s1.heap.objs.size + 1, s1.heap.objs.size], _, _, H1, rfl, J.kept (t' := s1.toks) (h' := g) kept, enumT_turn a (s1.heap.objs.size + 1) s1.heap.objs.size, ⟨⟨.none, he⟩, ⟨_, hi, rfl, rfl⟩, Nat.succ_ne_self _⟩, fun b hb => ?_, q⟩
  have le : s1.heap.objs.size ≤ b := by
    simp only [List.mem_cons, List.not_mem_nil, or_false] at hb
    rcases hb with rfl | rfl
    · exact Nat.le_succ _
    · exact Nat.le_refl _
  exact J.fpOk le (J.hok.fresh le)

/-! ### zip of a tuple and a list -/
/-- the tuple at a and the list at b, as they stand at each turn -/
def ItzM (K : PySem.W.Frag) (a b : Addr) : L2.It where
  go := fun i H => ∃ (xs ys : List V) (x y : V), (SqT K H a xs ∧ xs[i]? = some x) ∧ SqL K H b ys ∧ ys[i]? = some y
  yld := fun i H v H' => ∃ x y T, (∀ xs, SqT K H a xs → xs[i]? = some x) ∧ (∀ ys, SqL K H b ys → ys[i]? = some y) ∧ v = .ref T ∧ H T = none ∧ H' = upd H T (.tup [x, y])
  stop := fun i H => ∃ xs ys : List V, (SqT K H a xs ∧ SqL K H b ys) ∧ (xs.length ≤ i ∨ ys.length ≤ i)
/-- an iterator as it stands at turn i over items that are known -/
structure At {P : Program} {w : World} {A : Around} (it l i : Nat) (its : List Value) (h : Heap) (n : Nat) (G : Nat → Value → Prop) (St : Nat → Heap → Prop) (R : Nat → Heap → Prop) : Prop where
  dr : Draws P w A it [it, l] n G St
  here : St i h
  on : ∀ j g, St j g → R j g
  val : ∀ v, G i v → its[i]? = some v
  le : i ≤ n
  more : i < its.length → i < n
  end_ : its.length ≤ i → i = n
theorem atT {P : Program} {w : World} {A : Around} {it l i : Nat} {its : List Value} {h : Heap} (calm : A.handled = none) (ne : l ≠ it) (hi : h.IsTupleIter it l i) (hl : h.IsTuple l its.toArray) :
    ∃ n G St, At (P := P) (w := w) (A := A) it l i its h n G St fun j g => g.IsTupleIter it l j := by
  by_cases c : i < its.length
  · exact ⟨_, _, _, Draws.tuple calm it l ne its.toArray, ⟨hi, hl⟩, fun _ _ q => q.1, fun v q => by simpa using q, by simpa using Nat.le_of_lt c, fun _ => by simpa using c, fun q => absurd c (Nat.not_lt.mpr q)⟩
  · refine ⟨i, fun _ _ => False, fun j g => j = i ∧ g.IsTupleIter it l j ∧ g.IsTuple l its.toArray, ⟨?_, ?_, ?_, ?_⟩, ⟨rfl, hi, hl⟩, fun _ _ q => q.2.1, fun _ q => q.elim, Nat.le_refl _, fun q => absurd q c, fun _ => rfl⟩
    · rintro j g ⟨_, ⟨o, e, _⟩, _⟩
      exact ⟨o, e⟩
    · rintro j g g' ⟨e, a1, a2⟩ k
      exact ⟨e, a1.at fun o q => k it (by simp) o q, a2.at fun o q => k l (by simp) o q⟩
    · rintro j s Q E q ⟨e, _⟩
      exact absurd e (Nat.ne_of_lt q)
    · rintro s Q E ⟨_, a1, a2⟩ fin
      exact wpAny_nextOf_tuple_end calm a1 a2 (by simpa using Nat.not_lt.mp c) fin
theorem atL {P : Program} {w : World} {A : Around} {it l i : Nat} {its : List Value} {h : Heap} (calm : A.handled = none) (ne : l ≠ it) (hi : h.IsListIter it l i) (hl : h.IsList l its.toArray) :
    ∃ n G St, At (P := P) (w := w) (A := A) it l i its h n G St fun j g => g.IsListIter it l j := by
  by_cases c : i < its.length
  · exact ⟨_, _, _, Draws.list calm it l ne its.toArray, ⟨hi, hl⟩, fun _ _ q => q.1, fun v q => by simpa using q, by simpa using Nat.le_of_lt c, fun _ => by simpa using c, fun q => absurd c (Nat.not_lt.mpr q)⟩
  · refine ⟨i, fun _ _ => False, fun j g => j = i ∧ g.IsListIter it l j ∧ g.IsList l its.toArray, ⟨?_, ?_, ?_, ?_⟩, ⟨rfl, hi, hl⟩, fun _ _ q => q.2.1, fun _ q => q.elim, Nat.le_refl _, fun q => absurd q c, fun _ => rfl⟩
    · rintro j g ⟨_, ⟨o, e, _⟩, _⟩
      exact ⟨o, e⟩
    · rintro j g g' ⟨e, a1, a2⟩ k
      exact ⟨e, a1.at fun o q => k it (by simp) o q, a2.at fun o q => k l (by simp) o q⟩
    · rintro j s Q E q ⟨e, _⟩
      exact absurd e (Nat.ne_of_lt q)
    · rintro s Q E ⟨_, a1, a2⟩ fin
      exact wpAny_nextOf_list_end calm a1 a2 (by simpa using Nat.not_lt.mp c) fin
theorem sepM {z TI TO i1 i2 a b : Addr} (D : ZipApart z TI TO i1 i2 a b) : ZipSep2 z TI TO i1 i2 [i1, a] [i2, b] where
  TIz := D.TIz
  TOz := D.TOz
  TITO := D.TITO
  TIi1 := D.TIi1
  TIi2 := D.TIi2
  mem1 := by simp
  mem2 := by simp
  zf1 := by simp [D.i1z.symm, D.l1z.symm]
  zf2 := by simp [D.i2z.symm, D.l2z.symm]
  Tf1 := by simp [D.TOi1, D.l1TO.symm]
  Tf2 := by simp [D.TOi2, D.l2TO.symm]
  sep1_2 := by simp [D.i12, D.l2i1.symm]
  sep2_1 := by simp [D.i12.symm, D.l1i2.symm]
/-- where the zip object z stands after i turns -/
structure ZmAt (z TI TO i1 i2 a b : Addr) (i : Nat) (h : Heap) : Prop where
  zip : IsZip h z TI TO .none
  its : IsTupOf2 h TI (.ref i1) (.ref i2)
  out : ∃ x y, IsTupOf2 h TO x y
  one : h.IsTupleIter i1 a i
  two : h.IsListIter i2 b i
theorem ZmAt.ob {z TI TO i1 i2 a b : Addr} {i : Nat} {h : Heap} (st : ZmAt z TI TO i1 i2 a b i h) : ∀ c ∈ [z, TI, TO, i1, i2], ∃ o, h.get? c = some o ∧ ∀ v, o.data ≠ .cell v := by
  obtain ⟨e1, e2, ⟨_, _, e3⟩, ⟨o4, e4, _, d4⟩, ⟨o5, e5, _, d5⟩⟩ := st
  intro c hc
  simp only [List.mem_cons, List.not_mem_nil, or_false] at hc
  rcases hc with rfl | rfl | rfl | rfl | rfl
  · exact ⟨_, e1, by rintro _ ⟨⟩⟩
  · exact ⟨_, e2, by rintro _ ⟨⟩⟩
  · exact ⟨_, e3, by rintro _ ⟨⟩⟩
  · exact ⟨o4, e4, fun _ q => by rw [d4] at q; cases q⟩
  · exact ⟨o5, e5, fun _ q => by rw [d5] at q; cases q⟩
theorem mz_turn {P : Program} {w : World} {K : PySem.W.Frag} {elts : List Expr} {kk : Nat} {tpos : Pos} {a b z TI TO i1 i2 : Addr} (D : ZipApart z TI TO i1 i2 a b) : Turn P w K (.Tuple elts kk tpos) (ItzM K a b) [z, TI, TO, i1, i2] z (ZmAt z TI TO i1 i2 a b) where
  mem := List.mem_cons_self
  obj := fun i h st => st.ob
  keep := by
    rintro i h g ⟨e1, e2, ⟨x, y, e3⟩, e4, e5⟩ k
    exact ⟨k _ (by simp) _ e1, k _ (by simp) _ e2, ⟨x, y, k _ (by simp) _ e3⟩, e4.at fun o q => k _ (by simp) o q, e5.at fun o q => k _ (by simp) o q⟩
  item := by
    rintro X rfl rfl rfl calm i pins s σ H E I fr st ⟨xs, ys, x, y, ⟨sx, hx⟩, sy, hy⟩
    have lts : ∀ c ∈ [z, TI, TO, i1, i2], c < s.heap.objs.size := fun c hc => let ⟨_, e, _⟩ := st.ob c hc; Heap.lt_size e
    obtain ⟨us, ru, pu, _⟩ := I.tuple sx
    obtain ⟨vs, rv, pv, _⟩ := I.list sy
    obtain ⟨u, hu, rx⟩ := ru.get hx
    obtain ⟨v, hv, ry⟩ := rv.get hy
    obtain ⟨hz, hi, ⟨x0, y0, ho⟩, h1, h2⟩ := st
    have hd : X.A.in1.handled = none := I.ok.hd calm
    obtain ⟨n1, G1, S1, T1⟩ := atT (P := X.prog) (w := X.w) hd D.l1i1 h1 pu
    obtain ⟨n2, G2, S2, T2⟩ := atL (P := X.prog) (w := X.w) hd D.l2i2 h2 pv.isList
    refine wpAny_pyNext_zipD2_item (sepM D) T1.dr T2.dr hz hi ho T1.here T2.here (T1.more (List.getElem?_eq_some_iff.mp hu).1) (T2.more (List.getElem?_eq_some_iff.mp hv).1) ?_
    intro u' v' g tk gu gv zg og s1 s2 pg _ same
    obtain rfl : u' = u := Option.some.inj ((T1.val _ gu).symm.trans hu)
    obtain rfl : v' = v := Option.some.inj ((T2.val _ gv).symm.trans hv)
    refine ⟨_, rfl, wpAny_letOwnedTupleGo_zip (s := { s with heap := g, toks := tk }) zg ?_⟩
    intro g2 z2 sb
    have off : ∀ c ∈ [TI, TO, i1, i2], c ≠ z := by
      intro c hc
      simp only [List.mem_cons, List.not_mem_nil, or_false] at hc
      rcases hc with rfl | rfl | rfl | rfl
      · exact D.TIz
      · exact D.TOz
      · exact D.i1z
      · exact D.i2z
    have top : g2.get? s.heap.objs.size = _ := (sb.2 _ (Nat.ne_of_gt (lts z (by simp)))).trans pg
    have kept : ∀ c ob, c ∉ [z, TI, TO, i1, i2] → s.heap.get? c = some ob → g2.get? c = some ob := by
      intro c ob nc q
      simp only [List.mem_cons, List.not_mem_nil, or_false, not_or] at nc
      exact (sb.2 c nc.1).trans (same c ob nc.1 nc.2.2.1 nc.2.2.2.1 nc.2.2.2.2 q)
    refine ⟨.ref s.heap.objs.size, _, I.turnedNew (t' := tk) (T := s.heap.objs.size) (ob := .tup [x, y]) kept fr (Nat.le_refl _) ⟨by show 2 ≤ sizeLine; decide, [_, _], .cons rx (.cons ry .nil), ⟨_, top, rfl, _, rfl⟩⟩, rfl, ?_, ?_, ?_⟩
    · exact ⟨x, y, _, fun l q => by rw [I.tuple_inj q sx]; exact hx, fun l q => by rw [I.list_inj q sy]; exact hy, rfl, I.hok.fresh (Nat.le_refl _), rfl⟩
    · refine ⟨z2, ?_, ⟨_, _, (sb.2 _ D.TOz).trans og⟩, (T1.on _ _ s1).at fun o q => (sb.2 _ D.i1z).trans q, (T2.on _ _ s2).at fun o q => (sb.2 _ D.i2z).trans q⟩
      exact (sb.2 _ D.TIz).trans (same _ _ D.TIz D.TITO D.TIi1 D.TIi2 hi)
    · intro c hc
      rw [upd_ne (Nat.ne_of_lt (lts c hc))]
      exact (fr c hc).1
  done := by
    rintro X rfl rfl rfl calm i pins s σ H E I fr ⟨hz, hi, ⟨x0, y0, ho⟩, h1, h2⟩ ⟨xs, ys, ⟨sx, sy⟩, en⟩
    obtain ⟨us, ru, pu, _⟩ := I.tuple sx
    obtain ⟨vs, rv, pv, _⟩ := I.list sy
    have hd : X.A.in1.handled = none := I.ok.hd calm
    obtain ⟨n1, G1, S1, T1⟩ := atT (P := X.prog) (w := X.w) hd D.l1i1 h1 pu
    obtain ⟨n2, G2, S2, T2⟩ := atL (P := X.prog) (w := X.w) hd D.l2i2 h2 pv.isList
    refine wpAny_pyNext_zipD2_end (sepM D) T1.dr T2.dr hz hi ho T1.here T2.here T1.le T2.le (en.imp (fun q => T1.end_ (by rw [← ru.length]; exact q)) fun q => T2.end_ (by rw [← rv.length]; exact q)) ?_
    intro g tk same
    refine ⟨rfl, I.turnedL (t' := tk) (ch := [z, TI, TO, i1, i2]) ?_ fr⟩
    intro c ob nc q
    simp only [List.mem_cons, List.not_mem_nil, or_false, not_or] at nc
    exact same c ob nc.1 nc.2.2.1 nc.2.2.2.1 nc.2.2.2.2 q
  self := fun A i s Q E st h => wpAny_pyIter_zip st.zip h
def iZipM (K : PySem.W.Frag) (ta : TA) : TI := fun σ H R => ta σ H fun vs H1 => ∃ a b xs ys, vs = [.ref a, .ref b] ∧ SqT K H1 a xs ∧ SqL K H1 b ys ∧ R (ItzM K a b) H1
theorem pi_zipM {X : Cx} {e e2 : Expr} {ta : TA} {p pos tpos : Pos} {elts : List Expr} {kk : Nat} (hg : Gl X "zip") (hm : X.mg "zip" = none) (ha : PA X [e, e2] ta)
    (hs : starEach [e, e2] X.env = (false, eval e X.env) :: starEach [e2] X.env := by rfl) (hpl : (backTo pos (starEach [e2] X.env)).any (·.1) = false := by rfl) : PI X (.Tuple elts kk tpos) (.Call (.Name "zip" p) [e, e2] [] pos) (iZipM X.K ta) := by
  constructor
  intro pins s σ H R I h
  refine PyProof.Rows.Call_ (ld_blt I hg hm PyProof.Rows.boot_zip (PyProof.Rows.callWith_type1 (thn (ha.run pos pins s σ H _ I h) ?_) hs hpl))
  rintro us s1 ⟨_, H1, J, rs, a, b, xs, ys, rfl, sx, sy, q⟩
  cases rs with
  | cons r1 rs =>
  cases rs with
  | cons r2 rs =>
  cases rs
  cases r1
  cases r2
  obtain ⟨its, _, tp, _⟩ := J.tuple sx
  obtain ⟨jts, _, lp, _⟩ := J.list sy
  have la : a < s1.heap.objs.size := by
    obtain ⟨_, e1, _⟩ := id tp
    exact Heap.lt_size e1
  refine zip_begins2 (begins_tuple a its.toArray) (begins_list b jts.toArray) tp lp.isList fun g hz hi ho g1 g2 _ kept => wpAny_pyIter_zip hz ?_
  refine ⟨s1.heap.objs.size + 4, [s1.heap.objs.size + 4, s1.heap.objs.size + 2, s1.heap.objs.size + 3, s1.heap.objs.size, s1.heap.objs.size + 1], _, _, H1, rfl, J.kept (t' := s1.toks) (h' := g) kept, mz_turn (PySem.W.ktu_apart s1.heap.objs.size a b la lp.lt), ⟨hz, hi, ⟨_, _, ho⟩, ⟨_, g1, rfl, rfl⟩, ⟨_, g2, rfl, rfl⟩⟩, fun c hc => ?_, q⟩
  have le : s1.heap.objs.size ≤ c := by
    simp only [List.mem_cons, List.not_mem_nil, or_false] at hc
    rcases hc with rfl | rfl | rfl | rfl | rfl
    · exact Nat.le_add_right _ 4
    · exact Nat.le_add_right _ 2
    · exact Nat.le_add_right _ 3
    · exact Nat.le_refl _
    · exact Nat.le_add_right _ 1
  exact J.fpOk le (J.hok.fresh le)

/-! ### what is walked -/
def lsIt (l : List D) : ItD := ⟨fun k _ => some l[k]?, l.length⟩
def itOf : D → Sto → Option ItD
  | .tup l, _ => some (lsIt l)
  | .lst l, _ => some (lsIt l)
  | .scr l, _ => some (lsIt l)
  | .str x, _ => some (lsIt (x.cps.toList.map fun c => .str ⟨#[c]⟩))
  | .ref i, S => match S[i]? with
    | some (.lst l) => some ⟨fun k S' => match S'[i]? with
      | some (.lst l') => some l'[k]?
      | _ => none, l.length⟩
    | _ => none
  | _, _ => none
section
variable {K : PySem.W.Frag} {m : Mp} {H : Hp}
theorem wk_tup {a : Addr} {vs : List V} {l : List D} (h1 : SqT K H a vs) (h2 : Reps K m H vs l) : WalkD K m H (Itt K a) (lsIt l).nxt := by
  intro m' S' H' e s k
  have q1 := SqT.ext e h1
  have q2 := h2.tr e
  show match some l[k]? with | none => True | some none => _ | some (some d) => _
  cases q : l[k]? with
  | none => exact ⟨vs, q1, by rw [q2.len]; exact List.getElem?_eq_none_iff.mp q⟩
  | some d =>
    obtain ⟨v, h3, h4⟩ := q2.get q
    refine ⟨⟨vs, v, q1, h3⟩, fun x H'' ⟨e1, y⟩ => ?_⟩
    subst e1
    have := y vs q1
    rw [h3] at this; cases this
    exact ⟨.refl, s, h4⟩
theorem wk_lst {a : Addr} {vs : List V} {l : List D} (h1 : ∀ m' H', Tr m H m' H' → SqL K H' a vs) (h2 : Reps K m H vs l) : WalkD K m H (Itl K a) (lsIt l).nxt := by
  intro m' S' H' e s k
  have q1 := h1 m' H' e
  have q2 := h2.tr e
  show match some l[k]? with | none => True | some none => _ | some (some d) => _
  cases q : l[k]? with
  | none => exact ⟨vs, q1, by rw [q2.len]; exact List.getElem?_eq_none_iff.mp q⟩
  | some d =>
    obtain ⟨v, h3, h4⟩ := q2.get q
    refine ⟨⟨vs, v, q1, h3⟩, fun x H'' ⟨e1, y⟩ => ?_⟩
    subst e1
    have := y vs q1
    rw [h3] at this; cases this
    exact ⟨.refl, s, h4⟩
theorem wk_cell {a : Addr} {i : Nat} (h1 : m.c[i]? = some a) : WalkD K m H (Itl K a) (fun k S' => match S'[i]? with | some (.lst l') => some l'[k]? | _ => none) := by
  intro m' S' H' e s k
  obtain ⟨ex, e1, _⟩ := e.pre
  have h2 := pre_at e1 h1
  show match (match S'[i]? with | some (.lst l') => some l'[k]? | _ => none) with | none => True | some none => _ | some (some d) => _
  cases q : S'[i]? with
  | none => trivial
  | some o =>
    cases o with
    | ins c ns l => trivial
    | dic kvs => trivial
    | lst l =>
      obtain ⟨vs, h3, h4⟩ := s.cell i a _ h2 q
      have q1 : SqL K H' a vs := .inl (.inl h3)
      show match some l[k]? with | none => True | some none => _ | some (some d) => _
      cases q2 : l[k]? with
      | none => exact ⟨vs, q1, by rw [h4.len]; exact List.getElem?_eq_none_iff.mp q2⟩
      | some d =>
        obtain ⟨v, h5, h6⟩ := h4.get q2
        refine ⟨⟨vs, v, q1, h5⟩, fun x H'' ⟨e1, y⟩ => ?_⟩
        subst e1
        have := y vs q1
        rw [h5] at this; cases this
        exact ⟨.refl, s, h6⟩
theorem wk_str {x : Str} : WalkD K m H (Its x) (lsIt (x.cps.toList.map fun c => .str ⟨#[c]⟩)).nxt := by
  intro m' S' H' e s k
  show match some (x.cps.toList.map fun c => D.str ⟨#[c]⟩)[k]? with | none => True | some none => _ | some (some d) => _
  rw [List.getElem?_map]
  cases q : x.cps.toList[k]? with
  | none =>
    have := List.getElem?_eq_none_iff.mp q
    show x.cps.size ≤ k
    simpa using this
  | some c =>
    have := (List.getElem?_eq_some_iff.mp q).1
    refine ⟨by show k < x.cps.size; simpa using this, fun v H'' ⟨e1, c', hc, hv⟩ => ?_⟩
    subst e1 hv
    have e2 : c' = c := by
      have h2 : x.cps.toList[k]? = some c' := by simpa using hc
      rw [q] at h2; exact (Option.some.inj h2).symm
    subst e2
    exact ⟨.refl, s, .str _⟩
def rgIt (lo : Int) (n : Nat) : ItD := ⟨fun k _ => some (if k < n then some (.int (lo + k)) else none), n⟩
theorem wk_rng {lo : Int} {n : Nat} : WalkD K m H (Itr lo n) (rgIt lo n).nxt := by
  intro m' S' H' e s k
  show match some (if k < n then some (D.int (lo + k)) else none) with | none => True | some none => _ | some (some d) => _
  by_cases h : k < n
  · rw [if_pos h]
    refine ⟨h, fun v H'' ⟨e1, hv⟩ => ?_⟩
    subst e1 hv
    exact ⟨.refl, s, .int _⟩
  · rw [if_neg h]
    exact Nat.not_lt.mp h
/-- pairs that are made anew at each turn -/
theorem new_pair {S : Sto} {T : Addr} {x y : V} {d c : D} (hn : names [d, c] = false) (s : Sim K m S H) (hT : H T = none) (r1 : Rep K m H x d) (r2 : Rep K m H y c) : Ext m H m (upd H T (.tup [x, y])) ∧ Sim K m S (upd H T (.tup [x, y])) ∧ Rep K m (upd H T (.tup [x, y])) (.ref T) (.tup [d, c]) :=
  ⟨.new hT, s.new hT, .tup (.inl (.inl upd_same)) (fun z => by rw [hn] at z; cases z) (.cons (r1.to (.new hT)) (.cons (r2.to (.new hT)) .nil))⟩
def enIt (l : List D) : ItD := ⟨fun k _ => some (l[k]?.map fun d => .tup [.int k, d]), l.length⟩
theorem wk_enT {a : Addr} {vs : List V} {l : List D} (h1 : SqT K H a vs) (h2 : Reps K m H vs l) : WalkD K m H (IteT K a) (enIt l).nxt := by
  intro m' S' H' e s k
  have q1 := SqT.ext e h1
  have q2 := h2.tr e
  show match some (l[k]?.map fun d => D.tup [.int k, d]) with | none => True | some none => _ | some (some d) => _
  cases q : l[k]? with
  | none => exact ⟨vs, q1, by rw [q2.len]; exact List.getElem?_eq_none_iff.mp q⟩
  | some d =>
    obtain ⟨v, h3, h4⟩ := q2.get q
    refine ⟨⟨vs, v, q1, h3⟩, fun x H'' ⟨T, y, e0, hT, e1, hy⟩ => ?_⟩
    subst e0 e1
    have := hy vs q1
    rw [h3] at this; cases this
    exact new_pair rfl s hT (.int _) h4
theorem wk_enL {a : Addr} {vs : List V} {l : List D} (h1 : ∀ m' H', Tr m H m' H' → SqL K H' a vs) (h2 : Reps K m H vs l) : WalkD K m H (Ite K a) (enIt l).nxt := by
  intro m' S' H' e s k
  have q1 := h1 m' H' e
  have q2 := h2.tr e
  show match some (l[k]?.map fun d => D.tup [.int k, d]) with | none => True | some none => _ | some (some d) => _
  cases q : l[k]? with
  | none => exact ⟨vs, q1, by rw [q2.len]; exact List.getElem?_eq_none_iff.mp q⟩
  | some d =>
    obtain ⟨v, h3, h4⟩ := q2.get q
    refine ⟨⟨vs, v, q1, h3⟩, fun x H'' ⟨T, y, e0, hT, e1, hy⟩ => ?_⟩
    subst e0 e1
    have := hy vs q1
    rw [h3] at this; cases this
    exact new_pair rfl s hT (.int _) h4
def zpIt (l r : List D) : ItD := ⟨fun k _ => match l[k]?, r[k]? with | some d, some c => if names [d, c] = true then none else some (some (.tup [d, c])) | _, _ => some none, min l.length r.length⟩
theorem wk_zpT {a b : Addr} {vs us : List V} {l r : List D} (h1 : SqT K H a vs) (h2 : Reps K m H vs l) (g1 : SqT K H b us) (g2 : Reps K m H us r) : WalkD K m H (RZ.ItzT K a b) (zpIt l r).nxt := by
  intro m' S' H' e s k
  have q1 := SqT.ext e h1
  have q2 := h2.tr e
  have p1 := SqT.ext e g1
  have p2 := g2.tr e
  show match (match l[k]?, r[k]? with | some d, some c => if names [d, c] = true then none else some (some (D.tup [d, c])) | _, _ => some none) with | none => True | some none => _ | some (some d) => _
  cases q : l[k]? with
  | none => exact ⟨vs, us, q1, p1, .inl (by rw [q2.len]; exact List.getElem?_eq_none_iff.mp q)⟩
  | some d =>
    cases p : r[k]? with
    | none => exact ⟨vs, us, q1, p1, .inr (by rw [p2.len]; exact List.getElem?_eq_none_iff.mp p)⟩
    | some c =>
      by_cases hn : names [d, c] = true
      · simp only [hn, if_true]
      have hn' : names [d, c] = false := by simpa using hn
      simp only [hn', Bool.false_eq_true, if_false]
      obtain ⟨v, h3, h4⟩ := q2.get q
      obtain ⟨u, g3, g4⟩ := p2.get p
      refine ⟨⟨vs, us, v, u, q1, p1, h3, g3⟩, fun x H'' ⟨T, y, z, e0, hT, e1, hy, hz⟩ => ?_⟩
      subst e0 e1
      have t1 := hy vs q1
      have t2 := hz us p1
      rw [h3] at t1; cases t1
      rw [g3] at t2; cases t2
      exact new_pair hn' s hT h4 g4
theorem wk_zpM {a b : Addr} {vs us : List V} {l r : List D} (h1 : SqT K H a vs) (h2 : Reps K m H vs l) (g1 : ∀ m' H', Tr m H m' H' → SqL K H' b us) (g2 : Reps K m H us r) : WalkD K m H (ItzM K a b) (zpIt l r).nxt := by
  intro m' S' H' e s k
  have q1 := SqT.ext e h1
  have q2 := h2.tr e
  have p1 := g1 m' H' e
  have p2 := g2.tr e
  show match (match l[k]?, r[k]? with | some d, some c => if names [d, c] = true then none else some (some (D.tup [d, c])) | _, _ => some none) with | none => True | some none => _ | some (some d) => _
  cases q : l[k]? with
  | none => exact ⟨vs, us, ⟨q1, p1⟩, .inl (by rw [q2.len]; exact List.getElem?_eq_none_iff.mp q)⟩
  | some d =>
    cases p : r[k]? with
    | none => exact ⟨vs, us, ⟨q1, p1⟩, .inr (by rw [p2.len]; exact List.getElem?_eq_none_iff.mp p)⟩
    | some c =>
      by_cases hn : names [d, c] = true
      · simp only [hn, if_true]
      have hn' : names [d, c] = false := by simpa using hn
      simp only [hn', Bool.false_eq_true, if_false]
      obtain ⟨v, h3, h4⟩ := q2.get q
      obtain ⟨u, g3, g4⟩ := p2.get p
      refine ⟨⟨vs, us, v, u, ⟨q1, h3⟩, p1, g3⟩, fun x H'' ⟨y, z, T, hy, hz, e0, hT, e1⟩ => ?_⟩
      subst e0 e1
      have t1 := hy vs q1
      have t2 := hz us p1
      rw [h3] at t1; cases t1
      rw [g3] at t2; cases t2
      exact new_pair hn' s hT h4 g4
theorem wk_zpL {a b : Addr} {vs us : List V} {l r : List D} (h1 : ∀ m' H', Tr m H m' H' → SqL K H' a vs) (h2 : Reps K m H vs l) (g1 : ∀ m' H', Tr m H m' H' → SqL K H' b us) (g2 : Reps K m H us r) : WalkD K m H (Itz K a b) (zpIt l r).nxt := by
  intro m' S' H' e s k
  have q1 := h1 m' H' e
  have q2 := h2.tr e
  have p1 := g1 m' H' e
  have p2 := g2.tr e
  show match (match l[k]?, r[k]? with | some d, some c => if names [d, c] = true then none else some (some (D.tup [d, c])) | _, _ => some none) with | none => True | some none => _ | some (some d) => _
  cases q : l[k]? with
  | none => exact ⟨vs, us, q1, p1, .inl (by rw [q2.len]; exact List.getElem?_eq_none_iff.mp q)⟩
  | some d =>
    cases p : r[k]? with
    | none => exact ⟨vs, us, q1, p1, .inr (by rw [p2.len]; exact List.getElem?_eq_none_iff.mp p)⟩
    | some c =>
      by_cases hn : names [d, c] = true
      · simp only [hn, if_true]
      have hn' : names [d, c] = false := by simpa using hn
      simp only [hn', Bool.false_eq_true, if_false]
      obtain ⟨v, h3, h4⟩ := q2.get q
      obtain ⟨u, g3, g4⟩ := p2.get p
      refine ⟨⟨vs, us, v, u, q1, p1, h3, g3⟩, fun x H'' ⟨T, y, z, e0, hT, e1, hy, hz⟩ => ?_⟩
      subst e0 e1
      have t1 := hy vs q1
      have t2 := hz us p1
      rw [h3] at t1; cases t1
      rw [g3] at t2; cases t2
      exact new_pair hn' s hT h4 g4
theorem fz_lst {a : Addr} {vs : List V} (h : H a = some (.lst vs)) (o : Off m a) : ∀ m' H', Tr m H m' H' → SqL K H' a vs := fun m' H' e => .inl (.inl (e.keep _ _ h o))
end
section
variable {X : Cx} {W : WX} {tg e e2 : Expr} {es : List Expr} {pos p tpos : Pos} {me : EM} {ma : AM} {elts : List Expr} {kk : Nat}
theorem PI.or {t u : TI} (h1 : PI X tg e t) (h2 : PI X tg e u) : PI X tg e (fun σ H R => t σ H R ∨ u σ H R) := ⟨fun pins s σ H R I hw => hw.elim (h1.run pins s σ H R I) (h2.run pins s σ H R I)⟩
/-- for x in e -/
def mItV (me : EM) : IM := fun en S => (me en S).bind fun d S1 => ofO (itOf d S1) S1
theorem i_val (he : PE X e (tE X.K W me)) : PI X tg e (tI X.K W (mItV me)) := by
  refine PI.imp (PI.or (pi_tup he) (PI.or (pi_list he) (pi_str he))) ?_
  rintro σ H R ⟨en, S, m, er, si, h⟩
  cases q : me en S with
  | stuck => unfold mItV at h; rw [q] at h; exact h.elim
  | exc c fs S1 =>
    unfold mItV at h
    rw [q] at h
    exact .inl ⟨en, S, m, er, si, by rw [q]; exact h⟩
  | ok d S1 =>
    unfold mItV at h
    rw [q] at h
    have h : PostG X.K W (fun m' H' (J : L2.It) (it : ItD) => WalkD X.K m' H' J it.nxt) σ m H (ofO (itOf d S1) S1) R := h
    have fin : ∀ (it : ItD), itOf d S1 = some it → ∀ {m' : Mp} {H' : Hp} {J : L2.It}, Ext m H m' H' → Sim X.K m' S1 H' → WalkD X.K m' H' J it.nxt → R J H' := fun it qi m' H' J e' s' wk => by
      rw [qi] at h
      exact h J m' H' e' s' wk
    cases d with
    | tup l => exact .inl ⟨en, S, m, er, si, by
        rw [q]
        intro v m' H' e' s' r'
        cases r' with
        | tup h1 hd h2 => exact ⟨_, rfl, ⟨_, h1⟩, fin _ rfl e' s' (wk_tup h1 h2)⟩⟩
    | lst l => exact .inr (.inl ⟨en, S, m, er, si, by
        rw [q]
        intro v m' H' e' s' r'
        cases r' with
        | lst h1 h2 h3 => exact ⟨_, rfl, ⟨_, .inl (.inl h1)⟩, fin _ rfl e' s' (wk_lst (fz_lst h1 h2) h3)⟩⟩)
    | scr l => exact .inr (.inl ⟨en, S, m, er, si, by
        rw [q]
        intro v m' H' e' s' r'
        cases r' with
        | scr h1 h2 =>
          have g : ∀ m2 H2, Tr m' H' m2 H2 → SqL X.K H2 _ _ := fun m2 H2 e2 => by
            rcases h1 with ⟨o, h1⟩ | h1
            · exact .inl (.inr ⟨o, e2.frz _ _ _ h1⟩)
            · exact h1 H2
          exact ⟨_, rfl, ⟨_, g m' H' Ext.refl.tr⟩, fin _ rfl e' s' (wk_lst g h2)⟩⟩)
    | ref i => exact .inr (.inl ⟨en, S, m, er, si, by
        rw [q]
        intro v m' H' e' s' r'
        cases r' with
        | ref h1 =>
          rename_i a
          cases qo : S1[i]? with
          | none => simp only [itOf, qo, ofO] at h; exact h.elim
          | some o =>
            cases o with
            | ins c ns l => simp only [itOf, qo, ofO] at h; exact h.elim
            | dic kvs => simp only [itOf, qo, ofO] at h; exact h.elim
            | lst l =>
              obtain ⟨vs, h3, h4⟩ := s'.cell i a _ h1 qo
              exact ⟨a, rfl, ⟨vs, .inl (.inl h3)⟩, fin ⟨fun k S' => match S'[i]? with | some (.lst l') => some l'[k]? | _ => none, l.length⟩ (by simp only [itOf, qo]) e' s' (wk_cell h1)⟩⟩)
    | str x => exact .inr (.inr ⟨en, S, m, er, si, by
        rw [q]
        intro v m' H' e' s' r'
        cases r'
        exact ⟨x, rfl, fin _ rfl e' s' wk_str⟩⟩)
    | _ => exact h.elim
/-- range(n), range(a, b) -/
def rgB (i : Int) : Bool := decide (-(2 ^ 62) ≤ i) && decide (i < 2 ^ 62)
def rgOf : List D → Sto → Option ItD
  | [.int j], _ => if rgB j = true then some (rgIt 0 j.toNat) else none
  | [.int i, .int j], _ => if rgB i = true ∧ rgB j = true then some (rgIt i (j - i).toNat) else none
  | _, _ => none
def mItA (f : List D → Sto → Option ItD) (ma : AM) : IM := fun en S => (ma en S).bind fun ds S1 => ofO (f ds S1) S1
theorem i_range1 (hg : Gl X "range") (hm : X.mg "range" = none) (ha : PA X [e] (tA X.K W ma)) (hs : starEach [e] X.env = [(false, eval e X.env)] := by rfl) : PI X tg (.Call (.Name "range" p) [e] [] pos) (tI X.K W (mItA (fun ds S => match ds with | [d] => rgOf [d] S | _ => none) ma)) := by
  refine PI.imp (pi_range1 hg hm ha hs) ?_
  rintro σ H R ⟨en, S, m, er, si, h⟩
  refine ⟨en, S, m, er, si, (PostG.bind (R := Reps X.K) h).mono ?_⟩
  rintro vs H1 ⟨ds, S1, m1, e1, s1, r1, h1⟩
  cases r1 with
  | nil => exact h1.elim
  | cons a b =>
    cases b with
    | cons b c => exact h1.elim
    | nil =>
      cases a with
      | int j =>
        simp only [rgOf] at h1
        by_cases hj : rgB j = true
        · rw [if_pos hj] at h1
          unfold rgB at hj
          simp only [Bool.and_eq_true, decide_eq_true_eq] at hj
          exact ⟨j, rfl, hj.1, hj.2, h1 _ m1 H1 .refl s1 wk_rng⟩
        · rw [if_neg hj] at h1; exact h1.elim
      | _ => exact h1.elim
theorem i_range2 (hg : Gl X "range") (hm : X.mg "range" = none) (ha : PA X [e, e2] (tA X.K W ma)) (hs : starEach [e, e2] X.env = [(false, eval e X.env), (false, eval e2 X.env)] := by rfl) (hpl : starEach [e2] X.env = [(false, eval e2 X.env)] := by rfl) :
    PI X tg (.Call (.Name "range" p) [e, e2] [] pos) (tI X.K W (mItA (fun ds S => match ds with | [d, c] => rgOf [d, c] S | _ => none) ma)) := by
  refine PI.imp (pi_range2 hg hm ha hs hpl) ?_
  rintro σ H R ⟨en, S, m, er, si, h⟩
  refine ⟨en, S, m, er, si, (PostG.bind (R := Reps X.K) h).mono ?_⟩
  rintro vs H1 ⟨ds, S1, m1, e1, s1, r1, h1⟩
  cases r1 with
  | nil => exact h1.elim
  | cons a b =>
    cases b with
    | nil => exact h1.elim
    | cons b c =>
      cases c with
      | cons c c' => exact h1.elim
      | nil =>
        cases a with
        | int i =>
          cases b with
          | int j =>
            simp only [rgOf] at h1
            by_cases hj : rgB i = true ∧ rgB j = true
            · rw [if_pos hj] at h1
              unfold rgB at hj
              simp only [Bool.and_eq_true, decide_eq_true_eq] at hj
              exact ⟨i, j, rfl, ⟨hj.1.1, hj.1.2, hj.2.1, hj.2.2⟩, h1 _ m1 H1 .refl s1 wk_rng⟩
            · rw [if_neg hj] at h1; exact h1.elim
          | _ => exact h1.elim
        | _ => exact h1.elim
theorem i_enum (hg : Gl X "enumerate") (hm : X.mg "enumerate" = none) (ha : PA X [e] (tA X.K W ma)) (hs : starEach [e] X.env = [(false, eval e X.env)] := by rfl) : PI X (.Tuple elts kk tpos) (.Call (.Name "enumerate" p) [e] [] pos) (tI X.K W (mItA (fun ds _ => match ds with | [.tup l] => some (enIt l) | [.lst l] => some (enIt l) | _ => none) ma)) := by
  refine PI.imp (PI.or (pi_enumT hg hm ha hs) (pi_enum hg hm ha hs)) ?_
  rintro σ H R ⟨en, S, m, er, si, h⟩
  unfold mItA at h
  cases q : ma en S with
  | stuck => rw [q] at h; exact h.elim
  | exc c fs S1 => rw [q] at h; exact .inl ⟨en, S, m, er, si, by rw [q]; exact h⟩
  | ok ds S1 =>
    rw [q] at h
    simp only [Res.bind] at h
    split at h
    · exact .inl ⟨en, S, m, er, si, by
        rw [q]
        intro v m' H' e' s' r'
        cases r' with
        | cons a b =>
          cases b
          cases a with
          | tup h1 hd h2 => exact ⟨_, _, rfl, h1, h _ m' H' e' s' (wk_enT h1 h2)⟩⟩
    · exact .inr ⟨en, S, m, er, si, by
        rw [q]
        intro v m' H' e' s' r'
        cases r' with
        | cons a b =>
          cases b
          cases a with
          | lst h1 h2 h3 => exact ⟨_, _, rfl, .inl (.inl h1), h _ m' H' e' s' (wk_enL (fz_lst h1 h2) h3)⟩⟩
    · exact h.elim
def zp2 : List D → Sto → Option ItD := fun ds _ => match ds with | [.tup l, .tup r] => some (zpIt l r) | [.lst l, .lst r] => some (zpIt l r) | [.tup l, .lst r] => some (zpIt l r) | _ => none
theorem i_zip (hg : Gl X "zip") (hm : X.mg "zip" = none) (ha : PA X [e, e2] (tA X.K W ma)) (hs : starEach [e, e2] X.env = (false, eval e X.env) :: starEach [e2] X.env := by rfl) (hpl : (backTo pos (starEach [e2] X.env)).any (·.1) = false := by rfl) :
    PI X (.Tuple elts kk tpos) (.Call (.Name "zip" p) [e, e2] [] pos) (tI X.K W (mItA zp2 ma)) := by
  refine PI.imp (PI.or (RZ.pi_zipA hg hm ha hs hpl) (pi_zipM hg hm ha hs hpl)) ?_
  rintro σ H R ⟨en, S, m, er, si, h⟩
  unfold mItA at h
  cases q : ma en S with
  | stuck => rw [q] at h; exact h.elim
  | exc c fs S1 => rw [q] at h; exact .inl ⟨en, S, m, er, si, by rw [q]; exact h⟩
  | ok ds S1 =>
    rw [q] at h
    simp only [Res.bind, zp2] at h
    split at h
    · exact .inl ⟨en, S, m, er, si, by
        rw [q]
        intro v m' H' e' s' r'
        cases r' with
        | cons a b =>
          cases b with
          | cons b c =>
            cases c
            cases a with
            | tup a1 ad a2 =>
              cases b with
              | tup b1 bd b2 => exact ⟨_, _, _, _, rfl, .inr ⟨a1, b1, h _ m' H' e' s' (wk_zpT a1 a2 b1 b2)⟩⟩⟩
    · exact .inl ⟨en, S, m, er, si, by
        rw [q]
        intro v m' H' e' s' r'
        cases r' with
        | cons a b =>
          cases b with
          | cons b c =>
            cases c
            cases a with
            | lst a1 a2 a3 =>
              cases b with
              | lst b1 b2 b3 => exact ⟨_, _, _, _, rfl, .inl ⟨.inl (.inl a1), .inl (.inl b1), h _ m' H' e' s' (wk_zpL (fz_lst a1 a2) a3 (fz_lst b1 b2) b3)⟩⟩⟩
    · exact .inr ⟨en, S, m, er, si, by
        rw [q]
        intro v m' H' e' s' r'
        cases r' with
        | cons a b =>
          cases b with
          | cons b c =>
            cases c
            cases a with
            | tup a1 ad a2 =>
              cases b with
              | lst b1 b2 b3 => exact ⟨_, _, _, _, rfl, a1, .inl (.inl b1), h _ m' H' e' s' (wk_zpM a1 a2 (fz_lst b1 b2) b3)⟩⟩
    · exact h.elim
end
end Ag

namespace Ag
open PySem L2
section
variable {K : PySem.W.Frag} {m : Mp} {H : Hp}
/-- a list that is read: frozen, a cell, or the script -/
def rdOf : D → Sto → Option (List D)
  | .scr l, _ => some l
  | d, S => lstOf d S
theorem rd_at {S : Sto} {v : V} {d : D} {l : List D} (si : Sim K m S H) (r : Rep K m H v d) (h : rdOf d S = some l) : ∃ a vs, v = .ref a ∧ SqL K H a vs ∧ Reps K m H vs l := by
  cases d with
  | scr l' =>
    cases h
    cases r with
    | scr h1 h2 =>
      refine ⟨_, _, rfl, ?_, h2⟩
      rcases h1 with ⟨o, h1⟩ | h1
      · exact .inl (.inr ⟨o, h1⟩)
      · exact h1 H
  | _ =>
    obtain ⟨a, vs, e, h1, h2⟩ := lst_at si r h
    exact ⟨a, vs, e, .inl (.inl h1), h2⟩
theorem at_i {vs : List V} {l : List D} {i : Int} {d : D} (r : Reps K m H vs l) (h : atI l i = some d) : ∃ v, atI vs i = some v ∧ Rep K m H v d := by
  unfold atI at h ⊢
  rw [r.len]
  cases q : ixN l.length i with
  | none => rw [q] at h; cases h
  | some j =>
    rw [q] at h
    exact r.get h
def cutD (l : List D) (lo hi : Option Int) : List D := (l.drop (HT.sIx l.length 0 lo)).take (HT.sIx l.length l.length hi - HT.sIx l.length 0 lo)
theorem Reps.slice {vs : List V} {l : List D} (r : Reps K m H vs l) (lo hi : Option Int) : Reps K m H (cutV vs lo hi) (cutD l lo hi) := by
  unfold cutV cutD
  rw [r.len]
  exact (r.drop _).take _
theorem cut_all {l : List D} {lo hi : Option Int} (h : HT.sIx l.length 0 lo = 0 ∧ HT.sIx l.length l.length hi = l.length) : cutD l lo hi = l := by
  unfold cutD
  rw [h.1, h.2]
  simp
end
def fIx : D → D → Sto → Option D
  | .tup l, .int i, _ => atI l i
  | .str x, .int i, _ => if x.length ≤ lineN then (atI x.cps.toList i).map fun c => .str ⟨#[c]⟩ else none
  | d, .int i, S => (rdOf d S).bind fun l => atI l i
  | _, _, _ => none
def fSl (d : D) (lo hi : Option Int) (S : Sto) : Option D := match d with
  | .tup l => some (.tup (cutD l lo hi))
  | .str z => if z.length ≤ lineN then some (.str (cutS z lo hi)) else none
  | d => (rdOf d S).map fun l => .lst (cutD l lo hi)
section
variable {X : Cx} {W : WX} {e e2 : Expr} {pos p2 : Pos} {me : EM}
theorem x_ix : IxR X (rO2 X.K fIx) := by
  intro ve sl pins s σ H x y v u Q I rx ry ⟨d, e, S, m, r, si, hx, hy, hf, hq⟩ hp
  unfold fIx at hf
  split at hf
  · cases hy
    cases hx with
    | tup h1 hd h2 =>
      obtain ⟨z, h3, h4⟩ := at_i h2 hf
      exact ix_tup ve sl pins s σ H _ _ v u Q I rx ry ⟨_, _, _, z, rfl, rfl, h1, h3, hq _ H .refl si h4⟩ hp
  · rename_i x' i
    by_cases hl : x'.length ≤ lineN
    · rw [if_pos hl] at hf
      cases q : atI x'.cps.toList i with
      | none => rw [q] at hf; cases hf
      | some c =>
        rw [q] at hf
        cases hf; cases hx; cases hy
        exact ix_str ve sl pins s σ H _ _ v u Q I rx ry ⟨x', i, c, rfl, rfl, by rw [← line_eq]; exact hl, q, hq _ H .refl si (.str _)⟩ hp
    · rw [if_neg hl] at hf; cases hf
  · rename_i i _ _
    cases q : rdOf d S with
    | none => rw [q] at hf; cases hf
    | some l =>
      rw [q] at hf
      cases hy
      obtain ⟨a, vs, rfl, h1, h2⟩ := rd_at si hx q
      obtain ⟨z, h3, h4⟩ := at_i h2 hf
      exact ix_list ve sl pins s σ H _ _ v u Q I rx ry ⟨a, vs, i, z, rfl, rfl, h1, h3, hq _ H .refl si h4⟩ hp
  · cases hf
/-- e[lo:hi] -/
abbrev OM := En → Sto → Res (Option Int)
def tO (K : PySem.W.Frag) (W : WX) (o : OM) : TO := fun σ H Q => ∃ en S m, EnvR K m H σ en ∧ Sim K m S H ∧ PostG K W (fun _ _ (b : Option Int) c => b = c) σ m H (o en S) Q
def oNone : OM := fun _ S => .ok none S
def oSome (me : EM) : OM := fun en S => (me en S).bind fun d S1 => match d with
  | .int i => .ok (some i) S1
  | _ => .stuck
theorem PO.imp {eo : Option Expr} {t t' : TO} (h : PO X eo t) (f : ∀ σ H Q, t' σ H Q → t σ H Q) : PO X eo t' := ⟨fun pins s σ H Q I hw => h.run pins s σ H Q I (f _ _ _ hw)⟩
theorem o_none : PO X none (tO X.K W oNone) := PO.imp po_none fun σ H Q ⟨en, S, m, er, si, h⟩ => h none m H .refl si rfl
theorem o_some (he : PE X e (tE X.K W me)) : PO X (some e) (tO X.K W (oSome me)) := by
  refine PO.imp (po_some he) ?_
  rintro σ H Q ⟨en, S, m, er, si, h⟩
  refine ⟨en, S, m, er, si, (PostG.bind (R := Rep X.K) h).mono ?_⟩
  rintro v H1 ⟨d, S1, m1, e1, s1, r1, h1⟩
  cases r1 with
  | int i => exact ⟨i, rfl, h1 _ m1 H1 .refl s1 rfl⟩
  | _ => exact h1.elim
def mSl (me : EM) (lo hi : OM) : EM := fun en S => (me en S).bind fun d S1 => (lo en S1).bind fun l S2 => (hi en S2).bind fun h S3 => ofO (fSl d l h S3) S3
def rSlO (K : PySem.W.Frag) : V → Option Int → Option Int → Hp → VK → Prop := fun x lo hi H Q => ∃ d S m r, Sim K m S H ∧ Rep K m H x d ∧ fSl d lo hi S = some r ∧ ∀ v H', Ext m H m H' → Sim K m S H' → Rep K m H' v r → Q v H'
/-- t[lo:hi]: the whole of it is t itself, else new -/
theorem sl_tupF : SlR X (fun x lo hi H Q => ∃ a xs, x = .ref a ∧ SqT X.K H a xs ∧ (HT.sIx xs.length 0 lo = 0 ∧ HT.sIx xs.length xs.length hi = xs.length → Q (.ref a) H) ∧
    (¬ (HT.sIx xs.length 0 lo = 0 ∧ HT.sIx xs.length xs.length hi = xs.length) → ∀ p o, H p = none → o.dict = none → Q (.ref p) (upd H p (.frz o (.tup (cutV xs lo hi)))))) := by
  rintro pins s σ H x v vl vu lo hi sl Q I rx hs pl pu ⟨a, xs, rfl, hx, same, fresh⟩
  by_cases whole : HT.sIx xs.length 0 lo = 0 ∧ HT.sIx xs.length xs.length hi = xs.length
  · exact sl_tupA pins s σ H _ v vl vu lo hi sl Q I rx hs pl pu ⟨a, xs, rfl, hx, same, fun n => absurd whole n⟩
  · cases rx
    obtain ⟨its, r, ht, hz⟩ := I.tuple hx
    have n : its.toArray.size = xs.length := List.size_toArray.trans r.length.symm
    refine ⟨"tuple", _, PyProof.Rows.slot_tuple_getitem.lookup, ht.typeIs, HT.getItem_tuple_cut ht hs pl pu (n.symm ▸ whole) ?_ (n.symm ▸ hz)⟩
    rw [n]
    exact newTup I ((r.drop _).take _) (Nat.le_trans (cutV_length xs lo hi) hz) (fresh whole)
/-- tuple(list) is new -/
theorem call_tupF : CallR X (.type "tuple") (fun vs H Q => ∃ p ys, vs = [.ref p] ∧ SqL X.K H p ys ∧ ∀ l o, H l = none → o.dict = none → Q (.ref l) (upd H l (.frz o (.tup ys)))) := by
  rintro pins s σ H vs us Q I r ⟨p, ys, rfl, hq, q⟩
  obtain ⟨_, rfl, rx⟩ := vals1 r
  cases rx
  obtain ⟨its, rv, pl, hz⟩ := I.list hq
  have n : its.toArray.size ≤ sizeLine := by rw [List.size_toArray, ← rv.length]; exact hz
  exact call_tuple_list pl.isList (fun h' kp => newTup (I.kept (t' := s.toks) (h' := h') kp) rv hz q) n
theorem sl_ok : SlR X (rSlO X.K) := by
  intro pins s σ H x v vl vu lo hi sl Q I rx hs pl pu ⟨d, S, m, r, si, hx, hf, hq⟩
  unfold fSl at hf
  split at hf
  · cases hf
    cases hx with
    | tup h1 hd h2 =>
      refine sl_tupF pins s σ H _ v vl vu lo hi sl Q I rx hs pl pu ⟨_, _, rfl, h1, fun c => ?_, fun _ q o hp ho => ?_⟩
      · rw [h2.len] at c
        exact hq _ H .refl si (by rw [cut_all c]; exact .tup h1 hd h2)
      · exact hq _ _ (.new hp) (si.new hp) (tupF ho ((h2.slice lo hi).to (.new hp)))
  · rename_i z
    by_cases hl : z.length ≤ lineN
    · rw [if_pos hl] at hf
      cases hf; cases hx
      exact sl_str pins s σ H _ v vl vu lo hi sl Q I rx hs pl pu ⟨z, rfl, by rw [← line_eq]; exact hl, hq _ H .refl si (.str _)⟩
    · rw [if_neg hl] at hf; cases hf
  · cases q : rdOf d S with
    | none => rw [q] at hf; cases hf
    | some l =>
      rw [q] at hf
      cases hf
      obtain ⟨a, vs, rfl, h1, h2⟩ := rd_at si hx q
      exact sl_list pins s σ H _ v vl vu lo hi sl Q I rx hs pl pu ⟨a, vs, rfl, h1, fun q hp => hq _ _ (.new hp) (si.new hp) (.lst upd_same (si.off hp) ((h2.slice lo hi).to (.new hp)))⟩
theorem e_sl {lo hi : Option Expr} {ml mh : OM} (he : PE X e (tE X.K W me)) (hl : PO X lo (tO X.K W ml)) (hh : PO X hi (tO X.K W mh)) : PE X (.Subscript e (.Slice lo hi none p2) pos) (tE X.K W (mSl me ml mh)) := by
  refine PE.imp (pe_slice sl_ok he hl hh) ?_
  rintro σ H Q ⟨en, S, m, er, si, h⟩
  refine ⟨en, S, m, er, si, (PostG.bind (R := Rep X.K) h).mono ?_⟩
  rintro v H1 ⟨d, S1, m1, e1, s1, r1, h1⟩
  refine ⟨en, S1, m1, er.to e1, s1, (PostG.bind (R := fun _ _ (b : Option Int) c => b = c) h1).mono ?_⟩
  rintro l H2 ⟨l', S2, m2, e2, s2, rfl, h2⟩
  refine ⟨en, S2, m2, (er.to e1).to e2, s2, (PostG.bind (R := fun _ _ (b : Option Int) c => b = c) h2).mono ?_⟩
  rintro u H3 ⟨u', S3, m3, e3, s3, rfl, h3⟩
  cases q : fSl d l u S3 with
  | none => rw [q] at h3; exact h3.elim
  | some r =>
    rw [q] at h3
    exact ⟨d, S3, m3, r, s3, (r1.to e2).to e3, q, fun z H4 e4 s4 r4 => h3 z m3 H4 e4 s4 r4⟩
end

/-! ### built-in functions -/
def isInts : List D → Option (List Int)
  | [] => some []
  | .int i :: l => (isInts l).map (i :: ·)
  | _ => none
def isBls : List D → Option (List Bool)
  | [] => some []
  | .bl b :: l => (isBls l).map (b :: ·)
  | _ => none
def isStrs : List D → Option (List Str)
  | [] => some []
  | .str x :: l => (isStrs l).map (x :: ·)
  | _ => none
section
variable {K : PySem.W.Frag} {m : Mp} {H : Hp}
theorem ints_of : ∀ {vs : List V} {l : List D} {ns : List Int}, Reps K m H vs l → isInts l = some ns → vs = ns.map V.int
  | _, [], ns, h, e => by cases h; cases e; rfl
  | _, d :: l, ns, h, e => by
    cases h with
    | cons h1 h2 =>
      cases h1 with
      | int i =>
        simp only [isInts] at e
        cases q : isInts l with
        | none => rw [q] at e; cases e
        | some ns' =>
          rw [q] at e; cases e
          rw [ints_of h2 q]; rfl
      | _ => cases e
theorem bls_of : ∀ {vs : List V} {l : List D} {ns : List Bool}, Reps K m H vs l → isBls l = some ns → vs = ns.map V.bl
  | _, [], ns, h, e => by cases h; cases e; rfl
  | _, d :: l, ns, h, e => by
    cases h with
    | cons h1 h2 =>
      cases h1 with
      | bl i =>
        simp only [isBls] at e
        cases q : isBls l with
        | none => rw [q] at e; cases e
        | some ns' =>
          rw [q] at e; cases e
          rw [bls_of h2 q]; rfl
      | _ => cases e
theorem strs_of : ∀ {vs : List V} {l : List D} {ns : List Str}, Reps K m H vs l → isStrs l = some ns → vs = ns.map V.str
  | _, [], ns, h, e => by cases h; cases e; rfl
  | _, d :: l, ns, h, e => by
    cases h with
    | cons h1 h2 =>
      cases h1 with
      | str i =>
        simp only [isStrs] at e
        cases q : isStrs l with
        | none => rw [q] at e; cases e
        | some ns' =>
          rw [q] at e; cases e
          rw [strs_of h2 q]; rfl
      | _ => cases e
end
def f1 (f : D → Sto → Option D) : List D → Sto → Option D
  | [d], S => f d S
  | _, _ => none
def gLen (d : D) (S : Sto) : Option D := match d with
  | .tup l => some (.int l.length)
  | .str x => if x.length ≤ lineN then some (.int x.length) else none
  | d => (rdOf d S).map fun l => .int l.length
def gAbs : D → Sto → Option D
  | .int i, _ => some (.int (if i < 0 then -i else i))
  | _, _ => none
def gInt : D → Sto → Option D
  | .int i, _ => some (.int i)
  | .bl b, _ => some (.int (if b then 1 else 0))
  | .str x, _ => if x.length ≤ 640 then (intText? x).map .int else none
  | _, _ => none
def gStr : D → Sto → Option D
  | .int i, _ => if i.natAbs.log2 < 1920 then some (.str (toString i)) else none
  | _, _ => none
def gSum (d : D) (S : Sto) : Option D := match d with
  | .tup l => (isInts l).map fun ns => .int ns.sum
  | d => ((rdOf d S).bind isInts).map fun ns => .int ns.sum
def gAll (d : D) (S : Sto) : Option D := ((rdOf d S).bind isBls).map fun bs => .bl (bs.all id)
def gAny (d : D) (S : Sto) : Option D := ((rdOf d S).bind isBls).map fun bs => .bl (bs.any id)
def gTup (d : D) (S : Sto) : Option D := match d with
  | .tup l => some (.tup l)
  | d => (rdOf d S).map fun l => .tup l
def gLst (d : D) (S : Sto) : Option D := match d with
  | .tup l => some (.lst l)
  | d => (rdOf d S).map fun l => .lst l
def fMax2 : List D → Sto → Option D
  | [.int i, .int j], _ => some (.int (if j > i then j else i))
  | _, _ => none
def fMin2 : List D → Sto → Option D
  | [.int i, .int j], _ => some (.int (if j < i then j else i))
  | _, _ => none
def fDivmod : List D → Sto → Option D
  | [.int i, .int j], _ => if 0 < j ∧ j < 1073741824 then some (.tup [.int (i / j), .int (i % j)]) else none
  | _, _ => none
section
variable {X : Cx}
theorem c1 {f : Value} {g : D → Sto → Option D} (h : ∀ (pins : List (Addr × Obj)) (s : Shared) (σ : L2.St) (H : Hp) (x : V) (u : Value) (Q : VK) (d : D) (S : Sto) (m : Mp) (r : D), L2.Inv X pins σ H s → Vals [x] [u] → Sim X.K m S H → Rep X.K m H x d → g d S = some r →
    (∀ v H', Ext m H m H' → Sim X.K m S H' → Rep X.K m H' v r → Q v H') → wpAny (model X.prog X.w) X.A (call f [u]) (EP X pins σ Q) X.xe s) : CallR X f (rOL X.K (f1 g)) := by
  intro pins s σ H xs us Q I rx ⟨ds, S, m, r, si, hx, hf, hq⟩
  cases hx with
  | nil => cases hf
  | cons h1 h2 =>
    cases h2 with
    | cons h2 h3 => cases hf
    | nil =>
      cases rx with
      | cons a b =>
        cases b
        exact h pins s σ H _ _ Q _ S m r I (.cons a .nil) si h1 hf hq
theorem b_len : CallR X (.builtin "len") (rOL X.K (f1 gLen)) := c1 fun pins s σ H x u Q d S m r I rx si hx hf hq => by
  unfold gLen at hf
  split at hf
  · cases hf
    cases hx with
    | tup h1 hd h2 => exact call_len_seq pins s σ H _ _ Q I rx ⟨_, _, rfl, .inr h1, by rw [h2.len]; exact hq _ H .refl si (.int _)⟩
  · rename_i z
    by_cases hl : z.length ≤ lineN
    · rw [if_pos hl] at hf
      cases hf; cases hx
      exact call_len_str pins s σ H _ _ Q I rx ⟨z, rfl, by rw [← line_eq]; exact hl, hq _ H .refl si (.int _)⟩
    · rw [if_neg hl] at hf; cases hf
  · cases q : rdOf d S with
    | none => rw [q] at hf; cases hf
    | some l =>
      rw [q] at hf; cases hf
      obtain ⟨a, vs, rfl, h1, h2⟩ := rd_at si hx q
      exact call_len_seq pins s σ H _ _ Q I rx ⟨a, vs, rfl, .inl h1, by rw [h2.len]; exact hq _ H .refl si (.int _)⟩
theorem b_abs : CallR X (.builtin "abs") (rOL X.K (f1 gAbs)) := c1 fun pins s σ H x u Q d S m r I rx si hx hf hq => by
  unfold gAbs at hf
  split at hf
  · cases hf; cases hx
    exact call_abs pins s σ H _ _ Q I rx ⟨_, rfl, hq _ H .refl si (.int _)⟩
  · cases hf
theorem b_int : CallR X (.type "int") (rOL X.K (f1 gInt)) := c1 fun pins s σ H x u Q d S m r I rx si hx hf hq => by
  unfold gInt at hf
  split at hf
  · cases hf; cases hx
    exact call_int1 pins s σ H _ _ Q I rx (.inl ⟨_, rfl, hq _ H .refl si (.int _)⟩)
  · cases hf; cases hx
    exact call_int1 pins s σ H _ _ Q I rx (.inr ⟨_, rfl, hq _ H .refl si (.int _)⟩)
  · rename_i z
    by_cases hl : z.length ≤ 640
    · rw [if_pos hl] at hf
      cases q : intText? z with
      | none => rw [q] at hf; cases hf
      | some n =>
        rw [q] at hf
        cases hf; cases hx
        exact call_int_str pins s σ H _ _ Q I rx ⟨z, n, rfl, q, hl, hq _ H .refl si (.int _)⟩
    · rw [if_neg hl] at hf; cases hf
  · cases hf
theorem b_str : CallR X (.type "str") (rOL X.K (f1 gStr)) := c1 fun pins s σ H x u Q d S m r I rx si hx hf hq => by
  unfold gStr at hf
  split at hf
  · rename_i i
    by_cases hl : i.natAbs.log2 < 1920
    · rw [if_pos hl] at hf
      cases hf; cases hx
      exact call_str_int pins s σ H _ _ Q I rx ⟨_, rfl, hl, hq _ H .refl si (.str _)⟩
    · rw [if_neg hl] at hf; cases hf
  · cases hf
theorem b_all (hc : X.calm = true) : CallR X (.builtin "all") (rOL X.K (f1 gAll)) := c1 fun pins s σ H x u Q d S m r I rx si hx hf hq => by
  unfold gAll at hf
  cases q : rdOf d S with
  | none => rw [q] at hf; cases hf
  | some l =>
    rw [q] at hf
    cases q2 : isBls l with
    | none => simp only [Option.bind_some, q2] at hf; cases hf
    | some bs =>
      simp only [Option.bind_some, q2] at hf; cases hf
      obtain ⟨a, vs, rfl, h1, h2⟩ := rd_at si hx q
      have e := bls_of h2 q2
      subst e
      exact cr_all hc pins s σ H _ _ Q I rx ⟨a, bs, rfl, h1, hq _ H .refl si (.bl _)⟩
theorem b_any (hc : X.calm = true) : CallR X (.builtin "any") (rOL X.K (f1 gAny)) := c1 fun pins s σ H x u Q d S m r I rx si hx hf hq => by
  unfold gAny at hf
  cases q : rdOf d S with
  | none => rw [q] at hf; cases hf
  | some l =>
    rw [q] at hf
    cases q2 : isBls l with
    | none => simp only [Option.bind_some, q2] at hf; cases hf
    | some bs =>
      simp only [Option.bind_some, q2] at hf; cases hf
      obtain ⟨a, vs, rfl, h1, h2⟩ := rd_at si hx q
      have e := bls_of h2 q2
      subst e
      exact cr_any hc pins s σ H _ _ Q I rx ⟨a, bs, rfl, h1, hq _ H .refl si (.bl _)⟩
theorem tup_sum {prog : Program} {w : World} {A : Around} {E : Value → Shared → Prop} {s : Shared} {t : Addr} {its : List Value} {ns : List Int} {Q : Value → Shared → Prop} (hh : A.handled = none) (ht : s.heap.IsTuple t its.toArray) (hi : PyProof.Rows.IntsAre its ns)
    (h : ∀ h' tk t', (∀ b o, s.heap.get? b = some o → h'.get? b = some o) → Q (.int ns.sum t') { s with heap := h', toks := tk }) : wpAny (model prog w) A (call (.builtin "sum") [.ref t]) Q E s := by
  obtain ⟨xs, e⟩ := hi.allInts.items
  have hn : PySem.numsOf (intItems xs).toList = ns := by rw [← e]; exact hi.numsOf
  rw [PySem.nums_intItems] at hn
  rw [e] at ht
  refine PySem.W.ktm_sumG hh ht fun h' tk t' hk => ?_
  have := h h' tk t' hk
  rw [PySem.preSum_eq, List.take_of_length_le (by simp), hn]; exact this
theorem b_sum (hc : X.calm = true) : CallR X (.builtin "sum") (rOL X.K (f1 gSum)) := c1 fun pins s σ H x u Q d S m r I rx si hx hf hq => by
  unfold gSum at hf
  split at hf
  · rename_i l
    cases q : isInts l with
    | none => rw [q] at hf; cases hf
    | some ns =>
      rw [q] at hf; cases hf
      cases hx with
      | tup h1 hd h2 =>
        have e := ints_of h2 q
        subst e
        obtain ⟨its, rv, p, _⟩ := I.tuple h1
        cases rx with
        | cons a b =>
          cases a
          exact tup_sum (I.ok.hd hc) p rv.ints fun h' tk t' hk => ⟨.int _, H, I.kept hk, ⟨_, rfl⟩, hq _ H .refl si (.int _)⟩
  · cases q : rdOf d S with
    | none => rw [q] at hf; cases hf
    | some l =>
      rw [q] at hf
      cases q2 : isInts l with
      | none => simp only [Option.bind_some, q2] at hf; cases hf
      | some ns =>
        simp only [Option.bind_some, q2] at hf; cases hf
        obtain ⟨a, vs, rfl, h1, h2⟩ := rd_at si hx q
        have e := ints_of h2 q2
        subst e
        exact cr_sum hc pins s σ H _ _ Q I rx ⟨a, ns, rfl, h1, hq _ H .refl si (.int _)⟩
theorem b_tup : CallR X (.type "tuple") (rOL X.K (f1 gTup)) := c1 fun pins s σ H x u Q d S m r I rx si hx hf hq => by
  unfold gTup at hf
  split at hf
  · cases hf
    cases hx with
    | tup h1 hd h2 => exact call_tuple_of pins s σ H _ _ Q I rx ⟨_, _, rfl, .inr ⟨h1, hq _ H .refl si (.tup h1 hd h2)⟩⟩
  · cases q : rdOf d S with
    | none => rw [q] at hf; cases hf
    | some l =>
      rw [q] at hf; cases hf
      obtain ⟨a, vs, rfl, h1, h2⟩ := rd_at si hx q
      exact call_tupF pins s σ H _ _ Q I rx ⟨a, vs, rfl, h1, fun l o hl ho => hq _ _ (.new hl) (si.new hl) (tupF ho (h2.to (.new hl)))⟩
theorem b_lst : CallR X (.type "list") (rOL X.K (f1 gLst)) := c1 fun pins s σ H x u Q d S m r I rx si hx hf hq => by
  unfold gLst at hf
  split at hf
  · cases hf
    cases hx with
    | tup h1 hd h2 => exact call_list_of pins s σ H _ _ Q I rx ⟨_, _, rfl, .inr h1, fun l hl => hq _ _ (.new hl) (si.new hl) (.lst upd_same (si.off hl) (h2.to (.new hl)))⟩
  · cases q : rdOf d S with
    | none => rw [q] at hf; cases hf
    | some l =>
      rw [q] at hf; cases hf
      obtain ⟨a, vs, rfl, h1, h2⟩ := rd_at si hx q
      exact call_list_of pins s σ H _ _ Q I rx ⟨a, vs, rfl, .inl h1, fun l hl => hq _ _ (.new hl) (si.new hl) (.lst upd_same (si.off hl) (h2.to (.new hl)))⟩
theorem b_max2 (hc : X.calm = true) : CallR X (.builtin "max") (rOL X.K fMax2) := by
  intro pins s σ H xs us Q I rx ⟨ds, S, m, r, si, hx, hf, hq⟩
  unfold fMax2 at hf
  split at hf
  · cases hf
    cases hx with
    | cons a b =>
      cases b with
      | cons b c =>
        cases a; cases b; cases c
        exact call_max2 hc pins s σ H _ _ Q I rx ⟨_, _, rfl, hq _ H .refl si (.int _)⟩
  · cases hf
theorem b_min2 (hc : X.calm = true) : CallR X (.builtin "min") (rOL X.K fMin2) := by
  intro pins s σ H xs us Q I rx ⟨ds, S, m, r, si, hx, hf, hq⟩
  unfold fMin2 at hf
  split at hf
  · cases hf
    cases hx with
    | cons a b =>
      cases b with
      | cons b c =>
        cases a; cases b; cases c
        exact call_min2 hc pins s σ H _ _ Q I rx ⟨_, _, rfl, hq _ H .refl si (.int _)⟩
  · cases hf
theorem b_divmod : CallR X (.builtin "divmod") (rOL X.K fDivmod) := by
  intro pins s σ H xs us Q I rx ⟨ds, S, m, r, si, hx, hf, hq⟩
  unfold fDivmod at hf
  split at hf
  · rename_i i j
    by_cases hl : 0 < j ∧ j < 1073741824
    · rw [if_pos hl] at hf
      cases hf
      cases hx with
      | cons a b =>
        cases b with
        | cons b c =>
          cases a; cases b; cases c
          exact call_divmod pins s σ H _ _ Q I rx ⟨_, _, rfl, hl, fun p hp => hq _ _ (.new hp) (si.new hp) (.tup (.inl (.inl upd_same)) (fun z => by cases z) (.cons (.int _) (.cons (.int _) .nil)))⟩
    · rw [if_neg hl] at hf; cases hf
  · cases hf
end
end Ag

namespace Ag
open PySem L2
/-! ### repr -/
def gRepr (d : D) (S : Sto) : Option D := match pyS d S with
  | some p => if p.showable = true ∧ p.hasDict = false ∧ p.depth ≤ 60 ∧ p.shown.length ≤ lineN then some (.str p.shown) else none
  | none => none
section
variable {X : Cx} {W : WX} {j : Nat}
theorem b_repr (B : Bd X W j) : CallR X (.builtin "repr") (rOL X.K (f1 gRepr)) := c1 fun pins s σ H x u Q d S m r I rx si hx hf hq => by
  unfold gRepr at hf
  cases q : pyS d S with
  | none => rw [q] at hf; cases hf
  | some p =>
    rw [q] at hf
    simp only at hf
    by_cases hl : p.showable = true ∧ p.hasDict = false ∧ p.depth ≤ 60 ∧ p.shown.length ≤ lineN
    · rw [if_pos hl] at hf
      cases hf
      have hsz : p.shown.length ≤ sizeLine := by rw [← line_eq]; exact hl.2.2.2
      have fin : ∀ {s' : Shared} {t : Tok}, L2.Inv X pins σ H s' → EP X pins σ Q (.str p.shown t) s' := fun I' => ⟨.str _, H, I', ⟨_, rfl⟩, hq _ H .refl si (.str _)⟩
      have hun := B.room.units
      have dp := dpS_of si hx q
      cases rx with
      | cons rx _ =>
        cases dp with
        | non => cases rx; exact PySem.P.repr_of_none (fin (I.tok _))
        | bl b => cases rx; exact PySem.P.repr_of_bool (fin (I.tok _))
        | int i =>
          obtain ⟨t, rfl⟩ := rx
          have h1 : i.natAbs.log2 < 1920 := by have := hl.1; simpa [PyData.showable] using this
          exact PySem.P.repr_of_int h1 (fin (I.tok _))
        | str z => obtain ⟨t, rfl⟩ := rx; exact PySem.P.repr_of_str (fin (I.tok _)) hsz
        | lst h1 h2 =>
          obtain ⟨as, rd⟩ := Dp.reads I _ _ _ (.lst h1 h2) rx
          cases rx
          exact repr_of_reads' rd hl.1 (fun z => by rw [hl.2.1] at z; cases z) B.gd (by have := hl.2.2.1; omega) (fun _ _ e => e) (fun h' u tk hk => fin (I.kept hk)) hsz
        | tup h1 h2 =>
          obtain ⟨as, rd⟩ := Dp.reads I _ _ _ (.tup h1 h2) rx
          cases rx
          exact repr_of_reads' rd hl.1 (fun z => by rw [hl.2.1] at z; cases z) B.gd (by have := hl.2.2.1; omega) (fun _ _ e => e) (fun h' u tk hk => fin (I.kept hk)) hsz
    · rw [if_neg hl] at hf; cases hf

/-! ### isinstance -/
inductive Ty where
  | b (n : String) | o (c : Str)
  deriving DecidableEq
def tyOf (d : D) (S : Sto) : Option Ty := match d with
  | .non => some (.b "NoneType")
  | .bl _ => some (.b "bool")
  | .int _ => some (.b "int")
  | .str _ => some (.b "str")
  | .tup _ => some (.b "tuple")
  | .lst _ => some (.b "list")
  | .obj c _ _ => some (.o c)
  | .ref i => (match S[i]? with
    | some (.lst _) => some (.b "list")
    | some (.ins c _ _) => some (.o c)
    | _ => none)
  | _ => none
def clD : D → Option Ty
  | .ty n => some (.b n)
  | .gl x => some (.o x)
  | _ => none
def Ty.val (K : PySem.W.Frag) : Ty → Value
  | .b n => .type n
  | .o c => .ref (He.ga K c)
/-- what is known of classes: the instances of own classes (cs), the answers (tab) -/
structure Iso (K : PySem.W.Frag) (cs : List Str) (tab : List (Ty × Ty × Bool)) : Prop where
  own : ∀ c ∈ cs, Cls K (He.ga K c) ∧ PySem.W.findIn K (.ref (He.ga K c)) "__class__" = some (some (.builtin "object.__class__")) ∧
    PySem.W.specialIn K (.builtin "object.__class__") "__get__" = some (some (.builtin "getset_descriptor.__get__")) ∧ PySem.W.takesIn K (.builtin "object.__class__") = some true ∧ PySem.W.mroIn K (He.ga K c) (.type "object") = some true
  ans : ∀ r ∈ tab, PySem.W.kitOne K (r.1.val K) (r.2.1.val K) = some r.2.2
def look2 (t c : Ty) : List (Ty × Ty × Bool) → Option Bool
  | [] => none
  | r :: l => if r.1 = t ∧ r.2.1 = c then some r.2.2 else look2 t c l
theorem look2_mem {t c : Ty} {b : Bool} : ∀ {l : List (Ty × Ty × Bool)}, look2 t c l = some b → (t, c, b) ∈ l
  | [], h => by cases h
  | r :: l, h => by
    simp only [look2] at h
    by_cases e : r.1 = t ∧ r.2.1 = c
    · rw [if_pos e] at h
      obtain ⟨r1, r2, r3⟩ := r
      obtain ⟨e1, e2⟩ := e
      cases h
      simp only at e1 e2
      subst e1 e2
      exact List.mem_cons_self
    · rw [if_neg e] at h
      exact List.mem_cons_of_mem _ (look2_mem h)
def fIsi (cs : List Str) (tab : List (Ty × Ty × Bool)) : List D → Sto → Option D
  | [d, c], S => match tyOf d S, clD c with
    | some (.o k), some u => if k ∈ cs then (look2 (.o k) u tab).map .bl else none
    | some t, some u => (look2 t u tab).map .bl
    | _, _ => none
  | _, _ => none
theorem tyX_of {K : PySem.W.Frag} {m : Mp} {H : Hp} {S : Sto} {v : V} {d : D} {t : Ty} {cs : List Str} {tab : List (Ty × Ty × Bool)} (is : Iso K cs tab) (si : Sim K m S H) (r : Rep K m H v d) (h : tyOf d S = some t) (hc : ∀ k, t = .o k → k ∈ cs) : TyX K H v (t.val K) := by
  have ins : ∀ {a dx : Addr} {c : Str} {fs : List (Str × V)}, H a = some (.ins (He.ga K c) dx fs) → c ∈ cs → TyX K H (.ref a) (.ref (He.ga K c)) := fun ha hcs => by
    obtain ⟨h1, h2, h3, h4, h5⟩ := is.own _ hcs
    exact .base (.ins ha h1 h2 h3 h4 h5)
  cases r with
  | non => cases h; exact .base .non
  | bl b => cases h; exact .base (.bl b)
  | int i => cases h; exact .base (.int i)
  | str x => cases h; exact .base (.str x)
  | ty n => cases h
  | gl x => cases h
  | tup h1 hd h2 =>
    cases h
    rcases h1 with (h1 | ⟨o, h1⟩) | ⟨o, its, n, h1, h3, _⟩
    · exact .base (.tup h1)
    · exact .fTuple h1
    · exact .kTuple h1 h3
  | lst h1 h2 h3 => cases h; exact .base (.lst h1)
  | scr h1 h2 => cases h
  | obj h1 h2 h3 h4 => cases h; exact ins h1 (hc _ rfl)
  | dct h1 h2 h3 h4 => cases h
  | ref h1 =>
    rename_i a i
    simp only [tyOf] at h
    cases q : S[i]? with
    | none => rw [q] at h; cases h
    | some o =>
      rw [q] at h
      have c := si.cell i a o h1 q
      cases o with
      | lst l => cases h; obtain ⟨vs, g1, _⟩ := c; exact .base (.lst g1)
      | ins c' ns l => cases h; obtain ⟨dx, fs, g1, _⟩ := c; exact ins g1 (hc _ rfl)
      | dic kvs => cases h
theorem b_isi {cs : List Str} {tab : List (Ty × Ty × Bool)} (is : Iso X.K cs tab) : CallR X (.builtin "isinstance") (rOL X.K (fIsi cs tab)) := by
  intro pins s σ H xs us Q I rx ⟨ds, S, m, r, si, hx, hf, hq⟩
  unfold fIsi at hf
  split at hf
  · rename_i d c
    cases hx with
    | cons r1 b =>
      cases b with
      | cons r2 b =>
        cases b
        rename_i x y
        have cl : ∀ u, clD c = some u → ClsV y (u.val X.K) := fun u hu => by
          cases r2 with
          | ty n => cases hu; exact .ty n
          | gl z => cases hu; exact .own _
          | _ => cases hu
        have go : ∀ t u b, tyOf d S = some t → clD c = some u → (∀ k, t = .o k → k ∈ cs) → look2 t u tab = some b → r = .bl b → wpAny (model X.prog X.w) X.A (call (.builtin "isinstance") us) (EP X pins σ Q) X.xe s := fun t u b h1 h2 h3 h4 h5 => by
          subst h5
          exact call_isi pins s σ H _ _ Q I rx ⟨x, y, t.val X.K, u.val X.K, b, rfl, cl u h2, tyX_of is si r1 h1 h3, is.ans _ (look2_mem h4), hq _ H .refl si (.bl b)⟩
        split at hf
        · rename_i k u q1 q2
          by_cases hk : k ∈ cs
          · rw [if_pos hk] at hf
            cases q3 : look2 (.o k) u tab with
            | none => rw [q3] at hf; cases hf
            | some b => rw [q3] at hf; exact go _ u b q1 q2 (fun k' e => by cases e; exact hk) q3 (Option.some.inj hf).symm
          · rw [if_neg hk] at hf; cases hf
        · rename_i t u hn q1 q2
          cases q3 : look2 t u tab with
          | none => rw [q3] at hf; cases hf
          | some b => rw [q3] at hf; exact go t u b q1 q2 (fun k' e => by subst e; exact (hn k' rfl).elim) q3 (Option.some.inj hf).symm
        · cases hf
  · cases hf

/-! ### len of an instance, by its __len__ -/
def rOR (K : PySem.W.Frag) (f : List D → Sto → Res D) : List V → Hp → VK → Prop := fun xs H Q => ∃ ds S m, Sim K m S H ∧ Reps K m H xs ds ∧ PostG K W0 (Rep K) [] m H (f ds S) Q
def mCR (f : List D → Sto → Res D) (mr : AM) : EM := fun en S => (mr en S).bind fun ds S1 => match f ds S1 with
  | .ok r S2 => .ok r S2
  | _ => .stuck
theorem e_cr {x : Str} {id : String} {f : List D → Sto → Res D} {e : Expr} {es : List Expr} {mr : AM} {p pos : Pos} (hc : CallR X (.builtin id) (rOR X.K f)) (hg : Gl X x) (hm : X.mg x = none) (hv : bootBuiltins x = some (.builtin id)) (ha : PA X (e :: es) (tA X.K W mr))
    (hn : x ≠ "__name__" := by decide) (hd : (x == ("__debug__" : Str)) = false := by decide) (hs : starEach (e :: es) X.env = (false, eval e X.env) :: starEach es X.env := by rfl) (hb : (backTo pos (starEach es X.env)).any (·.1) = false := by rfl) :
    PE X (.Call (.Name x p) (e :: es) [] pos) (tE X.K W (mCR f mr)) := by
  refine PE.imp (pe_callB hc hg hm hv ha hn hd hs hb) ?_
  rintro σ H Q ⟨en, S, m, er, si, h⟩
  refine ⟨en, S, m, er, si, (PostG.bind (R := Reps X.K) h).mono ?_⟩
  rintro vs H1 ⟨ds, S1, m1, e1, s1, r1, h1⟩
  refine ⟨ds, S1, m1, s1, r1, ?_⟩
  cases q : f ds S1 with
  | ok r S2 => simp only [q] at h1; exact h1
  | exc c fs S2 => simp only [q] at h1; exact h1.elim
  | stuck => simp only [q] at h1; exact h1
def lenF (c : Str) (fm : List D → Sto → Res D) : List D → Sto → Res D
  | [d], S => match clsD d S with
    | some c' => if c' = c then (match fm [d] S with
      | .ok (.int n) S' => if 0 ≤ n ∧ n < 2 ^ 63 then .ok (.int n) S' else .stuck
      | _ => .stuck) else .stuck
    | none => ofO (gLen d S) S
  | _, _ => .stuck
theorem b_lenO {k : Nat} {c : Str} {f : Addr} {fd : FuncData} {ps : List Str} {fm : List D → Sto → Res D} (B : Bd X W j) (hl : PySem.W.findIn X.K (.ref (He.ga X.K c)) "__len__" = some (some (.ref f))) (hfn : PySem.W.isFn X.K (.ref f) = true) (F : FnG X.prog X.w X.K X.mg X.base k f fd ps (spOf X.K 1 fm)) (hk : k + 1 ≤ j) (hb : Binds X.K fd ps []) :
    CallR X (.builtin "len") (rOR X.K (lenF c fm)) := by
  intro pins s σ H xs us Q I rx ⟨ds, S, m, si, hx, h⟩
  cases hx with
  | nil => exact h.elim
  | cons r1 r2 =>
    cases r2 with
    | cons r2 r3 => exact h.elim
    | nil =>
      rename_i v d
      simp only [lenF] at h
      cases q : clsD d S with
      | none =>
        simp only [q] at h
        cases q2 : gLen d S with
        | none => rw [q2] at h; exact h.elim
        | some r => rw [q2] at h; exact b_len pins s σ H _ _ Q I rx ⟨[d], S, m, r, si, .cons r1 .nil, q2, fun v H' e' s' r' => h v m H' e' s' r'⟩
      | some c' =>
        simp only [q] at h
        by_cases hc : c' = c
        · rw [if_pos hc] at h
          subst hc
          obtain ⟨a, dx, fs, rfl, g1⟩ := cls_at si r1 q
          cases rx with
          | cons ra rb =>
            cases ra; cases rb
            obtain ⟨mA, O, _, _, _, _⟩ := ins_get I.hok g1
            obtain ⟨od, J, _⟩ := O.look
            obtain ⟨mf, Fr⟩ := I.fr
            refine PySem.W.len_K Fr I.mod.kin J hl hfn ?_
            have hsp : spOf X.K 1 fm [.ref a] H (fun v H' => ∃ n : Int, v = .int n ∧ (0 ≤ n ∧ n < 2 ^ 63) ∧ Q (.int n) H') fun _ _ _ => False := ⟨rfl, [d], S, m, .cons r1 .nil, si, by
              cases q2 : fm [d] S with
              | stuck => simp only [q2] at h; exact h
              | exc c fs S2 => simp only [q2] at h; exact h.elim
              | ok r S2 =>
                simp only [q2] at h
                intro v m' H' e' s' r'
                cases r' with
                | int n =>
                  simp only at h
                  by_cases hn : 0 ≤ n ∧ n < 2 ^ 63
                  · rw [if_pos hn] at h
                    exact ⟨n, rfl, hn, h _ m' H' e' s' (.int n)⟩
                  · rw [if_neg hn] at h; exact h.elim
                | _ => exact h.elim⟩
            have hlen : ([Value.ref a] : List Value).length = ps.length := F.len _ _ _ _ hsp
            have b := hb s [.ref a] I.kIn (by rw [List.append_nil]; exact hlen)
            rw [List.append_nil] at b
            refine wpAny_call (codeAny_mono (F.run X.A.in1 X.stack s H ⟨[.ref a], []⟩ [.ref a] [.ref a] _ (fun _ _ _ => False) B.gd (B.room.mono hk).in1 I.env0.in1 b (.cons rfl .nil) hsp) fun r s' hq => ?_)
            cases r with
            | error er =>
              obtain ⟨_, _, _, _, _, _, _, _, _, _, _, _, z⟩ := hq
              exact z.elim
            | ok fl =>
              cases fl with
              | ret u =>
                obtain ⟨v, H', I3, rv, n, rfl, hn, q3⟩ := I.after hq
                obtain ⟨t, rfl⟩ := rv
                exact ⟨hn, .int n, H', I3.tok _, ⟨_, rfl⟩, q3⟩
              | next => exact hq.elim
              | brk => exact hq.elim
              | cont => exact hq.elim
        · rw [if_neg hc] at h; exact h.elim

/-! ### methods that change a list; texts -/
def mBM (f : D → List D → Sto → Option (D × Sto)) (ok : D → Sto → Bool) (mo : EM) (mr : AM) : EM := fun en S => (mo en S).bind fun d S1 => if ok d S1 = true then (mr en S1).bind fun ds S2 => (match f d ds S2 with
  | some r => .ok r.1 r.2
  | none => .stuck) else .stuck
def rBM (K : PySem.W.Frag) (f : D → List D → Sto → Option (D × Sto)) : V → List V → Hp → VK → Prop := fun x xs H Q => ∃ d ds S m r, Sim K m S H ∧ Rep K m H x d ∧ Reps K m H xs ds ∧ f d ds S = some r ∧ ∀ v H', Ext m H m H' → Sim K m r.2 H' → Rep K m H' v r.1 → Q v H'
theorem e_bm {T id : String} {name : Str} {o e : Expr} {es : List Expr} {mo : EM} {mr : AM} {apos cpos : Pos} {f : D → List D → Sto → Option (D × Sto)} {ok : D → Sto → Bool} (pa : PlainAttrs T) (slot : Slot T name id) (hty : typeOf (.builtin id) = pure (.type "method_descriptor")) (hm : MtR X id (rBM X.K f))
    (htv : ∀ (m : Mp) (H : Hp) (S : Sto) (v : V) (d : D), Sim X.K m S H → Rep X.K m H v d → ok d S = true → tyV X.K T v H) (ho : PE X o (tE X.K W mo)) (ha : PA X (e :: es) (tA X.K W mr))
    (h1 : attributeBase o name X.env (eval o X.env) = eval o X.env := by rfl)
    (h2 : ((((backTo cpos (starEach (e :: es) X.env)).all fun x => !x.fst) && (backToKw cpos (keywordEach [] X.env)).all fun x => x.fst.isSome) && decide (((e :: es).length + ([] : List Keyword).length + if ([] : List Keyword).isEmpty = true then 0 else 1) < 30)) = true := by rfl)
    (h3 : (apos.endLine == cpos.line) = true := by rfl) (h4 : starEach (e :: es) X.env = (false, eval e X.env) :: starEach es X.env := by rfl) (h5 : (backTo cpos (starEach es X.env)).any (·.1) = false := by rfl) :
    PE X (.Call (.Attribute o name apos) (e :: es) [] cpos) (tE X.K W (mBM f ok mo mr)) := by
  refine PE.imp (pe_bm pa slot hty hm ho ha h1 h2 h3 h4 h5) ?_
  rintro σ H Q ⟨en, S, m, er, si, h⟩
  refine ⟨en, S, m, er, si, (PostG.bind (R := Rep X.K) h).mono ?_⟩
  rintro v H1 ⟨d, S1, m1, e1, s1, r1, h1⟩
  by_cases hk : ok d S1 = true
  · rw [if_pos hk] at h1
    refine ⟨htv m1 H1 S1 v d s1 r1 hk, en, S1, m1, er.to e1, s1, (PostG.bind (R := Reps X.K) h1).mono ?_⟩
    rintro vs H2 ⟨ds, S2, m2, e2, s2, r2, h2⟩
    cases q : f d ds S2 with
    | none => rw [q] at h2; exact h2.elim
    | some r =>
      rw [q] at h2
      exact ⟨d, ds, S2, m2, r, s2, r1.to e2, r2, q, fun z H3 e3 s3 r3 => h2 z m2 H3 e3 s3 r3⟩
  · rw [if_neg hk] at h1; exact h1.elim
def okLst (d : D) (S : Sto) : Bool := (lstOf d S).isSome
theorem tv_lst (m : Mp) (H : Hp) (S : Sto) (v : V) (d : D) (si : Sim X.K m S H) (r : Rep X.K m H v d) (h : okLst d S = true) : tyV X.K "list" v H := by
  unfold okLst at h
  cases q : lstOf d S with
  | none => rw [q] at h; cases h
  | some l =>
    obtain ⟨a, vs, rfl, h1, _⟩ := lst_at si r q
    exact .inl ⟨rfl, vs, .inl (.inl h1)⟩
def okStr (d : D) (_ : Sto) : Bool := match d with | .str _ => true | _ => false
theorem tv_str (m : Mp) (H : Hp) (S : Sto) (v : V) (d : D) (si : Sim X.K m S H) (r : Rep X.K m H v d) (h : okStr d S = true) : tyV X.K "str" v H := by
  cases r with
  | str x => rfl
  | _ => cases h
def fAppend : D → List D → Sto → Option (D × Sto)
  | .ref i, [d], S => match S[i]? with
    | some (.lst l) => if l.length < lineN then some (.non, S.set i (.lst (l ++ [d]))) else none
    | _ => none
  | _, _, _ => none
theorem m_append : MtR X "list.append" (rBM X.K fAppend) := by
  intro pins s σ H x xs v us Q I rx rxs ⟨d, ds, S, m, r, si, hx, hxs, hf, hq⟩
  unfold fAppend at hf
  split at hf
  · rename_i i c
    split at hf
    · rename_i l q
      by_cases hl : l.length < lineN
      · rw [if_pos hl] at hf
        cases hf
        cases hx with
        | ref hi =>
          rename_i a
          cases hxs with
          | cons r1 r2 =>
            rename_i y ys
            cases r2
            obtain ⟨vs, g1, g2⟩ := si.cell i a _ hi q
            refine mt_append pins s σ H _ _ v us Q I rx rxs ⟨a, vs, y, rfl, rfl, g1, by rw [g2.len, ← line_eq]; exact hl, ?_⟩
            have e : Ext m H m (upd H a (.lst (vs ++ [y]))) := Ext.put si (List.mem_of_getElem? hi)
            exact hq _ _ e (si.put hi ⟨_, upd_same, (g2.app (.cons r1 .nil)).to e⟩) .non
      · rw [if_neg hl] at hf; cases hf
    · cases hf
  · cases hf
def fPopAt : D → List D → Sto → Option (D × Sto)
  | .ref i, [.int j], S => match S[i]? with
    | some (.lst l) => (ixN l.length j).bind fun k => l[k]?.map fun d => (d, S.set i (.lst (l.eraseIdx k)))
    | _ => none
  | _, _, _ => none
theorem m_popAt : MtR X "list.pop" (rBM X.K fPopAt) := by
  intro pins s σ H x xs v us Q I rx rxs ⟨d, ds, S, m, r, si, hx, hxs, hf, hq⟩
  unfold fPopAt at hf
  split at hf
  · rename_i i j
    split at hf
    · rename_i l q
      cases q1 : ixN l.length j with
      | none => rw [q1] at hf; cases hf
      | some k =>
        rw [q1] at hf
        cases q2 : l[k]? with
        | none => simp only [Option.bind_some, q2] at hf; cases hf
        | some c =>
          simp only [Option.bind_some, q2, Option.map_some] at hf
          cases hf
          cases hx with
          | ref hi =>
            rename_i a
            cases hxs with
            | cons r1 r2 =>
              cases r1; cases r2
              obtain ⟨vs, g1, g2⟩ := si.cell i a _ hi q
              obtain ⟨y, g3, g4⟩ := g2.get q2
              obtain ⟨b1, b2, b3, b4⟩ := ixN_seq q1
              have hz : l.length ≤ sizeLine := by
                obtain ⟨z, _⟩ := (show ObjOk X.prog X.w H s.heap a (.lst vs) from I.hok a _ g1)
                rw [← g2.len]; exact z
              have hsl := sizeLine_eq
              refine mt_popAt pins s σ H _ _ v us Q I rx rxs ⟨a, vs, j, k, y, rfl, rfl, g1, by omega, by omega, by rw [g2.len]; exact b1, g3, ?_⟩
              have e : Ext m H m (upd H a (.lst (vs.eraseIdx k))) := Ext.put si (List.mem_of_getElem? hi)
              exact hq _ _ e (si.put hi ⟨_, upd_same, (g2.erase k).to e⟩) (g4.to e)
    · cases hf
  · cases hf
def fJoin : D → List D → Sto → Option (D × Sto)
  | .str a, [d], S => match (match d with | .tup l => some l | d => rdOf d S) with
    | some l => (isStrs l).bind fun ys => if (ys.map (·.length)).sum + ys.length * a.length ≤ lineN then some (.str (Txt.join a ys), S) else none
    | none => none
  | _, _, _ => none
theorem m_join : MtR X "str.join" (rBM X.K fJoin) := by
  intro pins s σ H x xs v us Q I rx rxs ⟨d, ds, S, m, r, si, hx, hxs, hf, hq⟩
  unfold fJoin at hf
  split at hf
  · rename_i a c
    cases hx
    cases hxs with
    | cons r1 r2 =>
      cases r2
      have go : ∀ l p vs, (SqL X.K H p vs ∨ SqT X.K H p vs) → Reps X.K m H vs l → V.ref p = _ → ((isStrs l).bind fun ys => if (ys.map (·.length)).sum + ys.length * a.length ≤ lineN then some (D.str (Txt.join a ys), S) else none) = some r → wpAny (model X.prog X.w) X.A (call (.builtin "str.join") (v :: us)) (EP X pins σ Q) X.xe s := fun l p vs h1 h2 ep hf => by
        cases q : isStrs l with
        | none => rw [q] at hf; cases hf
        | some ys =>
          rw [q] at hf
          simp only [Option.bind_some] at hf
          by_cases hl : (ys.map (·.length)).sum + ys.length * a.length ≤ lineN
          · rw [if_pos hl] at hf
            cases hf
            have e := strs_of h2 q
            subst e
            exact mt_join pins s σ H _ _ v us Q I rx rxs ⟨a, p, ys, rfl, by rw [ep], h1, hl, hq _ H .refl si (.str _)⟩
          · rw [if_neg hl] at hf; cases hf
      split at hf
      · rename_i l q
        split at q
        · cases q
          cases r1 with
          | tup h1 hd h2 => exact go _ _ _ (.inr h1) h2 rfl hf
        · obtain ⟨p, vs, ep, h1, h2⟩ := rd_at si r1 q
          exact go _ p vs (.inl h1) h2 ep.symm hf
      · cases hf
  · cases hf
def fSplit : D → List D → Sto → Option (D × Sto)
  | .str a, [.str b], S => if b.length ≠ 0 ∧ a.length + 2 ≤ lineN then some (.lst ((Txt.split a b).map .str), S) else none
  | _, _, _ => none
theorem reps_strs {K : PySem.W.Frag} {m : Mp} {H : Hp} : ∀ ys : List Str, Reps K m H (ys.map V.str) (ys.map D.str)
  | [] => .nil
  | y :: ys => .cons (.str y) (reps_strs ys)
theorem m_split : MtR X "str.split" (rBM X.K fSplit) := by
  intro pins s σ H x xs v us Q I rx rxs ⟨d, ds, S, m, r, si, hx, hxs, hf, hq⟩
  unfold fSplit at hf
  split at hf
  · rename_i a b
    by_cases hl : b.length ≠ 0 ∧ a.length + 2 ≤ lineN
    · rw [if_pos hl] at hf
      cases hf
      cases hx
      cases hxs with
      | cons r1 r2 =>
        cases r1; cases r2
        exact mt_split pins s σ H _ _ v us Q I rx rxs ⟨a, b, rfl, rfl, beq_eq_false_iff_ne.mpr hl.1, by rw [← line_eq]; exact hl.2, fun p hp => hq _ _ (.new hp) (si.new hp) (.lst upd_same (si.off hp) (reps_strs _))⟩
    · rw [if_neg hl] at hf; cases hf
  · cases hf

/-! ### what is never come to; a try that runs through -/
def sStuck : SM := fun _ _ => .stuck
theorem s_never {st : Stmt} : PS X st (tS X.K W sStuck) := PS.imp ps_never fun E σ H ⟨_, _, _, _, _, h⟩ => h
theorem ss_never {st : List Stmt} : PSs X st (tS X.K W sStuck) := PSs.imp pss_never fun E σ H ⟨_, _, _, _, _, h⟩ => h
def mStuck : EM := fun _ _ => .stuck
def sTryQ (b : SM) : SM := fun en S => match b en S with
  | .exc _ _ _ _ => .stuck
  | r => r
theorem bd_nox (B : Bd X W j) : Bd X.nox W0 j := ⟨takes0, PassesOwn.never, B.calm, B.room, B.gd⟩
theorem s_tryQ {body : List Stmt} {h0 : ExceptHandler} {hs : List ExceptHandler} {b : SM} {pos : Pos} (hb : PSs X.nox body (tS X.K W0 b)) : PS X (.Try body (h0 :: hs) [] [] pos) (tS X.K W (sTryQ b)) := by
  refine PS.imp (ps_try_thru0 hb) ?_
  rintro E σ H ⟨en, S, m, er, si, h⟩
  refine ⟨en, S, m, er, si, ?_⟩
  unfold sTryQ at h
  cases q : b en S with
  | exc c fs en1 S1 => rw [q] at h; exact h.elim
  | _ => rw [q] at h; exact h
end
end Ag

namespace Ag
open PySem L2
section
variable {X : Cx} {W : WX} {e : Expr} {es : List Expr} {pos : Pos} {mr : AM}
/-! ### a, b = x, y -/
def lS (r : Res (List D)) (en : En) (k : List D → Sto → SRes) : SRes := match r with
  | .ok d S => k d S
  | .exc c fs S => .exc c fs en S
  | .stuck => .stuck
theorem lS_to {m : Mp} {H : Hp} {σ : L2.St} {r : Res (List D)} {en : En} {k : List D → Sto → SRes} {E : Ends} (er : EnvR X.K m H σ en) (h : SPost X.K W m H (lS r en k) E) :
    PostL X.K W σ m H r (fun v H1 => ∃ d S1 m1, Ext m H m1 H1 ∧ Sim X.K m1 S1 H1 ∧ Reps X.K m1 H1 v d ∧ SPost X.K W m1 H1 (k d S1) E) := by
  cases r with
  | ok d S => exact fun v m1 H1 e s r1 => ⟨d, S, m1, e, s, r1, h.to e⟩
  | exc c fs S => exact fun od m1 H1 e s x => h σ od m1 H1 e s (er.to e) x
  | stuck => exact h
def sPar (i j : Nat) (mr : AM) : SM := fun en S => lS (mr en S) en fun ds S1 => match ds with
  | [a, b] => .next ((en.set i (some a)).set j (some b)) S1
  | _ => .stuck
def sPar3 (i j l : Nat) (mr : AM) : SM := fun en S => lS (mr en S) en fun ds S1 => match ds with
  | [a, b, c] => .next (((en.set i (some a)).set j (some b)).set l (some c)) S1
  | _ => .stuck
theorem s_par {i j : Nat} {x y : Str} {a b : Expr} {px py pt : Pos} {kt k2 pt2} (hc : X.calm = true) (hN : X.N.Nodup) (hi : X.N[i]? = some x) (hj : X.N[j]? = some y) (hij : i ≠ j)
    (hx : X.env.scope.names.lookup x = some .local) (hy : X.env.scope.names.lookup y = some .local) (ha : PA X [a, b] (tA X.K W mr))
    (hw : swappedStores [.Tuple [.Name x px, .Name y py] kt pt] (.Tuple [a, b] k2 pt2) X.env = pure (some [x, y]))
    (hs : swapsWithSole [.Tuple [.Name x px, .Name y py] kt pt] (.Tuple [a, b] k2 pt2) pos.line X.env = pure false := by rfl) :
    PS X (.Assign [.Tuple [.Name x px, .Name y py] kt pt] (.Tuple [a, b] k2 pt2) pos) (tS X.K W (sPar i j mr)) := by
  refine PS.imp (ps_par hc hN hi hj hij hx hy ha hw hs) ?_
  rintro E σ H ⟨en, S, m, er, si, h⟩
  refine ⟨en, S, m, er, si, (lS_to er h).mono ?_⟩
  rintro v H1 ⟨d, S1, m1, e1, s1, r1, h1⟩
  cases r1 with
  | nil => exact h1.elim
  | cons p1 q1 =>
    cases q1 with
    | nil => exact h1.elim
    | cons p2 q2 =>
      cases q2 with
      | cons p3 q3 => exact h1.elim
      | nil => exact ⟨_, _, rfl, h1 _ m1 H1 .refl s1 (((er.to e1).set p1).set p2)⟩
theorem s_par3 {i j l : Nat} {x y z : Str} {a b c : Expr} {px py pz pt : Pos} {kt k2 pt2} (hc : X.calm = true) (hN : X.N.Nodup) (hi : X.N[i]? = some x) (hj : X.N[j]? = some y) (hl : X.N[l]? = some z) (hij : i ≠ j) (hil : i ≠ l) (hjl : j ≠ l)
    (hx : X.env.scope.names.lookup x = some .local) (hy : X.env.scope.names.lookup y = some .local) (hz : X.env.scope.names.lookup z = some .local) (ha : PA X [a, b, c] (tA X.K W mr))
    (hw : swappedStores [.Tuple [.Name x px, .Name y py, .Name z pz] kt pt] (.Tuple [a, b, c] k2 pt2) X.env = pure (some [x, y, z]))
    (hs : swapsWithSole [.Tuple [.Name x px, .Name y py, .Name z pz] kt pt] (.Tuple [a, b, c] k2 pt2) pos.line X.env = pure false := by rfl) :
    PS X (.Assign [.Tuple [.Name x px, .Name y py, .Name z pz] kt pt] (.Tuple [a, b, c] k2 pt2) pos) (tS X.K W (sPar3 i j l mr)) := by
  refine PS.imp (ps_par3 hc hN hi hj hl hij hil hjl hx hy hz ha hw hs) ?_
  rintro E σ H ⟨en, S, m, er, si, h⟩
  refine ⟨en, S, m, er, si, (lS_to er h).mono ?_⟩
  rintro v H1 ⟨d, S1, m1, e1, s1, r1, h1⟩
  cases r1 with
  | nil => exact h1.elim
  | cons p1 q1 =>
    cases q1 with
    | nil => exact h1.elim
    | cons p2 q2 =>
      cases q2 with
      | nil => exact h1.elim
      | cons p3 q3 =>
        cases q3 with
        | cons p4 q4 => exact h1.elim
        | nil => exact ⟨_, _, _, rfl, h1 _ m1 H1 .refl s1 ((((er.to e1).set p1).set p2).set p3)⟩
end
end Ag

namespace Ag
open PySem PySem.Spec PyProof.Rows L2
/-! ### the law's end, for promises that want no repr around them -/
theorem law_G {Pg : Program} {wd : World} {Kf : PySem.W.Frag} {gm bm : Str → Option Value} {lv : Nat} {fa sa : Addr} {fd : FuncData} {par : Str} {pr : Sp} {t : Shared} {us : List Value} {ns : List Int}
    (kin : Kf.In t.heap) (gns : t.heap.Ns mainGlobals gm) (bns : t.heap.Ns builtinsNs bm) (bbt : ∀ z : Str, z ≠ "__name__" → bm z = bootBuiltins z) (nol : t.heap.NoLimit) (gens : t.gens = #[])
    (obj : t.heap.get? sa = some { cls := .type "list", data := .seq us.toArray }) (isn : IntsAre us ns) (len : ns.length ≤ sizeLine) (room : Room lv callerA)
    (prom : ∀ low : Heap, Kf.In low → low.Ns mainGlobals gm → FnG Pg wd Kf gm low lv fa fd [par] pr) (bind : ∀ (z : Shared) (u : Value), BindsTo z fd ⟨[u], []⟩ [(par, u)])
    (good : ∀ A : Hp, Only A → SqL Kf A sa (ns.map V.int) → pr [.ref sa] A (fun v _ => v = .bl true) fun _ _ _ => False) :
    codeAny (model Pg wd) callerA (.call (.ref fa) ⟨[.ref sa], []⟩) (fun r z => r = .ok (.ret (.bool true)) ∧ OldK t.heap z.heap ∧ z.os = t.os ∧ AllBare z.gens) t := by
  have start : ∀ A : Hp, Only A → SqL Kf A sa (ns.map V.int) → HOk Pg wd A t.heap → (∀ c, A c ≠ none → c = sa) → (A sa ≠ none → Kf.lookup sa = none) →
      codeAny (model Pg wd) callerA (.call (.ref fa) ⟨[.ref sa], []⟩) (fun r z => r = .ok (.ret (.bool true)) ∧ OldK t.heap z.heap ∧ z.os = t.os ∧ AllBare z.gens) t := by
    intro A only sq ok one alien
    have stay : ∀ {c : Addr} {u : Obj}, t.heap.get? c = some u → A c = none → (hidT t.heap A).get? c = some u := fun e n => hidT_get e n
    have dictOut : ∀ {c : Addr} {u : Obj} {es : Array DictEntry} {n : Nat}, t.heap.get? c = some u → u.data = .dict es n → A c = none := fun {c u es n} e d => by
      cases q : A c with
      | none => rfl
      | some z =>
        obtain rfl : c = sa := one c (by rw [q]; simp)
        rw [obj] at e; cases e
        nomatch (show Data.seq us.toArray _ = Data.dict es n from d)
    have under : ∀ {c : Addr} {g : Str → Option Value}, t.heap.Ns c g → (hidT t.heap A).Ns c g := fun {c g} ⟨u, es, n, e, d, r⟩ => ⟨u, es, n, stay e (dictOut e d), d, r⟩
    have kin2 : Kf.In (hidT t.heap A) := fun c u e => stay (kin c u e) (by
      cases q : A c with
      | none => rfl
      | some z =>
        obtain rfl : c = sa := one c (by rw [q]; simp)
        rw [alien (by rw [q]; simp)] at e; cases e)
    obtain ⟨lc, n1, n2⟩ := nol
    have md : Mod Kf gm (hidT t.heap A) := ⟨kin2, under gns, ⟨bm, under bns, bbt⟩, lc, under n1, n2⟩
    have ev : Env0 Pg wd Kf gm (hidT t.heap A) callerA [] t A := ⟨rfl, md, fun c u e => of_hidT e, Nat.le_of_eq (hidT_size _ _), trivial, fun c hc => (nomatch (show c ∈ ([] : List Addr) from hc)), ok, .of_eq gens⟩
    refine codeAny_mono ((prom _ kin2 (under gns)).run callerA [] t A ⟨[.ref sa], []⟩ [.ref sa] [.ref sa] _ _ rfl room ev (bind t (.ref sa)) (.cons rfl .nil) (good A only sq)) fun r z h => ?_
    cases r with
    | error e =>
      obtain ⟨_, _, _, _, _, _, _, _, _, _, _, _, no⟩ := (show L2.CX Pg wd [] A t (fun _ _ _ => False) e z from h)
      exact no.elim
    | ok fl =>
      cases fl with
      | next => exact False.elim h
      | brk => exact False.elim h
      | cont => exact False.elim h
      | ret u =>
        obtain ⟨v, A2, os, bare, un, ok2, rel, q⟩ := h
        obtain rfl : v = .bl true := q
        obtain rfl : u = Value.bool true := rel
        refine ⟨rfl, OldK.of_keep fun c o e => ?_, os, bare⟩
        cases q : A c with
        | none => exact un.keep c o e q (fun y => nomatch (show c ∈ ([] : List Addr) from y)) (by simp)
        | some z2 =>
          rcases only c with y | ⟨ob, xs, y⟩
          · rw [q] at y; cases y
          · obtain ⟨e1, _⟩ := ok c _ y
            obtain ⟨e2, _⟩ := ok2 c _ (un.frzs c ob _ y)
            rw [e] at e1; cases e1
            exact e2
  cases hk : Kf.lookup sa with
  | some o =>
    have e := kin sa o hk
    rw [obj] at e
    cases e
    exact start (fun _ => none) (fun _ => .inl rfl) (.inr ⟨_, us.toArray, _, hk, rfl, rfl, rfl, by rw [List.size_toArray, isn.length]; exact len, by simpa using vals_ints isn⟩) (fun c u y => nomatch (show (none : Option HO) = some u from y)) (fun c y => absurd rfl y) fun y => absurd rfl y
  | none =>
    refine start (fun c => if c = sa then some (.frz { cls := .type "list", data := .seq us.toArray } (.lst (ns.map V.int))) else none) (fun c => ?_) (.inl (.inr ⟨{ cls := .type "list", data := .seq us.toArray }, if_pos rfl⟩)) (fun c u y => ?_) (fun c y => ?_) fun _ => hk
    all_goals by_cases hc : c = sa
    · exact .inr ⟨_, _, if_pos hc⟩
    · exact .inl (if_neg hc)
    · have y2 := (if_pos hc).symm.trans y
      cases y2
      subst hc
      exact ⟨obj, by rw [List.length_map]; exact len, us, _, vals_ints isn, obj⟩
    · nomatch (if_neg hc).symm.trans y
    · exact hc
    · exact absurd (if_neg hc) y
theorem walk_G {l : PySem.W.OpenLaw} {n lv : Nat} {q : Program} {loose : List Str} {XP : (Str → Option Value) → Heap → Prop} {YP : World → Heap → Prop} {d : DefRec} {par : Str}
    (hn : l.most = some n) (hn2 : n ≤ sizeLine) (hdf : d.params.defaults = []) (hr : Room lv callerA)
    (F : ∀ (wd : World) (gm : Str → Option Value) (fa : Addr) (h : Heap), YP wd h → h.Ns mainGlobals gm → gm d.name = some (.ref fa) →
      ∃ (Kf : PySem.W.Frag) (fd : FuncData) (pr : Sp), Kf.In h ∧ (∀ (s : Shared) (u : Value), BindsTo s fd ⟨[u], []⟩ [(par, u)]) ∧
        (∀ (A : Hp) (a : Addr) (ns : List Int), ns.length ≤ n → Only A → SqL Kf A a (ns.map V.int) → pr [.ref a] A (fun v _ => v = .bl true) fun _ _ _ => False) ∧
        ∀ low : Heap, Kf.In low → low.Ns mainGlobals gm → FnG l.prog wd Kf gm low lv fa fd [par] pr) :
    PySem.W.WalkO q loose XP YP l.row.toRowW d [] (fun f vs => PySem.call f vs) := by
  refine Att.attach_call hn hdf fun w s₀ s₁ gm bm fa o pm cd doc a vs ns G Y ho hd hcd hmg hobj hints hlen hg => ?_
  obtain ⟨Kf, fd, pr, KX, hb, hsp, hF⟩ := F w gm fa _ Y G.T.g hmg
  exact law_G KX G.T.g G.T.b G.T.builtins G.T.nolimit hg hobj hints (Nat.le_trans hlen hn2) hr hF hb fun A hO hS => hsp A a ns hlen hO hS
/-- the promise at the script -/
theorem law_sp {K : PySem.W.Frag} {f : List D → Sto → Res D} (h : ∀ ns : List Int, ns.length ≤ 63 → ∃ S, f [.scr (ns.map .int)] [] = .ok (.bl true) S) {A : Hp} {a : Addr} {ns : List Int} (hl : ns.length ≤ 63) (ho : Only A) (sq : SqL K A a (ns.map V.int)) :
    spOf K 1 f [.ref a] A (fun v _ => v = .bl true) fun _ _ _ => False := by
  obtain ⟨S, e⟩ := h ns hl
  have ri : ∀ l : List Int, Reps K ⟨[], []⟩ A (l.map V.int) (l.map D.int) := fun l => by
    induction l with
    | nil => exact .nil
    | cons i l ih => exact .cons (.int i) ih
  refine ⟨rfl, [.scr (ns.map .int)], [], ⟨[], []⟩, .cons (.scr ?_ (ri ns)) .nil, ⟨rfl, List.nodup_nil, fun i a o z => (by simp at z), fun a z => (by simp at z), fun a z => (by simp at z)⟩, ?_⟩
  · rcases sq with (q | q) | q
    · rcases ho a with z | ⟨o, xs, z⟩
      · rw [z] at q; cases q
      · rw [z] at q; cases q
    · exact .inl q
    · exact .inr fun _ => .inr q
  · rw [e]
    intro v m' H' _ _ r
    cases r with
    | bl b => rfl
end Ag

namespace Ag
open PySem PySem.Spec PyProof.Rows L2
section
variable {X : Cx} {W : WX} {e : Expr} {es : List Expr} {pos : Pos} {mr : AM}
/-! ### short words for a program that prints walks -/
theorem vr (i : Nat) {x : Str} (hN : X.N[i]? = some x := by rfl) (hv : Vis X.env.scope x := by first | exact Or.inl rfl | exact Or.inr (Or.inl rfl) | exact Or.inr (Or.inr rfl)) (hd : (x == ("__debug__" : Str)) = false := by decide) (hcd : (x == ("__classdict__" : Str)) = false := by decide) :
    PE X (.Name x pos) (tE X.K W (mVar i)) := e_var hN hv hd hcd
theorem k_int {i : Int} {j} : PE X (.Constant (.int i) j pos) (tE X.K W (mC (.int i))) := e_c pe_int fun _ _ => .int i
theorem k_bl {b : Bool} {j} : PE X (.Constant (.bool b) j pos) (tE X.K W (mC (.bl b))) := e_c pe_bl fun _ _ => .bl b
theorem k_non {j} : PE X (.Constant .none j pos) (tE X.K W (mC .non)) := e_c pe_non fun _ _ => .non
theorem k_str {x : Str} {j} : PE X (.Constant (.str x) j pos) (tE X.K W (mC (.str x))) := e_c pe_str fun _ _ => .str x
theorem g_int {x : Str} {i : Int} (h : ∃ t, X.mg x = some (.int i t)) (hg : Gl X x := by rfl) (hd : (x == ("__debug__" : Str)) = false := by decide) : PE X (.Name x pos) (tE X.K W (mC (.int i))) := by
  obtain ⟨t, h⟩ := h
  exact e_c (pe_glob (v := .int i) hg h ⟨t, rfl⟩ hd) fun _ _ => .int i
theorem g_str {x z : Str} (h : ∃ t, X.mg x = some (.str z t)) (hg : Gl X x := by rfl) (hd : (x == ("__debug__" : Str)) = false := by decide) : PE X (.Name x pos) (tE X.K W (mC (.str z))) := by
  obtain ⟨t, h⟩ := h
  exact e_c (pe_glob (v := .str z) hg h ⟨t, rfl⟩ hd) fun _ _ => .str z
theorem g_cls {x : Str} (h : X.mg x = some (.ref (He.ga X.K x))) (hg : Gl X x := by rfl) (hd : (x == ("__debug__" : Str)) = false := by decide) : PE X (.Name x pos) (tE X.K W (mC (.gl x))) :=
  e_c (pe_glob (v := .ref (He.ga X.K x)) hg h rfl hd) fun _ _ => .gl x
theorem g_ty {x : Str} {T : String} (hm : X.mg x = none) (hv : bootBuiltins x = some (.type T)) (hg : Gl X x := by rfl) (hn : x ≠ "__name__" := by decide) (hd : (x == ("__debug__" : Str)) = false := by decide) : PE X (.Name x pos) (tE X.K W (mC (.ty T))) :=
  e_c (pe_bltn (v := .ty T) hg hm hv rfl hn hd) fun _ _ => .ty T
def dvD : He.Dv → Option D
  | .non => some .non
  | .bl b => some (.bl b)
  | .int i => some (.int i)
  | .str x => some (.str x)
  | _ => none
theorem reps_dv {K : PySem.W.Frag} {m : Mp} {H : Hp} : ∀ {vs : List He.Dv} {ds : List D}, vs.map dvD = ds.map some → Reps K m H (vs.map (He.Dv.v K)) ds
  | [], [], _ => .nil
  | [], _ :: _, h => by simp at h
  | _ :: _, [], h => by simp at h
  | v :: vs, d :: ds, h => by
    simp only [List.map_cons, List.cons.injEq] at h
    refine .cons ?_ (reps_dv h.2)
    have h1 := h.1
    cases v <;> simp only [dvD, Option.some.injEq, reduceCtorEq] at h1 <;> subst h1
    · exact .non
    · exact .bl _
    · exact .int _
    · exact .str _
theorem g_tup {x : Str} {vs : List He.Dv} {ds : List D} (h : X.mg x = some (.ref (He.ga X.K x))) (hb : He.tupB X.K x vs = true) (hd : vs.map dvD = ds.map some := by rfl) (hg : Gl X x := by rfl) (hdb : (x == ("__debug__" : Str)) = false := by decide) (hn : names ds = false := by rfl) : PE X (.Name x pos) (tE X.K W (mC (.tup ds))) :=
  e_c (pe_glob (v := .ref (He.ga X.K x)) hg h rfl hdb) fun m H => .tup (He.tupB_ok hb H) (fun z => by rw [hn] at z; cases z) (reps_dv hd)
theorem kwb_of {K : PySem.W.Frag} {x qual : Str} {params : Arguments} {body : List Stmt} {scope : Scope} {f : Addr} {fd : FuncData} {ps : List Str} (F : FunD K x qual params body scope [] [] f fd) (ks : List Str) (ix : List Nat)
    (h : ∀ (kV doc pm : Value) (an : Option Addr) (cdv ct : Value) (ws : List Value), ws.length = ks.length → bindArgs (PySem.W.fnOf x qual params body scope .none kV doc pm an cdv ct) ⟨[], ks.zip ws⟩ = pure (ps.zip (pick ix ws))) : KwB K fd ps ks ix id := by
  obtain ⟨oc, od, dV, kV, doc, pm, an, cdv, ct, osl, rfl, lk, hcd, hD, hK⟩ := F.ex
  rcases hD with ⟨_, rfl⟩ | ⟨e, _⟩
  · intro s ws _ hl
    exact .of_eq (h kV doc pm an cdv ct ws hl)
  · exact absurd rfl e
end
/-! ### facts by a Bool of one's own -/
def propB (K : PySem.W.Frag) (c f : Str) (g : Addr) : Bool := match PySem.W.findIn K (.ref (He.ga K c)) f with
  | some (some (.ref p)) => decide (PySem.W.specialIn K (.ref p) "__get__" = some (some (.builtin "property.__get__"))) && (decide (PySem.W.takesIn K (.ref p) = some true) && (match PySem.W.recIn K p "property" with
    | some (v :: _) => decide (v = .ref g)
    | _ => false))
  | _ => false
theorem propB_ok {K : PySem.W.Frag} {c f : Str} {g : Addr} (h : propB K c f g = true) : ∃ p, PropOf K (He.ga K c) f p g := by
  unfold propB at h
  split at h
  · rename_i p q
    obtain ⟨h1, h2⟩ := He.ba h
    obtain ⟨h3, h4⟩ := He.ba h2
    refine ⟨p, q, of_decide_eq_true h1, of_decide_eq_true h3, ?_⟩
    split at h4
    · rename_i v r q2
      have e := of_decide_eq_true h4
      subst e
      exact ⟨r, q2⟩
    · cases h4
  · cases h
def prG (K : PySem.W.Frag) (c f : Str) : Addr := match PySem.W.findIn K (.ref (He.ga K c)) f with
  | some (some (.ref p)) => (match PySem.W.recIn K p "property" with
    | some (.ref g :: _) => g
    | _ => 0)
  | _ => 0
def ownB (K : PySem.W.Frag) (c : Str) : Bool := (He.Fa.ok K (.cls c)) && (decide (PySem.W.findIn K (.ref (He.ga K c)) "__class__" = some (some (.builtin "object.__class__"))) &&
  (decide (PySem.W.specialIn K (.builtin "object.__class__") "__get__" = some (some (.builtin "getset_descriptor.__get__"))) && (decide (PySem.W.takesIn K (.builtin "object.__class__") = some true) && decide (PySem.W.mroIn K (He.ga K c) (.type "object") = some true))))
def isoB (K : PySem.W.Frag) (cs : List Str) (tab : List (Ty × Ty × Bool)) : Bool := cs.all (ownB K) && tab.all fun r => decide (PySem.W.kitOne K (r.1.val K) (r.2.1.val K) = some r.2.2)
theorem isoB_ok {K : PySem.W.Frag} {cs : List Str} {tab : List (Ty × Ty × Bool)} (h : isoB K cs tab = true) : Iso K cs tab := by
  obtain ⟨h1, h2⟩ := He.ba h
  refine ⟨fun c hc => ?_, fun r hr => of_decide_eq_true (List.all_eq_true.mp h2 r hr)⟩
  obtain ⟨a1, a2⟩ := He.ba (List.all_eq_true.mp h1 c hc)
  obtain ⟨a2, a3⟩ := He.ba a2
  obtain ⟨a3, a4⟩ := He.ba a3
  obtain ⟨a4, a5⟩ := He.ba a4
  exact ⟨He.cls_ok a1, of_decide_eq_true a2, of_decide_eq_true a3, of_decide_eq_true a4, of_decide_eq_true a5⟩
def lenB (K : PySem.W.Frag) (c : Str) : Bool := He.eqO (PySem.W.findIn K (.ref (He.ga K c)) "__len__") (some (some (.ref (He.ma K (He.ga K c) "__len__")))) && PySem.W.isFn K (.ref (He.ma K (He.ga K c) "__len__"))
/-! ### the facts told by the head: defs at addresses of one's own -/
structure Df where
  loc : PySem.W.Frag → Addr
  name : Str
  qual : Str
  params : Arguments
  body : List Stmt
  scope : Scope
def fnSeen (K : PySem.W.Frag) (a : Addr) : He.FnW := match K.lookup a with
  | some ⟨_, _, .func z, _⟩ => some (z.name, z.qualname, z.params, z.body, z.scope, z.globals, z.closure, z.builtins)
  | _ => none
def Df.due (d : Df) : He.FnW := some (d.name, d.qual, d.params, .stmts d.body, d.scope, mainGlobals, [], builtinsNs)
def isNo : Value → Bool
  | .none => true
  | _ => false
theorem isNo_ok {v : Value} (h : isNo v = true) : v = .none := by cases v <;> first | rfl | cases h
def Df.good (K : PySem.W.Frag) (d : Df) : Bool := PySem.W.keepIn K (.ref (d.loc K)) && (match K.lookup (d.loc K) with
  | some ⟨_, _, .func z, _⟩ => PySem.W.codeIn K z.code d.qual && isNo z.defaults
  | _ => false)
abbrev FnAt (K : PySem.W.Frag) (d : Df) (fd : FuncData) : Prop := FunD K d.name d.qual d.params d.body d.scope [] [] (d.loc K) fd
theorem Df.fun_ {K : PySem.W.Frag} {d : Df} (e : fnSeen K (d.loc K) = d.due) (c : d.good K = true) : ∃ fd, FnAt K d fd := by
  obtain ⟨kp, c⟩ := He.ba c
  unfold fnSeen Df.due at e
  split at e
  · rename_i oc od z osl q
    rw [q] at c
    obtain ⟨c1, c2⟩ := He.ba c
    obtain ⟨z1, z2, z3, z4, z5, z6, z7, z8, z9, z10, z11, z12, z13, z14, z15⟩ := z
    simp only [Option.some.injEq, Prod.mk.injEq] at e
    obtain ⟨rfl, rfl, rfl, rfl, rfl, rfl, rfl, rfl⟩ := e
    obtain rfl := isNo_ok c2
    exact ⟨_, ⟨oc, od, .none, z9, z10, z11, z12, z13, z14, osl, rfl, q, c1, .inl ⟨rfl, rfl⟩, .inl rfl⟩, kp⟩
  · cases e
abbrev Seen : Type := Bool × List He.FnW
def seenK (fa : List He.Fa) (fn : List Df) (ex : PySem.W.Frag → Bool) (K : PySem.W.Frag) : Seen := ((fa.all fun f => f.ok K) && (fn.all fun d => d.good K) && ex K, fn.map fun d => fnSeen K (d.loc K))
structure Told (fa : List He.Fa) (fn : List Df) (ex : PySem.W.Frag → Bool) (K : PySem.W.Frag) : Prop where
  fa : ∀ f ∈ fa, f.ok K = true
  fn : ∀ d ∈ fn, ∃ fd, FnAt K d fd
  ex : ex K = true
theorem told_of {fa : List He.Fa} {fn : List Df} {ex : PySem.W.Frag → Bool} {K : PySem.W.Frag} (h : seenK fa fn ex K = (true, fn.map Df.due)) : Told fa fn ex K := by
  have h1 := congrArg Prod.fst h
  have h2 := congrArg Prod.snd h
  simp only [seenK, Bool.and_eq_true, List.all_eq_true] at h1 h2
  refine ⟨h1.1.1, fun d hd => Df.fun_ ?_ (h1.1.2 d hd), h1.2⟩
  obtain ⟨i, hi, e⟩ := List.mem_iff_getElem.mp hd
  have h3 := congrArg (fun l : List He.FnW => l[i]?) h2
  simp only [List.getElem?_map, List.getElem?_eq_getElem hi, e, Option.map_some, Option.some.injEq] at h3
  exact h3
def hookA (n : Nat) (fa : List He.Fa) (fn : List Df) (ex : PySem.W.Frag → Bool) : PySem.W.Hook where
  α := Seen
  obs := fun s => seenK fa fn ex (He.frG s.heap.get? (He.asD s.heap.get? n))
  val := fun _ => (true, fn.map Df.due)
  says := fun _ h => ∃ K : PySem.W.Frag, K.In h ∧ Told fa fn ex K
  of := fun _ _ e => ⟨_, He.frG_in, told_of e⟩
  keeps := fun _ _ _ ⟨K, hK, c⟩ k => ⟨K, PySem.W.Frag.In.keeps hK k, c⟩
def obA (n : Nat) (fa : List He.Fa) (fn : List Df) (ex : PySem.W.Frag → Bool) (g : Addr → Option Obj) : Seen := seenK fa fn ex (He.frG g (He.asD g n))
theorem obA_eq {n : Nat} {fa : List He.Fa} {fn : List Df} {ex : PySem.W.Frag → Bool} {g : Addr → Option Obj} {s : Shared} (h : ∀ a, g a = s.heap.get? a) : obA n fa fn ex g = (hookA n fa fn ex).obs s := by
  have e : g = s.heap.get? := funext h
  rw [e]; rfl
/-- facts and the module's names -/
structure Kn (fa : List He.Fa) (fn : List Df) (ex : PySem.W.Frag → Bool) (K : PySem.W.Frag) (mg : Str → Option Value) : Prop where
  t : Told fa fn ex K
  glo : ∀ (i : Nat) {x : Str}, fa[i]? = some (.glo x) → mg x = some (.ref (He.ga K x))
  free : ∀ (i : Nat) {x : Str}, fa[i]? = some (.free x) → mg x = none
  int : ∀ (i : Nat) {x : Str} {j : Int}, fa[i]? = some (.int x j) → ∃ t, mg x = some (.int j t)
  str : ∀ (i : Nat) {x z : Str}, fa[i]? = some (.str x z) → ∃ t, mg x = some (.str z t)
theorem kn_of {fa : List He.Fa} {fn : List Df} {ex : PySem.W.Frag → Bool} {K : PySem.W.Frag} {mg : Str → Option Value} {h : Heap} (X : K.In h) (G : h.Ns mainGlobals mg) (t : Told fa fn ex K) : Kn fa fn ex K mg :=
  ⟨t, fun i x e => He.glo_ok X G (t.fa _ (List.mem_of_getElem? e)), fun i x e => He.free_ok X G (t.fa _ (List.mem_of_getElem? e)), fun i x j e => He.int_ok X G (t.fa _ (List.mem_of_getElem? e)), fun i x z e => He.str_ok X G (t.fa _ (List.mem_of_getElem? e))⟩
section
variable {fa : List He.Fa} {fn : List Df} {ex : PySem.W.Frag → Bool} {K : PySem.W.Frag} {mg : Str → Option Value}
theorem Kn.df (C : Kn fa fn ex K mg) (i : Nat) {d : Df} (e : fn[i]? = some d) : ∃ fd, FnAt K d fd := C.t.fn d (List.mem_of_getElem? e)
theorem Kn.ok (C : Kn fa fn ex K mg) (i : Nat) {f : He.Fa} (e : fa[i]? = some f) : f.ok K = true := C.t.fa f (List.mem_of_getElem? e)
end
end Ag

namespace Ag
open PySem PySem.Spec PyProof.Rows L2
def clsBody (s : Stmt) : List Stmt := match s with
  | .ClassDef _ _ _ b _ _ _ _ _ _ _ => b
  | _ => []
theorem same_fd {K : PySem.W.Frag} {d : Df} {fd fd2 : FuncData} (a : FnAt K d fd) (b : FnAt K d fd2) : fd = fd2 := by
  obtain ⟨_, _, _, _, _, _, _, _, _, _, _, e1, _⟩ := a.ex
  obtain ⟨_, _, _, _, _, _, _, _, _, _, _, e2, _⟩ := b.ex
  rw [e1] at e2
  simp only [Option.some.injEq, Obj.mk.injEq, Data.func.injEq] at e2
  exact e2.2.2.1
theorem bt_len : bootBuiltins "len" = some (.builtin "len") := by decide +kernel
theorem bt_abs : bootBuiltins "abs" = some (.builtin "abs") := by decide +kernel
theorem bt_all : bootBuiltins "all" = some (.builtin "all") := by decide +kernel
theorem bt_any : bootBuiltins "any" = some (.builtin "any") := by decide +kernel
theorem bt_sum : bootBuiltins "sum" = some (.builtin "sum") := by decide +kernel
theorem bt_max : bootBuiltins "max" = some (.builtin "max") := by decide +kernel
theorem bt_min : bootBuiltins "min" = some (.builtin "min") := by decide +kernel
theorem bt_divmod : bootBuiltins "divmod" = some (.builtin "divmod") := by decide +kernel
theorem bt_repr : bootBuiltins "repr" = some (.builtin "repr") := by decide +kernel
theorem bt_isinstance : bootBuiltins "isinstance" = some (.builtin "isinstance") := by decide +kernel
theorem bt_int : bootBuiltins "int" = some (.type "int") := by decide +kernel
theorem bt_str : bootBuiltins "str" = some (.type "str") := by decide +kernel
theorem bt_bool : bootBuiltins "bool" = some (.type "bool") := by decide +kernel
theorem bt_tuple : bootBuiltins "tuple" = some (.type "tuple") := by decide +kernel
theorem bt_list : bootBuiltins "list" = some (.type "list") := by decide +kernel
def blkB (N : List Str) (sc scope : Scope) (own : List (Str × Nat)) : Bool := (scope.kind == .function) && (scope.names.all fun y => decide (scope.names.lookup y.1 = some y.2)) && (own.all fun p => decide (N[p.2]? = some p.1)) &&
  (scope.names.all fun y => !decide (y.2 = .free) || (decide (sc.names.lookup y.1 = some .cell) || decide (sc.names.lookup y.1 = some .free))) && (scope.names.all fun y => !(decide (y.2 = .local) || decide (y.2 = .cell)) || (decide (y.1 ∈ own.map (·.1)) || !decide (y.1 ∈ N)))
theorem blk_ok {N : List Str} {sc scope : Scope} {own : List (Str × Nat)} (h : blkB N sc scope own = true) : BlkOk N sc scope own := by
  simp only [blkB, Bool.and_eq_true, List.all_eq_true, decide_eq_true_eq, Bool.or_eq_true, Bool.not_eq_true', decide_eq_false_iff_not, Bool.or_eq_false_iff] at h
  obtain ⟨⟨⟨⟨h1, h2⟩, h3⟩, h4⟩, h5⟩ := h
  refine ⟨?_, h2, h3, fun y hy e => ?_, fun y hy e => ?_⟩
  · revert h1; cases scope.kind <;> first | (intro _; rfl) | (intro z; exact absurd z (by decide))
  · rcases h4 y hy with z | z
    · exact absurd e z
    · exact z
  · rcases h5 y hy with z | z
    · rcases e with e | e
      · exact absurd e z.1
      · exact absurd e z.2
    · exact z
theorem Bd.u64 {X : Cx} {W : WX} {k : Nat} (B : Bd X W k) : X.A.units + 64 < cLine := by have := B.room.un; omega
theorem Bd.u65 {X : Cx} {W : WX} {k : Nat} (B : Bd X W k) : X.A.units + 65 < cLine := by have := B.room.un; omega
theorem one_ {p : Str → Prop} {c : Str} (h : p c) : ∀ x ∈ [c], p x := fun x hx => by
  have e : x = c := by simpa using hx
  rw [e]; exact h
section
variable {X : Cx} {W : WX} {e e2 tg : Expr} {elts : List Expr} {kk : Nat} {pos p tpos : Pos} {ma mr : AM}
def rg1 : List D → Sto → Option ItD := fun ds S => match ds with | [d] => rgOf [d] S | _ => none
def rg2 : List D → Sto → Option ItD := fun ds S => match ds with | [d, c] => rgOf [d, c] S | _ => none
def en1 : List D → Sto → Option ItD := fun ds _ => match ds with | [.tup l] => some (enIt l) | [.lst l] => some (enIt l) | _ => none
theorem j_range1 (hg : Gl X "range") (hm : X.mg "range" = none) (ha : PA X [e] (tA X.K W ma)) (hs : starEach [e] X.env = [(false, eval e X.env)] := by rfl) : PI X tg (.Call (.Name "range" p) [e] [] pos) (tI X.K W (mItA rg1 ma)) := i_range1 hg hm ha hs
theorem j_range2 (hg : Gl X "range") (hm : X.mg "range" = none) (ha : PA X [e, e2] (tA X.K W ma)) (hs : starEach [e, e2] X.env = [(false, eval e X.env), (false, eval e2 X.env)] := by rfl) (hpl : starEach [e2] X.env = [(false, eval e2 X.env)] := by rfl) :
    PI X tg (.Call (.Name "range" p) [e, e2] [] pos) (tI X.K W (mItA rg2 ma)) := i_range2 hg hm ha hs hpl
theorem j_enum (hg : Gl X "enumerate") (hm : X.mg "enumerate" = none) (ha : PA X [e] (tA X.K W ma)) (hs : starEach [e] X.env = [(false, eval e X.env)] := by rfl) : PI X (.Tuple elts kk tpos) (.Call (.Name "enumerate" p) [e] [] pos) (tI X.K W (mItA en1 ma)) := i_enum hg hm ha hs
theorem j_zip (hg : Gl X "zip") (hm : X.mg "zip" = none) (ha : PA X [e, e2] (tA X.K W ma)) (hs : starEach [e, e2] X.env = (false, eval e X.env) :: starEach [e2] X.env := by rfl) (hpl : (backTo pos (starEach [e2] X.env)).any (·.1) = false := by rfl) :
    PI X (.Tuple elts kk tpos) (.Call (.Name "zip" p) [e, e2] [] pos) (tI X.K W (mItA zp2 ma)) := i_zip hg hm ha hs hpl
def mCallK (n : Nat) (ix : List Nat) (fm : List D → Sto → Res D) (mr : AM) : EM := fun en S => (mr en S).bind fun ds S1 => if ds.length = n then (if (pick ix ds).length = n then fm (pick ix ds) S1 else .stuck) else .stuck
end
/-! ### class methods -/
def cmG (K : PySem.W.Frag) (c f : Str) : Addr := match PySem.W.findIn K (.ref (He.ga K c)) f with
  | some (some (.ref p)) => (match PySem.W.recIn K p "classmethod" with
    | some (.ref g :: _) => g
    | _ => 0)
  | _ => 0
def cmP (K : PySem.W.Frag) (c f : Str) : Addr := match PySem.W.findIn K (.ref (He.ga K c)) f with
  | some (some (.ref p)) => p
  | _ => 0
def neB (K : PySem.W.Frag) (c : Str) : Bool := He.eqO (PySem.W.findIn K (.ref (He.ga K c)) "__ne__") (some (some (.builtin "object.__ne__"))) && decide (PySem.W.mroIn K (He.ga K c) (.type "object") = some true)
theorem neB_ok {K : PySem.W.Frag} {c : Str} (h : neB K c = true) : PySem.W.findIn K (.ref (He.ga K c)) "__ne__" = some (some (.builtin "object.__ne__")) ∧ PySem.W.mroIn K (He.ga K c) (.type "object") = some true := ⟨He.eqO_ok (He.ba h).1, of_decide_eq_true (He.ba h).2⟩
def dunB (K : PySem.W.Frag) (c m : Str) : Bool := He.eqO (PySem.W.findIn K (.ref (He.ga K c)) m) (some (some (.ref (He.ma K (He.ga K c) m)))) && PySem.W.isFn K (.ref (He.ma K (He.ga K c) m))
def cmB (K : PySem.W.Frag) (c f : Str) : Bool := PySem.W.readsIn K (He.ga K c) (.type "type") && (decide (PySem.W.specialIn K (.ref (He.ga K c)) "__getattribute__" = some (some (.builtin "type.__getattribute__"))) && ((match PySem.W.findCls K (.ref (He.ga K c)) (.type "type") f with
    | some (.get g a b d) => decide (g = .builtin "classmethod.__get__") && (decide (a = .ref (cmP K c f)) && (decide (b = .none) && decide (d = .ref (He.ga K c))))
    | _ => false) && ((match PySem.W.recIn K (cmP K c f) "classmethod" with
    | some (v :: _) => decide (v = .ref (cmG K c f))
    | _ => false) && PySem.W.fnIn K (cmG K c f))))
theorem cmB_ok {K : PySem.W.Frag} {c f : Str} (h : cmB K c f = true) : ClX.CRead K (He.ga K c) (.type "type") ∧ ClX.CMet K (He.ga K c) (.type "type") f (cmP K c f) (cmG K c f) := by
  obtain ⟨h1, h⟩ := He.ba h
  obtain ⟨h2, h⟩ := He.ba h
  obtain ⟨h3, h⟩ := He.ba h
  obtain ⟨h4, h5⟩ := He.ba h
  refine ⟨⟨h1, of_decide_eq_true h2⟩, ?_, ?_, h5⟩
  · split at h3
    · rename_i g a b d q
      obtain ⟨a1, h3⟩ := He.ba h3
      obtain ⟨a2, h3⟩ := He.ba h3
      obtain ⟨a3, a4⟩ := He.ba h3
      rw [q, of_decide_eq_true a1, of_decide_eq_true a2, of_decide_eq_true a3, of_decide_eq_true a4]
    · cases h3
  · split at h4
    · rename_i v r q
      rw [of_decide_eq_true h4] at q
      exact ⟨r, q⟩
    · cases h4
/-! ### a hook that sees the statics too -/
def asB (g : Addr → Option Obj) (n : Nat) : List Addr := He.asD g n ++ [cStatics]
def hookB (n : Nat) (fa : List He.Fa) (fn : List Df) (ex : PySem.W.Frag → Bool) : PySem.W.Hook where
  α := Seen
  obs := fun s => seenK fa fn ex (He.frG s.heap.get? (asB s.heap.get? n))
  val := fun _ => (true, fn.map Df.due)
  says := fun _ h => ∃ K : PySem.W.Frag, K.In h ∧ Told fa fn ex K
  of := fun _ _ e => ⟨_, He.frG_in, told_of e⟩
  keeps := fun _ _ _ ⟨K, hK, c⟩ k => ⟨K, PySem.W.Frag.In.keeps hK k, c⟩
def obB (n : Nat) (fa : List He.Fa) (fn : List Df) (ex : PySem.W.Frag → Bool) (g : Addr → Option Obj) : Seen := seenK fa fn ex (He.frG g (asB g n))
theorem obB_eq {n : Nat} {fa : List He.Fa} {fn : List Df} {ex : PySem.W.Frag → Bool} {g : Addr → Option Obj} {s : Shared} (h : ∀ a, g a = s.heap.get? a) : obB n fa fn ex g = (hookB n fa fn ex).obs s := by
  have e : g = s.heap.get? := funext h
  rw [e]; rfl
end Ag

namespace Ag.k02
open PySem PySem.Spec PyProof.Rows L2
def isoC : List Str := ["Council"]
def isoT : List (Ty × Ty × Bool) := [(.b "bool", .o "Council", false), (.b "int", .o "Council", false), (.b "str", .o "Council", false), (.b "tuple", .o "Council", false), (.b "list", .o "Council", false), (.b "NoneType", .o "Council", false), (.o "Council", .o "Council", true), (.b "bool", .b "bool", true), (.b "int", .b "bool", false), (.b "str", .b "bool", false), (.b "tuple", .b "bool", false), (.b "list", .b "bool", false), (.b "NoneType", .b "bool", false), (.o "Council", .b "bool", false), (.b "bool", .b "int", true), (.b "int", .b "int", true), (.b "str", .b "int", false), (.b "tuple", .b "int", false), (.b "list", .b "int", false), (.b "NoneType", .b "int", false), (.o "Council", .b "int", false), (.b "bool", .b "str", false), (.b "int", .b "str", false), (.b "str", .b "str", true), (.b "tuple", .b "str", false), (.b "list", .b "str", false), (.b "NoneType", .b "str", false), (.o "Council", .b "str", false), (.b "bool", .b "tuple", false), (.b "int", .b "tuple", false), (.b "str", .b "tuple", false), (.b "tuple", .b "tuple", true), (.b "list", .b "tuple", false), (.b "NoneType", .b "tuple", false), (.o "Council", .b "tuple", false)]
end Ag.k02
namespace Ag.k02
open PySem PySem.Spec PyProof.Rows L2
def top (i : Nat) : Stmt := PySem.Challenge.pw_alwaysagree_k02_councils_made.main.body.getD i (.Pass ⟨0, 0, 0, 0⟩)
abbrev st_is_integer : Stmt := top 15
def df_is_integer : Df := ⟨fun K => He.ga K "is_integer", "is_integer", "is_integer", defArgs st_is_integer, defBody st_is_integer, defScope st_is_integer⟩
abbrev st_is_within : Stmt := top 16
def df_is_within : Df := ⟨fun K => He.ga K "is_within", "is_within", "is_within", defArgs st_is_within, defBody st_is_within, defScope st_is_within⟩
abbrev st_is_row : Stmt := top 21
def df_is_row : Df := ⟨fun K => He.ga K "is_row", "is_row", "is_row", defArgs st_is_row, defBody st_is_row, defScope st_is_row⟩
abbrev st_is_way : Stmt := top 22
def df_is_way : Df := ⟨fun K => He.ga K "is_way", "is_way", "is_way", defArgs st_is_way, defBody st_is_way, defScope st_is_way⟩
abbrev st_wrong_way : Stmt := top 23
def df_wrong_way : Df := ⟨fun K => He.ga K "wrong_way", "wrong_way", "wrong_way", defArgs st_wrong_way, defBody st_wrong_way, defScope st_wrong_way⟩
abbrev st_is_name : Stmt := top 17
def df_is_name : Df := ⟨fun K => He.ga K "is_name", "is_name", "is_name", defArgs st_is_name, defBody st_is_name, defScope st_is_name⟩
abbrev st_wrong_mind : Stmt := top 20
def df_wrong_mind : Df := ⟨fun K => He.ga K "wrong_mind", "wrong_mind", "wrong_mind", defArgs st_wrong_mind, defBody st_wrong_mind, defScope st_wrong_mind⟩
abbrev st_Councild_initd : Stmt := (clsBody (top 28)).getD 0 (.Pass ⟨0, 0, 0, 0⟩)
def df_Councild_initd : Df := ⟨fun K => He.ma K (He.ga K "Council") "__init__", "__init__", "Council.__init__", defArgs st_Councild_initd, defBody st_Councild_initd, defScope st_Councild_initd⟩
abbrev st_read_number : Stmt := top 18
def df_read_number : Df := ⟨fun K => He.ga K "read_number", "read_number", "read_number", defArgs st_read_number, defBody st_read_number, defScope st_read_number⟩
abbrev st_read_way : Stmt := top 26
def df_read_way : Df := ⟨fun K => He.ga K "read_way", "read_way", "read_way", defArgs st_read_way, defBody st_read_way, defScope st_read_way⟩
abbrev st_read_council : Stmt := top 27
def df_read_council : Df := ⟨fun K => He.ga K "read_council", "read_council", "read_council", defArgs st_read_council, defBody st_read_council, defScope st_read_council⟩
abbrev st_Council_read : Stmt := (clsBody (top 28)).getD 1 (.Pass ⟨0, 0, 0, 0⟩)
def df_Council_read : Df := ⟨fun K => cmG K "Council" "read", "read", "Council.read", defArgs st_Council_read, defBody st_Council_read, defScope st_Council_read⟩
abbrev st_way_text : Stmt := top 24
def df_way_text : Df := ⟨fun K => He.ga K "way_text", "way_text", "way_text", defArgs st_way_text, defBody st_way_text, defScope st_way_text⟩
abbrev st_lines_of : Stmt := top 25
def df_lines_of : Df := ⟨fun K => He.ga K "lines_of", "lines_of", "lines_of", defArgs st_lines_of, defBody st_lines_of, defScope st_lines_of⟩
abbrev st_Councild_strd : Stmt := (clsBody (top 28)).getD 8 (.Pass ⟨0, 0, 0, 0⟩)
def df_Councild_strd : Df := ⟨fun K => He.ma K (He.ga K "Council") "__str__", "__str__", "Council.__str__", defArgs st_Councild_strd, defBody st_Councild_strd, defScope st_Councild_strd⟩
abbrev st_Councild_eqd : Stmt := (clsBody (top 28)).getD 7 (.Pass ⟨0, 0, 0, 0⟩)
def df_Councild_eqd : Df := ⟨fun K => He.ma K (He.ga K "Council") "__eq__", "__eq__", "Council.__eq__", defArgs st_Councild_eqd, defBody st_Councild_eqd, defScope st_Councild_eqd⟩
abbrev st_Councild_boold : Stmt := (clsBody (top 28)).getD 6 (.Pass ⟨0, 0, 0, 0⟩)
def df_Councild_boold : Df := ⟨fun K => He.ma K (He.ga K "Council") "__bool__", "__bool__", "Council.__bool__", defArgs st_Councild_boold, defBody st_Councild_boold, defScope st_Councild_boold⟩
abbrev st_Councild_lend : Stmt := (clsBody (top 28)).getD 5 (.Pass ⟨0, 0, 0, 0⟩)
def df_Councild_lend : Df := ⟨fun K => He.ma K (He.ga K "Council") "__len__", "__len__", "Council.__len__", defArgs st_Councild_lend, defBody st_Councild_lend, defScope st_Councild_lend⟩
abbrev st_Council_ways : Stmt := (clsBody (top 28)).getD 3 (.Pass ⟨0, 0, 0, 0⟩)
def df_Council_ways : Df := ⟨fun K => prG K "Council" "ways", "ways", "Council.ways", defArgs st_Council_ways, defBody st_Council_ways, defScope st_Council_ways⟩
abbrev st_Council_minds : Stmt := (clsBody (top 28)).getD 2 (.Pass ⟨0, 0, 0, 0⟩)
def df_Council_minds : Df := ⟨fun K => prG K "Council" "minds", "minds", "Council.minds", defArgs st_Council_minds, defBody st_Council_minds, defScope st_Council_minds⟩
abbrev st_page_l : Stmt := top 35
def df_page_l : Df := ⟨fun K => He.ga K "_law_page", "_law_page", "_law_page", defArgs st_page_l, defBody st_page_l, defScope st_page_l⟩
abbrev st_sip_l : Stmt := top 31
def df_sip_l : Df := ⟨fun K => He.ga K "_law_sip", "_law_sip", "_law_sip", defArgs st_sip_l, defBody st_sip_l, defScope st_sip_l⟩
abbrev st_row_l : Stmt := top 32
def df_row_l : Df := ⟨fun K => He.ga K "_law_row", "_law_row", "_law_row", defArgs st_row_l, defBody st_row_l, defScope st_row_l⟩
abbrev st_talk_l : Stmt := top 33
def df_talk_l : Df := ⟨fun K => He.ga K "_law_talk", "_law_talk", "_law_talk", defArgs st_talk_l, defBody st_talk_l, defScope st_talk_l⟩
abbrev st_pair_l : Stmt := top 34
def df_pair_l : Df := ⟨fun K => He.ga K "_law_pair", "_law_pair", "_law_pair", defArgs st_pair_l, defBody st_pair_l, defScope st_pair_l⟩
abbrev st_right_l : Stmt := top 36
def df_right_l : Df := ⟨fun K => He.ga K "_law_right", "_law_right", "_law_right", defArgs st_right_l, defBody st_right_l, defScope st_right_l⟩
abbrev st_quiet_l : Stmt := top 37
def df_quiet_l : Df := ⟨fun K => He.ga K "_law_quiet", "_law_quiet", "_law_quiet", defArgs st_quiet_l, defBody st_quiet_l, defScope st_quiet_l⟩
abbrev st_jug_l : Stmt := top 30
def df_jug_l : Df := ⟨fun K => He.ga K "_law_jug", "_law_jug", "_law_jug", defArgs st_jug_l, defBody st_jug_l, defScope st_jug_l⟩
abbrev st_law : Stmt := top 38
def df_law : Df := ⟨fun K => He.ga K "law", "law", "law", defArgs st_law, defBody st_law, defScope st_law⟩
def fn : List Df := [df_is_integer, df_is_within, df_is_row, df_is_way, df_wrong_way, df_is_name, df_wrong_mind, df_Councild_initd, df_read_number, df_read_way, df_read_council, df_Council_read, df_way_text, df_lines_of, df_Councild_strd, df_Councild_eqd, df_Councild_boold, df_Councild_lend, df_Council_ways, df_Council_minds, df_page_l, df_sip_l, df_row_l, df_talk_l, df_pair_l, df_right_l, df_quiet_l, df_jug_l, df_law]
def fa : List He.Fa := [.free "all", .free "max", .free "min", .free "len", .free "range", .cls "Council", .noat "Council" "tables", .noat "Council" "heads", .free "enumerate", .free "isinstance", .free "tuple", .free "int", .free "bool", .glo "is_integer", .glo "is_within", .int "MOST_WEIGHT" 1000000000, .free "sum", .glo "is_row", .glo "is_way", .int "MOST_WAYS" 6, .glo "wrong_way", .str "LETTERS" "abcdefghijklmnopqrstuvwxyz", .str "DIGITS" "0123456789", .free "str", .int "LONGEST_NAME" 8, .glo "is_name", .int "MOST_MINDS" 6, .glo "wrong_mind", .mkr "Council", .glo "read_number", .glo "read_way", .glo "read_council", .glo "Council", .glo "way_text", .glo "lines_of", .free "repr", .glo "_law_page", .free "divmod", .glo "_law_sip", .glo "_law_row", .glo "_law_talk", .glo "_law_pair", .glo "_law_right", .glo "_law_quiet", .free "abs", .glo "_law_jug", .glo "law"]
def ex (K : PySem.W.Frag) : Bool := isoB K isoC isoT && (cmB K "Council" "read") && (dunB K "Council" "__str__") && (dunB K "Council" "__eq__") && (neB K "Council") && (dunB K "Council" "__bool__") && (lenB K "Council") && (propB K "Council" "ways" (prG K "Council" "ways")) && (propB K "Council" "minds" (prG K "Council" "minds"))
abbrev R : PySem.W.OpenRow := PySem.W.OpenLaw.row PySem.Challenge.rw_alwaysagree_k02_councils_made
abbrev hk : PySem.W.Hook := hookB 5 fa fn ex
def ob (s : PySem.W.SharedT) : Seen := obB 5 fa fn ex (HandSHeadRun.getT s)
theorem ob_eq (s : PySem.W.SharedT) : ob s = hk.obs s.abs := obB_eq (HandSHeadRun.getT_eq s)
def loose : List Str := (["_wall", "__name__", "WrongValue", "InvalidText", "InvalidMinds", "InvalidWays", "WrongName", "NoAnswer", "MOST_MINDS", "MOST_WAYS", "MOST_WEIGHT", "LETTERS", "DIGITS", "LONGEST_NAME", "is_integer", "is_within", "is_name", "read_number", "wrong_mind", "is_row"] : List Str) ++ (["is_way", "wrong_way", "way_text", "lines_of", "read_way", "read_council", "Council", "_law_jug", "_law_sip", "_law_row", "_law_talk", "_law_pair", "_law_page", "_law_right", "_law_quiet"] : List Str)
abbrev qv : Program := PySem.W.view R.prog [38]
open HandSHeadRun PySem.W PySem.Calls in
noncomputable abbrev endT (w : World) (os : OsState) : Option PySem.W.SharedT := endF (stepQ (denQ tabQ) R.prog w) 20000 R.prog w os
theorem run_join {α A B C : Type} {E : Option α} {a : α → A} {b : α → B} {c : α → C} {x : A} {y : B} {z : C} (h1 : E.map (fun s => (a s, b s)) = some (x, y)) (h2 : E.map c = some z) : E.map (fun s => (a s, b s, c s)) = some (x, y, z) := by
  cases E with
  | none => cases h1
  | some s =>
    simp only [Option.map_some, Option.some.injEq, Prod.mk.injEq] at h1 h2 ⊢
    exact ⟨h1.1, h1.2, h2⟩
open HandSHeadRun PySem.W PySem.Calls in
theorem runA (w : World) (os : OsState) : (endT w os).map (fun s => (looksF R.prog (boot_heap w.params) s.abs, seenQ qv loose (importedModules R.prog.main.body) (fun s => xlAt qv [] s && recOk R.toRowW.records s) s.abs)) = some (true, openGood qv loose) := by kernel_rfl
theorem runO (w : World) (os : OsState) : (endT w os).map ob = some (hk.val w) := by kernel_rfl
theorem run (w : World) : HandSHeadRun.RunEq R (PySem.W.view R.prog [38]) hk ob 20000 loose w := fun os => run_join (runA w os) (runO w os)
end Ag.k02

namespace Ag
open PySem
/-! ### what a mirror answers, by weakest wishes -/
@[irreducible] def osat {α : Type} (o : Option α) (P : α → Prop) : Prop := match o with
  | some r => P r
  | none => False
theorem os_some {α : Type} {r : α} {P : α → Prop} : osat (some r) P ↔ P r := by unfold osat; exact Iff.rfl
theorem os_none {α : Type} {P : α → Prop} : osat (none : Option α) P ↔ False := by unfold osat; exact Iff.rfl
theorem os_if {α : Type} {c : Prop} [Decidable c] {r : α} {P : α → Prop} : osat (if c then some r else none) P ↔ c ∧ P r := by
  by_cases h : c <;> simp [h, osat]
theorem os_map {α β : Type} {o : Option α} {f : α → β} {P : β → Prop} : osat (o.map f) P ↔ osat o (fun a => P (f a)) := by cases o <;> simp [os_some, os_none]
theorem os_bind {α β : Type} {o : Option α} {f : α → Option β} {P : β → Prop} : osat (o.bind f) P ↔ osat o (fun a => osat (f a) P) := by cases o <;> simp [os_some, os_none]
@[irreducible] def Res.sat {α : Type} (r : Res α) (P : α → Sto → Prop) : Prop := match r with
  | .ok a S => P a S
  | _ => False
@[irreducible] def SRes.sat (r : SRes) (N : En → Sto → Prop) (R : D → Sto → Prop) : Prop := match r with
  | .next en S => N en S
  | .ret d S => R d S
  | _ => False
section
variable {α : Type} {a : α} {S : Sto} {P : α → Sto → Prop} {N : En → Sto → Prop} {R : D → Sto → Prop} {en : En} {d : D} {c : Str} {fs : List (Str × D)}
theorem r_ok : (Res.ok a S).sat P ↔ P a S := by unfold Res.sat; exact Iff.rfl
theorem r_exc : (Res.exc c fs S : Res α).sat P ↔ False := by unfold Res.sat; exact Iff.rfl
theorem r_stuck : (Res.stuck : Res α).sat P ↔ False := by unfold Res.sat; exact Iff.rfl
theorem s_nx : (SRes.next en S).sat N R ↔ N en S := by unfold SRes.sat; exact Iff.rfl
theorem s_rt : (SRes.ret d S).sat N R ↔ R d S := by unfold SRes.sat; exact Iff.rfl
theorem s_bk : (SRes.brk en S).sat N R ↔ False := by unfold SRes.sat; exact Iff.rfl
theorem s_ct : (SRes.cnt en S).sat N R ↔ False := by unfold SRes.sat; exact Iff.rfl
theorem s_ex : (SRes.exc c fs en S).sat N R ↔ False := by unfold SRes.sat; exact Iff.rfl
theorem s_st : SRes.stuck.sat N R ↔ False := by unfold SRes.sat; exact Iff.rfl
end
theorem Res.sat.mono {α : Type} {r : Res α} {P Q : α → Sto → Prop} (h : r.sat P) (k : ∀ a S, P a S → Q a S) : r.sat Q := by
  cases r with
  | ok a S => exact r_ok.mpr (k a S (r_ok.mp h))
  | exc c fs S => exact (r_exc.mp h).elim
  | stuck => exact (r_stuck.mp h).elim
theorem SRes.sat.mono {r : SRes} {N N' : En → Sto → Prop} {R R' : D → Sto → Prop} (h : r.sat N R) (k : ∀ a S, N a S → N' a S) (k2 : ∀ a S, R a S → R' a S) : r.sat N' R' := by
  cases r with
  | next a S => exact s_nx.mpr (k a S (s_nx.mp h))
  | ret a S => exact s_rt.mpr (k2 a S (s_rt.mp h))
  | brk a S => exact (s_bk.mp h).elim
  | cnt a S => exact (s_ct.mp h).elim
  | exc c fs a S => exact (s_ex.mp h).elim
  | stuck => exact (s_st.mp h).elim
theorem Res.sat.eq {α : Type} {r : Res α} {P : α → Sto → Prop} (h : r.sat P) : ∃ a S, r = .ok a S ∧ P a S := by
  cases r with
  | ok a S => exact ⟨a, S, rfl, r_ok.mp h⟩
  | exc c fs S => exact (r_exc.mp h).elim
  | stuck => exact (r_stuck.mp h).elim
section
variable {P : D → Sto → Prop} {PL : List D → Sto → Prop} {PB : Bool → Sto → Prop} {N : En → Sto → Prop} {R : D → Sto → Prop} {en : En} {S : Sto} {ma mb mc mo me : EM} {mr : AM} {t u : BM} {s1 s2 : SM} {f g : D → D → Sto → Option D}
theorem r_bind {α β : Type} {r : Res α} {k : α → Sto → Res β} {P : β → Sto → Prop} : (r.bind k).sat P ↔ r.sat (fun a S => (k a S).sat P) := by cases r <;> simp only [Res.bind, r_ok, r_exc, r_stuck, s_nx, s_rt, s_bk, s_ct, s_ex, s_st]
theorem r_ofO {α : Type} {o : Option α} {P : α → Sto → Prop} : (ofO o S).sat P ↔ osat o (fun a => P a S) := by cases o <;> simp only [ofO, osat, r_ok, r_exc, r_stuck, s_nx, s_rt, s_bk, s_ct, s_ex, s_st]
theorem r_if {α : Type} {c : Prop} [Decidable c] {a b : Res α} {P : α → Sto → Prop} : (if c then a else b).sat P ↔ if c then a.sat P else b.sat P := by by_cases h : c <;> simp [h]
theorem r_ifs {α : Type} {c : Prop} [Decidable c] {a : Res α} {P : α → Sto → Prop} : (if c then a else .stuck).sat P ↔ c ∧ a.sat P := by by_cases h : c <;> simp [h, r_stuck]
def slotD (en : En) (i : Nat) : Option D := match en[i]? with
  | some (some d) => some d
  | _ => none
theorem q_var {i : Nat} : (mVar i en S).sat P ↔ osat (slotD en i) (fun d => P d S) := by unfold mVar; rw [r_ofO]; exact Iff.rfl
theorem sl_0 {d : D} {r : En} : slotD (some d :: r) 0 = some d := rfl
theorem sl_s {x : Option D} {r : En} {i : Nat} : slotD (x :: r) (i + 1) = slotD r i := rfl
theorem q_c {d : D} : (mC d en S).sat P ↔ P d S := r_ok
theorem q_op : (mOp f ma mb en S).sat P ↔ (ma en S).sat fun d S1 => (mb en S1).sat fun e S2 => osat (f d e S2) fun r => P r S2 := by
  unfold mOp; simp only [r_bind, r_ofO]
theorem q_un {f : D → Sto → Option D} : (mUn f ma en S).sat P ↔ (ma en S).sat fun d S1 => osat (f d S1) fun r => P r S1 := by unfold mUn; simp only [r_bind, r_ofO]
theorem q_b : (mB ma en S).sat PB ↔ (ma en S).sat fun d S1 => osat (bOf d) fun b => PB b S1 := by unfold mB; simp only [r_bind, r_ofO]
theorem q_andB : (mAndB t u en S).sat PB ↔ (t en S).sat fun c S1 => if c = true then (u en S1).sat PB else PB false S1 := by unfold mAndB; simp only [r_bind, r_if, r_ok]
theorem q_orB : (mOrB t u en S).sat PB ↔ (t en S).sat fun c S1 => if c = true then PB true S1 else (u en S1).sat PB := by unfold mOrB; simp only [r_bind, r_if, r_ok]
theorem q_notB : (mNotB t en S).sat PB ↔ (t en S).sat fun c S1 => PB (!c) S1 := by unfold mNotB; simp only [r_bind, r_ok]
theorem q_andV : (mAndV ma mb en S).sat P ↔ (ma en S).sat fun d S1 => osat (bOf d) fun c => if c = true then (mb en S1).sat P else P (.bl false) S1 := by
  unfold mAndV
  rw [r_bind]
  refine iff_of_eq (congrArg _ (funext fun d => funext fun S1 => ?_))
  cases q : bOf d with
  | none => simp [r_stuck, osat]
  | some b => cases b <;> simp [r_ok, osat]
theorem q_orV : (mOrV ma mb en S).sat P ↔ (ma en S).sat fun d S1 => osat (bOf d) fun c => if c = true then P (.bl true) S1 else (mb en S1).sat P := by
  unfold mOrV
  rw [r_bind]
  refine iff_of_eq (congrArg _ (funext fun d => funext fun S1 => ?_))
  cases q : bOf d with
  | none => simp [r_stuck, osat]
  | some b => cases b <;> simp [r_ok, osat]
theorem q_notV : (mNotV ma en S).sat P ↔ (ma en S).sat fun d S1 => osat (bOf d) fun b => P (.bl (!b)) S1 := by unfold mNotV; simp only [q_un, os_map]
theorem q_if : (mIf t ma mb en S).sat P ↔ (t en S).sat fun c S1 => if c = true then (ma en S1).sat P else (mb en S1).sat P := by unfold mIf; simp only [r_bind, r_if]
theorem q_chain : (mChain f g ma mb mc en S).sat P ↔ (ma en S).sat fun d S1 => (mb en S1).sat fun e S2 => osat ((f d e S2).bind bOf) fun c => if c = true then ((mc en S2).sat fun h S3 => osat (g e h S3) fun r => P r S3) else P (.bl false) S2 := by
  unfold mChain
  simp only [r_bind]
  refine iff_of_eq (congrArg _ (funext fun d => funext fun S1 => congrArg _ (funext fun e => funext fun S2 => ?_)))
  cases q : (f d e S2).bind bOf with
  | none => simp [r_stuck, osat]
  | some b =>
    cases b with
    | true =>
      refine propext ((show _ ↔ ((mc en S2).bind fun h S3 => ofO (g e h S3) S3).sat P from Iff.rfl).trans ?_)
      simp only [r_bind, r_ofO, os_some, if_pos]
    | false => simp [r_ok, osat]
theorem q_nil : (mNil en S).sat PL ↔ PL [] S := r_ok
theorem q_cons : (mCons ma mr en S).sat PL ↔ (ma en S).sat fun d S1 => (mr en S1).sat fun ds S2 => PL (d :: ds) S2 := by unfold mCons; simp only [r_bind, r_ok]
theorem q_tup : (mTup mr en S).sat P ↔ (mr en S).sat fun ds S1 => ds.length ≤ lineN ∧ P (.tup ds) S1 := by unfold mTup; simp only [r_bind, r_ofO, os_if]
theorem q_lst : (mLst mr en S).sat P ↔ (mr en S).sat fun ds S1 => ds.length ≤ lineN ∧ P (.lst ds) S1 := by unfold mLst; simp only [r_bind, r_ofO, os_if]
theorem q_lstC : (mLstC mr en S).sat P ↔ (mr en S).sat fun ds S1 => ds.length ≤ lineN ∧ P (.ref S1.length) (S1 ++ [.lst ds]) := by unfold mLstC; simp only [r_bind, r_ifs, r_ok]
theorem q_cb {f : List D → Sto → Option D} : (mCB f mr en S).sat P ↔ (mr en S).sat fun ds S1 => osat (f ds S1) fun r => P r S1 := by unfold mCB; simp only [r_bind, r_ofO]
theorem q_call {n : Nat} {fm : List D → Sto → Res D} : (mCall n fm mr en S).sat P ↔ (mr en S).sat fun ds S1 => ds.length = n ∧ (fm ds S1).sat P := by unfold mCall; simp only [r_bind, r_ifs]
theorem q_callK {n : Nat} {ix : List Nat} {fm : List D → Sto → Res D} : (mCallK n ix fm mr en S).sat P ↔ (mr en S).sat fun ds S1 => ds.length = n ∧ (pick ix ds).length = n ∧ (fm (pick ix ds) S1).sat P := by unfold mCallK; simp only [r_bind, r_ifs]
theorem q_cr {f : List D → Sto → Res D} : (mCR f mr en S).sat P ↔ (mr en S).sat fun ds S1 => (f ds S1).sat P := by
  unfold mCR
  rw [r_bind]
  refine iff_of_eq (congrArg _ (funext fun d => funext fun S1 => ?_))
  cases q : f d S1 <;> simp only [r_ok, r_exc, r_stuck, s_nx, s_rt, s_bk, s_ct, s_ex, s_st]
theorem q_prop {c : Str} {fm : List D → Sto → Res D} : (mProp c fm ma en S).sat P ↔ (ma en S).sat fun d S1 => clsD d S1 = some c ∧ (fm [d] S1).sat P := by
  unfold mProp
  rw [r_bind]
  refine iff_of_eq (congrArg _ (funext fun d => funext fun S1 => ?_))
  cases q : clsD d S1 with
  | none => simp [r_stuck]
  | some c' =>
    by_cases h : c' = c
    · subst h
      simp only [if_pos]
      cases q2 : fm [d] S1 <;> simp [r_ok, r_exc, r_stuck]
    · simp [h, r_stuck]
theorem q_sl {lo hi : OM} : (mSl me lo hi en S).sat P ↔ (me en S).sat fun d S1 => (lo en S1).sat fun l S2 => (hi en S2).sat fun h S3 => osat (fSl d l h S3) fun r => P r S3 := by unfold mSl; simp only [r_bind, r_ofO]
theorem q_oN {PO : Option Int → Sto → Prop} : (oNone en S).sat PO ↔ PO none S := r_ok
def intD : D → Option Int
  | .int i => some i
  | _ => none
theorem q_oS {PO : Option Int → Sto → Prop} : (oSome me en S).sat PO ↔ (me en S).sat fun d S1 => osat (intD d) fun i => PO (some i) S1 := by
  unfold oSome
  rw [r_bind]
  refine iff_of_eq (congrArg _ (funext fun d => funext fun S1 => ?_))
  cases d <;> simp [intD, osat, r_ok, r_stuck]
theorem q_bm {fm : D → List D → Sto → Option (D × Sto)} {ok : D → Sto → Bool} : (mBM fm ok mo mr en S).sat P ↔ (mo en S).sat fun d S1 => ok d S1 = true ∧ ((mr en S1).sat fun ds S2 => osat (fm d ds S2) fun r => P r.1 r.2) := by
  unfold mBM
  simp only [r_bind, r_ifs]
  refine iff_of_eq (congrArg _ (funext fun d => funext fun S1 => congrArg _ (congrArg _ (funext fun ds => funext fun S2 => ?_))))
  cases fm d ds S2 <;> simp [osat, r_ok, r_stuck]
theorem q_make {c : Str} {z : Bool} {n : Nat} {fm : List D → Sto → Res D} : (mMake c z n fm mr en S).sat P ↔ (mr en S).sat fun ds S1 => ds.length = n ∧ (mkD c z fm ds S1).sat P := by unfold mMake; simp only [r_bind, r_ifs]
theorem q_mth {c m : Str} {n : Nat} {fm : List D → Sto → Res D} : (mMth c m n fm mo mr en S).sat P ↔ (mo en S).sat fun d S1 => osat (namD c d S1) fun ns => m ∉ ns ∧ ((mr en S1).sat fun ds S2 => (d :: ds).length = n ∧ (fm (d :: ds) S2).sat P) := by
  unfold mMth
  rw [r_bind]
  refine iff_of_eq (congrArg _ (funext fun d => funext fun S1 => ?_))
  cases q : namD c d S1 with
  | none => simp [osat, r_stuck]
  | some ns =>
    by_cases h : m ∈ ns
    · simp [h, r_stuck, osat]
    · simp [h, osat, r_bind, r_ifs]
/-! statements -/
theorem p_eS {r : Res D} {k : D → Sto → SRes} : (eS r en k).sat N R ↔ r.sat fun d S1 => (k d S1).sat N R := by cases r <;> simp only [eS, bS, lS, r_ok, r_exc, r_stuck, s_nx, s_rt, s_bk, s_ct, s_ex, s_st]
theorem p_bS {r : Res Bool} {k : Bool → Sto → SRes} : (bS r en k).sat N R ↔ r.sat fun d S1 => (k d S1).sat N R := by cases r <;> simp only [eS, bS, lS, r_ok, r_exc, r_stuck, s_nx, s_rt, s_bk, s_ct, s_ex, s_st]
theorem p_lS {r : Res (List D)} {k : List D → Sto → SRes} : (lS r en k).sat N R ↔ r.sat fun d S1 => (k d S1).sat N R := by cases r <;> simp only [eS, bS, lS, r_ok, r_exc, r_stuck, s_nx, s_rt, s_bk, s_ct, s_ex, s_st]
theorem p_nil : (sNil en S).sat N R ↔ N en S := s_nx
theorem p_pass : (sPass en S).sat N R ↔ N en S := s_nx
theorem p_stuck : (sStuck en S).sat N R ↔ False := s_st
theorem p_seq : (sSeq s1 s2 en S).sat N R ↔ (s1 en S).sat (fun en S => (s2 en S).sat N R) R := by unfold sSeq; cases s1 en S <;> simp only [r_ok, r_exc, r_stuck, s_nx, s_rt, s_bk, s_ct, s_ex, s_st]
theorem p_expr : (sExpr ma en S).sat N R ↔ (ma en S).sat fun _ S1 => N en S1 := by unfold sExpr; simp only [p_eS, s_nx]
theorem p_ret : (sRet ma en S).sat N R ↔ (ma en S).sat R := by unfold sRet; simp only [p_eS, s_rt]
theorem p_retN : SRes.sat ((fun _ S => .ret .non S : SM) en S) N R ↔ R .non S := s_rt
theorem s_ite {c : Prop} [Decidable c] {a b : SRes} : (if c then a else b).sat N R ↔ if c then a.sat N R else b.sat N R := by by_cases h : c <;> simp [h]
theorem p_if : (sIf t s1 s2 en S).sat N R ↔ (t en S).sat fun c S1 => if c = true then (s1 en S1).sat N R else (s2 en S1).sat N R := by unfold sIf; simp only [p_bS, s_ite]
theorem p_asgN {i : Nat} : (sAsg ma (gNm i) en S).sat N R ↔ (ma en S).sat fun d S1 => N (en.set i (some d)) S1 := by unfold sAsg; simp only [p_eS, gNm, s_nx]
theorem p_asg {gm : GM} : (sAsg ma gm en S).sat N R ↔ (ma en S).sat fun d S1 => (gm d en S1).sat N := by
  unfold sAsg
  rw [p_eS]
  refine iff_of_eq (congrArg _ (funext fun d => funext fun S1 => ?_))
  cases gm d en S1 <;> simp only [r_ok, r_exc, r_stuck, s_nx, s_rt, s_bk, s_ct, s_ex, s_st]
theorem p_par {i j : Nat} : (sPar i j mr en S).sat N R ↔ (mr en S).sat fun ds S1 => ∃ a b, ds = [a, b] ∧ N ((en.set i (some a)).set j (some b)) S1 := by
  unfold sPar
  rw [p_lS]
  refine iff_of_eq (congrArg _ (funext fun ds => funext fun S1 => propext ?_))
  constructor
  · intro h
    split at h
    · exact ⟨_, _, rfl, s_nx.mp h⟩
    · exact (s_st.mp h).elim
  · rintro ⟨a, b, rfl, h⟩
    exact s_nx.mpr h
theorem p_par3 {i j l : Nat} : (sPar3 i j l mr en S).sat N R ↔ (mr en S).sat fun ds S1 => ∃ a b c, ds = [a, b, c] ∧ N (((en.set i (some a)).set j (some b)).set l (some c)) S1 := by
  unfold sPar3
  rw [p_lS]
  refine iff_of_eq (congrArg _ (funext fun ds => funext fun S1 => propext ?_))
  constructor
  · intro h
    split at h
    · exact ⟨_, _, _, rfl, s_nx.mp h⟩
    · exact (s_st.mp h).elim
  · rintro ⟨a, b, c, rfl, h⟩
    exact s_nx.mpr h
theorem ex_pair {a b : D} {Q : D → D → Prop} : (∃ x y, [a, b] = [x, y] ∧ Q x y) ↔ Q a b := by
  constructor
  · rintro ⟨x, y, e, h⟩
    cases e
    exact h
  · exact fun h => ⟨a, b, rfl, h⟩
theorem ex_trip {a b c : D} {Q : D → D → D → Prop} : (∃ x y z, [a, b, c] = [x, y, z] ∧ Q x y z) ↔ Q a b c := by
  constructor
  · rintro ⟨x, y, z, e, h⟩
    cases e
    exact h
  · exact fun h => ⟨a, b, c, rfl, h⟩
theorem p_try {b : SM} : (sTryQ b en S).sat N R ↔ (b en S).sat N R := by unfold sTryQ; cases b en S <;> simp only [r_ok, r_exc, r_stuck, s_nx, s_rt, s_bk, s_ct, s_ex, s_st]
theorem g_nm {i : Nat} {d : D} {NE : En → Sto → Prop} : (gNm i d en S).sat NE ↔ NE (en.set i (some d)) S := r_ok
theorem g_unpS {n : Nat} {r : GsM} {d : D} {NE : En → Sto → Prop} : (gUnp n r d en S).sat NE ↔ osat (seqOf d S) fun l => l.length = n ∧ (r l en S).sat NE := by
  unfold gUnp
  cases q : seqOf d S with
  | none => simp [r_stuck, osat]
  | some l =>
    by_cases h : l.length = n
    · simp only [if_pos h, osat]
      cases r l en S <;> simp [r_ok, r_exc, r_stuck, h]
    · simp [h, r_stuck, osat]
theorem gs_nilS {NE : En → Sto → Prop} : (gsNil [] en S).sat NE ↔ NE en S := r_ok
theorem gs_consS {gm : GM} {r : GsM} {d : D} {ds : List D} {NE : En → Sto → Prop} : (gsCons gm r (d :: ds) en S).sat NE ↔ (gm d en S).sat fun en1 S1 => (r ds en1 S1).sat NE := by
  show Res.sat (match gm d en S with
    | .ok en1 S1 => (match r ds en1 S1 with
      | .ok en2 S2 => .ok en2 S2
      | _ => .stuck)
    | _ => .stuck) NE ↔ _
  generalize gm d en S = z
  cases z with
  | ok en1 S1 =>
    rw [r_ok]
    show Res.sat (match r ds en1 S1 with
      | .ok en2 S2 => .ok en2 S2
      | _ => .stuck) NE ↔ (r ds en1 S1).sat NE
    cases r ds en1 S1 <;> simp only [r_ok, r_exc, r_stuck]
  | exc c fs S1 => simp only [r_exc, r_stuck]
  | stuck => simp only [r_stuck]
theorem g_subS {f : D → D → D → Sto → Option Sto} {mi : EM} {d : D} {NE : En → Sto → Prop} : (gSubM f mo mi d en S).sat NE ↔ (mo en S).sat fun o S1 => (mi en S1).sat fun i S2 => osat (f o i d S2) fun S3 => NE en S3 := by
  unfold gSubM
  simp only [r_bind]
  refine iff_of_eq (congrArg _ (funext fun o => funext fun S1 => congrArg _ (funext fun i => funext fun S2 => ?_)))
  cases f o i d S2 <;> simp [osat, r_ok, r_stuck]
theorem f_run {n : Nat} {s : SM} {ds : List D} : (runB n s ds S).sat P ↔ (s (ds.map some ++ List.replicate (n - ds.length) none) S).sat (fun _ S => P .non S) P := by
  unfold runB
  cases s (ds.map some ++ List.replicate (n - ds.length) none) S <;> simp only [r_ok, r_exc, r_stuck, s_nx, s_rt, s_bk, s_ct, s_ex, s_st]
/-! loops over a list that is known -/
structure LIt (it : ItD) (l : List D) : Prop where
  n : it.n = l.length
  at_ : ∀ k S, it.nxt k S = some l[k]?
theorem li_ls (l : List D) : LIt (lsIt l) l := ⟨rfl, fun _ _ => rfl⟩
theorem li_rg (lo : Int) (n : Nat) : LIt (rgIt lo n) ((List.range n).map fun k => .int (lo + (k : Nat))) := ⟨by simp [rgIt], fun k S => by
  simp only [rgIt, List.getElem?_map, List.getElem?_range]
  by_cases h : k < n <;> simp [h]⟩
theorem li_en (l : List D) : LIt (enIt l) (l.mapIdx fun k d => .tup [.int (k : Nat), d]) := ⟨by simp [enIt], fun k S => by simp [enIt]⟩
theorem li_zp {l r : List D} (hr : ∀ d ∈ r, d.isS = false) : LIt (zpIt l r) (List.zipWith (fun a b => .tup [a, b]) l r) := ⟨by simp [zpIt], fun k S => by
  simp only [zpIt, List.getElem?_zipWith]
  cases l[k]? with
  | none => rfl
  | some a =>
    cases q : r[k]? with
    | none => rfl
    | some b =>
      have hb : names [a, b] = false := by simp [names, hr b (List.mem_of_getElem? q)]
      simp only [hb, Bool.false_eq_true, if_false]⟩
theorem for_inv {it : ItD} {l : List D} {gm : GM} {b : SM} (hl : LIt it l) (I : Nat → En → Sto → Prop) (step : ∀ k d en S, l[k]? = some d → I k en S → (gm d en S).sat fun en1 S1 => (b en1 S1).sat (I (k + 1)) R) (fin : ∀ en S, I l.length en S → N en S) (h0 : I 0 en S) :
    (forM it.nxt gm b it.n 0 en S).sat N R := by
  have key : ∀ f k en S, f + k = l.length → I k en S → (forM it.nxt gm b f k en S).sat N R := by
    intro f
    induction f with
    | zero =>
      intro k en S e i
      have e2 : k = l.length := by omega
      subst e2
      simp only [forM, hl.at_, List.getElem?_eq_none (Nat.le_refl _), s_nx]
      exact fin _ _ i
    | succ f ih =>
      intro k en S e i
      have hk : k < l.length := by omega
      have hx := List.getElem?_eq_getElem hk
      have := step k _ en S hx i
      simp only [forM, hl.at_, hx]
      cases q : gm l[k] en S with
      | ok en1 S1 =>
        rw [q, r_ok] at this
        simp only
        cases q2 : b en1 S1 with
        | next en2 S2 => rw [q2, s_nx] at this; exact ih (k + 1) en2 S2 (by omega) this
        | ret d S2 => rw [q2, s_rt] at this; exact s_rt.mpr this
        | brk en2 S2 => rw [q2, s_bk] at this; exact this.elim
        | cnt en2 S2 => rw [q2, s_ct] at this; exact this.elim
        | exc c fs en2 S2 => rw [q2, s_ex] at this; exact this.elim
        | stuck => rw [q2, s_st] at this; exact this.elim
      | exc c fs S1 => rw [q, r_exc] at this; exact this.elim
      | stuck => rw [q, r_stuck] at this; exact this.elim
  rw [hl.n]
  exact key l.length 0 en S rfl h0
theorem p_for {mi : IM} {gm : GM} {b : SM} : (sFor mi gm b en S).sat N R ↔ (mi en S).sat fun it S1 => (forM it.nxt gm b it.n 0 en S1).sat N R := by unfold sFor; cases mi en S <;> simp only [r_ok, r_exc, r_stuck, s_nx, s_rt, s_bk, s_ct, s_ex, s_st]
theorem q_itV {PI : ItD → Sto → Prop} : (mItV me en S).sat PI ↔ (me en S).sat fun d S1 => osat (itOf d S1) fun it => PI it S1 := by unfold mItV; simp only [r_bind, r_ofO]
theorem q_itA {f : List D → Sto → Option ItD} {PI : ItD → Sto → Prop} : (mItA f mr en S).sat PI ↔ (mr en S).sat fun ds S1 => osat (f ds S1) fun it => PI it S1 := by unfold mItA; simp only [r_bind, r_ofO]
theorem lc_inv {it : ItD} {l : List D} {gm : GM} (hl : LIt it l) (I : Nat → List D → Sto → Prop) (step : ∀ k d acc S, l[k]? = some d → I k acc S → (gm d en S).sat fun en1 S1 => (t en1 S1).sat fun c S2 => if c = true then (me en1 S2).sat fun y S3 => acc.length < lineN ∧ I (k + 1) (acc ++ [y]) S3 else I (k + 1) acc S2)
    (fin : ∀ acc S, I l.length acc S → PL acc S) (h0 : I 0 [] S) : (lcM it.nxt gm t me en it.n 0 [] S).sat PL := by
  have key : ∀ f k acc S, f + k = l.length → I k acc S → (lcM it.nxt gm t me en f k acc S).sat PL := by
    intro f
    induction f with
    | zero =>
      intro k acc S e i
      have e2 : k = l.length := by omega
      subst e2
      simp only [lcM, hl.at_, List.getElem?_eq_none (Nat.le_refl _), r_ok]
      exact fin _ _ i
    | succ f ih =>
      intro k acc S e i
      have hk : k < l.length := by omega
      have hx := List.getElem?_eq_getElem hk
      have := step k _ acc S hx i
      simp only [lcM, hl.at_, hx]
      cases q : gm l[k] en S with
      | ok en1 S1 =>
        rw [q, r_ok] at this
        simp only
        cases q2 : t en1 S1 with
        | ok c S2 =>
          rw [q2, r_ok] at this
          simp only
          by_cases hc : c = true
          · rw [if_pos hc] at this ⊢
            cases q3 : me en1 S2 with
            | ok y S3 =>
              rw [q3, r_ok] at this
              simp only
              rw [if_pos this.1]
              exact ih (k + 1) _ S3 (by omega) this.2
            | exc c fs S3 => rw [q3, r_exc] at this; exact this.elim
            | stuck => rw [q3, r_stuck] at this; exact this.elim
          · rw [if_neg hc] at this ⊢
            exact ih (k + 1) _ S2 (by omega) this
        | exc c fs S2 => rw [q2, r_exc] at this; exact this.elim
        | stuck => rw [q2, r_stuck] at this; exact this.elim
      | exc c fs S1 => rw [q, r_exc] at this; exact this.elim
      | stuck => rw [q, r_stuck] at this; exact this.elim
  rw [hl.n]
  exact key l.length 0 [] S rfl h0
/-- no test, nothing changed: a map -/
theorem lc_map {it : ItD} {l : List D} {gm : GM} (hl : LIt it l) (h : D → D) (hlen : l.length ≤ lineN) (step : ∀ (k : Nat) (d : D), l[k]? = some d → (gm d en S).sat fun en1 S1 => (me en1 S1).sat fun y S2 => y = h d ∧ S2 = S) (fin : PL (l.map h) S) : (lcM it.nxt gm mYes me en it.n 0 [] S).sat PL := by
  refine lc_inv hl (fun k acc S' => acc = (l.take k).map h ∧ S' = S) (fun k d acc S' hd i => ?_) (fun acc S' i => ?_) ⟨by simp, rfl⟩
  · obtain ⟨rfl, rfl⟩ := i
    have hk := (List.getElem?_eq_some_iff.mp hd).1
    refine (step k d hd).mono fun en1 S1 z => ?_
    simp only [mYes, r_ok, if_pos]
    refine z.mono fun y S2 q => ⟨by simp; omega, ?_, q.2⟩
    rw [q.1, List.take_add_one, hd]
    simp
  · obtain ⟨rfl, rfl⟩ := i
    simpa using fin
theorem q_lc {mi : IM} {vs : List Nat} {gm : GM} : (mLc mi vs gm t me en S).sat P ↔ (mi en S).sat fun it S1 => (lcM it.nxt gm t me (wipeE en vs) it.n 0 [] S1).sat fun l S2 => P (.lst l) S2 := by
  unfold mLc
  rw [r_bind]
  refine iff_of_eq (congrArg _ (funext fun it => funext fun S1 => ?_))
  cases lcM it.nxt gm t me (wipeE en vs) it.n 0 [] S1 <;> simp only [r_ok, r_exc, r_stuck, s_nx, s_rt, s_bk, s_ct, s_ex, s_st]
theorem q_lcC {mi : IM} {vs : List Nat} {gm : GM} : (mLcC mi vs gm t me en S).sat P ↔ (mi en S).sat fun it S1 => (lcM it.nxt gm t me (wipeE en vs) it.n 0 [] S1).sat fun l S2 => P (.ref S2.length) (S2 ++ [.lst l]) := by
  unfold mLcC
  rw [r_bind]
  refine iff_of_eq (congrArg _ (funext fun it => funext fun S1 => ?_))
  cases lcM it.nxt gm t me (wipeE en vs) it.n 0 [] S1 <;> simp only [r_ok, r_exc, r_stuck, s_nx, s_rt, s_bk, s_ct, s_ex, s_st]
theorem wh_inv {t : BM} {b : SM} (I : Nat → En → Sto → Prop) (step : ∀ n en S, I n en S → (t en S).sat fun c S1 => if c = true then (b en S1).sat (fun en2 S2 => ∃ m, m < n ∧ I m en2 S2) R else N en S1) {n : Nat} (h0 : I n en S) : (sWh t b en S).sat N R := by
  induction n using Nat.strongRecOn generalizing en S with
  | _ n ih =>
    have := step n en S h0
    rw [sWh_eq, p_bS]
    refine this.mono fun c S1 z => ?_
    by_cases hc : c = true
    · rw [if_pos hc] at z ⊢
      cases q : b en S1 with
      | next en2 S2 =>
        rw [q, s_nx] at z
        obtain ⟨m, hm, im⟩ := z
        exact ih m hm im
      | ret d S2 => rw [q, s_rt] at z; exact s_rt.mpr z
      | brk en2 S2 => rw [q, s_bk] at z; exact z.elim
      | cnt en2 S2 => rw [q, s_ct] at z; exact z.elim
      | exc c fs en2 S2 => rw [q, s_ex] at z; exact z.elim
      | stuck => rw [q, s_st] at z; exact z.elim
    · rw [if_neg hc] at z ⊢
      exact s_nx.mpr z
end
end Ag

namespace Ag
open PySem
/-! ### plain facts: equality, fractions, sizes -/
theorem sat_eq {α : Type} {r : Res α} {a : α} {S : Sto} (h : r.sat fun v S' => v = a ∧ S' = S) : r = .ok a S := by
  obtain ⟨v, S', rfl, rfl, rfl⟩ := h.eq
  rfl
theorem eq_sat {α : Type} {r : Res α} {a : α} {S : Sto} {P : α → Sto → Prop} (h : r = .ok a S) (p : P a S) : r.sat P := by rw [h, r_ok]; exact p
theorem sh_int (i : Int) : SeqAt.shaped (.int i) = true := by simp [SeqAt.shaped, PyData.canLay0, PyData.depth]
theorem ne_int (x y : Int) (S : Sto) : fNe (.int x) (.int y) S = some (.bl (decide (x ≠ y))) := by
  simp only [fNe, neD, pyS, D.py, sh_int, and_self, if_true, PyData.eqv]
  by_cases h : x = y <;> simp [h]
theorem eq_int (x y : Int) (S : Sto) : fEq (.int x) (.int y) S = some (.bl (decide (x = y))) := by
  simp only [fEq, eqD, pyS, D.py, sh_int, and_self, if_true, PyData.eqv]
  by_cases h : x = y <;> simp [h]
mutual
theorem eqv_refl : ∀ p : PyData, p.canLay0 = true → PyData.eqv p p = true
  | .none, _ => by simp only [PyData.eqv]
  | .bool b, _ => by simp only [PyData.eqv, beq_self_eq_true]
  | .int b, _ => by simp only [PyData.eqv, beq_self_eq_true]
  | .str b, _ => by simp only [PyData.eqv, beq_self_eq_true]
  | .list xs, h => by
    simp only [PyData.eqv]
    exact eqvAll_refl xs (by simpa [PyData.canLay0] using h)
  | .tuple xs, h => by
    simp only [PyData.eqv]
    exact eqvAll_refl xs (by simpa [PyData.canLay0] using h)
  | .dict _, h => by simp [PyData.canLay0] at h
theorem eqvAll_refl : ∀ ps : List PyData, PyData.canLayAll0 ps = true → PyData.eqvAll ps ps = true
  | [], _ => by simp only [PyData.eqvAll]
  | p :: ps, h => by
    simp only [PyData.canLayAll0, Bool.and_eq_true] at h
    simp only [PyData.eqvAll, eqv_refl p h.1, eqvAll_refl ps h.2, Bool.and_self]
end
/-- plain data of a small depth -/
def Pl (d : D) : Prop := ∃ p, d.py = some p ∧ SeqAt.shaped p = true
theorem pyS_py {d : D} {p : PyData} {S : Sto} (h : d.py = some p) : pyS d S = some p := by
  cases d with
  | ref i => simp [D.py] at h
  | _ => exact h
theorem ne_same {d : D} (h : Pl d) (S : Sto) : fNe d d S = some (.bl false) := by
  obtain ⟨p, h1, h2⟩ := h
  have e : neD d d S = some (.bl false) := by simp only [neD, pyS_py h1, h2, and_self, if_true, eqv_refl p (SeqAt.canLay_of_shaped h2), Bool.not_true]
  cases d with
  | str x => simp [fNe]
  | _ => exact e
theorem ne_text (x : Str) (S : Sto) : fNe (.str x) (.str x) S = some (.bl false) := by simp [fNe]
theorem eq_same {d : D} (h : Pl d) (S : Sto) : fEq d d S = some (.bl true) := by
  obtain ⟨p, h1, h2⟩ := h
  have e : eqD d d S = some (.bl true) := by simp only [eqD, pyS_py h1, h2, and_self, if_true, eqv_refl p (SeqAt.canLay_of_shaped h2)]
  cases d with
  | str x => simp [fEq]
  | _ => exact e
/-- depth bounded: flat, two levels, three levels -/
def Dp (k : Nat) (d : D) : Prop := ∃ p, d.py = some p ∧ p.canLay0 = true ∧ p.depth ≤ k
theorem Dp.pl {k : Nat} {d : D} (h : Dp k d) (hk : k ≤ 64) : Pl d := by
  obtain ⟨p, h1, h2, h3⟩ := h
  exact ⟨p, h1, by simp only [SeqAt.shaped, h2, Bool.true_and, decide_eq_true_eq]; omega⟩
theorem Dp.mono {k j : Nat} {d : D} (h : Dp k d) (hk : k ≤ j) : Dp j d := by
  obtain ⟨p, h1, h2, h3⟩ := h
  exact ⟨p, h1, h2, by omega⟩
theorem dp_int (i : Int) : Dp 0 (.int i) := ⟨.int i, rfl, by simp [PyData.canLay0], by simp [PyData.depth]⟩
theorem dp_str {x : Str} (h : PyData.strOk x = true) : Dp 0 (.str x) := ⟨.str x, rfl, by simpa [PyData.canLay0] using h, by simp [PyData.depth]⟩
theorem dp_bl (b : Bool) : Dp 0 (.bl b) := ⟨.bool b, rfl, by simp [PyData.canLay0], by simp [PyData.depth]⟩
theorem dp_non : Dp 0 .non := ⟨.none, rfl, by simp [PyData.canLay0], by simp [PyData.depth]⟩
theorem dps {k : Nat} : ∀ {l : List D}, (∀ d ∈ l, Dp k d) → ∃ ps, D.pys l = some ps ∧ PyData.canLayAll0 ps = true ∧ PyData.depthAll ps ≤ k
  | [], _ => ⟨[], rfl, by simp [PyData.canLayAll0], by simp [PyData.depthAll]⟩
  | d :: l, h => by
    obtain ⟨p, h1, h2, h3⟩ := h d (by simp)
    obtain ⟨ps, g1, g2, g3⟩ := dps (l := l) fun c hc => h c (by simp [hc])
    exact ⟨p :: ps, by simp only [D.pys, h1, g1], by simp [PyData.canLayAll0, h2, g2], by simp only [PyData.depthAll]; omega⟩
theorem dp_tup {k : Nat} {l : List D} (h : ∀ d ∈ l, Dp k d) : Dp (k + 1) (.tup l) := by
  obtain ⟨ps, h1, h2, h3⟩ := dps h
  exact ⟨.tuple ps, by simp only [D.py, h1, Option.map_some], by simpa [PyData.canLay0] using h2, by simp only [PyData.depth]; omega⟩
theorem dp_lst {k : Nat} {l : List D} (h : ∀ d ∈ l, Dp k d) : Dp (k + 1) (.lst l) := by
  obtain ⟨ps, h1, h2, h3⟩ := dps h
  exact ⟨.list ps, by simp only [D.py, h1, Option.map_some], by simpa [PyData.canLay0] using h2, by simp only [PyData.depth]; omega⟩
/-! fractions -/
def frac (q : Rat) : D := .tup [.int q.num, .int (q.den : Nat)]
theorem dp_frac (q : Rat) : Dp 1 (frac q) := dp_tup fun d hd => by
  simp only [List.mem_cons, List.not_mem_nil, or_false] at hd
  rcases hd with rfl | rfl <;> exact dp_int _
theorem frac_mk (t : Int) {b : Nat} (hb : b ≠ 0) : frac (mkRat t b) = .tup [.int (t / ((t.natAbs.gcd b : Nat) : Int)), .int ((b : Int) / ((t.natAbs.gcd b : Nat) : Int))] := by
  have e : mkRat t b = Rat.normalize t b hb := by unfold mkRat; rw [dif_neg hb]
  rw [e, Rat.normalize_eq]
  simp [frac]
/-! sizes -/
theorem log2_lt {n k : Nat} (h : n < 2 ^ k) (hk : 0 < k) : n.log2 < k := by
  by_cases h0 : n = 0
  · subst h0; simpa using hk
  · exact (Nat.log2_lt h0).mpr h
theorem mulOk_of {x y : Int} {a b : Nat} (hx : x.natAbs < 2 ^ a) (hy : y.natAbs < 2 ^ b) (ha : 0 < a) (hb : 0 < b) (h : a + b < 1000000) : mulOk x y = true := by
  have h1 := log2_lt hx ha
  have h2 := log2_lt hy hb
  have h3 : x.natAbs.log2 + y.natAbs.log2 < 1000000 := by omega
  simp [mulOk, h3]
theorem divOk_of {j : Int} {a : Nat} (h0 : 0 < j) (h : j.natAbs < 2 ^ a) (ha : 0 < a) (h9 : a ≤ 9000) : divOk j = true := by
  have h1 := log2_lt h ha
  have h2 : j.natAbs.log2 < 9000 := by omega
  simp [divOk, h0, h2]
theorem natAbs_mul_lt {x y : Int} {a b : Nat} (hx : x.natAbs < 2 ^ a) (hy : y.natAbs < 2 ^ b) : (x * y).natAbs < 2 ^ (a + b) := by
  rw [Int.natAbs_mul, Nat.pow_add]
  exact Nat.mul_lt_mul'' hx hy
theorem lt_pow {n a b : Nat} (h : n < 2 ^ a) (hab : a ≤ b) : n < 2 ^ b := Nat.lt_of_lt_of_le h (Nat.pow_le_pow_right (by decide) hab)
/-- z over M, z small -/
def Rp (M B : Nat) (q : Rat) : Prop := ∃ z : Int, q = mkRat z M ∧ z.natAbs ≤ B
theorem Rp.den {M B : Nat} {q : Rat} (hM : 0 < M) (h : Rp M B q) : q.den ≤ M := by
  obtain ⟨z, rfl, _⟩ := h
  have hb : M ≠ 0 := by omega
  have e : mkRat z M = Rat.normalize z M hb := by unfold mkRat; rw [dif_neg hb]
  rw [e, Rat.normalize_eq]
  exact Nat.div_le_self _ _
theorem Rp.num {M B : Nat} {q : Rat} (hM : 0 < M) (h : Rp M B q) : q.num.natAbs ≤ B := by
  obtain ⟨z, rfl, hz⟩ := h
  have hb : M ≠ 0 := by omega
  have e : mkRat z M = Rat.normalize z M hb := by unfold mkRat; rw [dif_neg hb]
  rw [e, Rat.normalize_eq]
  refine Nat.le_trans ?_ hz
  show (z / ((z.natAbs.gcd M : Nat) : Int)).natAbs ≤ z.natAbs
  exact Int.natAbs_ediv_le_natAbs _ _
theorem mkRat_div (z : Int) (M : Nat) : mkRat z M = (z : Rat) / (M : Rat) := Rat.mkRat_eq_div z M
theorem Rp.add {M B C : Nat} {p q : Rat} (hM : 0 < M) (h : Rp M B p) (g : Rp M C q) : Rp M (B + C) (p + q) := by
  obtain ⟨x, rfl, hx⟩ := h
  obtain ⟨y, rfl, hy⟩ := g
  refine ⟨x + y, ?_, by omega⟩
  have hm : (M : Rat) ≠ 0 := by simpa using (show M ≠ 0 by omega)
  simp only [mkRat_div, Rat.intCast_add]
  grind
theorem Rp.mulI {M B : Nat} {q : Rat} (h : Rp M B q) (w : Int) : Rp M (w.natAbs * B) (q * (w : Rat)) := by
  obtain ⟨x, rfl, hx⟩ := h
  refine ⟨x * w, ?_, ?_⟩
  · simp only [mkRat_div, Rat.intCast_mul]
    grind
  · rw [Int.natAbs_mul, Nat.mul_comm]
    exact Nat.mul_le_mul_left _ hx
theorem Rp.zero {M : Nat} : Rp M 0 0 := ⟨0, by simp only [mkRat_div]; grind, by simp⟩
/-- over a sum, to a common measure -/
theorem Rp.divN {M B s L : Nat} {q : Rat} (hs : 0 < s) (hd : s ∣ L) (hL : 0 < L) (h : Rp M (s * B) q) : Rp (M * L) (B * L) (q / (s : Rat)) := by
  obtain ⟨x, rfl, hx⟩ := h
  obtain ⟨c, rfl⟩ := hd
  refine ⟨x * c, ?_, ?_⟩
  · have h1 : (s : Rat) ≠ 0 := by simpa using (show s ≠ 0 by omega)
    have h2 : (c : Rat) ≠ 0 := by
      have : c ≠ 0 := by intro z; subst z; simp at hL
      simpa using this
    simp only [mkRat_div, Rat.intCast_mul, Rat.natCast_mul, Rat.intCast_natCast]
    grind
  · rw [Int.natAbs_mul, Int.natAbs_natCast]
    calc x.natAbs * c ≤ s * B * c := Nat.mul_le_mul_right _ hx
      _ = B * (s * c) := by rw [Nat.mul_comm s B, Nat.mul_assoc]
theorem Rp.up {M B L : Nat} {q : Rat} (hL : 0 < L) (h : Rp M B q) : Rp (M * L) (B * L) q := by
  have := Rp.divN (s := 1) (L := L) (by decide) (Nat.one_dvd _) hL (B := B) (by simpa using h)
  have e : q / ((1 : Nat) : Rat) = q := by grind
  rw [e] at this
  exact this
end Ag

namespace Ag
open PySem
theorem gcd_step (x y : Int) (hx : 0 ≤ x) (hy : 0 < y) : (x % y).natAbs.gcd y.natAbs = x.natAbs.gcd y.natAbs := by
  obtain ⟨a, rfl⟩ := Int.eq_ofNat_of_zero_le hx
  obtain ⟨b, rfl⟩ := Int.eq_ofNat_of_zero_le (Int.le_of_lt hy)
  have e : ((a : Int) % (b : Int)).natAbs = a % b := by rw [← Int.natCast_emod, Int.natAbs_natCast]
  rw [e]
  simp only [Int.natAbs_natCast]
  rw [← Nat.gcd_rec, Nat.gcd_comm]
theorem div_top {t b g : Int} (hb : 0 < b) (e : g = ((t.natAbs.gcd b.natAbs : Nat) : Int)) : D.tup [.int (t / g), .int (b / g)] = frac ((t : Rat) / (b : Rat)) := by
  obtain ⟨n, rfl⟩ := Int.eq_ofNat_of_zero_le (Int.le_of_lt hb)
  have hn : n ≠ 0 := by intro z; subst z; simp at hb
  subst e
  have := frac_mk t hn
  rw [mkRat_div] at this
  simp only [Int.natAbs_natCast, Rat.intCast_natCast]
  exact this.symm
theorem at_k {α : Type} (l : List α) (k : Nat) : L2.atI l (k : Int) = l[k]? := by
  unfold L2.atI L2.ixN
  rw [if_pos (by omega)]
  by_cases h : k < l.length
  · rw [if_pos (by omega)]; simp
  · rw [if_neg (by omega), List.getElem?_eq_none (by omega)]; rfl
theorem ix_k (l : List D) (k : Nat) (S : Sto) : fIx (.tup l) (.int (k : Int)) S = l[k]? := at_k l k
theorem ix_0 (a : D) (l : List D) (S : Sto) : fIx (.tup (a :: l)) (.int 0) S = some a := ix_k (a :: l) 0 S
theorem ix_1 (a b : D) (l : List D) (S : Sto) : fIx (.tup (a :: b :: l)) (.int 1) S = some b := ix_k (a :: b :: l) 1 S
theorem num_den (q : Rat) : ((q.num : Int) : Rat) / ((q.den : Nat) : Rat) = q := by
  rw [← mkRat_div]
  exact Rat.mkRat_self q
theorem den_pos (q : Rat) : 0 < ((q.den : Nat) : Int) := by have := q.den_nz; omega
def dot : List Rat → List Int → Rat
  | t :: ts, w :: ws => t * (w : Rat) + dot ts ws
  | _, _ => 0
theorem dot_step : ∀ (ts : List Rat) (ws : List Int) (k : Nat) (t : Rat) (w : Int), ts[k]? = some t → ws[k]? = some w → dot (ts.take (k + 1)) (ws.take (k + 1)) = dot (ts.take k) (ws.take k) + t * (w : Rat)
  | [], _, k, t, w, h, _ => by simp at h
  | _ :: _, [], k, t, w, _, h => by simp at h
  | x :: ts, y :: ws, 0, t, w, h1, h2 => by
    simp only [List.getElem?_cons_zero, Option.some.injEq] at h1 h2
    subst h1 h2
    simp only [List.take_succ_cons, List.take_zero, dot]
    grind
  | x :: ts, y :: ws, k + 1, t, w, h1, h2 => by
    simp only [List.getElem?_cons_succ] at h1 h2
    have := dot_step ts ws k t w h1 h2
    simp only [List.take_succ_cons, dot] at this ⊢
    rw [this]
    grind
theorem sum_take_le : ∀ (ws : List Int) (k : Nat), (∀ w ∈ ws, 0 ≤ w) → 0 ≤ (ws.take k).sum ∧ (ws.take k).sum ≤ ws.sum
  | [], k, _ => by simp
  | w :: ws, 0, h => by
    have := sum_take_le ws ws.length fun z hz => h z (by simp [hz])
    have h0 := h w (by simp)
    simp only [List.take_length] at this
    simp only [List.take_zero, List.sum_nil, List.sum_cons]
    omega
  | w :: ws, k + 1, h => by
    have := sum_take_le ws k fun z hz => h z (by simp [hz])
    have h0 := h w (by simp)
    simp only [List.take_succ_cons, List.sum_cons]
    omega
theorem sum_step : ∀ (ws : List Int) (k : Nat) (w : Int), ws[k]? = some w → (ws.take (k + 1)).sum = (ws.take k).sum + w
  | [], k, w, h => by simp at h
  | x :: ws, 0, w, h => by
    simp only [List.getElem?_cons_zero, Option.some.injEq] at h
    subst h; simp
  | x :: ws, k + 1, w, h => by
    simp only [List.getElem?_cons_succ] at h
    have := sum_step ws k w h
    simp only [List.take_succ_cons, List.sum_cons] at this ⊢
    omega
structure Day (ts : List Rat) (ws : List Int) (M B a : Nat) : Prop where
  len : ws.length = ts.length
  nn : ∀ w ∈ ws, 0 ≤ w
  pos : 0 < ws.sum
  s64 : ws.sum.natAbs < 2 ^ 64
  m0 : 0 < M
  ma : M < 2 ^ a
  ba : ws.sum.natAbs * B < 2 ^ a
  rp : ∀ t ∈ ts, Rp M B t
  a0 : 0 < a
  a4 : a ≤ 4000
variable {ts : List Rat} {ws : List Int} {M B a : Nat}
theorem Day.dot (h : Day ts ws M B a) : ∀ k, k ≤ ts.length → Rp M ((ws.take k).sum.natAbs * B) (dot (ts.take k) (ws.take k))
  | 0, _ => by simpa [Ag.dot] using Rp.zero
  | k + 1, hk => by
    have h1 : ts[k]? = some ts[k] := List.getElem?_eq_getElem (by omega)
    have h2 : ws[k]? = some (ws[k]'(by rw [h.len]; omega)) := List.getElem?_eq_getElem (by rw [h.len]; omega)
    rw [dot_step ts ws k _ _ h1 h2, sum_step ws k _ h2]
    have ih := h.dot k (by omega)
    have r := (h.rp _ (List.mem_of_getElem? h1)).mulI (ws[k]'(by rw [h.len]; omega))
    have := Rp.add h.m0 ih r
    have h3 := (sum_take_le ws k h.nn).1
    have h4 := h.nn _ (List.mem_of_getElem? h2)
    rw [← Nat.add_mul] at this
    rwa [show ((ws.take k).sum + ws[k]'(by rw [h.len]; omega)).natAbs = (ws.take k).sum.natAbs + (ws[k]'(by rw [h.len]; omega)).natAbs by omega]
theorem rp_le {B C : Nat} {q : Rat} (h : Rp M B q) (hb : B ≤ C) : Rp M C q := by
  obtain ⟨z, e, hz⟩ := h
  exact ⟨z, e, by omega⟩
theorem Day.part (h : Day ts ws M B a) {k : Nat} (hk : k ≤ ts.length) : (Ag.dot (ts.take k) (ws.take k)).den < 2 ^ a ∧ (Ag.dot (ts.take k) (ws.take k)).num.natAbs < 2 ^ a := by
  have h1 := h.dot k hk
  have h2 := sum_take_le ws k h.nn
  have h3 := (rp_le h1 (C := ws.sum.natAbs * B) (Nat.mul_le_mul_right _ (by omega)))
  exact ⟨Nat.lt_of_le_of_lt (h3.den h.m0) h.ma, Nat.lt_of_le_of_lt (h3.num h.m0) h.ba⟩
theorem mem_le_sum : ∀ {ws : List Int}, (∀ w ∈ ws, 0 ≤ w) → ∀ w ∈ ws, w ≤ ws.sum
  | [], _, w, hw => by simp at hw
  | x :: ws, h, w, hw => by
    have h0 := h x (by simp)
    have hs := (sum_take_le ws 0 fun z hz => h z (by simp [hz]))
    simp only [List.take_zero, List.sum_nil] at hs
    rcases List.mem_cons.mp hw with rfl | hw
    · simp only [List.sum_cons]; omega
    · have := mem_le_sum (fun z hz => h z (by simp [hz])) w hw
      simp only [List.sum_cons]; omega
theorem Day.one (h : Day ts ws M B a) {t : Rat} {w : Int} (ht : t ∈ ts) (hw : w ∈ ws) : (t * (w : Rat)).den < 2 ^ a ∧ (t * (w : Rat)).num.natAbs < 2 ^ a ∧ t.den < 2 ^ a ∧ w.natAbs < 2 ^ 64 := by
  have h0 := h.nn w hw
  have h1 := mem_le_sum h.nn w hw
  have h3 := rp_le ((h.rp t ht).mulI w) (C := ws.sum.natAbs * B) (Nat.mul_le_mul_right _ (by omega))
  have := h.s64
  exact ⟨Nat.lt_of_le_of_lt (h3.den h.m0) h.ma, Nat.lt_of_le_of_lt (h3.num h.m0) h.ba, Nat.lt_of_le_of_lt ((h.rp t ht).den h.m0) h.ma, by omega⟩
theorem mulOk_r {x y : Int} (h : y.natAbs < 2 ^ 64) : mulOk x y = true := by
  unfold mulOk
  rw [decide_eq_true h]
  simp
theorem ints_map : ∀ ws : List Int, isInts (ws.map .int) = some ws
  | [] => rfl
  | w :: ws => by simp [isInts, ints_map ws]
theorem sum_tup (ws : List Int) (S : Sto) : gSum (.tup (ws.map .int)) S = some (.int ws.sum) := by simp [gSum, ints_map]
theorem div_mul_cast {t : Rat} {w : Int} : (((t.num * w : Int) : Rat)) / ((((t.den : Nat) : Int) : Rat)) = t * (w : Rat) := by
  have ex := num_den t
  have nx : ((t.den : Nat) : Rat) ≠ 0 := by have := t.den_nz; simpa using this
  simp only [Rat.intCast_mul, Rat.intCast_natCast]
  generalize (t.num : Rat) = tn at *
  generalize ((t.den : Nat) : Rat) = td at *
  subst ex
  grind
theorem div_den_mul {q : Rat} {s : Int} (hs : 0 < s) : ((q.num : Rat)) / (((((q.den : Nat) : Int) * s : Int) : Rat)) = q / (s : Rat) := by
  have ex := num_den q
  have nx : ((q.den : Nat) : Rat) ≠ 0 := by have := q.den_nz; simpa using this
  have ns : (s : Rat) ≠ 0 := by
    have : s ≠ 0 := by omega
    simpa using this
  simp only [Rat.intCast_mul, Rat.intCast_natCast]
  generalize (q.num : Rat) = tn at *
  generalize ((q.den : Nat) : Rat) = td at *
  generalize (s : Rat) = sr at *
  subst ex
  grind
theorem frac_0 : D.tup [.int 0, .int 1] = frac 0 := rfl
theorem rg1_len (n : Nat) (S : Sto) (h : n < 2 ^ 62) : rg1 [.int (n : Int)] S = some (rgIt 0 n) := by
  have e : rgB (n : Int) = true := by simp [rgB]; omega
  simp [rg1, rgOf, e]
theorem add_frac {x t : Rat} {w : Int} : (((x.num * ((t.den : Nat) : Int) + t.num * w * ((x.den : Nat) : Int) : Int)) : Rat) / (((((x.den : Nat) : Int) * ((t.den : Nat) : Int) : Int)) : Rat) = x + t * (w : Rat) := by
  have ex := num_den x
  have et := num_den t
  have nx : ((x.den : Nat) : Rat) ≠ 0 := by have := x.den_nz; simpa using this
  have nt : ((t.den : Nat) : Rat) ≠ 0 := by have := t.den_nz; simpa using this
  simp only [Rat.intCast_mul, Rat.intCast_add, Rat.intCast_natCast]
  generalize (x.num : Rat) = xn at *
  generalize (t.num : Rat) = tn at *
  generalize ((x.den : Nat) : Rat) = xd at *
  generalize ((t.den : Nat) : Rat) = td at *
  generalize (w : Rat) = wr at *
  subst ex et
  grind

theorem eqv_str (x y : Str) : PyData.eqv (.str x) (.str y) = decide (x = y) := by
  simp only [PyData.eqv]
  by_cases h : x = y <;> simp [h]
theorem pys_strs : ∀ hs : List Str, D.pys (hs.map .str) = some (hs.map .str)
  | [] => rfl
  | h :: hs => by simp [D.pys, D.py, pys_strs hs]
theorem lay_strs : ∀ {hs : List Str}, (∀ h ∈ hs, PyData.strOk h = true) → PyData.canLayAll0 (hs.map .str) = true ∧ PyData.depthAll (hs.map .str) = 0
  | [], _ => ⟨rfl, rfl⟩
  | h :: hs, k => by
    obtain ⟨a, b⟩ := lay_strs (hs := hs) fun z hz => k z (by simp [hz])
    simp [PyData.canLayAll0, PyData.canLay0, PyData.depthAll, PyData.depth, a, b, k h (by simp)]
theorem in_strs {x : Str} {hs : List Str} (S : Sto) (hx : PyData.strOk x = true) (h : ∀ y ∈ hs, PyData.strOk y = true) : fIn (.str x) (.tup (hs.map .str)) S = some (.bl (decide (x ∈ hs))) := by
  obtain ⟨a, b⟩ := lay_strs h
  have e1 : SeqAt.shaped (.str x) = true := by simp [SeqAt.shaped, PyData.canLay0, PyData.depth, hx]
  have e2 : SeqAt.shaped (.tuple (hs.map .str)) = true := by simp [SeqAt.shaped, PyData.canLay0, PyData.depth, a, b]
  simp only [fIn, inD, pyS, D.py, pys_strs, Option.map_some, e1, e2, and_self, if_true]
  congr 2
  rw [List.any_map]
  have : ((fun z => PyData.eqv z (.str x)) ∘ PyData.str) = fun z => decide (z = x) := funext fun z => eqv_str z x
  rw [this]
  by_cases hm : x ∈ hs
  · rw [decide_eq_true hm, List.any_eq_true]
    exact ⟨x, hm, by simp⟩
  · rw [decide_eq_false hm, List.any_eq_false]
    intro z hz
    have : z ≠ x := fun e => hm (e ▸ hz)
    simp [this]
theorem cut_take (l : List D) (k : Nat) : cutD l none (some (k : Int)) = l.take k := by
  simp only [cutD, HT.sIx_none, HT.sIx_nat, List.drop_zero, Nat.sub_zero]
  by_cases h : k ≤ l.length
  · rw [Nat.min_eq_left h]
  · rw [Nat.min_eq_right (by omega), List.take_of_length_le (Nat.le_refl _), List.take_of_length_le (by omega)]
theorem eq_len0 {α : Type} {l : List α} (h : l ≠ []) : ((l.length : Int) = 0) = False := by
  have := List.length_pos_iff.mpr h
  simp; exact h
def rowD (r : List Int) : D := .tup (r.map .int)
def wayD (w : List (List Int)) : D := .tup (w.map rowD)
structure RowOk (n : Nat) (r : List Int) : Prop where
  len : r.length = n
  in_ : ∀ w ∈ r, 0 ≤ w ∧ w ≤ 1000000000
  pos : 0 < r.sum
structure WayOk (n : Nat) (w : List (List Int)) : Prop where
  len : w.length = n
  row : ∀ r ∈ w, RowOk n r
theorem all_true (n : Nat) (S : Sto) : f1 gAll [.lst (List.replicate n (.bl true))] S = some (.bl true) := by
  have : ∀ n, isBls (List.replicate n (D.bl true)) = some (List.replicate n true) := by
    intro n
    induction n with
    | zero => rfl
    | succ n ih => simp [List.replicate_succ, isBls, ih]
  simp [f1, gAll, rdOf, lstOf, this]
theorem map_true {α : Type} {l : List α} {h : α → D} (k : ∀ d ∈ l, h d = .bl true) : l.map h = List.replicate l.length (.bl true) := by
  induction l with
  | nil => rfl
  | cons x l ih => simp [k x (by simp), ih fun d hd => k d (by simp [hd]), List.replicate_succ]
theorem len_line {n : Nat} (h : n < 1000) : n ≤ lineN := by unfold lineN; omega
def Nr (d : D) : Prop := ∀ n, below n d = true
theorem nrs {l : List D} (h : ∀ d ∈ l, Nr d) (n : Nat) : belows n l = true := by
  induction l with
  | nil => rfl
  | cons d l ih => simp [belows, h d (by simp) n, ih fun c hc => h c (by simp [hc])]
theorem nr_int (i : Int) : Nr (.int i) := fun _ => rfl
theorem nr_str (x : Str) : Nr (.str x) := fun _ => rfl
theorem nr_tup {l : List D} (h : ∀ d ∈ l, Nr d) : Nr (.tup l) := fun n => by simp only [below]; exact nrs h n
theorem nr_lst {l : List D} (h : ∀ d ∈ l, Nr d) : Nr (.lst l) := fun n => by simp only [below]; exact nrs h n
theorem nr_map {α : Type} {l : List α} {f : α → D} (h : ∀ a, Nr (f a)) : ∀ d ∈ l.map f, Nr d := fun d hd => by
  obtain ⟨a, _, rfl⟩ := List.mem_map.mp hd
  exact h a
theorem nr_row (r : List Int) : Nr (rowD r) := nr_tup (nr_map nr_int)
theorem nr_way (w : List (List Int)) : Nr (wayD w) := nr_tup (nr_map nr_row)
theorem nr_frac (q : Rat) : Nr (frac q) := fun n => rfl
def Cl (S : Sto) : Prop := ∀ o ∈ S, ∀ n, o.below n = true
theorem cl_all {S : Sto} (h : Cl S) (n : Nat) : S.all (Ob.below n) = true := List.all_eq_true.mpr fun o ho => h o ho n
def cncl (hs : List Str) (ws : List (List (List Int))) : D := .obj "Council" ["heads", "tables"] [.tup (hs.map .str), .tup (ws.map wayD)]
theorem p_fld {cs : List Str} {f : Str} {mo mv : EM} {en : En} {S : Sto} {N : En → Sto → Prop} {R : D → Sto → Prop} (h : (mv en S).sat fun d S1 => (mo en S1).sat fun o S2 => ∃ i c ns l r, o = .ref i ∧ S2[i]? = some (.ins c ns l) ∧ c ∈ cs ∧ ns.length < 1000 ∧ putL f d ns l = some r ∧ N en (S2.set i (.ins c r.1 r.2))) : (sFldM cs f mo mv en S).sat N R := by
  unfold sFldM
  rw [p_eS]
  refine h.mono fun d S1 h1 => ?_
  rw [p_eS]
  refine h1.mono fun o S2 h2 => ?_
  obtain ⟨i, c, ns, l, r, rfl, e, hc, hn, hp, k⟩ := h2
  simp only [e, hc, hn, and_self, if_true, hp]
  exact s_nx.mpr k
theorem ne_nil (S : Sto) : fNe (.tup []) (.tup []) S = some (.bl false) := ne_same ⟨.tuple [], rfl, rfl⟩ S
theorem cls_c (hs : List Str) (ws : List (List (List Int))) (S : Sto) : clsD (cncl hs ws) S = some ("Council" : Str) := rfl
def wordD (p : List Nat) : D := .tup (p.map fun (k : Nat) => .int (k : Int))
def dayR (w : List (List Int)) (ts : List Rat) : List Rat := w.map fun r => dot ts r / (r.sum : Rat)
def walkR (ws : List (List (List Int))) (p : List Nat) (ts : List Rat) : List Rat := p.foldl (fun ts k => dayR (ws.getD k []) ts) ts
/-- d days old: sizes -/
def Sz (n d : Nat) (ts : List Rat) : Prop := ts.length = n ∧ ∃ M B : Nat, 0 < M ∧ M < 2 ^ (12 + 198 * d) ∧ B < 2 ^ (112 + 198 * d) ∧ ∀ t ∈ ts, Rp M B t
theorem RowOk.sum_lt {n : Nat} {r : List Int} (h : RowOk n r) (hn : n ≤ 6) : r.sum.natAbs < 2 ^ 33 := by
  have : ∀ l : List Int, (∀ w ∈ l, 0 ≤ w ∧ w ≤ 1000000000) → l.sum ≤ 1000000000 * (l.length : Int) ∧ 0 ≤ l.sum := by
    intro l
    induction l with
    | nil => intro _; simp
    | cons x l ih =>
      intro k
      have h1 := ih fun w hw => k w (by simp [hw])
      have h2 := k x (by simp)
      simp only [List.sum_cons, List.length_cons]
      omega
  have h1 := this r h.in_
  rw [h.len] at h1
  have : (2 : Nat) ^ 33 = 8589934592 := by decide
  omega
theorem Sz.day {n d : Nat} {ts : List Rat} (h : Sz n d ts) {r : List Int} (hr : RowOk n r) (hn : n ≤ 6) (hd : d ≤ 18) : ∃ M B, Day ts r M B (145 + 198 * d) := by
  obtain ⟨hl, M, B, h0, h1, h2, h3⟩ := h
  refine ⟨M, B, ⟨hr.len.trans hl.symm, fun w hw => (hr.in_ w hw).1, hr.pos, lt_pow (hr.sum_lt hn) (by decide), h0, lt_pow h1 (by omega), ?_, h3, by omega, by omega⟩⟩
  have := Nat.mul_lt_mul'' (hr.sum_lt hn) h2
  rw [← Nat.pow_add] at this
  exact lt_pow this (by omega)
theorem prod_dvd : ∀ {l : List Nat} {x : Nat}, x ∈ l → x ∣ l.prod
  | [], x, h => by simp at h
  | y :: l, x, h => by
    rw [List.prod_cons]
    rcases List.mem_cons.mp h with rfl | h
    · exact Nat.dvd_mul_right _ _
    · exact Nat.dvd_trans (prod_dvd h) (Nat.dvd_mul_left _ _)
theorem prod_le : ∀ (l : List Nat), (∀ x ∈ l, 0 < x ∧ x < 2 ^ 33) → 0 < l.prod ∧ l.prod ≤ 2 ^ (33 * l.length)
  | [], _ => by simp
  | y :: l, h => by
    obtain ⟨h1, h2⟩ := prod_le l fun x hx => h x (by simp [hx])
    obtain ⟨h3, h4⟩ := h y (by simp)
    rw [List.prod_cons, List.length_cons, show 33 * (l.length + 1) = 33 + 33 * l.length by omega, Nat.pow_add]
    exact ⟨Nat.mul_pos h3 h1, Nat.mul_le_mul (Nat.le_of_lt h4) h2⟩
theorem Sz.next {n d : Nat} {ts : List Rat} (h : Sz n d ts) {w : List (List Int)} (hw : WayOk n w) (hn : n ≤ 6) (hd : d ≤ 18) : Sz n (d + 1) (dayR w ts) := by
  obtain ⟨hl, M, B, h0, h1, h2, h3⟩ := id h
  obtain ⟨l1, l2⟩ := prod_le (w.map fun r => r.sum.natAbs) (by
    intro x hx
    obtain ⟨r, hr, rfl⟩ := List.mem_map.mp hx
    have := (hw.row r hr).pos
    exact ⟨by omega, (hw.row r hr).sum_lt hn⟩)
  have l3 : (w.map fun r => r.sum.natAbs).prod ≤ 2 ^ 198 := Nat.le_trans l2 (Nat.pow_le_pow_right (by decide) (by rw [List.length_map, hw.len]; omega))
  refine ⟨by simp [dayR, hw.len], M * (w.map fun r => r.sum.natAbs).prod, B * (w.map fun r => r.sum.natAbs).prod, Nat.mul_pos h0 l1, ?_, ?_, ?_⟩
  · rw [show 12 + 198 * (d + 1) = (12 + 198 * d) + 198 by omega, Nat.pow_add]
    exact Nat.mul_lt_mul_of_lt_of_le h1 l3 (Nat.pow_pos (by decide))
  · rw [show 112 + 198 * (d + 1) = (112 + 198 * d) + 198 by omega, Nat.pow_add]
    exact Nat.mul_lt_mul_of_lt_of_le h2 l3 (Nat.pow_pos (by decide))
  · intro t ht
    obtain ⟨r, hr, rfl⟩ := List.mem_map.mp ht
    obtain ⟨M', B', D'⟩ := h.day (hw.row r hr) hn hd
    have hp := (hw.row r hr).pos
    have dd : Day ts r M B (145 + 198 * d) := ⟨D'.len, D'.nn, D'.pos, D'.s64, h0, lt_pow h1 (by omega), by
      have := Nat.mul_lt_mul'' ((hw.row r hr).sum_lt hn) h2
      rw [← Nat.pow_add] at this
      exact lt_pow this (by omega), h3, by omega, by omega⟩
    have e := dd.dot ts.length (Nat.le_refl _)
    rw [List.take_length, show r.take ts.length = r by rw [← dd.len, List.take_length]] at e
    have := Rp.divN (s := r.sum.natAbs) (by omega) (prod_dvd (List.mem_map.mpr ⟨r, hr, rfl⟩)) l1 e
    rw [show ((r.sum.natAbs : Nat) : Rat) = (r.sum : Rat) by
      rw [← Rat.intCast_natCast]
      congr 1
      omega] at this
    exact this
theorem Sz.den {n d : Nat} {ts : List Rat} (h : Sz n d ts) : ∀ t ∈ ts, t.den < 2 ^ (12 + 198 * d) ∧ t.num.natAbs < 2 ^ (112 + 198 * d) := fun t ht => by
  obtain ⟨hl, M, B, h0, h1, h2, h3⟩ := h
  exact ⟨Nat.lt_of_le_of_lt ((h3 t ht).den h0) h1, Nat.lt_of_le_of_lt ((h3 t ht).num h0) h2⟩
theorem tup_lst (l : List D) (S : Sto) : f1 gTup [.lst l] S = some (.tup l) := rfl
theorem map_get {α β : Type} {l : List α} {f : α → β} {k : Nat} {d : β} (h : (l.map f)[k]? = some d) : ∃ a, a ∈ l ∧ l[k]? = some a ∧ d = f a := by
  rw [List.getElem?_map] at h
  obtain ⟨a, ha, rfl⟩ := Option.map_eq_some_iff.mp h
  exact ⟨a, List.mem_of_getElem? ha, ha, rfl⟩
theorem getD_mem {ws : List (List (List Int))} {k : Nat} (h : k < ws.length) : ws.getD k [] ∈ ws ∧ ws[k]? = some (ws.getD k []) := by
  have e : ws.getD k [] = ws[k] := by simp [List.getD, List.getElem?_eq_getElem h]
  rw [e]
  exact ⟨List.getElem_mem h, List.getElem?_eq_getElem h⟩
theorem walk_sz {n : Nat} {ws : List (List (List Int))} (hw : ∀ w ∈ ws, WayOk n w) (hn : n ≤ 6) : ∀ (p : List Nat) {d : Nat} {ts : List Rat}, Sz n d ts → (∀ k ∈ p, k < ws.length) → d + p.length ≤ 18 → Sz n (d + p.length) (walkR ws p ts)
  | [], d, ts, h, _, _ => h
  | k :: p, d, ts, h, hp, hd => by
    simp only [List.length_cons] at hd ⊢
    have := walk_sz hw hn p (h.next (hw _ (getD_mem (hp k (by simp))).1) hn (by omega)) (fun j hj => hp j (by simp [hj])) (by omega)
    rw [show d + (p.length + 1) = d + 1 + p.length by omega]
    exact this
theorem walk_step (ws : List (List (List Int))) (p : List Nat) (ts : List Rat) {k : Nat} {j : Nat} (h : p[k]? = some j) : walkR ws (p.take (k + 1)) ts = dayR (ws.getD j []) (walkR ws (p.take k) ts) := by
  unfold walkR
  rw [List.take_add_one, h, List.foldl_append]
  rfl
structure Jg (S : Sto) (i : Nat) : Prop where
  cl : Cl S
  at_ : ∃ a b c : Int, S[i]? = some (.lst [.int a, .int b, .int c])
/-- what was there stands, but for the jug -/
structure Ex (S S' : Sto) (i : Nat) : Prop where
  len : S.length ≤ S'.length
  jg : Jg S' i
  oth : ∀ j, j < S.length → j ≠ i → S'[j]? = S[j]?
structure Lk (S S' : Sto) (i : Nat) : Prop extends Ex S S' i where
  same : S'.length = S.length
theorem Jg.lt {S : Sto} {i : Nat} (h : Jg S i) : i < S.length := by
  obtain ⟨a, b, c, e⟩ := h.at_
  exact (List.getElem?_eq_some_iff.mp e).1
theorem Ex.refl {S : Sto} {i : Nat} (h : Jg S i) : Ex S S i := ⟨Nat.le_refl _, h, fun _ _ _ => rfl⟩
theorem Lk.refl {S : Sto} {i : Nat} (h : Jg S i) : Lk S S i := ⟨.refl h, rfl⟩
theorem Ex.trans {S S1 S2 : Sto} {i : Nat} (a : Ex S S1 i) (b : Ex S1 S2 i) : Ex S S2 i := ⟨Nat.le_trans a.len b.len, b.jg, fun j hj hi => by rw [b.oth j (Nat.lt_of_lt_of_le hj a.len) hi, a.oth j hj hi]⟩
theorem Lk.trans {S S1 S2 : Sto} {i : Nat} (a : Lk S S1 i) (b : Lk S1 S2 i) : Lk S S2 i := ⟨a.toEx.trans b.toEx, b.same.trans a.same⟩
theorem Ex.cut {S S' : Sto} {i : Nat} (h : Ex S S' i) (hi : i < S.length) : Lk S (S'.take S.length) i := by
  have hl : (S'.take S.length).length = S.length := by rw [List.length_take]; have := h.len; omega
  refine ⟨⟨by omega, ⟨fun o ho => h.jg.cl o (List.mem_of_mem_take ho), ?_⟩, fun j hj hji => ?_⟩, hl⟩
  · obtain ⟨a, b, c, e⟩ := h.jg.at_
    exact ⟨a, b, c, by rw [List.getElem?_take_of_lt hi]; exact e⟩
  · rw [List.getElem?_take_of_lt hj]; exact h.oth j hj hji
theorem cl_set {S : Sto} {i : Nat} {o : Ob} (h : Cl S) (ho : ∀ n, o.below n = true) : Cl (S.set i o) := fun x hx => by
  rcases List.mem_or_eq_of_mem_set hx with hx | rfl
  · exact h x hx
  · exact ho
theorem cl_app {S : Sto} {o : Ob} (h : Cl S) (ho : ∀ n, o.below n = true) : Cl (S ++ [o]) := fun x hx => by
  rcases List.mem_append.mp hx with hx | hx
  · exact h x hx
  · have : x = o := by simpa using hx
    subst this; exact ho
theorem bel_lst {l : List D} (h : ∀ d ∈ l, Nr d) : ∀ n, (Ob.lst l).below n = true := fun n => nrs h n
theorem Lk.put {S : Sto} {i : Nat} (h : Jg S i) (a b c : Int) : Lk S (S.set i (.lst [.int a, .int b, .int c])) i :=
  ⟨⟨by simp, ⟨cl_set h.cl (bel_lst fun d hd => by
    simp only [List.mem_cons, List.not_mem_nil, or_false] at hd
    rcases hd with rfl | rfl | rfl <;> exact nr_int _), a, b, c, by simp [h.lt]⟩, fun j _ hj => by rw [List.getElem?_set_ne (Ne.symm hj)]⟩, by simp⟩
/-- a local cell is written -/
theorem Ex.put {S S' : Sto} {i j : Nat} {o : Ob} (h : Ex S S' i) (hj : S.length ≤ j) (hi : i < S.length) (ho : ∀ n, o.below n = true) : Ex S (S'.set j o) i := by
  refine ⟨by simpa using h.len, ⟨cl_set h.jg.cl ho, ?_⟩, fun k hk hki => by rw [List.getElem?_set_ne (by omega)]; exact h.oth k hk hki⟩
  obtain ⟨a, b, c, e⟩ := h.jg.at_
  exact ⟨a, b, c, by rw [List.getElem?_set_ne (by omega)]; exact e⟩
theorem Ex.add {S S' : Sto} {i : Nat} {o : Ob} (h : Ex S S' i) (ho : ∀ n, o.below n = true) : Ex S (S' ++ [o]) i := by
  have hi := h.jg.lt
  refine ⟨by simp; have := h.len; omega, ⟨cl_app h.jg.cl ho, ?_⟩, fun k hk hki => by rw [List.getElem?_append_left (by have := h.len; omega)]; exact h.oth k hk hki⟩
  obtain ⟨a, b, c, e⟩ := h.jg.at_
  exact ⟨a, b, c, by rw [List.getElem?_append_left hi]; exact e⟩
theorem rd_ref {S : Sto} {i : Nat} {l : List D} (h : S[i]? = some (.lst l)) : rdOf (.ref i) S = some l := by simp [rdOf, lstOf, h]
theorem ls_ref {S : Sto} {i : Nat} {l : List D} (h : S[i]? = some (.lst l)) : lstOf (.ref i) S = some l := by simp [lstOf, h]
theorem ix_ref {S : Sto} {i : Nat} {l : List D} (h : S[i]? = some (.lst l)) (k : Nat) : fIx (.ref i) (.int (k : Int)) S = l[k]? := by
  have : fIx (.ref i) (.int (k : Int)) S = (rdOf (.ref i) S).bind fun l => L2.atI l (k : Int) := rfl
  rw [this, rd_ref h]
  exact at_k l k
theorem ix_lst (l : List D) (k : Nat) (S : Sto) : fIx (.lst l) (.int (k : Int)) S = l[k]? := at_k l k
theorem set_ref {S : Sto} {i : Nat} {l : List D} (h : S[i]? = some (.lst l)) {k : Nat} (hk : k < l.length) (d : D) : fSet (.ref i) (.int (k : Int)) d S = some (S.set i (.lst (l.set k d))) := by
  have e : L2.ixN l.length (k : Int) = some k := by
    unfold L2.ixN
    rw [if_pos (by omega), if_pos (by omega)]; simp
  simp [fSet, h, e]
theorem set_get {S : Sto} {i : Nat} {x o : Ob} (h : S[i]? = some x) : (S.set i o)[i]? = some o := by
  have := (List.getElem?_eq_some_iff.mp h).1
  simp [this]
theorem f_scop {f : List D → Sto → Res D} {ds : List D} {S : Sto} {P : D → Sto → Prop} (h : (f ds S).sat fun d S' => ((S'.take S.length).all (Ob.below S.length)) = true ∧ osat (frzD S.length S' d) fun d' => P d' (S'.take S.length)) : (scop f ds S).sat P := by
  obtain ⟨d, S', q, h1, h2⟩ := h.eq
  unfold scop
  rw [q]
  simp only [cutR, h1, if_true]
  cases q2 : frzD S.length S' d with
  | none => rw [q2, os_none] at h2; exact h2.elim
  | some d' => rw [q2, os_some] at h2; exact r_ok.mpr h2
theorem frzF_nr {n : Nat} {S : Sto} {d : D} (h : Nr d) (f : Nat) : frzF n S f d = some d := by
  have hb := h n
  cases f with
  | zero => cases d <;> exact (if_pos hb : (if below n _ = true then some _ else none) = some _)
  | succ f =>
    cases d with
    | ref i => exact absurd (h 0) (by simp [below])
    | _ => exact (if_pos hb : (if below n _ = true then some _ else none) = some _)
theorem frz_nr {n : Nat} {S : Sto} {d : D} (h : Nr d) : frzD n S d = some d := frzF_nr h 3
theorem optAll_nr {n : Nat} {S : Sto} {f : Nat} : ∀ {l : List D}, (∀ d ∈ l, Nr d) → optAll (frzF n S f) l = some l
  | [], _ => rfl
  | d :: l, h => by
    have ih : optAll (frzF n S f) l = some l := optAll_nr fun c hc => h c (List.mem_cons_of_mem _ hc)
    simp only [optAll, frzF_nr (h d List.mem_cons_self), ih]
    rfl
theorem frz_cell {n i : Nat} {S : Sto} {l : List D} (hi : n ≤ i) (h : S[i]? = some (.lst l)) (hl : ∀ d ∈ l, Nr d) : frzD n S (.ref i) = some (.lst l) := by
  simp only [frzD, frzF, if_neg (Nat.not_lt.mpr hi), h, optAll_nr hl]
  rfl
theorem frz_cells {n i : Nat} {S : Sto} {as : List Nat} {ls : List (List D)} (hi : n ≤ i) (h : S[i]? = some (.lst (as.map .ref))) (hl : as.length = ls.length) (hk : ∀ (k a : Nat) (l : List D), as[k]? = some a → ls[k]? = some l → n ≤ a ∧ S[a]? = some (.lst l) ∧ ∀ d ∈ l, Nr d) : frzD n S (.ref i) = some (.lst (ls.map .lst)) := by
  have key : ∀ (as : List Nat) (ls : List (List D)), as.length = ls.length → (∀ (k a : Nat) (l : List D), as[k]? = some a → ls[k]? = some l → n ≤ a ∧ S[a]? = some (.lst l) ∧ ∀ d ∈ l, Nr d) → optAll (frzF n S 2) (as.map .ref) = some (ls.map .lst) := by
    intro as
    induction as with
    | nil =>
      intro ls hl _
      cases ls with
      | nil => rfl
      | cons _ _ => simp at hl
    | cons a as ih =>
      intro ls hl hk
      cases ls with
      | nil => simp at hl
      | cons l ls =>
        obtain ⟨h1, h2, h3⟩ := hk 0 a l rfl rfl
        have e1 : frzF n S 2 (.ref a) = some (.lst l) := by
          simp only [frzF, if_neg (Nat.not_lt.mpr h1), h2, optAll_nr h3]
          rfl
        have e2 := ih ls (by simpa using hl) fun k a' l' ha hl' => hk (k + 1) a' l' (by simpa using ha) (by simpa using hl')
        simp only [List.map_cons, optAll, e1, e2]
        rfl
  simp only [frzD, frzF, if_neg (Nat.not_lt.mpr hi), h, key as ls hl hk]
  rfl
/-- the end of a def with cells of its own -/
theorem scop_ok {f : List D → Sto → Res D} {ds : List D} {S : Sto} {i : Nat} {P : D → Prop} (hi : i < S.length) (h : (f ds S).sat fun d S' => P d ∧ Nr d ∧ Ex S S' i) : (scop f ds S).sat fun d S' => P d ∧ Lk S S' i := by
  refine f_scop (h.mono fun d S' ⟨h1, h2, h3⟩ => ?_)
  refine ⟨cl_all (h3.cut hi).jg.cl _, ?_⟩
  rw [frz_nr h2, os_some]
  exact ⟨h1, h3.cut hi⟩
theorem sum_ref {S : Sto} {n : Nat} {r : List Int} (h : S[n]? = some (.lst (r.map .int))) : gSum (.ref n) S = some (.int r.sum) := by
  have : gSum (.ref n) S = ((rdOf (.ref n) S).bind isInts).map fun ns => .int ns.sum := rfl
  rw [this, rd_ref h]
  simp [ints_map]
theorem tup_ref {S : Sto} {n : Nat} {l : List D} (h : S[n]? = some (.lst l)) : f1 gTup [.ref n] S = some (.tup l) := by
  have : f1 gTup [.ref n] S = (rdOf (.ref n) S).map fun l => .tup l := rfl
  rw [this, rd_ref h]; rfl
theorem range_len (n : Nat) : ((List.range n).map fun k => D.int (0 + (k : Nat))).length = n := by simp
def pool : List Str := ["ann", "bob", "cyd", "d2", "e", "z9999999", "abe", "x"]
theorem pool_ok : ∀ h ∈ pool, PyData.strOk h = true := by
  intro h hh
  simp only [pool, List.mem_cons, List.not_mem_nil, or_false] at hh
  rcases hh with rfl | rfl | rfl | rfl | rfl | rfl | rfl | rfl <;> decide +kernel
theorem pool_nd : pool.Nodup := by decide +kernel
theorem len_ref {S : Sto} {n : Nat} {l : List D} (h : S[n]? = some (.lst l)) : gLen (.ref n) S = some (.int l.length) := by
  have : gLen (.ref n) S = (rdOf (.ref n) S).map fun l => .int l.length := rfl
  rw [this, rd_ref h]; rfl
theorem ok_ref {S : Sto} {n : Nat} {l : List D} (h : S[n]? = some (.lst l)) : okLst (.ref n) S = true := by unfold okLst; rw [ls_ref h]; rfl
theorem pop_ref {S : Sto} {n : Nat} {l : List D} (h : S[n]? = some (.lst l)) {k : Nat} {d : D} (hk : l[k]? = some d) : fPopAt (.ref n) [.int (k : Int)] S = some (d, S.set n (.lst (l.eraseIdx k))) := by
  have hl := (List.getElem?_eq_some_iff.mp hk).1
  have e : L2.ixN l.length (k : Int) = some k := by
    unfold L2.ixN
    rw [if_pos (by omega), if_pos (by omega)]; simp
  simp [fPopAt, h, e, hk]
theorem app_ref {S : Sto} {n : Nat} {l : List D} (h : S[n]? = some (.lst l)) (hl : l.length < lineN) (d : D) : fAppend (.ref n) [d] S = some (.non, S.set n (.lst (l ++ [d]))) := by
  simp [fAppend, h, hl]
theorem erase_map {α β : Type} (f : α → β) : ∀ (l : List α) (k : Nat), (l.map f).eraseIdx k = (l.eraseIdx k).map f
  | [], _ => by simp
  | x :: l, 0 => by simp
  | x :: l, k + 1 => by simp [erase_map f l k]
theorem erase_perm {α : Type} : ∀ {l : List α} {k : Nat} (h : k < l.length), (l[k] :: l.eraseIdx k).Perm l
  | x :: l, 0, h => by simp
  | x :: l, k + 1, h => by
    simp only [List.getElem_cons_succ, List.eraseIdx_cons_succ]
    have := erase_perm (l := l) (k := k) (by simpa using h)
    exact (List.Perm.swap x _ _).trans (this.cons x)
theorem shown_int {i : Int} {k : Nat} (hk : 0 < k) (h : i.natAbs < 2 ^ k) : (PyData.shown (.int i)).length ≤ k + 1 := by
  have p : (2 : Nat) ^ k ≤ 10 ^ k := Nat.pow_le_pow_left (by decide) k
  cases i with
  | ofNat n =>
    simp only [PyData.shown]
    have := PyProof.Rows.toString_length_le (v := (n : Int)) (by omega) hk (by
      have h2 : n < 10 ^ k := Nat.lt_of_lt_of_le (by simpa using h) p
      exact_mod_cast h2)
    exact Nat.le_succ_of_le this
  | negSucc n =>
    simp only [PyData.shown]
    have := PyProof.Rows.toString_length_le (v := ((n + 1 : Nat) : Int)) (by omega) hk (by
      have h2 : n + 1 < 10 ^ k := Nat.lt_of_lt_of_le (by simpa using h) p
      exact_mod_cast h2)
    rw [PyProof.Rows.ofString_length] at this ⊢
    have e : (toString (Int.negSucc n)).toList.length = (toString ((n + 1 : Nat) : Int)).toList.length + 1 := by
      show ("-" ++ toString (n + 1)).toList.length = (toString (n + 1)).toList.length + 1
      rw [String.toList_append]
      simp
    omega
theorem tuple_len (ts : List Str) {B : Nat} (h : ∀ t ∈ ts, t.length ≤ B) : (tupleText ts).length ≤ 3 + (B + 2) * ts.length := by
  unfold tupleText
  rw [strLen_append, strLen_append]
  have e1 : ((("(" : String) : Str)).length = 1 := rfl
  have e3 : (((if ts.length == 1 then ",)" else ")" : String) : Str)).length ≤ 2 := by split <;> decide
  have pl : piled ts ≤ (B + 2) * ts.length := by
    clear e3
    induction ts with
    | nil => simp [piled]
    | cons t ts ih =>
      rw [piled_cons, List.length_cons, Nat.mul_add]
      have h1 := ih fun x hx => h x (by simp [hx])
      have h2 := h t (by simp)
      omega
  by_cases h0 : ts = []
  · subst h0
    have : (Str.join ", " []).length = 0 := rfl
    omega
  · have := join_length_add ts h0
    omega
theorem list2_len (t : Str) : (listText [t, t]).length = 2 * t.length + 4 := by
  unfold listText textFrom textFrom textFrom
  simp only [strLen_append]
  have a1 : ((("[" : String) : Str)).length = 1 := rfl
  have a2 : ((("]" : String) : Str)).length = 1 := rfl
  have a3 : ((((if 0 > 0 then ", " else "" : String)) : Str)).length = 0 := rfl
  have a4 : ((((if 0 + 1 > 0 then ", " else "" : String)) : Str)).length = 2 := rfl
  omega
def fracP (q : Rat) : PyData := .tuple [.int q.num, .int (q.den : Nat)]
theorem pys_frac : ∀ us : List Rat, D.pys (us.map frac) = some (us.map fracP)
  | [] => rfl
  | u :: us => by simp [D.pys, frac, D.py, pys_frac us, fracP]
theorem show_all {us : List Rat} (h : ∀ u ∈ us, u.num.natAbs < 2 ^ 1920 ∧ u.den < 2 ^ 1920) : PyData.showableAll (us.map fracP) = true ∧ PyData.hasDictAll (us.map fracP) = false ∧ PyData.depthAll (us.map fracP) ≤ 1 := by
  induction us with
  | nil => exact ⟨rfl, rfl, by simp [PyData.depthAll]⟩
  | cons u us ih =>
    obtain ⟨a, b, c⟩ := ih fun x hx => h x (by simp [hx])
    obtain ⟨h1, h2⟩ := h u (by simp)
    have g1 := log2_lt h1 (by decide)
    have g2 := log2_lt h2 (by decide)
    refine ⟨?_, ?_, ?_⟩
    · simp only [List.map_cons, PyData.showableAll, a, fracP, PyData.showable, Bool.and_true, Int.natAbs_natCast, decide_eq_true g1, decide_eq_true g2]
    · simp only [List.map_cons, PyData.hasDictAll, b, fracP, PyData.hasDict, Bool.or_false]
    · simp only [List.map_cons, PyData.depthAll, fracP, PyData.depth]
      omega
theorem shown_all_mem : ∀ {ps : List PyData} {t : Str}, t ∈ PyData.shownAll ps → ∃ p ∈ ps, t = PyData.shown p
  | [], t, h => by simp [PyData.shownAll] at h
  | p :: ps, t, h => by
    simp only [PyData.shownAll, List.mem_cons] at h
    rcases h with rfl | h
    · exact ⟨p, by simp, rfl⟩
    · obtain ⟨q, hq, e⟩ := shown_all_mem h
      exact ⟨q, by simp [hq], e⟩
theorem shown_all_len : ∀ ps : List PyData, (PyData.shownAll ps).length = ps.length
  | [] => rfl
  | p :: ps => by simp [PyData.shownAll, shown_all_len ps]
theorem repr_two {us : List Rat} (h : ∀ u ∈ us, u.num.natAbs < 2 ^ 1920 ∧ u.den < 2 ^ 1920) (hl : us.length ≤ 6) (S : Sto) : ∃ t, f1 gRepr [.lst [.tup (us.map frac), .tup (us.map frac)]] S = some (.str t) := by
  obtain ⟨a, b, c⟩ := show_all h
  have e : pyS (.lst [.tup (us.map frac), .tup (us.map frac)]) S = some (.list [.tuple (us.map fracP), .tuple (us.map fracP)]) := by simp [pyS, D.py, D.pys, pys_frac]
  have tl : (PyData.shown (.tuple (us.map fracP))).length ≤ 3 + (3 + 1923 * 2 + 2) * 6 := by
    simp only [PyData.shown]
    refine Nat.le_trans (tuple_len _ (B := 3 + 1923 * 2) fun t ht => ?_) ?_
    · obtain ⟨p, hp, rfl⟩ := shown_all_mem ht
      obtain ⟨u, hu, rfl⟩ := List.mem_map.mp hp
      obtain ⟨h1, h2⟩ := h u hu
      simp only [fracP, PyData.shown, PyData.shownAll]
      refine Nat.le_trans (tuple_len _ (B := 1921) fun t ht => ?_) (by simp)
      simp only [List.mem_cons, List.not_mem_nil, or_false] at ht
      rcases ht with rfl | rfl
      · have := shown_int (i := u.num) (by decide) h1
        simpa only [PyData.shown] using this
      · have := shown_int (i := (u.den : Nat)) (k := 1920) (by decide) h2
        simpa only [PyData.shown] using this
    · rw [shown_all_len, List.length_map]
      exact Nat.add_le_add_left (Nat.mul_le_mul_left _ hl) _
  refine ⟨PyData.shown (.list [.tuple (us.map fracP), .tuple (us.map fracP)]), ?_⟩
  show gRepr _ S = _
  unfold gRepr
  rw [e]
  simp only
  rw [if_pos]
  refine ⟨?_, ?_, ?_, ?_⟩
  · simp only [PyData.showable, PyData.showableAll, a, Bool.and_self]
  · simp only [PyData.hasDict, PyData.hasDictAll, b, Bool.or_self]
  · simp only [PyData.depth, PyData.depthAll]; omega
  · have : PyData.shown (.list [.tuple (us.map fracP), .tuple (us.map fracP)]) = listText [PyData.shown (.tuple (us.map fracP)), PyData.shown (.tuple (us.map fracP))] := by simp only [PyData.shown, PyData.shownAll]
    rw [this, list2_len]
    unfold lineN
    omega

theorem rp_first {t b : Int} (hb : b = 1 ∨ b = 2 ∨ b = 3 ∨ b = 10 ∨ b = 97) (ht : t.natAbs ≤ 10 ^ 30 + 1) : Rp 2910 (2910 * (10 ^ 30 + 1)) ((t : Rat) / (b : Rat)) := by
  have go : ∀ c : Nat, b * (c : Int) = 2910 → c ≤ 2910 → Rp 2910 (2910 * (10 ^ 30 + 1)) ((t : Rat) / (b : Rat)) := fun c hc hle => by
    refine ⟨t * (c : Int), ?_, ?_⟩
    · rw [mkRat_div]
      have e : (b : Rat) * (c : Rat) = ((2910 : Nat) : Rat) := by
        rw [← Rat.intCast_natCast, ← Rat.intCast_mul, hc]; rfl
      have nb : (b : Rat) ≠ 0 := by
        intro z
        rw [z, Rat.zero_mul] at e
        exact absurd e (by decide)
      have nc : ((2910 : Nat) : Rat) ≠ 0 := by decide
      rw [← e] at nc ⊢
      simp only [Rat.intCast_mul, Rat.intCast_natCast]
      grind
    · rw [Int.natAbs_mul, Int.natAbs_natCast, Nat.mul_comm]
      exact Nat.mul_le_mul hle ht
  rcases hb with rfl | rfl | rfl | rfl | rfl
  · exact go 2910 (by decide) (by decide)
  · exact go 1455 (by decide) (by decide)
  · exact go 970 (by decide) (by decide)
  · exact go 291 (by decide) (by decide)
  · exact go 30 (by decide) (by decide)
theorem neg_int (i : Int) (S : Sto) : fNeg (.int i) S = some (.int (-i)) := rfl
theorem sub_int (i j : Int) (S : Sto) : fSub (.int i) (.int j) S = some (.int (i - j)) := rfl
theorem add_int (i j : Int) (S : Sto) : fAdd (.int i) (.int j) S = some (.int (i + j)) := rfl
theorem dot_same (t : Rat) : ∀ (r : List Int), dot (List.replicate r.length t) r = t * (r.sum : Rat)
  | [] => by
    have : ((0 : Int) : Rat) = 0 := rfl
    simp [dot]
  | w :: r => by
    rw [List.length_cons, List.replicate_succ, dot, dot_same t r, List.sum_cons, Rat.intCast_add]
    grind
theorem day_even {n : Nat} {w : List (List Int)} (hw : WayOk n w) (t : Rat) : dayR w (List.replicate n t) = List.replicate n t := by
  have : ∀ r ∈ w, dot (List.replicate n t) r / (r.sum : Rat) = t := fun r hr => by
    have h1 := hw.row r hr
    have e := dot_same t r
    rw [h1.len] at e
    rw [e]
    have ns : (r.sum : Rat) ≠ 0 := by
      have := h1.pos
      have : r.sum ≠ 0 := by omega
      simpa using this
    generalize (r.sum : Rat) = s at ns
    grind
  unfold dayR
  rw [List.map_congr_left (g := fun _ => t) this, List.map_const', hw.len]
theorem walk_even {n : Nat} {ws : List (List (List Int))} (hw : ∀ w ∈ ws, WayOk n w) (t : Rat) : ∀ p : List Nat, (∀ k ∈ p, k < ws.length) → walkR ws p (List.replicate n t) = List.replicate n t
  | [], _ => rfl
  | k :: p, h => by
    show walkR ws p (dayR (ws.getD k []) (List.replicate n t)) = _
    rw [day_even (hw _ (getD_mem (h k (by simp))).1) t]
    exact walk_even hw t p fun j hj => h j (by simp [hj])
theorem walk_app (ws : List (List (List Int))) (p q : List Nat) (ts : List Rat) : walkR ws (p ++ q) ts = walkR ws q (walkR ws p ts) := by
  unfold walkR; rw [List.foldl_append]
theorem cut_1 (l : List D) : cutD l none (some 1) = l.take 1 := cut_take l 1
theorem even_mul {ts : List Rat} {n : Nat} {t : Rat} (h : ts[0]? = some t) (h1 : 1 ≤ n) (h6 : n ≤ 6) (S : Sto) : fMul (.tup ((ts.map frac).take 1)) (.int (n : Int)) S = some (.tup ((List.replicate n t).map frac)) := by
  have e : (ts.map frac).take 1 = [frac t] := by
    cases ts with
    | nil => simp at h
    | cons x ts => simp at h; subst h; rfl
  have f : (List.replicate n [frac t]).flatten = List.replicate n (frac t) := by simp
  rw [e]
  unfold fMul
  simp only [List.length_cons, List.length_nil]
  have hn : names (List.replicate ((n : Int)).toNat [frac t]).flatten = false := by
    rw [Int.toNat_natCast, f]
    obtain ⟨k, rfl⟩ : ∃ k, n = k + 1 := ⟨n - 1, by omega⟩
    rfl
  rw [if_pos ⟨by simp, by omega, by omega, by omega, .inr hn⟩]
  simp
theorem word_nil : D.tup [] = wordD [] := rfl
theorem word_one (k : Nat) : D.tup [.int (k : Int)] = wordD [k] := rfl
theorem word_app {p : List Nat} {k : Nat} (h : p.length ≤ 6) (S : Sto) : fAdd (wordD p) (.tup [.int (k : Int)]) S = some (wordD (p ++ [k])) := by
  show (if (p.map fun (k : Nat) => D.int (k : Int)).length + 1 ≤ lineN then _ else _) = _
  rw [if_pos (by rw [List.length_map]; unfold lineN; omega)]
  simp [wordD]
theorem pl_th (ts : List Rat) : Pl (.tup (ts.map frac)) := (dp_tup (k := 1) fun d hd => by
  obtain ⟨q, _, rfl⟩ := List.mem_map.mp hd
  exact dp_frac q).pl (by decide)

theorem len_scr (l : List D) (S : Sto) : gLen (.scr l) S = some (.int l.length) := rfl
theorem ix_scr (l : List D) (k : Nat) (S : Sto) : fIx (.scr l) (.int (k : Int)) S = l[k]? := at_k l k
theorem cut_6 (l : List D) : cutD l none (some 6) = l.take 6 := cut_take l 6
theorem pick3 (a b c : D) : pick [2, 1, 0] [a, b, c] = [c, b, a] := rfl
theorem rg1_4 (S : Sto) : rg1 [.int 4] S = some (rgIt 0 4) := rg1_len 4 S (by decide)
def sumTo : Nat → (Nat → Rat) → Rat
  | 0, _ => 0
  | n + 1, f => sumTo n f + f n
theorem sum_congr {n : Nat} {f g : Nat → Rat} (h : ∀ k, k < n → f k = g k) : sumTo n f = sumTo n g := by
  induction n with
  | zero => rfl
  | succ n ih => simp only [sumTo]; rw [ih fun k hk => h k (by omega), h n (by omega)]
theorem sum_add (n : Nat) (f g : Nat → Rat) : sumTo n (fun k => f k + g k) = sumTo n f + sumTo n g := by
  induction n with
  | zero => simp only [sumTo]; grind
  | succ n ih => simp only [sumTo]; rw [ih]; grind
theorem sum_mulL (n : Nat) (c : Rat) (f : Nat → Rat) : sumTo n (fun k => c * f k) = c * sumTo n f := by
  induction n with
  | zero => simp only [sumTo]; grind
  | succ n ih => simp only [sumTo]; rw [ih]; grind
theorem sum_mulR (n : Nat) (c : Rat) (f : Nat → Rat) : sumTo n (fun k => f k * c) = sumTo n f * c := by
  induction n with
  | zero => simp only [sumTo]; grind
  | succ n ih => simp only [sumTo]; rw [ih]; grind
theorem sum_zero (n : Nat) : sumTo n (fun _ => 0) = 0 := by
  induction n with
  | zero => rfl
  | succ n ih => simp only [sumTo]; rw [ih]; grind
theorem sum_swap (n m : Nat) (f : Nat → Nat → Rat) : sumTo n (fun i => sumTo m (fun j => f i j)) = sumTo m (fun j => sumTo n (fun i => f i j)) := by
  induction n with
  | zero => simp only [sumTo]; rw [sum_zero]
  | succ n ih => simp only [sumTo]; rw [ih, ← sum_add]
theorem sum_one (n k : Nat) (f : Nat → Rat) (hk : k < n) : sumTo n (fun j => if j = k then f j else 0) = f k := by
  induction n with
  | zero => omega
  | succ n ih =>
    simp only [sumTo]
    by_cases h : n = k
    · subst h
      rw [if_pos rfl, sum_congr (g := fun _ => 0) fun j hj => if_neg (by omega), sum_zero]
      grind
    · rw [if_neg h, ih (by omega)]
      grind
def atR (v : List Rat) (k : Nat) : Rat := v.getD k 0
def atI' (v : List Int) (k : Nat) : Rat := ((v.getD k 0 : Int) : Rat)
theorem dot_sum {ts : List Rat} {ws : List Int} (h : ws.length = ts.length) : dot ts ws = sumTo ts.length (fun k => atR ts k * atI' ws k) := by
  have key : ∀ k, k ≤ ts.length → dot (ts.take k) (ws.take k) = sumTo k (fun k => atR ts k * atI' ws k) := by
    intro k
    induction k with
    | zero => intro _; rw [List.take_zero]; cases ws <;> simp [dot, sumTo]
    | succ k ih =>
      intro hk
      have h1 : ts[k]? = some ts[k] := List.getElem?_eq_getElem (by omega)
      have h2 : ws[k]? = some (ws[k]'(by omega)) := List.getElem?_eq_getElem (by omega)
      rw [dot_step ts ws k _ _ h1 h2, ih (by omega)]
      simp only [sumTo, atR, atI', List.getD, h1, h2, Option.getD_some]
  have := key ts.length (Nat.le_refl _)
  rw [List.take_length, show ws.take ts.length = ws by rw [← h, List.take_length]] at this
  exact this
def unitR (n j : Nat) : List Rat := (List.range n).map fun k => if k = j then 1 else 0
theorem unit_len (n j : Nat) : (unitR n j).length = n := by simp [unitR]
theorem unit_at {n j k : Nat} (hk : k < n) : atR (unitR n j) k = if k = j then 1 else 0 := by
  simp [atR, unitR, List.getD, List.getElem?_map, List.getElem?_range hk]
theorem day_at {n : Nat} {w : List (List Int)} (hw : WayOk n w) (ts : List Rat) {r : Nat} (hr : r < n) : ∃ row, w[r]? = some row ∧ RowOk n row ∧ atR (dayR w ts) r = dot ts row / (row.sum : Rat) := by
  have h1 : w[r]? = some (w[r]'(by rw [hw.len]; exact hr)) := List.getElem?_eq_getElem (by rw [hw.len]; exact hr)
  exact ⟨_, h1, hw.row _ (List.mem_of_getElem? h1), by simp [atR, dayR, List.getD, List.getElem?_map, h1]⟩
theorem day_len {n : Nat} {w : List (List Int)} (hw : WayOk n w) (ts : List Rat) : (dayR w ts).length = n := by simp [dayR, hw.len]
theorem walk_len {n : Nat} {ws : List (List (List Int))} (hw : ∀ w ∈ ws, WayOk n w) : ∀ (p : List Nat) {ts : List Rat}, ts.length = n → (∀ k ∈ p, k < ws.length) → (walkR ws p ts).length = n
  | [], _, h, _ => h
  | k :: p, ts, h, hp => walk_len hw p (day_len (hw _ (getD_mem (hp k (by simp))).1) ts) fun j hj => hp j (by simp [hj])
/-- a day's mean by the units -/
theorem day_lin {n : Nat} {w : List (List Int)} (hw : WayOk n w) {ts : List Rat} (ht : ts.length = n) {r : Nat} (hr : r < n) : atR (dayR w ts) r = sumTo n (fun k => atR (dayR w (unitR n k)) r * atR ts k) := by
  obtain ⟨row, h1, hrow, e⟩ := day_at hw ts hr
  rw [e, dot_sum (hrow.len.trans ht.symm), ht]
  have : ∀ k, k < n → atR (dayR w (unitR n k)) r = atI' row k / (row.sum : Rat) := fun k hk => by
    obtain ⟨row2, h2, _, e2⟩ := day_at hw (unitR n k) hr
    rw [h1] at h2
    cases h2
    rw [e2, dot_sum (by rw [unit_len]; exact hrow.len), unit_len]
    congr 1
    rw [sum_congr (g := fun j => if j = k then atI' row j else 0) fun j hj => by
      rw [unit_at hj]
      by_cases z : j = k <;> simp [z], sum_one n k _ hk]
  rw [sum_congr (n := n) (f := fun k => atR (dayR w (unitR n k)) r * atR ts k) (g := fun k => atR ts k * atI' row k * (1 / (row.sum : Rat))) fun k hk => by
    rw [this k hk]; grind, sum_mulR]
  grind
theorem walk_lin {n : Nat} {ws : List (List (List Int))} (hw : ∀ w ∈ ws, WayOk n w) : ∀ (p : List Nat) {ts : List Rat}, ts.length = n → (∀ k ∈ p, k < ws.length) → ∀ {r : Nat}, r < n → atR (walkR ws p ts) r = sumTo n (fun j => atR (walkR ws p (unitR n j)) r * atR ts j)
  | [], ts, ht, _, r, hr => by
    show atR ts r = sumTo n (fun j => atR (unitR n j) r * atR ts j)
    rw [sum_congr (g := fun j => if j = r then atR ts j else 0) fun j hj => by
      rw [unit_at hr]
      by_cases z : j = r
      · simp [z]
      · simp [z, Ne.symm z], sum_one n r _ hr]
  | a :: p, ts, ht, hp, r, hr => by
    have wa := hw _ (getD_mem (hp a (by simp))).1
    have hp' : ∀ j ∈ p, j < ws.length := fun j hj => hp j (by simp [hj])
    show atR (walkR ws p (dayR (ws.getD a []) ts)) r = sumTo n (fun j => atR (walkR ws p (dayR (ws.getD a []) (unitR n j))) r * atR ts j)
    rw [walk_lin hw p (day_len wa ts) hp' hr]
    rw [sum_congr (n := n) (f := fun j => atR (walkR ws p (dayR (ws.getD a []) (unitR n j))) r * atR ts j) (g := fun j => sumTo n (fun i => atR (walkR ws p (unitR n i)) r * atR (dayR (ws.getD a []) (unitR n j)) i * atR ts j)) fun j hj => by
      rw [walk_lin hw p (day_len wa _) hp' hr, sum_mulR], sum_swap]
    refine sum_congr fun i hi => ?_
    rw [day_lin wa ht hi, ← sum_mulL]
    refine sum_congr fun j hj => ?_
    grind
theorem day_nn {n : Nat} {w : List (List Int)} (hw : WayOk n w) {ts : List Rat} (ht : ts.length = n) (h : ∀ t ∈ ts, 0 ≤ t) : ∀ t ∈ dayR w ts, 0 ≤ t := fun t m => by
  obtain ⟨row, hr, rfl⟩ := List.mem_map.mp m
  have hrow := hw.row row hr
  have key : ∀ (l : List Rat) (r : List Int), (∀ t ∈ l, 0 ≤ t) → (∀ w ∈ r, 0 ≤ w) → 0 ≤ dot l r := by
    intro l
    induction l with
    | nil => intro r _ _; simp [dot]
    | cons t l ih =>
      intro r h1 h2
      cases r with
      | nil => simp [dot]
      | cons x r =>
        have a := ih r (fun z hz => h1 z (by simp [hz])) fun z hz => h2 z (by simp [hz])
        have b := h1 t (by simp)
        have c := h2 x (by simp)
        have c' : (0 : Rat) ≤ (x : Rat) := by exact_mod_cast c
        have d := Rat.mul_nonneg b c'
        simp only [dot]
        grind
  have a := key ts row h fun w hw => (hrow.in_ w hw).1
  have s : (0 : Rat) < (row.sum : Rat) := by exact_mod_cast hrow.pos
  have inv : (0 : Rat) ≤ (row.sum : Rat)⁻¹ := Rat.le_of_lt (Rat.inv_pos.mpr s)
  rw [Rat.div_def]
  exact Rat.mul_nonneg a inv
theorem walk_nn {n : Nat} {ws : List (List (List Int))} (hw : ∀ w ∈ ws, WayOk n w) : ∀ (p : List Nat) {ts : List Rat}, ts.length = n → (∀ k ∈ p, k < ws.length) → (∀ t ∈ ts, 0 ≤ t) → ∀ t ∈ walkR ws p ts, 0 ≤ t
  | [], _, _, _, h => h
  | k :: p, ts, ht, hp, h => by
    have wa := hw _ (getD_mem (hp k (by simp))).1
    exact walk_nn hw p (day_len wa ts) (fun j hj => hp j (by simp [hj])) (day_nn wa ht h)

theorem rp_mul {M B M' B' : Nat} {x y : Rat} (h : Rp M B x) (g : Rp M' B' y) : Rp (M * M') (B * B') (x * y) := by
  obtain ⟨a, rfl, ha⟩ := h
  obtain ⟨b, rfl, hb⟩ := g
  refine ⟨a * b, ?_, by rw [Int.natAbs_mul]; exact Nat.mul_le_mul ha hb⟩
  simp only [mkRat_div, Rat.intCast_mul, Rat.natCast_mul]
  grind
structure Few (xs : List Rat) (M B a : Nat) : Prop where
  m0 : 0 < M
  ma : M < 2 ^ a
  ba : xs.length * B < 2 ^ a
  rp : ∀ x ∈ xs, Rp M B x
  a0 : 0 < a
  a4 : a ≤ 4000
theorem Few.part {xs : List Rat} {M B a : Nat} (h : Few xs M B a) : ∀ k, k ≤ xs.length → Rp M (k * B) (sumTo k (atR xs))
  | 0, _ => by simpa [sumTo] using Rp.zero
  | k + 1, hk => by
    have h1 : xs[k]? = some xs[k] := List.getElem?_eq_getElem (by omega)
    have ih := h.part k (by omega)
    have := Rp.add h.m0 ih (h.rp _ (List.mem_of_getElem? h1))
    simp only [sumTo]
    rw [show atR xs k = xs[k] by simp [atR, List.getD, h1], Nat.succ_mul]
    exact this/-! ### loops over a typed list -/
section
variable {P : D → Sto → Prop} {PL : List D → Sto → Prop} {PB : Bool → Sto → Prop} {N : En → Sto → Prop} {R : D → Sto → Prop} {en : En} {S : Sto} {me : EM} {t : BM}
theorem for_T {α : Type} {xs : List α} {e : α → D} {it : ItD} {gm : GM} {b : SM} (hl : LIt it (xs.map e)) (I : Nat → En → Sto → Prop) (h0 : I 0 en S) (step : ∀ k x en S, xs[k]? = some x → x ∈ xs → I k en S → (gm (e x) en S).sat fun en1 S1 => (b en1 S1).sat (I (k + 1)) R) (fin : ∀ en S, I xs.length en S → N en S) :
    (forM it.nxt gm b it.n 0 en S).sat N R := by
  refine for_inv hl I (fun k d en S hd i => ?_) (fun en S i => fin en S (by simpa using i)) h0
  obtain ⟨a, hm, ha, rfl⟩ := map_get hd
  exact step k a en S ha hm i
theorem lc_T {α : Type} {xs : List α} {e : α → D} {it : ItD} {gm : GM} (hl : LIt it (xs.map e)) (I : Nat → List D → Sto → Prop) (h0 : I 0 [] S) (step : ∀ k x acc S, xs[k]? = some x → x ∈ xs → I k acc S → (gm (e x) en S).sat fun en1 S1 => (t en1 S1).sat fun c S2 => if c = true then (me en1 S2).sat fun y S3 => acc.length < lineN ∧ I (k + 1) (acc ++ [y]) S3 else I (k + 1) acc S2)
    (fin : ∀ acc S, I xs.length acc S → PL acc S) : (lcM it.nxt gm t me en it.n 0 [] S).sat PL := by
  refine lc_inv hl I (fun k d acc S hd i => ?_) (fun acc S i => fin acc S (by simpa using i)) h0
  obtain ⟨a, hm, ha, rfl⟩ := map_get hd
  exact step k a acc S ha hm i
theorem lc_mapT {α : Type} {xs : List α} {e g : α → D} {it : ItD} {gm : GM} (hl : LIt it (xs.map e)) (hlen : xs.length ≤ lineN) (step : ∀ x ∈ xs, (gm (e x) en S).sat fun en1 S1 => (me en1 S1).sat fun y S2 => y = g x ∧ S2 = S) (fin : PL (xs.map g) S) : (lcM it.nxt gm mYes me en it.n 0 [] S).sat PL := by
  refine lc_T hl (fun k acc S' => acc = (xs.take k).map g ∧ S' = S) ⟨by simp, rfl⟩ (fun k x acc S' hx hm i => ?_) (fun acc S' i => ?_)
  · obtain ⟨rfl, rfl⟩ := i
    have hk := (List.getElem?_eq_some_iff.mp hx).1
    refine (step x hm).mono fun en1 S1 z => ?_
    simp only [mYes, r_ok, if_pos]
    refine z.mono fun y S2 q => ⟨by simp; omega, ?_, q.2⟩
    rw [q.1, List.take_add_one, hx]
    simp
  · obtain ⟨rfl, rfl⟩ := i
    simpa using fin
theorem lc_filT {α : Type} {xs : List α} {e g : α → D} {p : α → Bool} {it : ItD} {gm : GM} (hl : LIt it (xs.map e)) (hlen : xs.length ≤ lineN) (step : ∀ x ∈ xs, (gm (e x) en S).sat fun en1 S1 => (t en1 S1).sat fun c S2 => c = p x ∧ S2 = S ∧ (c = true → (me en1 S2).sat fun y S3 => y = g x ∧ S3 = S)) (fin : PL ((xs.filter p).map g) S) : (lcM it.nxt gm t me en it.n 0 [] S).sat PL := by
  refine lc_T hl (fun k acc S' => acc = ((xs.take k).filter p).map g ∧ S' = S) ⟨by simp, rfl⟩ (fun k x acc S' hx hm i => ?_) (fun acc S' i => ?_)
  · obtain ⟨rfl, rfl⟩ := i
    have hk := (List.getElem?_eq_some_iff.mp hx).1
    refine (step x hm).mono fun en1 S1 z => ?_
    refine z.mono fun c S2 q => ?_
    obtain ⟨rfl, rfl, q⟩ := q
    by_cases hc : p x = true
    · rw [if_pos hc]
      refine (q hc).mono fun y S3 q => ⟨?_, ?_, q.2⟩
      · have := List.length_filter_le p (xs.take k)
        rw [List.length_map]
        rw [List.length_take] at this
        omega
      · rw [q.1, List.take_add_one, hx, List.filter_append]
        simp [hc]
    · rw [if_neg hc]
      refine ⟨?_, rfl⟩
      rw [List.take_add_one, hx, List.filter_append]
      simp [hc]
  · obtain ⟨rfl, rfl⟩ := i
    simpa using fin
end
theorem li_rg0 (n : Nat) : LIt (rgIt 0 n) ((List.range n).map fun (k : Nat) => .int (k : Int)) := by
  have h := li_rg 0 n
  have e : ((List.range n).map fun (k : Nat) => D.int (0 + (k : Nat))) = ((List.range n).map fun (k : Nat) => .int (k : Int)) := List.map_congr_left fun k _ => by simp
  rw [e] at h
  exact h
theorem li_enT {α : Type} (xs : List α) (e : α → D) : LIt (enIt (xs.map e)) (xs.zipIdx.map fun p => .tup [.int (p.2 : Int), e p.1]) := by
  have h := li_en (xs.map e)
  have q : ((xs.map e).mapIdx fun k d => D.tup [.int (k : Nat), d]) = (xs.zipIdx.map fun p => .tup [.int (p.2 : Int), e p.1]) := by
    apply List.ext_getElem?
    intro k
    simp only [List.getElem?_mapIdx, List.getElem?_map, List.getElem?_zipIdx]
    cases xs[k]? <;> simp
  rw [q] at h
  exact h
theorem li_zpT {α β : Type} (xs : List α) (ys : List β) (e : α → D) (f : β → D) (hf : ∀ y, (f y).isS = false) : LIt (zpIt (xs.map e) (ys.map f)) ((xs.zip ys).map fun p => .tup [e p.1, f p.2]) := by
  have h := li_zp (l := xs.map e) (r := ys.map f) fun d hd => by
    obtain ⟨y, _, rfl⟩ := List.mem_map.mp hd
    exact hf y
  have q : List.zipWith (fun a b => D.tup [a, b]) (xs.map e) (ys.map f) = ((xs.zip ys).map fun p => .tup [e p.1, f p.2]) := by
    apply List.ext_getElem?
    intro k
    simp only [List.getElem?_zipWith, List.getElem?_map, List.zip, List.getElem?_zipWith]
    cases xs[k]? <;> cases ys[k]? <;> simp
  rw [q] at h
  exact h
theorem li_lsT {α : Type} (xs : List α) (e : α → D) : LIt (lsIt (xs.map e)) (xs.map e) := li_ls _
/-! a def with cells of its own that leaves the store -/
theorem scop_pure {f : List D → Sto → Res D} {ds : List D} {S : Sto} {v : D} (hS : Cl S) (h : (f ds S).sat fun d S' => d = v ∧ Nr d ∧ S'.take S.length = S) : scop f ds S = .ok v S := by
  refine sat_eq (f_scop (h.mono fun d S' ⟨h1, h2, h3⟩ => ?_))
  rw [h3]
  refine ⟨cl_all hS _, ?_⟩
  rw [frz_nr h2, os_some]
  exact ⟨h1, rfl⟩
theorem app_end {S : Sto} {l : List D} (h : l.length < lineN) (d : D) : fAppend (.ref S.length) [d] (S ++ [.lst l]) = some (.non, S ++ [.lst (l ++ [d])]) := by
  rw [app_ref (l := l) (by simp) h]
  simp
theorem at_end {S : Sto} {l : List D} : (S ++ [Ob.lst l])[S.length]? = some (.lst l) := by simp
theorem cl_end {S : Sto} {l : List D} (h : Cl S) (hl : ∀ d ∈ l, Nr d) : Cl (S ++ [.lst l]) := cl_app h (bel_lst hl)
section
variable {PL : List D → Sto → Prop} {N : En → Sto → Prop} {R : D → Sto → Prop} {en : En} {S : Sto} {me : EM} {t : BM} {gm : GM}
/-- loops over a cell that stands -/
theorem for_ref {n : Nat} {l : List D} {b : SM} (h : S[n]? = some (.lst l)) (I : Nat → En → Sto → Prop) (keep : ∀ k en S, I k en S → S[n]? = some (.lst l)) (h0 : I 0 en S)
    (step : ∀ k d en S, l[k]? = some d → I k en S → (gm d en S).sat fun en1 S1 => (b en1 S1).sat (I (k + 1)) R) (fin : ∀ en S, I l.length en S → N en S) :
    osat (itOf (.ref n) S) fun it => (forM it.nxt gm b it.n 0 en S).sat N R := by
  simp only [itOf, h, os_some]
  have key : ∀ f k en S, f + k = l.length → I k en S → (forM (fun k S' => match S'[n]? with
      | some (.lst l') => some l'[k]?
      | _ => none) gm b f k en S).sat N R := by
    intro f
    induction f with
    | zero =>
      intro k en S e i
      have e2 : k = l.length := by omega
      subst e2
      simp only [forM, keep _ _ _ i, List.getElem?_eq_none (Nat.le_refl _), s_nx]
      exact fin _ _ i
    | succ f ih =>
      intro k en S e i
      have hk : k < l.length := by omega
      have hx := List.getElem?_eq_getElem hk
      have := step k _ en S hx i
      simp only [forM, keep _ _ _ i, hx]
      cases q : gm l[k] en S with
      | ok en1 S1 =>
        rw [q, r_ok] at this
        simp only
        cases q2 : b en1 S1 with
        | next en2 S2 => rw [q2, s_nx] at this; exact ih (k + 1) en2 S2 (by omega) this
        | ret d S2 => rw [q2, s_rt] at this; exact s_rt.mpr this
        | brk en2 S2 => rw [q2, s_bk] at this; exact this.elim
        | cnt en2 S2 => rw [q2, s_ct] at this; exact this.elim
        | exc c fs en2 S2 => rw [q2, s_ex] at this; exact this.elim
        | stuck => rw [q2, s_st] at this; exact this.elim
      | exc c fs S1 => rw [q, r_exc] at this; exact this.elim
      | stuck => rw [q, r_stuck] at this; exact this.elim
  exact key l.length 0 en S rfl h0
theorem lc_ref {n : Nat} {l : List D} (h : S[n]? = some (.lst l)) (I : Nat → List D → Sto → Prop) (keep : ∀ k acc S, I k acc S → S[n]? = some (.lst l)) (h0 : I 0 [] S)
    (step : ∀ k d acc S, l[k]? = some d → I k acc S → (gm d en S).sat fun en1 S1 => (t en1 S1).sat fun c S2 => if c = true then (me en1 S2).sat fun y S3 => acc.length < lineN ∧ I (k + 1) (acc ++ [y]) S3 else I (k + 1) acc S2)
    (fin : ∀ acc S, I l.length acc S → PL acc S) : osat (itOf (.ref n) S) fun it => (lcM it.nxt gm t me en it.n 0 [] S).sat PL := by
  simp only [itOf, h, os_some]
  have key : ∀ f k acc S, f + k = l.length → I k acc S → (lcM (fun k S' => match S'[n]? with
      | some (.lst l') => some l'[k]?
      | _ => none) gm t me en f k acc S).sat PL := by
    intro f
    induction f with
    | zero =>
      intro k acc S e i
      have e2 : k = l.length := by omega
      subst e2
      simp only [lcM, keep _ _ _ i, List.getElem?_eq_none (Nat.le_refl _), r_ok]
      exact fin _ _ i
    | succ f ih =>
      intro k acc S e i
      have hk : k < l.length := by omega
      have hx := List.getElem?_eq_getElem hk
      have := step k _ acc S hx i
      simp only [lcM, keep _ _ _ i, hx]
      cases q : gm l[k] en S with
      | ok en1 S1 =>
        rw [q, r_ok] at this
        simp only
        cases q2 : t en1 S1 with
        | ok c S2 =>
          rw [q2, r_ok] at this
          simp only
          by_cases hc : c = true
          · rw [if_pos hc] at this ⊢
            cases q3 : me en1 S2 with
            | ok y S3 =>
              rw [q3, r_ok] at this
              simp only
              rw [if_pos this.1]
              exact ih (k + 1) _ S3 (by omega) this.2
            | exc c fs S3 => rw [q3, r_exc] at this; exact this.elim
            | stuck => rw [q3, r_stuck] at this; exact this.elim
          · rw [if_neg hc] at this ⊢
            exact ih (k + 1) _ S2 (by omega) this
        | exc c fs S2 => rw [q2, r_exc] at this; exact this.elim
        | stuck => rw [q2, r_stuck] at this; exact this.elim
      | exc c fs S1 => rw [q, r_exc] at this; exact this.elim
      | stuck => rw [q, r_stuck] at this; exact this.elim
  exact key l.length 0 [] S rfl h0
theorem lc_refT {α : Type} {xs : List α} {e g : α → D} {n : Nat} (h : S[n]? = some (.lst (xs.map e))) (hlen : xs.length ≤ lineN) (step : ∀ x ∈ xs, (gm (e x) en S).sat fun en1 S1 => (me en1 S1).sat fun y S2 => y = g x ∧ S2 = S) (fin : PL (xs.map g) S) :
    osat (itOf (.ref n) S) fun it => (lcM it.nxt gm mYes me en it.n 0 [] S).sat PL := by
  refine lc_ref h (fun k acc S' => acc = (xs.take k).map g ∧ S' = S) (fun k acc S' i => by rw [i.2]; exact h) ⟨by simp, rfl⟩ (fun k d acc S' hd i => ?_) (fun acc S' i => ?_)
  · obtain ⟨x, hm, hx, rfl⟩ := map_get hd
    obtain ⟨rfl, rfl⟩ := i
    have hk := (List.getElem?_eq_some_iff.mp hx).1
    refine (step x hm).mono fun en1 S1 z => ?_
    simp only [mYes, r_ok, if_pos]
    refine z.mono fun y S2 q => ⟨by simp; omega, ?_, q.2⟩
    rw [q.1, List.take_add_one, hx]
    simp
  · obtain ⟨rfl, rfl⟩ := i
    simpa using fin
end
end Ag

namespace Ag
open PySem
theorem set_mid {S : Sto} {o o' : Ob} {J : Sto} : (S ++ [o] ++ J).set S.length o' = S ++ [o'] ++ J := by simp
theorem at_mid {S : Sto} {o : Ob} {J : Sto} : (S ++ [o] ++ J)[S.length]? = some o := by simp
theorem app_mid {S : Sto} {l : List D} {J : Sto} (h : l.length < lineN) (d : D) : fAppend (.ref S.length) [d] (S ++ [.lst l] ++ J) = some (.non, S ++ [.lst (l ++ [d])] ++ J) := by
  rw [app_ref (l := l) (by simp) h]
  simp
section
variable (S : Sto)
theorem b_bl (b : Bool) : bOf (.bl b) = some b := rfl
theorem it_tup (l : List D) : itOf (.tup l) S = some (lsIt l) := rfl
theorem it_lst (l : List D) : itOf (.lst l) S = some (lsIt l) := rfl
theorem it_scr (l : List D) : itOf (.scr l) S = some (lsIt l) := rfl
theorem it_word (p : List Nat) : itOf (wordD p) S = some (lsIt (p.map fun (k : Nat) => .int (k : Int))) := rfl
theorem it_row (p : List Int) : itOf (rowD p) S = some (lsIt (p.map .int)) := rfl
theorem it_way (p : List (List Int)) : itOf (wayD p) S = some (lsIt (p.map rowD)) := rfl
theorem sq_tup (l : List D) : seqOf (.tup l) S = some l := rfl
theorem sq_lst (l : List D) : seqOf (.lst l) S = some l := rfl
theorem sq_ref {n : Nat} {l : List D} {S : Sto} (h : S[n]? = some (.lst l)) : seqOf (.ref n) S = some l := by simp [seqOf, h]
theorem n_tup (l : List D) : gLen (.tup l) S = some (.int l.length) := rfl
theorem n_lst (l : List D) : gLen (.lst l) S = some (.int l.length) := rfl
theorem n_scr (l : List D) : gLen (.scr l) S = some (.int l.length) := rfl
theorem n_word (p : List Nat) : gLen (wordD p) S = some (.int p.length) := by show some (D.int (List.length _)) = _; rw [List.length_map]
theorem n_row (p : List Int) : gLen (rowD p) S = some (.int p.length) := by show some (D.int (List.length _)) = _; rw [List.length_map]
theorem n_way (p : List (List Int)) : gLen (wayD p) S = some (.int p.length) := by show some (D.int (List.length _)) = _; rw [List.length_map]
theorem i_int (i : Int) : intD (.int i) = some i := rfl
theorem sl_tup (l : List D) (a b : Option Int) : fSl (.tup l) a b S = some (.tup (cutD l a b)) := rfl
theorem sl_lst (l : List D) (a b : Option Int) : fSl (.lst l) a b S = some (.lst (cutD l a b)) := rfl
theorem c_int (p : Int → Int → Bool) (i j : Int) : cmpI p (.int i) (.int j) S = some (.bl (p i j)) := rfl
theorem en_tup (l : List D) : en1 [.tup l] S = some (enIt l) := rfl
theorem en_lst (l : List D) : en1 [.lst l] S = some (enIt l) := rfl
theorem zp_tup (l r : List D) : zp2 [.tup l, .tup r] S = some (zpIt l r) := rfl
theorem zp_mix (l r : List D) : zp2 [.tup l, .lst r] S = some (zpIt l r) := rfl
theorem zp_lst (l r : List D) : zp2 [.lst l, .lst r] S = some (zpIt l r) := rfl
theorem f_1 (g : D → Sto → Option D) (d : D) : f1 g [d] S = g d S := rfl
theorem m_yes (en : En) : mYes en S = .ok true S := rfl
theorem w_0 (en : En) : wipeE en [] = en := rfl
theorem w_s (en : En) (i : Nat) (l : List Nat) : wipeE en (i :: l) = (wipeE en l).set i none := rfl
theorem bind_s {α β : Type} (a : α) (f : α → Option β) : (some a).bind f = f a := rfl
theorem a_int (i j : Int) : fAdd (.int i) (.int j) S = some (.int (i + j)) := rfl
theorem s_int (i j : Int) : fSub (.int i) (.int j) S = some (.int (i - j)) := rfl
theorem g_ii (i : Int) : gInt (.int i) S = some (.int i) := rfl
theorem g_ib (b : Bool) : gInt (.bl b) S = some (.int (if b then 1 else 0)) := rfl
theorem is_non (d : D) : fIs d .non S = some (.bl (isNon d)) := by cases d <;> rfl
theorem isnt_non (d : D) : fIsNot d .non S = some (.bl (!isNon d)) := by cases d <;> rfl
end
theorem t_lst (l : List D) (S : Sto) : gTup (.lst l) S = some (.tup l) := rfl
theorem t_tup (l : List D) (S : Sto) : gTup (.tup l) S = some (.tup l) := rfl
theorem t_ref {S : Sto} {n : Nat} {l : List D} (h : S[n]? = some (.lst l)) : gTup (.ref n) S = some (.tup l) := tup_ref h
/-! ### texts of data: sizes -/
theorem list_len (ts : List Str) {B : Nat} (h : ∀ t ∈ ts, t.length ≤ B) : (listText ts).length ≤ 2 + (B + 2) * ts.length := by
  have key : ∀ (ts : List Str) (i : Nat) (acc : Str), (∀ t ∈ ts, t.length ≤ B) → (textFrom i acc ts).length ≤ acc.length + (B + 2) * ts.length := by
    intro ts
    induction ts with
    | nil => intro i acc _; simp only [textFrom, List.length_nil]; omega
    | cons t ts ih =>
      intro i acc h
      have h1 := ih (i + 1) (acc ++ (if i > 0 then ", " else "" : String) ++ t) fun x hx => h x (by simp [hx])
      have h2 := h t (by simp)
      simp only [textFrom, List.length_cons]
      simp only [strLen_append] at h1
      have e : (((if i > 0 then ", " else "" : String) : Str)).length ≤ 2 := by split <;> decide
      rw [Nat.mul_add]
      omega
  unfold listText
  rw [strLen_append]
  have a1 : ((("[" : String) : Str)).length = 1 := rfl
  have a2 : ((("]" : String) : Str)).length = 1 := rfl
  have := key ts 0 "[" h
  omega
structure Rb (k B : Nat) (d : D) : Prop where
  ex : ∃ p, d.py = some p ∧ p.showable = true ∧ p.hasDict = false ∧ p.depth ≤ k ∧ (PyData.shown p).length ≤ B
theorem Rb.up {k B k' B' : Nat} {d : D} (h : Rb k B d) (hk : k ≤ k') (hB : B ≤ B') : Rb k' B' d := by
  obtain ⟨p, a, b, c, e, f⟩ := h.ex
  exact ⟨p, a, b, c, by omega, by omega⟩
theorem rb_int {i : Int} {k : Nat} (hk : 0 < k) (h : i.natAbs < 2 ^ k) (h9 : k ≤ 1920) : Rb 0 (k + 1) (.int i) := by
  refine ⟨.int i, rfl, ?_, rfl, by simp [PyData.depth], shown_int hk h⟩
  have g1 := log2_lt h hk
  simp only [PyData.showable, decide_eq_true_eq]
  omega
theorem rb_all {k B : Nat} : ∀ {l : List D}, (∀ d ∈ l, Rb k B d) → ∃ ps, D.pys l = some ps ∧ PyData.showableAll ps = true ∧ PyData.hasDictAll ps = false ∧ PyData.depthAll ps ≤ k ∧ (PyData.shownAll ps).length = l.length ∧ ∀ t ∈ PyData.shownAll ps, t.length ≤ B
  | [], _ => ⟨[], rfl, rfl, rfl, by simp [PyData.depthAll], by simp [PyData.shownAll], by simp [PyData.shownAll]⟩
  | d :: l, h => by
    obtain ⟨p, a, b, c, e, f⟩ := (h d (by simp)).ex
    obtain ⟨ps, a2, b2, c2, e2, f2, g2⟩ := rb_all (l := l) fun c hc => h c (by simp [hc])
    refine ⟨p :: ps, by simp only [D.pys, a, a2], by simp [PyData.showableAll, b, b2], by simp [PyData.hasDictAll, c, c2], by simp only [PyData.depthAll]; omega, by simp [PyData.shownAll, f2], fun t ht => ?_⟩
    simp only [PyData.shownAll, List.mem_cons] at ht
    rcases ht with rfl | ht
    · exact f
    · exact g2 t ht
theorem rb_tup {k B n : Nat} {l : List D} (h : ∀ d ∈ l, Rb k B d) (hn : l.length ≤ n) : Rb (k + 1) (3 + (B + 2) * n) (.tup l) := by
  obtain ⟨ps, a, b, c, e, f, g⟩ := rb_all h
  refine ⟨.tuple ps, by simp only [D.py, a, Option.map_some], by simp only [PyData.showable, b], by simp only [PyData.hasDict, c], by simp only [PyData.depth]; omega, ?_⟩
  simp only [PyData.shown]
  refine Nat.le_trans (tuple_len _ g) ?_
  rw [f]
  exact Nat.add_le_add_left (Nat.mul_le_mul_left _ hn) _
theorem rb_lst {k B n : Nat} {l : List D} (h : ∀ d ∈ l, Rb k B d) (hn : l.length ≤ n) : Rb (k + 1) (3 + (B + 2) * n) (.lst l) := by
  obtain ⟨ps, a, b, c, e, f, g⟩ := rb_all h
  refine ⟨.list ps, by simp only [D.py, a, Option.map_some], by simp only [PyData.showable, b], by simp only [PyData.hasDict, c], by simp only [PyData.depth]; omega, ?_⟩
  simp only [PyData.shown]
  refine Nat.le_trans (list_len _ g) ?_
  rw [f]
  have := Nat.mul_le_mul_left (B + 2) hn
  omega
theorem repr_rb {k B : Nat} {d : D} (h : Rb k B d) (hk : k ≤ 60) (hB : B ≤ 16000000) (S : Sto) : ∃ t, gRepr d S = some (.str t) := by
  obtain ⟨p, a, b, c, e, f⟩ := h.ex
  refine ⟨PyData.shown p, ?_⟩
  unfold gRepr
  rw [pyS_py a]
  simp only
  rw [if_pos]
  refine ⟨b, c, by omega, ?_⟩
  unfold lineN
  omega
theorem rb_frac {q : Rat} {k : Nat} (hk : 0 < k) (h1 : q.num.natAbs < 2 ^ k) (h2 : q.den < 2 ^ k) (h9 : k ≤ 1920) : Rb 1 (3 + (k + 1 + 2) * 2) (frac q) := by
  unfold frac
  refine rb_tup (k := 0) (B := k + 1) (n := 2) (fun d hd => ?_) (by simp)
  simp only [List.mem_cons, List.not_mem_nil, or_false] at hd
  rcases hd with rfl | rfl
  · exact rb_int hk h1 h9
  · exact rb_int hk (by simpa using h2) h9
/-! ### tables of shares -/
def thD (ts : List Rat) : D := .tup (ts.map frac)
def tabD (T : List (List Rat)) : D := .tup (T.map thD)
def tabR (n : Nat) (ws : List (List (List Int))) (p : List Nat) : List (List Rat) := (List.range n).map fun r => (List.range n).map fun j => atR (walkR ws p (unitR n j)) r
theorem nr_th (ts : List Rat) : Nr (thD ts) := nr_tup (nr_map nr_frac)
theorem nr_tab (T : List (List Rat)) : Nr (tabD T) := nr_tup (nr_map nr_th)
theorem pl_tab (T : List (List Rat)) : Pl (tabD T) := (dp_tup (k := 2) fun d hd => by
  obtain ⟨q, _, rfl⟩ := List.mem_map.mp hd
  exact dp_tup (k := 1) fun d hd => by
    obtain ⟨q, _, rfl⟩ := List.mem_map.mp hd
    exact dp_frac q).pl (by decide)
theorem sz_unit {n j : Nat} : Sz n 0 (unitR n j) := by
  refine ⟨unit_len n j, 1, 1, by decide, by decide, by decide, fun t ht => ?_⟩
  unfold unitR at ht
  obtain ⟨k, _, rfl⟩ := List.mem_map.mp ht
  by_cases h : k = j
  · rw [if_pos h]; exact ⟨1, by decide, by decide⟩
  · rw [if_neg h]; exact ⟨0, by decide, by decide⟩
theorem tab_len (n : Nat) (ws : List (List (List Int))) (p : List Nat) : (tabR n ws p).length = n := by simp [tabR]
theorem tab_row {n : Nat} {ws : List (List (List Int))} {p : List Nat} {r : Nat} (hr : r < n) : (tabR n ws p)[r]? = some ((List.range n).map fun j => atR (walkR ws p (unitR n j)) r) := by
  simp [tabR, List.getElem?_map, List.getElem?_range hr]
theorem range_at {n k : Nat} {f : Nat → Rat} (hk : k < n) : atR ((List.range n).map f) k = f k := by
  simp [atR, List.getD, List.getElem?_map, List.getElem?_range hk]
theorem at_mem {us : List Rat} {r : Nat} (h : r < us.length) : us[r]? = some (atR us r) ∧ atR us r ∈ us := by
  have e : us[r]? = some us[r] := List.getElem?_eq_getElem h
  have e2 : atR us r = us[r] := by simp [atR, List.getD, e]
  rw [e2]
  exact ⟨e, List.getElem_mem h⟩
/-- the measure of a table -/
theorem walk_rp {n : Nat} {ws : List (List (List Int))} (hw : ∀ w ∈ ws, WayOk n w) (hn : n ≤ 6) : ∀ (p : List Nat), (∀ k ∈ p, k < ws.length) → p.length ≤ 18 → ∃ M, 0 < M ∧ M < 2 ^ (12 + 198 * p.length) ∧ ∀ ts : List Rat, ts.length = n → ∀ {M' B' : Nat}, 0 < M' → (∀ t ∈ ts, Rp M' B' t) → ∀ t ∈ walkR ws p ts, Rp (M' * M) (B' * M) t := by
  intro p
  induction p with
  | nil => intro _ _; exact ⟨1, by decide, by decide, fun ts _ M' B' _ h t ht => by simpa using h t ht⟩
  | cons k p ih =>
    intro hp hl
    obtain ⟨M, m0, m1, h⟩ := ih (fun j hj => hp j (by simp [hj])) (by simp at hl; omega)
    have wk := hw _ (getD_mem (hp k (by simp))).1
    generalize ew : ws.getD k [] = w at wk
    obtain ⟨l1, l2⟩ := prod_le (w.map fun r => r.sum.natAbs) (by
      intro x hx
      obtain ⟨r, hr, rfl⟩ := List.mem_map.mp hx
      have := (wk.row r hr).pos
      exact ⟨by omega, (wk.row r hr).sum_lt hn⟩)
    have l3 : (w.map fun r => r.sum.natAbs).prod ≤ 2 ^ 198 := Nat.le_trans l2 (Nat.pow_le_pow_right (by decide) (by rw [List.length_map, wk.len]; omega))
    generalize eP : (w.map fun r => r.sum.natAbs).prod = P at l1 l2 l3
    refine ⟨P * M, Nat.mul_pos l1 m0, ?_, fun ts ht M' B' hM' hr t hm => ?_⟩
    · rw [List.length_cons, show 12 + 198 * (p.length + 1) = 198 + (12 + 198 * p.length) by omega, Nat.pow_add]
      exact Nat.mul_lt_mul_of_le_of_lt l3 m1 (Nat.pow_pos (by decide))
    · have hm : t ∈ walkR ws p (dayR w ts) := by rw [← ew]; exact hm
      have := h (dayR w ts) (day_len wk ts) (M' := M' * P) (B' := B' * P) (Nat.mul_pos hM' l1) (fun u hu => ?_) t hm
      · rw [Nat.mul_assoc, Nat.mul_assoc] at this; exact this
      · obtain ⟨r, hr', rfl⟩ := List.mem_map.mp hu
        have hrow := wk.row r hr'
        have hp' := hrow.pos
        have key : ∀ k, k ≤ ts.length → Rp M' ((r.take k).sum.natAbs * B') (dot (ts.take k) (r.take k)) := by
          intro k
          induction k with
          | zero => intro _; simpa [Ag.dot] using Rp.zero
          | succ k ihk =>
            intro hk
            have h1 : ts[k]? = some ts[k] := List.getElem?_eq_getElem (by omega)
            have h2 : r[k]? = some (r[k]'(by rw [hrow.len]; omega)) := List.getElem?_eq_getElem (by rw [hrow.len]; omega)
            rw [dot_step ts r k _ _ h1 h2, sum_step r k _ h2]
            have r1 := (hr _ (List.mem_of_getElem? h1)).mulI (r[k]'(by rw [hrow.len]; omega))
            have := Rp.add hM' (ihk (by omega)) r1
            have h3 := (sum_take_le r k fun w hw => (hrow.in_ w hw).1).1
            have h4 := (hrow.in_ _ (List.mem_of_getElem? h2)).1
            rw [← Nat.add_mul] at this
            rwa [show ((r.take k).sum + r[k]'(by rw [hrow.len]; omega)).natAbs = (r.take k).sum.natAbs + (r[k]'(by rw [hrow.len]; omega)).natAbs by omega]
        have e := key ts.length (Nat.le_refl _)
        rw [List.take_length, show r.take ts.length = r by rw [ht, ← hrow.len, List.take_length]] at e
        have dv : r.sum.natAbs ∣ P := by rw [← eP]; exact prod_dvd (List.mem_map.mpr ⟨r, hr', rfl⟩)
        have := Rp.divN (s := r.sum.natAbs) (by omega) dv l1 e
        rw [show ((r.sum.natAbs : Nat) : Rat) = (r.sum : Rat) by
          rw [← Rat.intCast_natCast]
          congr 1
          omega] at this
        exact this
theorem unit_rp {n j : Nat} : ∀ t ∈ unitR n j, Rp 1 1 t := fun t ht => by
  unfold unitR at ht
  obtain ⟨k, _, rfl⟩ := List.mem_map.mp ht
  by_cases h : k = j
  · rw [if_pos h]; exact ⟨1, by decide, by decide⟩
  · rw [if_neg h]; exact ⟨0, by decide, by decide⟩
/-- all shares are z / M with z at most M -/
theorem tab_rp {n : Nat} {ws : List (List (List Int))} (hw : ∀ w ∈ ws, WayOk n w) (hn : n ≤ 6) (p : List Nat) (hp : ∀ k ∈ p, k < ws.length) (hl : p.length ≤ 18) : ∃ M, 0 < M ∧ M < 2 ^ (12 + 198 * p.length) ∧ ∀ row ∈ tabR n ws p, row.length = n ∧ ∀ q ∈ row, Rp M M q := by
  obtain ⟨M, m0, m1, h⟩ := walk_rp hw hn p hp hl
  refine ⟨M, m0, m1, fun row hrow => ?_⟩
  unfold tabR at hrow
  obtain ⟨r, hr, rfl⟩ := List.mem_map.mp hrow
  refine ⟨by simp, fun q hq => ?_⟩
  obtain ⟨j, hj, rfl⟩ := List.mem_map.mp hq
  have hr' : r < n := by simpa using hr
  have := h (unitR n j) (unit_len n j) (M' := 1) (B' := 1) (by decide) unit_rp _ (at_mem (us := walkR ws p (unitR n j)) (r := r) (by rw [walk_len hw p (unit_len n j) hp]; exact hr')).2
  simpa using this
theorem tab_nil (n : Nat) (ws : List (List (List Int))) : tabR n ws [] = (List.range n).map fun r => (List.range n).map fun j => if r = j then 1 else 0 := by
  unfold tabR
  refine List.map_congr_left fun r hr => List.map_congr_left fun j _ => ?_
  exact unit_at (by simpa using hr)
theorem tab_nn {n : Nat} {ws : List (List (List Int))} (hw : ∀ w ∈ ws, WayOk n w) {p : List Nat} (hp : ∀ k ∈ p, k < ws.length) {r j : Nat} (hr : r < n) : 0 ≤ atR (walkR ws p (unitR n j)) r := by
  refine walk_nn hw p (unit_len n j) hp (fun t ht => ?_) _ (at_mem (us := walkR ws p (unitR n j)) (r := r) (by rw [walk_len hw p (unit_len n j) hp]; exact hr)).2
  unfold unitR at ht
  obtain ⟨k, _, rfl⟩ := List.mem_map.mp ht
  split <;> decide
theorem tab_sum {n : Nat} {ws : List (List (List Int))} (hw : ∀ w ∈ ws, WayOk n w) {p : List Nat} (hp : ∀ k ∈ p, k < ws.length) {r : Nat} (hr : r < n) : sumTo n (fun j => atR (walkR ws p (unitR n j)) r) = 1 := by
  have h := walk_lin hw p (ts := List.replicate n 1) (by simp) hp hr
  rw [walk_even hw 1 p hp] at h
  have e : ∀ k, k < n → atR (List.replicate n (1 : Rat)) k = 1 := fun k hk => by simp [atR, List.getD, List.getElem?_replicate, hk]
  rw [e r hr] at h
  rw [h]
  exact sum_congr fun k hk => by rw [e k hk, Rat.mul_one]
/-- one day more -/
theorem tab_step {n : Nat} {ws : List (List (List Int))} (hw : ∀ w ∈ ws, WayOk n w) {p : List Nat} (hp : ∀ k ∈ p, k < ws.length) {a : Nat} (ha : a < ws.length) {r j : Nat} (hr : r < n) {row : List Int} (hrow : (ws.getD a [])[r]? = some row) :
    atR (walkR ws (p ++ [a]) (unitR n j)) r = sumTo n (fun k => (atI' row k / (row.sum : Rat)) * atR (walkR ws p (unitR n j)) k) := by
  rw [walk_app]
  show atR (dayR (ws.getD a []) (walkR ws p (unitR n j))) r = _
  have wa := hw _ (getD_mem ha).1
  obtain ⟨row2, h2, hk, e⟩ := day_at wa (walkR ws p (unitR n j)) hr
  rw [hrow] at h2
  cases h2
  have l := walk_len hw p (unit_len n j) hp
  rw [e, dot_sum (hk.len.trans l.symm), l, Rat.div_def, ← sum_mulR]
  exact sum_congr fun k _ => by rw [Rat.div_def]; grind
end Ag

/-! ### t[::-1] -/
namespace HT
open PySem PySem.Spec PyProof.Rows L2
section
variable {prog : Program} {w : World} {A : Around} {E : Value → Shared → Prop} {s : Shared}
theorem adjust_rev (n : Nat) : Builtin.Slice.sliceAdjust none none (-1) (n : Int) = ((n : Int) - 1, -1) := by
  unfold Builtin.Slice.sliceAdjust
  simp
theorem places_rev (n : Nat) : Builtin.Slice.slicePlaces ((n : Int) - 1) (-1) (-1) = n := by
  unfold Builtin.Slice.slicePlaces
  have h1 : ¬ ((-1 : Int) > 0) := by omega
  simp only [h1, if_false]
  split <;> simp <;> omega
theorem pick_rev (items : Array Value) : ((List.range items.size).filterMap fun (m : Nat) => items[((items.size : Int) - 1 + (m : Int) * (-1)).toNat]?) = items.toList.reverse := by
  have h := PySem.W.krv_pick items
  unfold slicePick at h
  rw [PySem.W.krv_bounds] at h
  have h2 : ((sliceRange ((items.size : Int) - 1) (-1) (-1)).filterMap (items[·]?)).toArray = items.toList.reverse.toArray := h
  rw [PySem.W.krv_sliceRange, List.filterMap_map] at h2
  have h3 := congrArg Array.toList h2
  simp only [List.toList_toArray] at h3
  rw [← h3]
  have key : ∀ (l : List Nat), (∀ m ∈ l, m < items.size) → (l.filterMap fun (m : Nat) => items[((items.size : Int) - 1 + (m : Int) * (-1)).toNat]?) = l.filterMap ((fun x => items[x]?) ∘ fun k => items.size - 1 - k) := by
    intro l
    induction l with
    | nil => intro _; rfl
    | cons m l ih =>
      intro h
      have hm := h m (by simp)
      have e : ((items.size : Int) - 1 + (m : Int) * (-1)).toNat = items.size - 1 - m := by omega
      rw [List.filterMap_cons, List.filterMap_cons, ih fun x hx => h x (by simp [hx]), e]
      rfl
  exact key _ fun m hm => List.mem_range.mp hm
/-- what a slice object with the step -1 and no ends asks of n items -/
theorem applied_rev {sl : Addr} {v0 v1 v2 : Value} {n : Nat} {Q : Int × Int × Nat → Shared → Prop} (hs : s.heap.IsSliceOf sl v0 v1 v2) (p0 : IsPart v0 none) (p1 : IsPart v1 none) (p2 : IsPart v2 (some (-1))) (h : Q ((n : Int) - 1, -1, n) s) :
    wpAny (model prog w) A (Builtin.Slice.sliceApplied (.ref sl) (pure (n : Int))) Q E s := by
  obtain ⟨o, ho, _, hd⟩ := hs
  have fin : wpAny (model prog w) A (pure (((n : Int) - 1), (-1 : Int), Builtin.Slice.slicePlaces ((n : Int) - 1) (-1) (-1))) Q E s := by rw [places_rev]; exact wpAny_pure h
  unfold Builtin.Slice.sliceApplied Builtin.Slice.sliceFields
  refine wpAny_bind (wpAny_bind (wpAny_field ho hd (x := v0) rfl (wpAny_bind (wpAny_field ho hd (x := v1) rfl (wpAny_bind (wpAny_field ho hd (x := v2) rfl (wpAny_pure (wpAny_bind (slicePart_ p2 ?_)))))))))
  refine (show wpAny _ _ (if ((-1 : Int) == 0) = true then _ else _) _ _ s from ?_)
  rw [if_neg (by decide)]
  refine wpAny_bind (slicePart_ p0 (wpAny_bind (slicePart_ p1 (wpAny_bind (wpAny_pure ?_)))))
  refine (show wpAny _ _ (match Builtin.Slice.sliceAdjust none none (-1) (n : Int) with | (a, b) => pure (a, (-1 : Int), Builtin.Slice.slicePlaces a b (-1))) _ _ s from ?_)
  rw [adjust_rev n]
  exact fin
/-- t[::-1] is a new tuple -/
theorem item_rev {t sl : Addr} {xs : Array Value} {v0 v1 v2 : Value} {Q : Value → Shared → Prop} (ht : IsTup s.heap t xs) (hs : s.heap.IsSliceOf sl v0 v1 v2) (p0 : IsPart v0 none) (p1 : IsPart v1 none) (p2 : IsPart v2 (some (-1))) (hz : xs.size ≤ sizeLine)
    (h : Q (.ref s.heap.objs.size) { s with heap := s.heap.push { cls := .type "tuple", data := .seq xs.toList.reverse.toArray } }) : wpAny (model prog w) A (getItem (.ref t) (.ref sl)) Q E s := by
  have ty : s.TypeIs (.ref sl) "slice" := by obtain ⟨o, ho, hc, _⟩ := hs; exact ⟨o, ho, hc⟩
  have big : sizeOk (.seq xs.toList.reverse.toArray) := (by simpa using hz : xs.toList.reverse.toArray.size ≤ sizeLine)
  unfold getItem
  refine wpAny_holding (wpAny_bind (wpAny_sequenceKey ht.typeIs (by decide) (wpAny_bind (wpAny_callSpecial?_slot (name := Str.ofString "__getitem__") ht.typeIs PyProof.Rows.slot_tuple_getitem (wpAny_call_entry PyProof.Rows.slot_tuple_getitem ht.typeIs entry_tuple_getitem ?_ (args_tuple_getitem _ _))))))
  refine (show wpAny _ _ (Builtin.Tuple.tupleItemsOf (.ref t) >>= _) _ _ s from wpAny_bind (tupleItemsOf_ ht (wpAny_bind (wpAny_typeOf ty ?_))))
  rw [if_pos (by decide)]
  refine wpAny_bind (applied_rev hs p0 p1 p2 ?_)
  refine (show wpAny _ _ (if (((xs.size : Int) - 1) == 0 && (-1 : Int) == 1 && xs.size == xs.size) = true then _ else _) _ _ s from ?_)
  rw [if_neg (by simp), pick_rev]
  first
    | exact wpAny_bind (m := Builtin.Tuple.tupleExact _) (wpAny_newObj_type (wpAny_pure ⟨_, rfl, wpAny_pure h⟩) big)
    | exact wpAny_bind (m := Builtin.Tuple.tupleExact _) (wpAny_newObj_type (wpAny_bind (wpAny_pure (wpAny_pure ⟨_, rfl, wpAny_pure h⟩))) big)
end
end HT
namespace Ag
open PySem PySem.Spec PyProof.Rows L2
section
variable {X : Cx}
/-- t[::-1] of a tuple: a new tuple without a dict -/
def tRevT (K : PySem.W.Frag) (te : TE) : TE := fun σ H Q => te σ H fun x H1 => ∃ a xs, x = .ref a ∧ SqT K H1 a xs ∧ ∀ p o, H1 p = none → o.dict = none → Q (.ref p) (upd H1 p (.frz o (.tup xs.reverse)))
theorem pe_revT {e : Expr} {te : TE} {k : Nat} {q1 q2 q3 pos : Pos} (he : PE X e te) : PE X (.Subscript e (.Slice none none (some (.UnaryOp .USub (.Constant (.int 1) k q1) q2)) q3) pos) (tRevT X.K te) := by
  have part : PO X (some (.UnaryOp .USub (.Constant (.int 1) k q1) q2)) (tPart (tUn (rU fun i => .int (-i)) (tC (.int 1)))) := po_some (pe_un un_neg pe_int)
  constructor
  intro pins s σ H Q I h
  refine Subscript_ (thn (he.run pins s σ H _ I h) ?_)
  rintro v s1 ⟨x, H1, I1, r1, a, xs, rfl, hx, q⟩
  cases r1
  refine wpAny_Slice (thn (po_none.run pins s1 σ H1 (fun o G => o = none ∧ G = H1) I1 ⟨rfl, rfl⟩) ?_)
  rintro w0 s2 ⟨_, _, I2, p0, rfl, rfl⟩
  refine thn (po_none.run pins s2 σ _ (fun o G => o = none ∧ G = _) I2 ⟨rfl, rfl⟩) ?_
  rintro w1 s3 ⟨_, _, I3, p1, rfl, rfl⟩
  refine thn (part.run pins s3 σ _ (fun o G => o = some (-1) ∧ G = _) I3 ⟨1, rfl, -1, rfl, rfl, rfl⟩) ?_
  rintro w2 s4 ⟨_, _, I4, p2, rfl, rfl⟩
  have J := I4.kept (t' := s4.toks) (h' := s4.heap.push { cls := .type "slice", data := .fields #[w0, w1, w2] }) fun b ob z => Heap.get?_push_of_some _ z
  obtain ⟨its, r, ht, hz⟩ := J.tuple hx
  have big : its.toArray.size ≤ sizeLine := by rw [List.size_toArray, ← r.length]; exact hz
  refine tail_any (ops := [.ref a, .ref s4.heap.objs.size]) (value := e) (slice := .Slice none none (some (.UnaryOp .USub (.Constant (.int 1) k q1) q2)) q3) ht.typeIs PyProof.Rows.slot_tuple_getitem.lookup (HT.item_rev ht (Heap.IsSliceOf.new _ w0 w1 w2) p0 p1 p2 big ?_) (by with_unfolding_all rfl)
  refine ⟨.ref _, _, J.laid (t' := s4.toks) (o := .frz _ (.tup xs.reverse)) (fun b ob z => Heap.get?_push_of_some _ z) (Nat.le_refl _) ⟨Heap.get?_push_size _ rfl, ?_⟩, rfl, q _ _ (J.hok.fresh (Nat.le_refl _)) rfl⟩
  exact ⟨by simpa using hz, _, r.reverse, IsTup.new _ _⟩
theorem PE.or {e : Expr} {t1 t2 : TE} (h1 : PE X e t1) (h2 : PE X e t2) : PE X e fun σ H Q => t1 σ H Q ∨ t2 σ H Q := ⟨fun pins s σ H Q I h => h.elim (h1.run pins s σ H Q I) (h2.run pins s σ H Q I)⟩
def fRev : D → Sto → Option D
  | .tup l, _ => some (.tup l.reverse)
  | d, S => (lstOf d S).map fun l => .lst l.reverse
variable {W : WX} {e : Expr} {ma : EM}
theorem e_rev {k : Nat} {p1 p2 p3 pos : Pos} (he : PE X e (tE X.K W ma)) : PE X (.Subscript e (.Slice none none (some (.UnaryOp .USub (.Constant (.int 1) k p1) p2)) p3) pos) (tE X.K W (mUn fRev ma)) := by
  refine PE.imp (PE.or (pe_revT he) (pe_revL he)) ?_
  rintro σ H Q ⟨en, S, m, er, si, h⟩
  unfold mUn at h
  by_cases ht : ∃ l S1, ma en S = .ok (.tup l) S1
  · obtain ⟨l, S1, e1⟩ := ht
    refine .inl ⟨en, S, m, er, si, ?_⟩
    rw [e1] at h ⊢
    intro v m1 H1 x1 s1 r1
    have h1 : Post X.K W σ m H (.ok (.tup l.reverse) S1) Q := h
    cases r1 with
    | tup r2 hd r3 => exact ⟨_, _, rfl, r2, fun q o hq ho => h1 _ m1 _ (x1.trans (.new hq)) (s1.new hq) (tupF ho (r3.rev.to (.new hq)))⟩
  · refine .inr ⟨en, S, m, er, si, ?_⟩
    cases q0 : ma en S with
    | stuck => rw [q0] at h; exact h
    | exc c fs S1 => rw [q0] at h; exact h
    | ok d S1 =>
      rw [q0] at h
      intro v m1 H1 x1 s1 r1
      have e2 : fRev d S1 = (lstOf d S1).map fun l => .lst l.reverse := by
        cases d <;> first | rfl | exact absurd ⟨_, _, q0⟩ ht
      have h : Post X.K W σ m H (ofO (fRev d S1) S1) Q := h
      rw [e2] at h
      cases q : lstOf d S1 with
      | none => rw [q] at h; exact h.elim
      | some l =>
        rw [q] at h
        have h : Post X.K W σ m H (.ok (.lst l.reverse) S1) Q := h
        obtain ⟨a, vs, rfl, h2, h3⟩ := lst_at s1 r1 q
        exact ⟨a, vs, rfl, SqL.of h2, fun q hq => h _ m1 _ (x1.trans (.new hq)) (s1.new hq) (.lst upd_same (s1.off hq) (h3.rev.to (.new hq)))⟩
end
theorem rv_tup (l : List D) (S : Sto) : fRev (.tup l) S = some (.tup l.reverse) := rfl
theorem rv_lst (l : List D) (S : Sto) : fRev (.lst l) S = some (.lst l.reverse) := rfl
/-! ### methods of built-in things, by what is known of the type -/
section
variable {X : Cx} {W : WX}
/-- of the type T, whatever the heap is -/
def TyG (X : Cx) (T : String) (x : V) (H : Hp) : Prop := ∀ (pins : List (Addr × Obj)) (σ : L2.St) (s : Shared) (v : Value), Inv X pins σ H s → RelV x v → s.TypeIs v T ∧ ∀ a, v = .ref a → ∃ ob, s.heap.get? a = some ob ∧ ob.dict = none
theorem tyG_tup {a : Addr} {xs : List V} {H : Hp} (h : SqT X.K H a xs) (hn : NoD H a) : TyG X "tuple" (.ref a) H := by
  intro pins σ s v I r
  cases r
  obtain ⟨its, r, ht, hz⟩ := I.tuple h
  obtain ⟨o, u, h1, h2⟩ := hn
  refine ⟨ht.typeIs, fun b e => ?_⟩
  cases e
  exact ⟨o, (I.hok _ _ h1).1, h2⟩
def tBMG (X : Cx) (T : String) (r : V → List V → Hp → VK → Prop) (to : TE) (t : TA) : TE := fun σ H Q => to σ H fun x H1 => TyG X T x H1 ∧ t σ H1 fun vs H2 => r x vs H2 Q
theorem pe_bmG {T id : String} {name : Str} {o e : Expr} {es : List Expr} {to : TE} {t : TA} {r : V → List V → Hp → VK → Prop} {ap cp : Pos} (pa : PlainAttrs T) (slot : Slot T name id) (hd : typeOf (.builtin id) = pure (.type "method_descriptor")) (hm : MtR X id r) (ho : PE X o to) (ha : PA X (e :: es) t)
    (h1 : attributeBase o name X.env (eval o X.env) = eval o X.env)
    (h2 : ((((backTo cp (starEach (e :: es) X.env)).all fun x => !x.fst) && (backToKw cp (keywordEach [] X.env)).all fun x => x.fst.isSome) && decide (((e :: es).length + ([] : List Keyword).length + if ([] : List Keyword).isEmpty = true then 0 else 1) < 30)) = true)
    (h3 : (ap.endLine == cp.line) = true) (h4 : starEach (e :: es) X.env = (false, eval e X.env) :: starEach es X.env) (h5 : (backTo cp (starEach es X.env)).any (·.1) = false) : PE X (.Call (.Attribute o name ap) (e :: es) [] cp) (tBMG X T r to t) := by
  have plain : (backTo cp (starEach (e :: es) X.env)).any (·.1) = false := by
    rw [h4]
    exact (Bool.false_or _).trans h5
  constructor
  intro pins s σ H Q I w
  refine wpAny_Call_method_late h1 h2 h3 rfl (thn (ho.run pins s σ H _ I w) ?_)
  rintro v z ⟨x, G, J, rx, ty, w⟩
  obtain ⟨k1, k2⟩ := ty pins σ z v J rx
  have go := ha.run cp pins z σ G (fun vs G' => r x vs G' Q) J w
  rw [h4] at plain go ⊢
  refine ⟨T, id, pa, slot, hd, k1, k2, Calls.callWith_builtin plain (Calls.evalArgs_plain (thn go ?_))⟩
  rintro us y ⟨vs, G', J', rs, w⟩
  exact hm pins y σ G' x vs v us Q J' rx rs w
def posOf (z : Str) : List Str → Option Nat
  | [] => none
  | y :: ys => if y = z then some 0 else (posOf z ys).map (· + 1)
theorem posOf_at {z : Str} : ∀ {ys : List Str} {j : Nat}, posOf z ys = some j → ys[j]? = some z ∧ ∀ m, m < j → ys[m]? ≠ some z
  | [], j, h => by cases h
  | y :: ys, j, h => by
    unfold posOf at h
    by_cases e : y = z
    · rw [if_pos e] at h; cases h; subst e
      exact ⟨rfl, fun m hm => by omega⟩
    · rw [if_neg e] at h
      obtain ⟨i, hi, rfl⟩ := Option.map_eq_some_iff.mp h
      obtain ⟨h1, h2⟩ := posOf_at hi
      refine ⟨by simpa using h1, fun m hm => ?_⟩
      cases m with
      | zero => simpa using e
      | succ m => simpa using h2 m (by omega)
def fIdxT : D → List D → Sto → Option (D × Sto)
  | .tup l, [.str z], S => (isStrs l).bind fun ys => (posOf z ys).map fun j => (.int (j : Nat), S)
  | _, _, _ => none
def okNms (d : D) (_ : Sto) : Bool := match d with | .tup l => names l | _ => false
theorem m_indexT : MtR X "tuple.index" (rBM X.K fIdxT) := by
  rintro pins s σ H x xs v us Q I rx rxs ⟨d, ds, S, m, r, si, hx, hxs, hf, hq⟩
  unfold fIdxT at hf
  split at hf
  · rename_i l z
    obtain ⟨ys, e1, hf⟩ := Option.bind_eq_some_iff.mp hf
    obtain ⟨j, e2, rfl⟩ := Option.map_eq_some_iff.mp hf
    cases hx with
    | tup h1 hd h2 =>
      cases hxs with
      | cons r1 r2 =>
        cases r1; cases r2
        obtain ⟨p1, p2⟩ := posOf_at e2
        have e3 := strs_of h2 e1
        subst e3
        exact mt_tup_index pins s σ H _ _ v us Q I rx rxs ⟨_, ys, z, j, rfl, rfl, h1, p1, p2, hq _ H .refl si (.int _)⟩
  · cases hf
theorem e_idxT {o e : Expr} {mo : EM} {mr : AM} {apos cpos : Pos} (ho : PE X o (tE X.K W mo)) (ha : PA X [e] (tA X.K W mr))
    (h1 : attributeBase o "index" X.env (eval o X.env) = eval o X.env := by rfl)
    (h2 : ((((backTo cpos (starEach [e] X.env)).all fun x => !x.fst) && (backToKw cpos (keywordEach [] X.env)).all fun x => x.fst.isSome) && decide (([e].length + ([] : List Keyword).length + if ([] : List Keyword).isEmpty = true then 0 else 1) < 30)) = true := by rfl)
    (h3 : (apos.endLine == cpos.line) = true := by rfl) (h4 : starEach [e] X.env = (false, eval e X.env) :: starEach [] X.env := by rfl) (h5 : (backTo cpos (starEach [] X.env)).any (·.1) = false := by rfl) :
    PE X (.Call (.Attribute o "index" apos) [e] [] cpos) (tE X.K W (mBM fIdxT okNms mo mr)) := by
  refine PE.imp (pe_bmG PySem.F.plainAttrs_tuple PySem.F.slot_tuple_index PySem.F.type_tuple_index m_indexT ho ha h1 h2 h3 h4 h5) ?_
  rintro σ H Q ⟨en, S, m, er, si, h⟩
  refine ⟨en, S, m, er, si, (PostG.bind (R := Rep X.K) h).mono ?_⟩
  rintro v H1 ⟨d, S1, m1, e1, s1, r1, h1⟩
  by_cases hk : okNms d S1 = true
  · rw [if_pos hk] at h1
    have ty : TyG X "tuple" v H1 := by
      cases r1 with
      | tup a b c => exact tyG_tup a (b hk)
      | _ => cases hk
    refine ⟨ty, en, S1, m1, er.to e1, s1, (PostG.bind (R := Reps X.K) h1).mono ?_⟩
    rintro vs H2 ⟨ds, S2, m2, e2, s2, r2, h2⟩
    cases q : fIdxT d ds S2 with
    | none => rw [q] at h2; exact h2.elim
    | some r =>
      rw [q] at h2
      exact ⟨d, ds, S2, m2, r, s2, r1.to e2, r2, q, fun z H3 e3 s3 r3 => h2 z m2 H3 e3 s3 r3⟩
  · rw [if_neg hk] at h1; exact h1.elim
/-! list.index: the first equal one -/
def posBy (p : PyData) : List PyData → Option Nat
  | [] => none
  | y :: ys => if PyData.eqv y p = true then some 0 else (posBy p ys).map (· + 1)
theorem posBy_at {p : PyData} : ∀ {ys : List PyData} {j : Nat}, posBy p ys = some j → (∃ z, ys[j]? = some z ∧ PyData.eqv z p = true) ∧ ∀ m z', m < j → ys[m]? = some z' → PyData.eqv z' p = false
  | [], j, h => by cases h
  | y :: ys, j, h => by
    unfold posBy at h
    by_cases e : PyData.eqv y p = true
    · rw [if_pos e] at h; cases h
      exact ⟨⟨y, rfl, e⟩, fun m _ hm => by omega⟩
    · rw [if_neg e] at h
      obtain ⟨i, hi, rfl⟩ := Option.map_eq_some_iff.mp h
      obtain ⟨⟨z, h0, h1⟩, h2⟩ := posBy_at hi
      refine ⟨⟨z, by simpa using h0, h1⟩, fun m z' hm hz => ?_⟩
      cases m with
      | zero => cases hz; simpa using e
      | succ m => exact h2 m z' (by omega) (by simpa using hz)
def fIdxL : D → List D → Sto → Option (D × Sto) := fun d ds S => match ds with
  | [y] => (match pyS d S, pyS y S with
    | some (.list qs), some p => if SeqAt.shaped (.list qs) = true ∧ SeqAt.shaped p = true then (posBy p qs).map fun j => (.int (j : Nat), S) else none
    | _, _ => none)
  | _ => none
theorem m_indexL (hu : X.A.units + 65 < cLine) : MtR X "list.index" (rBM X.K fIdxL) := by
  rintro pins s σ H x xs v us Q I rx rxs ⟨d, ds, S, m, r, si, hx, hxs, hf, hq⟩
  unfold fIdxL at hf
  split at hf
  · rename_i y
    split at hf
    · rename_i qs p e1 e2
      by_cases hs : SeqAt.shaped (.list qs) = true ∧ SeqAt.shaped p = true
      · rw [if_pos hs] at hf
        obtain ⟨j, e3, rfl⟩ := Option.map_eq_some_iff.mp hf
        obtain ⟨⟨z, z1, z2⟩, z3⟩ := posBy_at e3
        cases hxs with
        | cons r1 r2 =>
          cases r2
          have d1 := dpS_of si hx e1
          have d2 := dpS_of si r1 e2
          cases d1 with
          | lst a1 a2 => exact mt_indexD hu pins s σ H _ _ v us Q I rx rxs ⟨_, _, p, qs, j, z, rfl, rfl, .lst a1 a2, d2, hs.1, hs.2, z1, z2, z3, hq _ H .refl si (.int _)⟩
      · rw [if_neg hs] at hf; cases hf
    · cases hf
  · cases hf
end
end Ag

namespace Ag
open PySem PySem.Spec PyProof.Rows L2
/-! ### x += e, x *= e of whole numbers -/
section
variable {X : Cx} {W : WX} {e : Expr} {me : EM} {pos pos' : Pos}
def sAug (f : D → D → Sto → Option D) (i : Nat) (me : EM) : SM := fun en S => match en[i]? with
  | some (some (.int a)) => eS (me en S) en fun d S1 => (match d with
    | .int b => (match f (.int a) (.int b) S1 with
      | some (.int c) => .next (en.set i (some (.int c))) S1
      | _ => .stuck)
    | _ => .stuck)
  | _ => .stuck
theorem aug_to {i : Nat} {ok : Int → Int → Prop} {g : Int → Int → Int} {f : D → D → Sto → Option D} (hf : ∀ a b c S, f (.int a) (.int b) S = some c → c = .int (g a b) ∧ ok a b) {E : Ends} {σ : L2.St} {H : Hp} (h : tS X.K W (sAug f i me) E σ H) :
    tAug i (tE X.K W me) (fun x y G Q => ∃ a b, x = V.int a ∧ y = V.int b ∧ ok a b ∧ Q (.int (g a b)) G) E σ H := by
  obtain ⟨en, S, m, er, si, h⟩ := h
  unfold sAug at h
  split at h
  · rename_i a q
    obtain ⟨v, h1, h2⟩ := er.at_ i _ q
    cases h2
    refine ⟨_, h1, en, S, m, er, si, (eS_to er h).mono ?_⟩
    rintro y G ⟨d, S1, m1, e1, s1, r1, h1⟩
    split at h1
    · rename_i b
      cases r1
      cases q2 : f (.int a) (.int b) S1 with
      | none => rw [q2] at h1; exact h1.elim
      | some c =>
        obtain ⟨rfl, k⟩ := hf _ _ _ _ q2
        rw [q2] at h1
        exact ⟨a, b, rfl, rfl, k, h1 _ m1 G .refl s1 ((er.to e1).set (.int _))⟩
    · exact h1.elim
  · exact h.elim
theorem s_augAdd {i : Nat} {x : Str} (hN : X.N.Nodup) (hi : X.N[i]? = some x) (hx : Loc X.env.scope x) (he : PE X e (tE X.K W me)) (hf : X.fn x = true ∨ X.env.scope.names.lookup x = some .local := by first | exact Or.inl rfl | exact Or.inr rfl) :
    PS X (.AugAssign (.Name x pos') .Add e pos) (tS X.K W (sAug fAdd i me)) :=
  PS.imp (ps_aug hN hi hx he ip_add hf) fun E σ H h => by
    obtain ⟨v, h1, h2⟩ := aug_to (ok := fun _ _ => True) (g := fun a b => a + b) (fun a b c S q => by cases q; exact ⟨rfl, trivial⟩) h
    exact ⟨v, h1, (fun w : tE X.K W me σ H _ => by
      obtain ⟨en, S, m, er, si, k⟩ := w
      exact ⟨en, S, m, er, si, k.mono fun y G ⟨a, b, p, q, _, z⟩ => ⟨a, b, p, q, z⟩⟩) h2⟩
theorem ip_mulW : PIp X .Mult (fun x y G Q => ∃ a b, x = V.int a ∧ y = V.int b ∧ mulOk a b = true ∧ Q (.int (a * b)) G) := by
  rintro pins s σ H x y v u Q I r1 r2 ⟨i, j, rfl, rfl, hl, q⟩
  obtain ⟨t, rfl⟩ := r1
  obtain ⟨t', rfl⟩ := r2
  have ok : IntMulOk i j := by
    unfold mulOk at hl
    simp only [Bool.or_eq_true, decide_eq_true_eq] at hl
    rcases hl with h | h | h
    · exact CMul.ok (.inl ⟨by omega, by omega⟩)
    · exact CMul.ok (.inr ⟨by omega, by omega⟩)
    · exact CMulW.ok h
  exact imul_int (h := ⟨.int _, H, I.tok _, ⟨_, rfl⟩, q⟩) ok
theorem s_augMul {i : Nat} {x : Str} (hN : X.N.Nodup) (hi : X.N[i]? = some x) (hx : Loc X.env.scope x) (he : PE X e (tE X.K W me)) (hf : X.fn x = true ∨ X.env.scope.names.lookup x = some .local := by first | exact Or.inl rfl | exact Or.inr rfl) :
    PS X (.AugAssign (.Name x pos') .Mult e pos) (tS X.K W (sAug fMul i me)) :=
  PS.imp (ps_aug hN hi hx he ip_mulW hf) fun E σ H h => aug_to (ok := fun a b => mulOk a b = true) (g := fun a b => a * b) (fun a b c S q => by
    by_cases hl : mulOk a b = true
    · simp only [fMul, hl, if_true] at q; cases q; exact ⟨rfl, hl⟩
    · simp only [fMul, hl, if_false] at q; cases q) h
end
theorem p_aug {f : D → D → Sto → Option D} {i : Nat} {me : EM} {en : En} {S : Sto} {N : En → Sto → Prop} {R : D → Sto → Prop} {a : Int} (h : slotD en i = some (.int a)) : (sAug f i me en S).sat N R ↔ (me en S).sat fun d S1 => osat (intD d) fun b => osat ((f (.int a) (.int b) S1).bind intD) fun c => N (en.set i (some (.int c))) S1 := by
  have e : en[i]? = some (some (.int a)) := by
    unfold slotD at h
    split at h
    · rename_i d q; cases h; exact q
    · cases h
  unfold sAug
  rw [e]
  simp only [p_eS]
  refine iff_of_eq (congrArg _ (funext fun d => funext fun S1 => propext ?_))
  cases d with
  | int b =>
    cases q : f (.int a) (.int b) S1 with
    | none => simp [intD, s_st, osat, q]
    | some c => cases c <;> simp [intD, s_st, s_nx, osat, q]
  | _ => simp [intD, s_st, osat]
/-! ### tuple(range(..)), list(range(..)) -/
section
variable {X : Cx} {W : WX} {e e2 : Expr} {ma mb : EM} {p p2 pos pos2 : Pos}
def rgB' (a b : Int) : Bool := decide (-(2 ^ 62) ≤ a ∧ a < 2 ^ 62 ∧ -(2 ^ 62) ≤ b ∧ b < 2 ^ 62 ∧ (b - a).toNat ≤ 2 ^ 24)
theorem rgB_ok {a b : Int} (h : rgB' a b = true) : RgOk a b := by
  unfold rgB' at h
  have k := of_decide_eq_true h
  exact k
def rgD (a b : Int) : List D := (List.range (b - a).toNat).map fun i => D.int (a + (i : Nat))
theorem reps_rg {K : PySem.W.Frag} {m : Mp} {H : Hp} (a b : Int) : Reps K m H (rgV a b) (rgD a b) := by
  unfold rgV rgD
  generalize List.range (b - a).toNat = l
  induction l with
  | nil => exact .nil
  | cons k l ih => exact .cons (.int _) ih
def gTupRg (d : D) (_ : Sto) : Option D := match d with
  | .int n => if rgB' 0 n = true then some (.tup (rgD 0 n)) else none
  | _ => none
def gLstRg (d : D) (_ : Sto) : Option D := match d with
  | .int n => if rgB' 0 n = true then some (.lst (rgD 0 n)) else none
  | _ => none
theorem names_rg (a b : Int) : names (rgD a b) = false := by
  unfold rgD
  cases List.range (b - a).toNat with
  | nil => rfl
  | cons k l => rfl
theorem e_tupRg {B : Bool} (hc : X.calm = true) (hg : Gl X "tuple") (hm : X.mg "tuple" = none) (hg2 : Gl X "range") (hm2 : X.mg "range" = none) (ha : PE X e (tE X.K W ma)) (n1 : starEach [e] X.env = (false, eval e X.env) :: starEach [] X.env := by rfl)
    (n2 : starEach [.Call (.Name "range" p2) [e] [] pos2] X.env = (false, eval (.Call (.Name "range" p2) [e] [] pos2) X.env) :: starEach [] X.env := by rfl) : PE X (.Call (.Name "tuple" p) [.Call (.Name "range" p2) [e] [] pos2] [] pos) (tE X.K W (mUn gTupRg ma)) := by
  refine PE.imp (pe_tupRg hc hg hm (prg_1 hg2 hm2 ha n1) n2) ?_
  rintro σ H Q ⟨en, S, m, er, si, h⟩
  refine ⟨en, S, m, er, si, h.bind.mono ?_⟩
  rintro v H1 ⟨d, S1, m1, e1, s1, r1, h1⟩
  unfold gTupRg at h1
  split at h1
  · rename_i n
    cases r1
    by_cases hb : rgB' 0 n = true
    · rw [if_pos hb] at h1
      exact ⟨n, rfl, rgB_ok hb, fun q hq => h1 _ m1 _ (.new hq) (s1.new hq) (.tup (.inl (.inl upd_same)) (fun z => by rw [names_rg] at z; cases z) (reps_rg 0 n))⟩
    · rw [if_neg hb] at h1; exact h1.elim
  · exact h1.elim
theorem e_lstRg {B : Bool} (hc : X.calm = true) (hg : Gl X "list") (hm : X.mg "list" = none) (hg2 : Gl X "range") (hm2 : X.mg "range" = none) (ha : PE X e (tE X.K W ma)) (n1 : starEach [e] X.env = (false, eval e X.env) :: starEach [] X.env := by rfl)
    (n2 : starEach [.Call (.Name "range" p2) [e] [] pos2] X.env = (false, eval (.Call (.Name "range" p2) [e] [] pos2) X.env) :: starEach [] X.env := by rfl) : PE X (.Call (.Name "list" p) [.Call (.Name "range" p2) [e] [] pos2] [] pos) (tE X.K W (mUn gLstRg ma)) := by
  refine PE.imp (pe_listRg hc hg hm (prg_1 hg2 hm2 ha n1) n2) ?_
  rintro σ H Q ⟨en, S, m, er, si, h⟩
  refine ⟨en, S, m, er, si, h.bind.mono ?_⟩
  rintro v H1 ⟨d, S1, m1, e1, s1, r1, h1⟩
  unfold gLstRg at h1
  split at h1
  · rename_i n
    cases r1
    by_cases hb : rgB' 0 n = true
    · rw [if_pos hb] at h1
      exact ⟨n, rfl, rgB_ok hb, fun q hq => h1 _ m1 _ (.new hq) (s1.new hq) (.lst upd_same (s1.off hq) (reps_rg 0 n))⟩
    · rw [if_neg hb] at h1; exact h1.elim
  · exact h1.elim
/-- as a cell -/
def mLstRgC (ma : EM) : EM := fun en S => (ma en S).bind fun d S1 => match d with
  | .int n => if rgB' 0 n = true then .ok (.ref S1.length) (S1 ++ [.lst (rgD 0 n)]) else .stuck
  | _ => .stuck
theorem e_lstRgC {B : Bool} (hc : X.calm = true) (hg : Gl X "list") (hm : X.mg "list" = none) (hg2 : Gl X "range") (hm2 : X.mg "range" = none) (ha : PE X e (tE X.K W ma)) (n1 : starEach [e] X.env = (false, eval e X.env) :: starEach [] X.env := by rfl)
    (n2 : starEach [.Call (.Name "range" p2) [e] [] pos2] X.env = (false, eval (.Call (.Name "range" p2) [e] [] pos2) X.env) :: starEach [] X.env := by rfl) : PE X (.Call (.Name "list" p) [.Call (.Name "range" p2) [e] [] pos2] [] pos) (tE X.K W (mLstRgC ma)) := by
  refine PE.imp (pe_listRg hc hg hm (prg_1 hg2 hm2 ha n1) n2) ?_
  rintro σ H Q ⟨en, S, m, er, si, h⟩
  refine ⟨en, S, m, er, si, h.bind.mono ?_⟩
  rintro v H1 ⟨d, S1, m1, e1, s1, r1, h1⟩
  split at h1
  · rename_i n
    cases r1
    by_cases hb : rgB' 0 n = true
    · rw [if_pos hb] at h1
      exact ⟨n, rfl, rgB_ok hb, fun q hq => h1 _ (m1.add q) _ (.cell hq) (s1.grow hq ⟨rgV 0 n, upd_same, reps_rg 0 n⟩) (.ref (s1.last q))⟩
    · rw [if_neg hb] at h1; exact h1.elim
  · exact h1.elim
end
theorem tr_int (n : Nat) (S : Sto) (h : n ≤ 1000000) : gTupRg (.int (n : Int)) S = some (.tup ((List.range n).map fun (k : Nat) => .int (k : Int))) := by
  have e : rgB' 0 (n : Int) = true := by unfold rgB'; exact decide_eq_true ⟨by omega, by omega, by omega, by omega, by omega⟩
  simp only [gTupRg, e, if_true, rgD]
  simp
theorem lr_int (n : Nat) (S : Sto) (h : n ≤ 1000000) : gLstRg (.int (n : Int)) S = some (.lst ((List.range n).map fun (k : Nat) => .int (k : Int))) := by
  have e : rgB' 0 (n : Int) = true := by unfold rgB'; exact decide_eq_true ⟨by omega, by omega, by omega, by omega, by omega⟩
  simp only [gLstRg, e, if_true, rgD]
  simp
theorem q_lrC {ma : EM} {en : En} {S : Sto} {P : D → Sto → Prop} : (mLstRgC ma en S).sat P ↔ (ma en S).sat fun d S1 => osat (intD d) fun n => rgB' 0 n = true ∧ P (.ref S1.length) (S1 ++ [.lst (rgD 0 n)]) := by
  unfold mLstRgC
  rw [r_bind]
  refine iff_of_eq (congrArg _ (funext fun d => funext fun S1 => propext ?_))
  cases d with
  | int n => simp only [intD, os_some, r_ifs, r_ok]
  | _ => simp [intD, osat, r_stuck]
/-! ### comprehensions with two clauses -/
def lc2M (nxt : Nxt) (g : GM) (t : BM) (mi1 : IM) (vs1 : List Nat) (g1 : GM) (t1 : BM) (e : EM) (en : En) : Nat → Nat → List D → Sto → Res (List D)
  | 0, k, acc, S => match nxt k S with
    | some none => .ok acc S
    | _ => .stuck
  | f + 1, k, acc, S => match nxt k S with
    | none => .stuck
    | some none => .ok acc S
    | some (some d) => match g d en S with
      | .ok en1 S1 => (match t en1 S1 with
        | .ok b S2 => if b = true then (match mi1 en1 S2 with
            | .ok it1 S3 => (match lcM it1.nxt g1 t1 e (wipeE en1 vs1) it1.n 0 acc S3 with
              | .ok acc' S4 => lc2M nxt g t mi1 vs1 g1 t1 e en f (k + 1) acc' S4
              | _ => .stuck)
            | _ => .stuck) else lc2M nxt g t mi1 vs1 g1 t1 e en f (k + 1) acc S2
        | _ => .stuck)
      | _ => .stuck
def mLc2 (mi : IM) (vs : List Nat) (g : GM) (t : BM) (mi1 : IM) (vs1 : List Nat) (g1 : GM) (t1 : BM) (e : EM) : EM := fun en S => (mi en S).bind fun it S1 => match lc2M it.nxt g t mi1 vs1 g1 t1 e (wipeE en vs) it.n 0 [] S1 with
  | .ok l S2 => .ok (.lst l) S2
  | _ => .stuck
theorem wipe_wipe {σ : L2.St} : ∀ us : List Nat, L2.wipe (L2.wipe σ us) us = L2.wipe σ us
  | [] => rfl
  | u :: us => by
    have key : ∀ (ws : List Nat) (τ : L2.St), L2.wipe (τ.set u none) ws = (L2.wipe τ ws).set u none := by
      intro ws
      induction ws with
      | nil => intro _; rfl
      | cons w ws ih =>
        intro τ
        simp only [L2.wipe]
        rw [ih τ]
        by_cases h : u = w
        · rw [h]
        · rw [List.set_comm _ _ h]
    simp only [L2.wipe]
    rw [key us, wipe_wipe us, List.set_set]
/-- the hidden new list may be written -/
theorem Tr.putH {m6 m : Mp} {H6 H : Hp} {A : Addr} {vs : List V} {o : HO} (t : Tr m6 H6 m H) (hA : A ∈ m6.h) (hl : H A = some (.lst vs)) : Tr m6 H6 m (upd H A o) :=
  ⟨t.pre, t.hid, fun a x q n => by
      have ne : a ≠ A := fun z => n.2 (by rw [z]; exact hA)
      rw [upd_ne ne]; exact t.keep a x q n,
    fun a xs q => by
      have := t.tup a xs q
      rw [upd_ne fun z => by rw [z, hl] at this; cases this]; exact this,
    fun a x u q => by
      have := t.frz a x u q
      rw [upd_ne fun z => by rw [z, hl] at this; cases this]; exact this⟩
section
variable {X : Cx} {W : WX}
theorem lc2_run {K : PySem.W.Frag} {it : ItD} {g g1 : GM} {t t1 : BM} {mi1 : IM} {el : EM} {vs vs1 : List Nat} {m1 : Mp} {H1 : Hp} {S1 : Sto} {σ : L2.St} {en : En} {J : L2.It} {A : Addr} {Q : Hp → Prop} (er : EnvR K m1 H1 σ en) (s1 : Sim K m1 S1 H1) (wk : WalkD K m1 H1 J it.nxt) (hA : H1 A = none)
    (l : List D) (S2 : Sto) (q : lc2M it.nxt g t mi1 vs1 g1 t1 el (wipeE en vs) it.n 0 [] S1 = .ok l S2) (fin : ∀ m H, LcSt K m1 H1 A m H S2 l → Q H) :
    ∃ Wv : Nat → Nat → Hp → Prop, (∃ m, Wv 0 m (upd H1 A (.lst []))) ∧ ∀ i m H, Wv i m H →
      (J.stop i H ∧ Q H) ∨ (J.go i H ∧ ∃ Nx : Hp → Prop, (∀ H', Nx H' → ∃ m', m' < m ∧ Wv (i + 1) m' H') ∧ ∀ x H', J.yld i H x H' → tGw K W0 vs g x (L2.wipe σ vs) H' fun σ2 H2 => L2.wipe σ2 vs = L2.wipe σ vs ∧ tT K W0 t σ2 H2 fun b H3 =>
        if b = true then tI K W0 mi1 σ2 H3 fun J1 H4 => ∃ W1 : Nat → Nat → Hp → Prop, (∃ m, W1 0 m H4) ∧ ∀ j k H, W1 j k H →
          (J1.stop j H ∧ Nx H) ∨ (J1.go j H ∧ ∃ Nx1 : Hp → Prop, (∀ H', Nx1 H' → ∃ k', k' < k ∧ W1 (j + 1) k' H') ∧ ∀ x H', J1.yld j H x H' → tGw K W0 vs1 g1 x (L2.wipe σ2 vs1) H' fun σ3 H5 => L2.wipe σ3 vs1 = L2.wipe σ2 vs1 ∧ tT K W0 t1 σ3 H5 fun b H6 =>
            if b = true then tE K W0 el σ3 H6 fun y H7 => ∃ acc, H7 A = some (.lst acc) ∧ acc.length < sizeLine ∧ Nx1 (upd H7 A (.lst (acc ++ [y]))) else Nx1 H6)
        else Nx H3) := by
  have st0 : LcSt K m1 H1 A (m1.hide A) (upd H1 A (.lst [])) S1 [] := by
    have tr := Tr.hide (m := m1) (o := .lst []) hA
    refine ⟨⟨⟨[], by simp [Mp.hide], by simp⟩, rfl, fun a o q => ⟨o, ?_⟩, fun a o q _ => ?_, fun a xs q => ?_, fun a o u q => ?_⟩, tr, rfl, s1.fresh hA, s1.hide hA, [], upd_same, .nil⟩
    all_goals (rw [upd_ne (ne_of_none q hA)]; exact q)
  refine ⟨fun i f H => ∃ m S acc, LcSt K m1 H1 A m H S acc ∧ lc2M it.nxt g t mi1 vs1 g1 t1 el (wipeE en vs) f i acc S = .ok l S2, ⟨it.n, m1.hide A, S1, [], st0, q⟩, ?_⟩
  rintro i f H ⟨m, S, acc, st, h⟩
  have wk2 := wk m S H st.tr st.sim i
  cases qn : it.nxt i S with
  | none => cases f <;> (simp only [lc2M, qn] at h; cases h)
  | some od =>
    rw [qn] at wk2
    cases od with
    | none =>
      have h3 : (Res.ok acc S : Res (List D)) = .ok l S2 := by cases f <;> simpa only [lc2M, qn] using h
      cases h3
      exact .inl ⟨wk2, fin m H st⟩
    | some d =>
      cases f with
      | zero => simp only [lc2M, qn] at h; cases h
      | succ f =>
        refine .inr ⟨wk2.1, fun H' => ∃ m S acc, LcSt K m1 H1 A m H' S acc ∧ lc2M it.nxt g t mi1 vs1 g1 t1 el (wipeE en vs) f (i + 1) acc S = .ok l S2, fun H' z => ⟨f, Nat.lt_succ_self f, z⟩, ?_⟩
        intro x H3 y
        obtain ⟨e3, s3, r3⟩ := wk2.2 x H3 y
        have st3 := st.to e3 s3
        have er3 : EnvR K m H3 (L2.wipe σ vs) (wipeE en vs) := (er.tr st3.tr).wipe vs
        refine ⟨d, wipeE en vs, S, m, er3, s3, r3, ?_⟩
        simp only [lc2M, qn] at h
        cases qg : g d (wipeE en vs) S with
        | stuck => rw [qg] at h; cases h
        | exc c fs S4 => rw [qg] at h; cases h
        | ok en4 S4 =>
          simp only [qg] at h
          intro σ4 m4 H4 e4 s4 r4
          have st4 := st3.to e4 s4
          refine ⟨r4.2.trans (wipe_wipe vs), en4, S4, m4, r4.1, s4, ?_⟩
          cases qt : t en4 S4 with
          | stuck => rw [qt] at h; cases h
          | exc c fs S5 => rw [qt] at h; cases h
          | ok b S5 =>
            simp only [qt] at h
            intro b' m5 H5 e5 s5 hb
            subst hb
            have st5 := st4.to e5 s5
            cases b' with
            | false =>
              simp only [Bool.false_eq_true, if_false] at h ⊢
              exact ⟨m5, S5, acc, st5, h⟩
            | true =>
              simp only [if_true] at h ⊢
              refine ⟨en4, S5, m5, r4.1.to e5, s5, ?_⟩
              cases qi : mi1 en4 S5 with
              | stuck => rw [qi] at h; cases h
              | exc c fs S6 => rw [qi] at h; cases h
              | ok it1 S6 =>
                simp only [qi] at h
                intro J1 m6 H6 e6 s6 w6
                have st6 := st5.to e6 s6
                cases ql : lcM it1.nxt g1 t1 el (wipeE en4 vs1) it1.n 0 acc S6 with
                | stuck => rw [ql] at h; cases h
                | exc c fs S7 => rw [ql] at h; cases h
                | ok acc' S7 =>
                  simp only [ql] at h
                  have er6 : EnvR K m6 H6 σ4 en4 := (r4.1.to e5).to e6
                  have hA6 : A ∈ m6.h := by rw [st6.hh]; exact List.mem_cons_self
                  refine ⟨fun j k H => ∃ m S ac, LcSt K m1 H1 A m H S ac ∧ Tr m6 H6 m H ∧ (∀ x o, H6 x = some o → ∃ o', H x = some o') ∧ lcM it1.nxt g1 t1 el (wipeE en4 vs1) k j ac S = .ok acc' S7, ⟨it1.n, m6, S6, acc, st6, Ext.refl.tr, fun x o z => ⟨o, z⟩, ql⟩, ?_⟩
                  rintro j k G ⟨n, T, ac, sn, tn, kn, hn⟩
                  have w7 := w6 n T G tn sn.sim j
                  cases q1 : it1.nxt j T with
                  | none => cases k <;> (simp only [lcM, q1] at hn; cases hn)
                  | some od1 =>
                    rw [q1] at w7
                    cases od1 with
                    | none =>
                      have h3 : (Res.ok ac T : Res (List D)) = .ok acc' S7 := by cases k <;> simpa only [lcM, q1] using hn
                      cases h3
                      exact .inl ⟨w7, n, _, _, sn, h⟩
                    | some d1 =>
                      cases k with
                      | zero => simp only [lcM, q1] at hn; cases hn
                      | succ k =>
                        refine .inr ⟨w7.1, fun H' => ∃ m S ac, LcSt K m1 H1 A m H' S ac ∧ Tr m6 H6 m H' ∧ (∀ x o, H6 x = some o → ∃ o', H' x = some o') ∧ lcM it1.nxt g1 t1 el (wipeE en4 vs1) k (j + 1) ac S = .ok acc' S7, fun H' z => ⟨k, Nat.lt_succ_self k, z⟩, ?_⟩
                        intro x1 G1 y1
                        obtain ⟨x3, z3, u3⟩ := w7.2 x1 G1 y1
                        have sn3 := sn.to x3 z3
                        have tn3 := tn.ext x3 kn
                        have kn3 : ∀ x o, H6 x = some o → ∃ o', G1 x = some o' := fun x o z => let ⟨o', z'⟩ := kn x o z; x3.trk x o' z'
                        refine ⟨d1, wipeE en4 vs1, T, n, (er6.tr tn3).wipe vs1, z3, u3, ?_⟩
                        simp only [lcM, q1] at hn
                        cases q2 : g1 d1 (wipeE en4 vs1) T with
                        | stuck => rw [q2] at hn; cases hn
                        | exc c fs T1 => rw [q2] at hn; cases hn
                        | ok en5 T1 =>
                          simp only [q2] at hn
                          intro σ5 n1 G2 x4 z4 u4
                          have sn4 := sn3.to x4 z4
                          have tn4 := tn3.ext x4 kn3
                          have kn4 : ∀ x o, H6 x = some o → ∃ o', G2 x = some o' := fun x o z => let ⟨o', z'⟩ := kn3 x o z; x4.trk x o' z'
                          refine ⟨u4.2.trans (wipe_wipe vs1), en5, T1, n1, u4.1, z4, ?_⟩
                          cases q3 : t1 en5 T1 with
                          | stuck => rw [q3] at hn; cases hn
                          | exc c fs T2 => rw [q3] at hn; cases hn
                          | ok b1 T2 =>
                            simp only [q3] at hn
                            intro b1' n2 G3 x5 z5 hb1
                            subst hb1
                            have sn5 := sn4.to x5 z5
                            have tn5 := tn4.ext x5 kn4
                            have kn5 : ∀ x o, H6 x = some o → ∃ o', G3 x = some o' := fun x o z => let ⟨o', z'⟩ := kn4 x o z; x5.trk x o' z'
                            cases b1' with
                            | false =>
                              simp only [Bool.false_eq_true, if_false] at hn ⊢
                              exact ⟨n2, T2, ac, sn5, tn5, kn5, hn⟩
                            | true =>
                              simp only [if_true] at hn ⊢
                              refine ⟨en5, T2, n2, u4.1.to x5, z5, ?_⟩
                              cases q4 : el en5 T2 with
                              | stuck => rw [q4] at hn; cases hn
                              | exc c fs T3 => rw [q4] at hn; cases hn
                              | ok yd T3 =>
                                simp only [q4] at hn
                                by_cases hl : ac.length < lineN
                                · rw [if_pos hl] at hn
                                  intro yv n3 G4 x6 z6 u6
                                  have sn6 := sn5.to x6 z6
                                  have tn6 := tn5.ext x6 kn5
                                  obtain ⟨us, h7, h8⟩ := sn6.lst
                                  refine ⟨us, h7, by rw [h8.len, ← line_eq]; exact hl, n3, T3, ac ++ [yd], sn6.push hA u6 h7, tn6.putH hA6 h7, fun x o z => ?_, hn⟩
                                  obtain ⟨o', z'⟩ := kn5 x o z
                                  obtain ⟨o'', z''⟩ := x6.trk x o' z'
                                  by_cases e : x = A
                                  · subst e; exact ⟨_, upd_same⟩
                                  · exact ⟨o'', by rw [upd_ne e]; exact z''⟩
                                · rw [if_neg hl] at hn; cases hn
theorem e_lc2 {pos : Pos} {elt tg iter tg1 iter1 : Expr} {ifs ifs1 : List Expr} {scope : Scope} {own : List (Str × Nat)} {vs1 : List Nat} {mi mi1 : IM} {g g1 : GM} {t t1 : BM} {me : EM} (hc : X.calm = true) (hN : X.N.Nodup) (hi : PI X tg iter (tI X.K W mi)) (ok : BlkOk X.N X.env.scope scope own) (hv : ∀ i ∈ vs1, i ∈ own.map (·.2))
    (hg : ∀ (s : Shared) (H : Hp) (C : Addr) (cl : List (Str × Addr)) (fp : List Addr), PG (X.blk s H scope (compEnvC scope cl C X.env) fp) tg (tGw X.K W0 (own.map (·.2)) g)) (ht : ∀ (s : Shared) (H : Hp) (C : Addr) (cl : List (Str × Addr)) (fp : List Addr), PTs (X.blk s H scope (compEnvC scope cl C X.env) fp) ifs (tT X.K W0 t))
    (hi1 : ∀ (s : Shared) (H : Hp) (C : Addr) (cl : List (Str × Addr)) (fp : List Addr), PI (X.blk s H scope (compEnvC scope cl C X.env) fp) tg1 iter1 (tI X.K W0 mi1)) (hg1 : ∀ (s : Shared) (H : Hp) (C : Addr) (cl : List (Str × Addr)) (fp : List Addr), PG (X.blk s H scope (compEnvC scope cl C X.env) fp) tg1 (tGw X.K W0 vs1 g1))
    (ht1 : ∀ (s : Shared) (H : Hp) (C : Addr) (cl : List (Str × Addr)) (fp : List Addr), PTs (X.blk s H scope (compEnvC scope cl C X.env) fp) ifs1 (tT X.K W0 t1)) (he : ∀ (s : Shared) (H : Hp) (C : Addr) (cl : List (Str × Addr)) (fp : List Addr), PE (X.blk s H scope (compEnvC scope cl C X.env) fp) elt (tE X.K W0 me))
    (hs : ∀ x, foldedSetIterable iter X.env x = pure x := by intro _; rfl) (hs1 : ∀ env x, foldedSetIterable iter1 env x = pure x := by intro _ _; rfl) : PE X (.ListComp elt [⟨tg, iter, ifs, 0⟩, ⟨tg1, iter1, ifs1, 0⟩] scope pos) (tE X.K W (mLc2 mi (own.map (·.2)) g t mi1 vs1 g1 t1 me)) := by
  refine PE.imp (pe_lc2 hc hN hi ok hv hg ht hi1 hg1 ht1 he hs hs1) ?_
  rintro σ H Q ⟨en, S, m, er, si, h⟩
  refine ⟨en, S, m, er, si, (PostG.bind (R := fun m' H' (J : L2.It) (it : ItD) => WalkD X.K m' H' J it.nxt) h).mono ?_⟩
  rintro J H1 ⟨it, S1, m1, e1, s1, wk, h1⟩ A hA
  cases q : lc2M it.nxt g t mi1 vs1 g1 t1 me (wipeE en (own.map (·.2))) it.n 0 [] S1 with
  | stuck => rw [q] at h1; exact h1.elim
  | exc c fs S2 => rw [q] at h1; exact h1.elim
  | ok l S2 =>
    rw [q] at h1
    refine lc2_run (er.to e1) s1 wk hA l S2 q fun m2 H2 st => ?_
    obtain ⟨f1, f2, f3⟩ := st.fin (s1.off hA)
    exact h1 _ _ H2 f1 f2 f3
theorem s_setLc2 {i : Nat} {y : Str} {py spos pos : Pos} {elt tg iter tg1 iter1 : Expr} {ifs ifs1 : List Expr} {scope : Scope} {own : List (Str × Nat)} {vs1 : List Nat} {mi mi1 : IM} {g g1 : GM} {t t1 : BM} {me : EM} (hc : X.calm = true) (hN : X.N.Nodup) (hy : X.N[i]? = some y) (hyl : X.env.scope.names.lookup y = some .local)
    (hsw : swapsWith (.ListComp elt [⟨tg, iter, ifs, 0⟩, ⟨tg1, iter1, ifs1, 0⟩] scope pos) (some (.Name y py)) spos.line X.env = pure true) (hi : PI X tg iter (tI X.K W mi)) (ok : BlkOk X.N X.env.scope scope own) (hv : ∀ i ∈ vs1, i ∈ own.map (·.2))
    (hg : ∀ (s : Shared) (H : Hp) (C : Addr) (cl : List (Str × Addr)) (fp : List Addr), PG (X.blk s H scope (compEnvC scope cl C X.env) fp) tg (tGw X.K W0 (own.map (·.2)) g)) (ht : ∀ (s : Shared) (H : Hp) (C : Addr) (cl : List (Str × Addr)) (fp : List Addr), PTs (X.blk s H scope (compEnvC scope cl C X.env) fp) ifs (tT X.K W0 t))
    (hi1 : ∀ (s : Shared) (H : Hp) (C : Addr) (cl : List (Str × Addr)) (fp : List Addr), PI (X.blk s H scope (compEnvC scope cl C X.env) fp) tg1 iter1 (tI X.K W0 mi1)) (hg1 : ∀ (s : Shared) (H : Hp) (C : Addr) (cl : List (Str × Addr)) (fp : List Addr), PG (X.blk s H scope (compEnvC scope cl C X.env) fp) tg1 (tGw X.K W0 vs1 g1))
    (ht1 : ∀ (s : Shared) (H : Hp) (C : Addr) (cl : List (Str × Addr)) (fp : List Addr), PTs (X.blk s H scope (compEnvC scope cl C X.env) fp) ifs1 (tT X.K W0 t1)) (he : ∀ (s : Shared) (H : Hp) (C : Addr) (cl : List (Str × Addr)) (fp : List Addr), PE (X.blk s H scope (compEnvC scope cl C X.env) fp) elt (tE X.K W0 me))
    (hs : ∀ x, foldedSetIterable iter X.env x = pure x := by intro _; rfl) (hs1 : ∀ env x, foldedSetIterable iter1 env x = pure x := by intro _ _; rfl) : PS X (.Assign [.Name y py] (.ListComp elt [⟨tg, iter, ifs, 0⟩, ⟨tg1, iter1, ifs1, 0⟩] scope pos) spos) (tS X.K W (sAsg (mLc2 mi (own.map (·.2)) g t mi1 vs1 g1 t1 me) (gNm i))) := by
  refine PS.imp (ps_setLc2 hc hN hy hyl hsw hi ok hv hg ht hi1 hg1 ht1 he hs hs1) ?_
  rintro E σ H ⟨en, S, m, er, si, h⟩
  have h0 := eS_to er h
  refine ⟨en, S, m, er, si, (PostG.bind (R := fun m' H' (J : L2.It) (it : ItD) => WalkD X.K m' H' J it.nxt) h0).mono ?_⟩
  rintro J H1 ⟨it, S1, m1, e1, s1, wk, h1⟩ A hA
  cases q : lc2M it.nxt g t mi1 vs1 g1 t1 me (wipeE en (own.map (·.2))) it.n 0 [] S1 with
  | stuck => rw [q] at h1; exact h1.elim
  | exc c fs S2 => rw [q] at h1; exact h1.elim
  | ok l S2 =>
    rw [q] at h1
    refine lc2_run (Q := fun H => E.nx (σ.set i (some (.ref A))) H) (er.to e1) s1 wk hA l S2 q fun m2 H2 st => ?_
    obtain ⟨f1, f2, f3⟩ := st.fin (s1.off hA)
    obtain ⟨d, S3, m3, e3, s3, r3, h3⟩ := h1 _ _ H2 f1 f2 f3
    exact h3 _ m3 H2 .refl s3 ((er.to e3).set r3)
end
end Ag

namespace Ag
open PySem
section
variable {P : D → Sto → Prop} {PL : List D → Sto → Prop} {en : En} {S : Sto} {me : EM} {t t1 : BM} {gm g1 : GM} {mi mi1 : IM} {vs vs1 : List Nat}
/-- a comprehension without a trace in the store, from what there is -/
theorem lc_from {it : ItD} {l : List D} {p : D → Bool} {h : D → D} (hl : LIt it l) (step : ∀ d ∈ l, (gm d en S).sat fun en1 S1 => (t en1 S1).sat fun c S2 => c = p d ∧ S2 = S ∧ (c = true → (me en1 S2).sat fun y S3 => y = h d ∧ S3 = S)) {acc : List D} (hlen : acc.length + l.length ≤ lineN) :
    lcM it.nxt gm t me en it.n 0 acc S = .ok (acc ++ (l.filter p).map h) S := by
  have key : ∀ f k acc, f + k = l.length → acc.length + f ≤ lineN → lcM it.nxt gm t me en f k acc S = .ok (acc ++ ((l.drop k).filter p).map h) S := by
    intro f
    induction f with
    | zero =>
      intro k acc e _
      have e2 : k = l.length := by omega
      subst e2
      simp [lcM, hl.at_]
    | succ f ih =>
      intro k acc e he
      have hk : k < l.length := by omega
      have hx := List.getElem?_eq_getElem hk
      have hd : l.drop k = l[k] :: l.drop (k + 1) := List.drop_eq_getElem_cons hk
      obtain ⟨en1, S1, q1, z⟩ := (step l[k] (List.getElem_mem hk)).eq
      obtain ⟨c, S2, q2, rfl, rfl, z⟩ := z.eq
      simp only [lcM, hl.at_, hx, q1, q2, hd, List.filter_cons]
      by_cases hc : p l[k] = true
      · obtain ⟨y, S3, q3, rfl, rfl⟩ := (z hc).eq
        simp only [hc, if_true, q3, List.map_cons]
        rw [if_pos (by omega), ih (k + 1) _ (by omega) (by simp; omega)]
        simp
      · simp only [hc, if_false]
        exact ih (k + 1) acc (by omega) (by omega)
  rw [hl.n]
  have := key l.length 0 acc rfl hlen
  simpa using this
theorem q_lc2 : (mLc2 mi vs gm t mi1 vs1 g1 t1 me en S).sat P ↔ (mi en S).sat fun it S1 => (lc2M it.nxt gm t mi1 vs1 g1 t1 me (wipeE en vs) it.n 0 [] S1).sat fun l S2 => P (.lst l) S2 := by
  unfold mLc2
  rw [r_bind]
  refine iff_of_eq (congrArg _ (funext fun it => funext fun S1 => ?_))
  cases lc2M it.nxt gm t mi1 vs1 g1 t1 me (wipeE en vs) it.n 0 [] S1 <;> simp only [r_ok, r_exc, r_stuck]
theorem lc2_T {α : Type} {xs : List α} {e : α → D} {F : α → List D} {it : ItD} (hl : LIt it (xs.map e)) (hlen : (xs.flatMap F).length ≤ lineN)
    (step : ∀ x ∈ xs, (gm (e x) en S).sat fun en1 S1 => (t en1 S1).sat fun c S2 => S2 = S ∧ if c = true then (mi1 en1 S2).sat fun it1 S3 => ∀ acc : List D, acc.length + (F x).length ≤ lineN → lcM it1.nxt g1 t1 me (wipeE en1 vs1) it1.n 0 acc S3 = .ok (acc ++ F x) S else F x = [])
    (fin : PL (xs.flatMap F) S) : (lc2M it.nxt gm t mi1 vs1 g1 t1 me en it.n 0 [] S).sat PL := by
  have key : ∀ (ys : List α) (k : Nat) (acc : List D), (∃ zs, xs = zs ++ ys ∧ zs.length = k) → acc.length + (ys.flatMap F).length ≤ lineN → lc2M it.nxt gm t mi1 vs1 g1 t1 me en ys.length k acc S = .ok (acc ++ ys.flatMap F) S := by
    intro ys
    induction ys with
    | nil =>
      rintro k acc ⟨zs, rfl, rfl⟩ _
      simp [lc2M, hl.at_]
    | cons x ys ih =>
      rintro k acc ⟨zs, rfl, rfl⟩ hb
      simp only [List.flatMap_cons, List.length_append] at hb
      have hx : ((zs ++ x :: ys).map e)[zs.length]? = some (e x) := by simp
      obtain ⟨en1, S1, q1, z⟩ := (step x (by simp)).eq
      obtain ⟨c, S2, q2, rfl, z⟩ := z.eq
      have nx := ih (zs.length + 1) (acc ++ F x) ⟨zs ++ [x], by simp, by simp⟩ (by rw [List.length_append]; omega)
      simp only [List.length_cons, lc2M, hl.at_, hx, q1, q2, List.flatMap_cons]
      by_cases hc : c = true
      · rw [if_pos hc] at z ⊢
        obtain ⟨it1, S3, q3, z⟩ := z.eq
        simp only [q3, z acc (by omega)]
        rw [nx]
        simp
      · rw [if_neg hc] at z ⊢
        rw [z] at nx ⊢
        simpa using nx
  rw [hl.n, List.length_map, key xs 0 [] ⟨[], rfl, rfl⟩ (by simpa using hlen), r_ok]
  simpa using fin
end
end Ag

namespace Ag
open PySem
/-! ### lists of indexes -/
def ixD (l : List Nat) : List D := l.map fun (k : Nat) => .int (k : Int)
theorem pys_ints : ∀ ns : List Int, D.pys (ns.map .int) = some (ns.map .int)
  | [] => rfl
  | n :: ns => by simp [D.pys, D.py, pys_ints ns]
theorem lay_ints : ∀ ns : List Int, PyData.canLayAll0 (ns.map .int) = true ∧ PyData.depthAll (ns.map .int) = 0
  | [] => ⟨rfl, rfl⟩
  | n :: ns => by
    obtain ⟨a, b⟩ := lay_ints ns
    simp [PyData.canLayAll0, PyData.canLay0, PyData.depthAll, PyData.depth, a, b]
theorem eqv_int (x y : Int) : PyData.eqv (.int x) (.int y) = decide (x = y) := by
  simp only [PyData.eqv]
  by_cases h : x = y <;> simp [h]
theorem sh_ints (ns : List Int) : SeqAt.shaped (.list (ns.map .int)) = true ∧ SeqAt.shaped (.tuple (ns.map .int)) = true := by
  obtain ⟨a, b⟩ := lay_ints ns
  simp [SeqAt.shaped, PyData.canLay0, PyData.depth, a, b]
theorem any_ints (x : Int) (ns : List Int) : ((ns.map PyData.int).any fun z => PyData.eqv z (.int x)) = decide (x ∈ ns) := by
  rw [List.any_map]
  have : ((fun z => PyData.eqv z (.int x)) ∘ PyData.int) = fun z => decide (z = x) := funext fun z => eqv_int z x
  rw [this]
  by_cases hm : x ∈ ns
  · rw [decide_eq_true hm, List.any_eq_true]
    exact ⟨x, hm, by simp⟩
  · rw [decide_eq_false hm, List.any_eq_false]
    intro z hz
    have : z ≠ x := fun e => hm (e ▸ hz)
    simp [this]
theorem in_intsL (x : Int) (ns : List Int) (S : Sto) : fIn (.int x) (.lst (ns.map .int)) S = some (.bl (decide (x ∈ ns))) := by
  simp only [fIn, inD, pyS, D.py, pys_ints, Option.map_some, sh_int, (sh_ints ns).1, and_self, if_true, any_ints]
theorem in_intsT (x : Int) (ns : List Int) (S : Sto) : fIn (.int x) (.tup (ns.map .int)) S = some (.bl (decide (x ∈ ns))) := by
  simp only [fIn, inD, pyS, D.py, pys_ints, Option.map_some, sh_int, (sh_ints ns).2, and_self, if_true, any_ints]
theorem ix_ints (l : List Nat) : ixD l = (l.map fun (k : Nat) => (k : Int)).map .int := by simp [ixD]
theorem mem_cast {k : Nat} {l : List Nat} : ((k : Int) ∈ l.map fun (k : Nat) => (k : Int)) ↔ k ∈ l := by
  constructor
  · intro h
    obtain ⟨a, ha, e⟩ := List.mem_map.mp h
    have : a = k := by omega
    exact this ▸ ha
  · exact fun h => List.mem_map.mpr ⟨k, h, rfl⟩
theorem in_ixL (k : Nat) (l : List Nat) (S : Sto) : fIn (.int (k : Int)) (.lst (ixD l)) S = some (.bl (decide (k ∈ l))) := by
  rw [ix_ints, in_intsL, decide_eq_decide.mpr mem_cast]
theorem in_ixT (k : Nat) (l : List Nat) (S : Sto) : fIn (.int (k : Int)) (.tup (ixD l)) S = some (.bl (decide (k ∈ l))) := by
  rw [ix_ints, in_intsT, decide_eq_decide.mpr mem_cast]
theorem dp_ix (l : List Nat) : Dp 1 (.lst (ixD l)) := dp_lst fun d hd => by
  obtain ⟨k, _, rfl⟩ := List.mem_map.mp hd
  exact dp_int _
theorem ne_ixnil (l : List Nat) (S : Sto) : fNe (.lst (ixD l)) (.lst []) S = some (.bl (!l.isEmpty)) := by
  cases l with
  | nil => exact ne_same ⟨.list [], rfl, rfl⟩ S
  | cons k l =>
    have s1 := (sh_ints ((k :: l).map fun (k : Nat) => (k : Int))).1
    have s2 : SeqAt.shaped (.list []) = true := rfl
    show neD (.lst (ixD (k :: l))) (.lst []) S = _
    unfold neD
    have e1 : pyS (.lst (ixD (k :: l))) S = some (.list (((k :: l).map fun (k : Nat) => (k : Int)).map .int)) := by
      rw [ix_ints]
      simp only [pyS, D.py, pys_ints, Option.map_some]
    have e2 : pyS (.lst []) S = some (.list []) := rfl
    rw [e1, e2]
    show (if _ ∧ _ then _ else _) = _
    rw [if_pos ⟨s1, s2⟩]
    simp only [List.map_cons, PyData.eqv, PyData.eqvAll]
    rfl
theorem nr_ix (l : List Nat) : ∀ d ∈ ixD l, Nr d := nr_map fun _ => nr_int _
/-! ### sums above 0 -/
theorem num_pos (q : Rat) : 0 < q.num ↔ 0 < q := by
  have a := Rat.num_nonneg (q := q)
  have b : q.num = 0 ↔ q = 0 := Rat.num_eq_zero
  constructor
  · intro h
    have h1 : 0 ≤ q := a.mp (by omega)
    have h2 : ¬ q = 0 := fun z => by have := b.mpr z; omega
    grind
  · intro h
    have h1 : 0 ≤ q.num := a.mpr (Rat.le_of_lt h)
    have h2 : ¬ q.num = 0 := fun z => by
      have := b.mp z
      rw [this] at h
      exact absurd h (by decide)
    omega
theorem sum_nn {n : Nat} {f : Nat → Rat} (h : ∀ k, k < n → 0 ≤ f k) : 0 ≤ sumTo n f := by
  induction n with
  | zero => simp [sumTo]
  | succ n ih =>
    have a := ih fun k hk => h k (by omega)
    have b := h n (by omega)
    simp only [sumTo]
    grind
theorem sum_pos {n : Nat} {f : Nat → Rat} (h : ∀ k, k < n → 0 ≤ f k) : 0 < sumTo n f ↔ ∃ k, k < n ∧ 0 < f k := by
  induction n with
  | zero => simp [sumTo]
  | succ n ih =>
    have i := ih fun k hk => h k (by omega)
    have a := sum_nn (f := f) fun k hk => h k (show k < n + 1 by omega)
    have a' := sum_nn (n := n) (f := f) fun k hk => h k (by omega)
    have b := h n (by omega)
    simp only [sumTo]
    constructor
    · intro hp
      by_cases z : 0 < f n
      · exact ⟨n, by omega, z⟩
      · have : 0 < sumTo n f := by grind
        obtain ⟨k, hk, hf⟩ := i.mp this
        exact ⟨k, by omega, hf⟩
    · rintro ⟨k, hk, hf⟩
      by_cases z : k = n
      · subst z; grind
      · have := i.mpr ⟨k, by omega, hf⟩
        grind
/-! ### the minds with a share above 0 -/
def lotR (n : Nat) (ws : List (List (List Int))) (p : List Nat) (k : Nat) : List Nat := (List.range n).filter fun j => decide (0 < atR (walkR ws p (unitR n j)) k)
theorem lot_nil {n k : Nat} {ws : List (List (List Int))} (hk : k < n) : lotR n ws [] k = [k] := by
  unfold lotR
  have e : ∀ j, atR (walkR ws [] (unitR n j)) k = if k = j then 1 else 0 := fun j => unit_at hk
  have e2 : (fun j => decide (0 < atR (walkR ws [] (unitR n j)) k)) = fun j => decide (j = k) := by
    funext j
    rw [e]
    by_cases z : k = j
    · subst z; simp; decide
    · have : ¬ j = k := fun y => z y.symm
      simp [z, this]
  rw [e2]
  have key : ∀ m, k < m → (List.range m).filter (fun j => decide (j = k)) = [k] := by
    intro m
    induction m with
    | zero => intro h; omega
    | succ m ih =>
      intro h
      rw [List.range_succ, List.filter_append]
      by_cases z : m = k
      · subst z
        have : (List.range m).filter (fun j => decide (j = m)) = [] := by
          rw [List.filter_eq_nil_iff]
          intro j hj
          have := List.mem_range.mp hj
          simp; omega
        rw [this]; simp
      · rw [ih (by omega)]
        simp [z]
  exact key n hk
theorem mem_lot {n k j : Nat} {ws : List (List (List Int))} {p : List Nat} : j ∈ lotR n ws p k ↔ j < n ∧ 0 < atR (walkR ws p (unitR n j)) k := by
  unfold lotR
  rw [List.mem_filter, List.mem_range, decide_eq_true_eq]
theorem atI_nn {n : Nat} {r : List Int} (h : RowOk n r) (k : Nat) : 0 ≤ atI' r k := by
  unfold atI'
  by_cases hk : k < r.length
  · have e : r[k]? = some r[k] := List.getElem?_eq_getElem hk
    have := (h.in_ _ (List.mem_of_getElem? e)).1
    simp only [List.getD, e, Option.getD_some]
    exact_mod_cast this
  · simp [List.getD, List.getElem?_eq_none (Nat.not_lt.mp hk)]
theorem div_pos_iff {a : Rat} {s : Int} (ha : 0 ≤ a) (hs : 0 < s) : 0 < a / (s : Rat) ↔ 0 < a := by
  have s' : (0 : Rat) < (s : Rat) := by exact_mod_cast hs
  have inv := Rat.inv_pos.mpr s'
  rw [Rat.div_def]
  constructor
  · intro h
    by_cases z : 0 < a
    · exact z
    · have : a = 0 := by grind
      rw [this, Rat.zero_mul] at h
      exact absurd h (by decide)
  · exact fun h => Rat.mul_pos h inv
/-- a day ahead -/
theorem lot_cons {n : Nat} {ws : List (List (List Int))} (hw : ∀ w ∈ ws, WayOk n w) {a : Nat} (ha : a < ws.length) {p : List Nat} (hp : ∀ k ∈ p, k < ws.length) {k : Nat} (hk : k < n) :
    lotR n ws (a :: p) k = (List.range n).filter fun j => decide (∃ i ∈ lotR n ws p k, 0 < ((ws.getD a []).getD i []).getD j 0) := by
  unfold lotR
  refine List.filter_congr fun j hj => ?_
  have hj : j < n := by simpa using hj
  have wa := hw _ (getD_mem ha).1
  congr 1
  have e1 : walkR ws (a :: p) (unitR n j) = walkR ws p (dayR (ws.getD a []) (unitR n j)) := rfl
  rw [e1, walk_lin hw p (day_len wa _) hp hk]
  have day : ∀ i, i < n → ∃ row, (ws.getD a [])[i]? = some row ∧ RowOk n row ∧ atR (dayR (ws.getD a []) (unitR n j)) i = atI' row j / (row.sum : Rat) := fun i hi => by
    obtain ⟨row, h1, h2, h3⟩ := day_at wa (unitR n j) hi
    refine ⟨row, h1, h2, ?_⟩
    rw [h3, dot_sum (by rw [unit_len]; exact h2.len), unit_len]
    congr 1
    rw [sum_congr (g := fun i => if i = j then atI' row i else 0) fun i hi => by
      rw [unit_at hi]
      by_cases z : i = j <;> simp [z], sum_one n j _ hj]
  have nn : ∀ i, i < n → 0 ≤ atR (walkR ws p (unitR n i)) k * atR (dayR (ws.getD a []) (unitR n j)) i := fun i hi => by
    obtain ⟨row, _, h2, h3⟩ := day i hi
    refine Rat.mul_nonneg (tab_nn hw hp hk) ?_
    rw [h3, Rat.div_def]
    exact Rat.mul_nonneg (atI_nn h2 j) (Rat.le_of_lt (Rat.inv_pos.mpr (by exact_mod_cast h2.pos)))
  rw [sum_pos nn]
  refine propext ⟨?_, ?_⟩
  · rintro ⟨i, hi, h⟩
    obtain ⟨row, h1, h2, h3⟩ := day i hi
    have t0 := tab_nn hw hp (j := i) hk
    have tp : 0 < atR (walkR ws p (unitR n i)) k := by
      by_cases z : 0 < atR (walkR ws p (unitR n i)) k
      · exact z
      · have : atR (walkR ws p (unitR n i)) k = 0 := by grind
        rw [this, Rat.zero_mul] at h
        exact absurd h (by decide)
    have dp : 0 < atI' row j := by
      have d0 : 0 ≤ atI' row j := atI_nn h2 j
      by_cases z : 0 < atI' row j
      · exact z
      · have : atI' row j = 0 := by grind
        rw [h3, this, Rat.div_def, Rat.zero_mul, Rat.mul_zero] at h
        exact absurd h (by decide)
    refine ⟨i, mem_lot.mpr ⟨hi, tp⟩, ?_⟩
    have : (ws.getD a []).getD i [] = row := by
      show ((ws.getD a [])[i]?).getD [] = row
      rw [h1]; rfl
    unfold atI' at dp
    rw [this]
    exact_mod_cast dp
  · rintro ⟨i, hi, h⟩
    obtain ⟨hi, tp⟩ := mem_lot.mp hi
    obtain ⟨row, h1, h2, h3⟩ := day i hi
    have : (ws.getD a []).getD i [] = row := by
      show ((ws.getD a [])[i]?).getD [] = row
      rw [h1]; rfl
    rw [this] at h
    refine ⟨i, hi, Rat.mul_pos tp ?_⟩
    rw [h3, div_pos_iff (atI_nn h2 j) h2.pos]
    unfold atI'
    exact_mod_cast h
def nmD (hs : List Str) (l : List Nat) : List D := l.map fun j => .str (hs.getD j "")
theorem zip_range (hs : List Str) (row : List Rat) (h : row.length = hs.length) : hs.zip row = (List.range hs.length).map fun j => (hs.getD j "", atR row j) := by
  apply List.ext_getElem?
  intro k
  by_cases hk : k < hs.length
  · have h1 : hs[k]? = some hs[k] := List.getElem?_eq_getElem hk
    have h2 : row[k]? = some (row[k]'(by omega)) := List.getElem?_eq_getElem (by omega)
    simp [List.getElem?_map, List.getElem?_range hk, List.getElem?_zip_eq_some, h1, h2, List.getD, atR, List.zip, List.getElem?_zipWith]
  · rw [List.getElem?_eq_none (by simp; omega), List.getElem?_eq_none (by simp; omega)]
theorem posOf_nodup : ∀ {hs : List Str} {k : Nat} {h : Str}, hs.Nodup → hs[k]? = some h → posOf h hs = some k
  | [], k, h, _, e => by simp at e
  | x :: hs, 0, h, _, e => by
    have : x = h := by simpa using e
    unfold posOf
    rw [if_pos this]
  | x :: hs, k + 1, h, nd, e => by
    have e : hs[k]? = some h := by simpa using e
    have nd' := List.nodup_cons.mp nd
    have ne : ¬ x = h := fun z => nd'.1 (z ▸ List.mem_of_getElem? e)
    unfold posOf
    rw [if_neg ne, posOf_nodup nd'.2 e]
    rfl
theorem isStrs_map : ∀ hs : List Str, isStrs (hs.map .str) = some hs
  | [] => rfl
  | h :: hs => by simp [isStrs, isStrs_map hs]
theorem idx_names {hs : List Str} {k : Nat} {h : Str} (nd : hs.Nodup) (e : hs[k]? = some h) (S : Sto) : fIdxT (.tup (hs.map .str)) [.str h] S = some (.int (k : Int), S) := by
  simp [fIdxT, isStrs_map, posOf_nodup nd e]
theorem ok_names {hs : List Str} (h : hs ≠ []) (S : Sto) : okNms (.tup (hs.map .str)) S = true := by
  cases hs with
  | nil => exact absurd rfl h
  | cons x hs => simp [okNms, names, D.isS]
theorem notin_strs {x : Str} {hs : List Str} (S : Sto) (hx : PyData.strOk x = true) (h : ∀ y ∈ hs, PyData.strOk y = true) : fNotIn (.str x) (.tup (hs.map .str)) S = some (.bl (!decide (x ∈ hs))) := by
  have := in_strs S hx h
  unfold fIn at this
  unfold fNotIn
  cases q : inD (.str x) (.tup (hs.map .str)) S with
  | none => rw [q] at this; cases this
  | some b => rw [q] at this; cases this; rfl
theorem last_at {α : Type} {l : List α} (h : l ≠ []) : L2.atI l (-1) = l[l.length - 1]? := by
  have := List.length_pos_iff.mpr h
  unfold L2.atI L2.ixN
  rw [if_neg (by omega), if_pos (by omega)]
  have e : ((-1 : Int) + (l.length : Int)).toNat = l.length - 1 := by omega
  simp [e]
theorem cut_last {l : List D} (h : l ≠ []) : cutD l (some (-1)) none = l.drop (l.length - 1) := by
  have := List.length_pos_iff.mpr h
  have e : HT.sIx l.length 0 (some (-1)) = l.length - 1 := by
    show (if (-1 : Int) < 0 then ((-1 : Int) + (l.length : Int)).toNat else min (-1 : Int).toNat l.length) = _
    rw [if_pos (by decide)]; omega
  simp only [cutD, e, HT.sIx_none]
  rw [List.take_of_length_le (by simp)]
/-- texts of names -/
theorem rb_nms {hs : List Str} (h : ∀ x ∈ hs, Rb 0 40 (.str x)) (h6 : hs.length ≤ 6) : Rb 1 300 (.tup (hs.map .str)) := (rb_tup (k := 0) (B := 40) (n := 6) (fun d hd => by
  obtain ⟨x, hx, rfl⟩ := List.mem_map.mp hd
  exact h x hx) (by simpa using h6)).up (by decide) (by decide)
end Ag

namespace Ag
open PySem
/-! ### all words -/
def wordsR (c : Nat) : Nat → List (List Nat)
  | 0 => [[]]
  | m + 1 => (wordsR c m).flatMap fun w => (List.range c).map fun a => w ++ [a]
theorem mem_words {c : Nat} : ∀ {m : Nat} {p : List Nat}, p ∈ wordsR c m ↔ p.length = m ∧ ∀ k ∈ p, k < c
  | 0, p => by simp [wordsR, List.length_eq_zero_iff]; rintro rfl; simp
  | m + 1, p => by
    simp only [wordsR, List.mem_flatMap, List.mem_map, List.mem_range, mem_words]
    constructor
    · rintro ⟨w, ⟨hw, hk⟩, a, ha, rfl⟩
      refine ⟨by simp [hw], fun k hk' => ?_⟩
      rcases List.mem_append.mp hk' with h | h
      · exact hk k h
      · have : k = a := by simpa using h
        omega
    · rintro ⟨hl, hk⟩
      have ne : p ≠ [] := fun z => by rw [z] at hl; simp at hl
      refine ⟨p.dropLast, ⟨by rw [List.length_dropLast, hl]; rfl, fun k h => hk k (List.dropLast_subset p h)⟩, p.getLast ne, hk _ (List.getLast_mem ne), List.dropLast_concat_getLast ne⟩
theorem len_flat {α β : Type} {f : α → List β} {c : Nat} : ∀ {l : List α}, (∀ x ∈ l, (f x).length = c) → (l.flatMap f).length = l.length * c
  | [], _ => by simp
  | x :: l, h => by
    rw [List.flatMap_cons, List.length_append, h x (by simp), len_flat fun y hy => h y (by simp [hy]), List.length_cons, Nat.succ_mul]
    omega
theorem words_len (c : Nat) : ∀ m, (wordsR c m).length = c ^ m
  | 0 => by simp [wordsR]
  | m + 1 => by rw [wordsR, len_flat (c := c) fun w _ => by simp, words_len c m, Nat.pow_succ]
theorem pow_le {c m : Nat} (h : c ≤ 6) (hm : m ≤ 12) : c ^ m ≤ 3000000000 := Nat.le_trans (Nat.pow_le_pow_left h m) (Nat.le_trans (Nat.pow_le_pow_right (by decide) hm) (by decide))
/-! ### thoughts compared -/
theorem eqv_frac (x y : Rat) : PyData.eqv (fracP x) (fracP y) = decide (x = y) := by
  simp only [fracP, PyData.eqv, PyData.eqvAll, Bool.and_true]
  by_cases h : x = y
  · subst h; simp
  · rw [decide_eq_false h]
    by_cases h1 : x.num = y.num
    · have h2 : ¬ ((x.den : Int) = (y.den : Int)) := fun z => h (Rat.ext h1 (by exact_mod_cast z))
      rw [h1]
      simp only [beq_self_eq_true, Bool.true_and]
      exact beq_eq_false_iff_ne.mpr h2
    · simp [h1]
theorem eqv_fracs : ∀ a b : List Rat, PyData.eqvAll (a.map fracP) (b.map fracP) = decide (a = b)
  | [], [] => by simp [PyData.eqvAll]
  | [], y :: b => by simp [PyData.eqvAll]
  | x :: a, [] => by simp [PyData.eqvAll]
  | x :: a, y :: b => by
    simp only [List.map_cons, PyData.eqvAll, eqv_frac, eqv_fracs a b, List.cons.injEq]
    by_cases h1 : x = y <;> by_cases h2 : a = b <;> simp [h1, h2]
theorem sh_fracs (a : List Rat) : SeqAt.shaped (.tuple (a.map fracP)) = true := by
  obtain ⟨p, h1, h2⟩ := pl_th a
  simp only [D.py, pys_frac, Option.map_some, Option.some.injEq] at h1
  rw [h1]; exact h2
theorem eq_th (a b : List Rat) (S : Sto) : fEq (.tup (a.map frac)) (.tup (b.map frac)) S = some (.bl (decide (a = b))) := by
  show eqD _ _ S = _
  simp only [eqD, pyS, D.py, pys_frac, Option.map_some, sh_fracs, and_self, if_true, PyData.eqv, eqv_fracs]
/-! ### words in tuples of words -/
def wordP (p : List Nat) : PyData := .tuple (p.map fun (k : Nat) => .int (k : Int))
theorem py_word (p : List Nat) : (wordD p).py = some (wordP p) := by
  have := pys_ints (p.map fun (k : Nat) => (k : Int))
  simp only [List.map_map] at this
  show (D.pys _).map PyData.tuple = _
  have e : (p.map fun (k : Nat) => D.int (k : Int)) = List.map (D.int ∘ fun (k : Nat) => (k : Int)) p := rfl
  rw [e, this]; rfl
theorem pys_words : ∀ l : List (List Nat), D.pys (l.map wordD) = some (l.map wordP)
  | [] => rfl
  | p :: l => by simp [D.pys, py_word, pys_words l]
theorem eqv_words : ∀ a b : List Nat, PyData.eqvAll (a.map fun (k : Nat) => .int (k : Int)) (b.map fun (k : Nat) => .int (k : Int)) = decide (a = b)
  | [], [] => by simp [PyData.eqvAll]
  | [], y :: b => by simp [PyData.eqvAll]
  | x :: a, [] => by simp [PyData.eqvAll]
  | x :: a, y :: b => by
    simp only [List.map_cons, PyData.eqvAll, eqv_int, eqv_words a b, List.cons.injEq]
    by_cases h1 : x = y
    · subst h1; simp
    · have : ¬ ((x : Int) = (y : Int)) := by omega
      simp [h1, this]
theorem eqv_word (a b : List Nat) : PyData.eqv (wordP a) (wordP b) = decide (a = b) := by
  simp only [wordP, PyData.eqv, eqv_words]
theorem dp_word (p : List Nat) : Dp 1 (wordD p) := dp_tup fun d hd => by
  obtain ⟨k, _, rfl⟩ := List.mem_map.mp hd
  exact dp_int _
theorem dp_words (l : List (List Nat)) : Dp 2 (.tup (l.map wordD)) := dp_tup fun d hd => by
  obtain ⟨k, _, rfl⟩ := List.mem_map.mp hd
  exact dp_word k
theorem nr_bl (b : Bool) : Nr (.bl b) := fun _ => rfl
theorem nr_word (p : List Nat) : Nr (wordD p) := nr_tup (nr_map fun _ => nr_int _)
theorem notin_words (p : List Nat) (l : List (List Nat)) (S : Sto) : fNotIn (wordD p) (.tup (l.map wordD)) S = some (.bl (!decide (p ∈ l))) := by
  have s1 : SeqAt.shaped (wordP p) = true := by
    obtain ⟨q, h1, h2⟩ := (dp_word p).pl (by decide)
    rw [py_word] at h1; cases h1; exact h2
  have s2 : SeqAt.shaped (.tuple (l.map wordP)) = true := by
    obtain ⟨q, h1, h2⟩ := (dp_words l).pl (by decide)
    simp only [D.py, pys_words, Option.map_some, Option.some.injEq] at h1
    rw [h1]; exact h2
  have e1 : pyS (wordD p) S = some (wordP p) := pyS_py (py_word p)
  have e2 : pyS (.tup (l.map wordD)) S = some (.tuple (l.map wordP)) := by
    show (D.pys _).map PyData.tuple = _
    rw [pys_words]; rfl
  have e3 : inD (wordD p) (.tup (l.map wordD)) S = some (decide (p ∈ l)) := by
    have : inD (wordD p) (.tup (l.map wordD)) S = (match pyS (wordD p) S, pyS (.tup (l.map wordD)) S with
      | some p, some (.tuple qs) => if SeqAt.shaped p = true ∧ SeqAt.shaped (.tuple qs) = true then some (qs.any fun z => PyData.eqv z p) else none
      | some p, some (.list qs) => if SeqAt.shaped p = true ∧ SeqAt.shaped (.list qs) = true then some (qs.any fun z => PyData.eqv z p) else none
      | _, _ => none) := rfl
    rw [this, e1, e2]
    simp only [s1, s2, and_self, if_true, Option.some.injEq, List.any_map]
    have : ((fun z => PyData.eqv z (wordP p)) ∘ wordP) = fun z => decide (z = p) := funext fun z => eqv_word z p
    rw [this, Bool.eq_iff_iff, List.any_eq_true, decide_eq_true_eq]
    simp
  unfold fNotIn
  rw [e3]; rfl
theorem cat_word {p q : List Nat} (h : p.length + q.length ≤ 1000) (S : Sto) : fAdd (wordD p) (wordD q) S = some (wordD (p ++ q)) := by
  show (if (p.map fun (k : Nat) => D.int (k : Int)).length + (q.map fun (k : Nat) => D.int (k : Int)).length ≤ lineN then _ else _) = _
  rw [if_pos (by rw [List.length_map, List.length_map]; unfold lineN; omega)]
  simp [wordD]
theorem repr_ref {S : Sto} {n : Nat} {l : List D} (h : S[n]? = some (.lst l)) : gRepr (.ref n) S = gRepr (.lst l) S := by
  unfold gRepr
  have e : pyS (.ref n) S = pyS (.lst l) S := by simp [pyS, h, D.py]
  rw [e]
theorem rb_word {p : List Nat} (h : p.length ≤ 20) (hk : ∀ k ∈ p, k < 2 ^ 20) : Rb 1 600 (wordD p) := (rb_tup (k := 0) (B := 21) (n := 20) (fun d hd => by
  obtain ⟨k, hm, rfl⟩ := List.mem_map.mp hd
  exact rb_int (k := 20) (by decide) (by simpa using hk k hm) (by decide)) (by simpa using h)).up (by decide) (by decide)
theorem walk_words {c : Nat} {p q : List Nat} {m k : Nat} (hp : p ∈ wordsR c m) (hq : q ∈ wordsR c k) : p ++ q ∈ wordsR c (m + k) := by
  rw [mem_words] at *
  refine ⟨by simp [hp.1, hq.1], fun x hx => ?_⟩
  rcases List.mem_append.mp hx with h | h
  · exact hp.2 x h
  · exact hq.2 x h
theorem words_one (c : Nat) : wordsR c 1 = (List.range c).map fun a => [a] := by simp [wordsR]
/-! ### one statement at a time -/
@[irreducible] def Later (s : SM) (en : En) (S : Sto) (N : En → Sto → Prop) (R : D → Sto → Prop) : Prop := (s en S).sat N R
section
variable {s s1 s2 : SM} {en : En} {S : Sto} {N : En → Sto → Prop} {R : D → Sto → Prop}
theorem later_eq : Later s en S N R ↔ (s en S).sat N R := by unfold Later; exact Iff.rfl
theorem p_seqL : (sSeq s1 s2 en S).sat N R ↔ (s1 en S).sat (fun en S => Later s2 en S N R) R := by
  rw [p_seq]
  simp only [later_eq]
end
end Ag

namespace Ag
open PySem
/-! ### a well of draws: its third number counts, with b draws left -/
structure Wl (S : Sto) (i b : Nat) : Prop where
  cl : Cl S
  at_ : ∃ (x y : Int) (z : Nat), S[i]? = some (.lst [.int x, .int y, .int (z : Int)]) ∧ z + b ≤ 2 ^ 50
/-- what was there stands, but for the well; new cells may name new cells -/
structure Wx (S S' : Sto) (i b : Nat) : Prop where
  len : S.length ≤ S'.length
  at_ : ∃ (x y : Int) (z : Nat), S'[i]? = some (.lst [.int x, .int y, .int (z : Int)]) ∧ z + b ≤ 2 ^ 50
  old : ∀ o ∈ S'.take S.length, ∀ n, o.below n = true
  oth : ∀ j, j < S.length → j ≠ i → S'[j]? = S[j]?
structure Wk (S S' : Sto) (i b : Nat) : Prop where
  wl : Wl S' i b
  same : S'.length = S.length
  oth : ∀ j, j < S.length → j ≠ i → S'[j]? = S[j]?
theorem Wl.lt {S : Sto} {i b : Nat} (h : Wl S i b) : i < S.length := by
  obtain ⟨x, y, z, e, _⟩ := h.at_
  exact (List.getElem?_eq_some_iff.mp e).1
theorem Wl.mono {S : Sto} {i b b' : Nat} (h : Wl S i b) (hb : b' ≤ b) : Wl S i b' := by
  obtain ⟨x, y, z, e, k⟩ := h.at_
  exact ⟨h.cl, x, y, z, e, by omega⟩
theorem Wk.mono {S S' : Sto} {i b b' : Nat} (h : Wk S S' i b) (hb : b' ≤ b) : Wk S S' i b' := ⟨h.wl.mono hb, h.same, h.oth⟩
theorem Wx.mono {S S' : Sto} {i b b' : Nat} (h : Wx S S' i b) (hb : b' ≤ b) : Wx S S' i b' := by
  obtain ⟨x, y, z, e, k⟩ := h.at_
  exact ⟨h.len, ⟨x, y, z, e, by omega⟩, h.old, h.oth⟩
theorem Wk.refl {S : Sto} {i b : Nat} (h : Wl S i b) : Wk S S i b := ⟨h, rfl, fun _ _ _ => rfl⟩
theorem Wk.trans {S S1 S2 : Sto} {i b c : Nat} (h : Wk S S1 i b) (g : Wk S1 S2 i c) : Wk S S2 i c := ⟨g.wl, g.same.trans h.same, fun j hj hi => by rw [g.oth j (by rw [h.same]; exact hj) hi, h.oth j hj hi]⟩
theorem Wk.wx {S S' : Sto} {i b : Nat} (h : Wk S S' i b) : Wx S S' i b := ⟨Nat.le_of_eq h.same.symm, h.wl.at_, fun o ho => h.wl.cl o (List.mem_of_mem_take ho), h.oth⟩
theorem Wx.refl {S : Sto} {i b : Nat} (h : Wl S i b) : Wx S S i b := (Wk.refl h).wx
theorem Wx.cut {S S' : Sto} {i b : Nat} (h : Wx S S' i b) (hi : i < S.length) : Wk S (S'.take S.length) i b := by
  have hl : (S'.take S.length).length = S.length := by rw [List.length_take]; have := h.len; omega
  obtain ⟨x, y, z, e, k⟩ := h.at_
  refine ⟨⟨fun o ho => h.old o ho, x, y, z, by rw [List.getElem?_take_of_lt hi]; exact e, k⟩, hl, fun j hj hji => by rw [List.getElem?_take_of_lt hj]; exact h.oth j hj hji⟩
/-- the end of a def with cells of its own -/
theorem scopW {f : List D → Sto → Res D} {ds : List D} {S : Sto} {i b : Nat} {P : D → Prop} (hi : i < S.length) (h : (f ds S).sat fun d S' => P d ∧ Nr d ∧ Wx S S' i b) : (scop f ds S).sat fun d S' => P d ∧ Wk S S' i b := by
  refine f_scop (h.mono fun d S' ⟨h1, h2, h3⟩ => ?_)
  refine ⟨cl_all (h3.cut hi).wl.cl _, ?_⟩
  rw [frz_nr h2, os_some]
  exact ⟨h1, h3.cut hi⟩
/-- the well, read within a store that has grown -/
structure Wg (S : Sto) (i b : Nat) : Prop where
  at_ : ∃ (x y : Int) (z : Nat), S[i]? = some (.lst [.int x, .int y, .int (z : Int)]) ∧ z + b ≤ 2 ^ 50
/-- only the well was written -/
structure Wo (S S' : Sto) (i b : Nat) : Prop where
  wg : Wg S' i b
  same : S'.length = S.length
  oth : ∀ j, j ≠ i → S'[j]? = S[j]?
theorem Wl.wg {S : Sto} {i b : Nat} (h : Wl S i b) : Wg S i b := ⟨h.at_⟩
theorem Wx.wg {S S' : Sto} {i b : Nat} (h : Wx S S' i b) : Wg S' i b := ⟨h.at_⟩
theorem Wo.wk {S S' : Sto} {i b c : Nat} (h : Wo S S' i b) (w : Wl S i c) : Wk S S' i b := by
  obtain ⟨x, y, z, e, k⟩ := h.wg.at_
  refine ⟨⟨fun o ho n => ?_, x, y, z, e, k⟩, h.same, fun j _ hi => h.oth j hi⟩
  obtain ⟨j, hj, rfl⟩ := List.mem_iff_getElem.mp ho
  have ej : S'[j]? = some S'[j] := List.getElem?_eq_getElem hj
  by_cases hji : j = i
  · subst hji
    rw [e] at ej
    have ej := Option.some.inj ej
    rw [← ej]
    exact bel_lst (fun d hd => by
      simp only [List.mem_cons, List.not_mem_nil, or_false] at hd
      rcases hd with rfl | rfl | rfl <;> exact nr_int _) n
  · rw [h.oth j hji] at ej
    exact w.cl _ (List.mem_of_getElem? ej) n
theorem Wo.trans {S S1 S2 : Sto} {i b c : Nat} (h : Wo S S1 i b) (g : Wo S1 S2 i c) : Wo S S2 i c := ⟨g.wg, g.same.trans h.same, fun j hi => by rw [g.oth j hi, h.oth j hi]⟩
theorem Wo.refl {S : Sto} {i b : Nat} (h : Wg S i b) : Wo S S i b := ⟨h, rfl, fun _ _ => rfl⟩
theorem Wg.mono {S : Sto} {i b b' : Nat} (h : Wg S i b) (hb : b' ≤ b) : Wg S i b' := by
  obtain ⟨x, y, z, e, k⟩ := h.at_
  exact ⟨x, y, z, e, by omega⟩
theorem Wo.mono {S S' : Sto} {i b b' : Nat} (h : Wo S S' i b) (hb : b' ≤ b) : Wo S S' i b' := ⟨h.wg.mono hb, h.same, h.oth⟩
theorem Wx.wo {S S1 S2 : Sto} {i b c : Nat} (h : Wx S S1 i b) (g : Wo S1 S2 i c) (hi : i < S.length) : Wx S S2 i c := by
  refine ⟨by rw [g.same]; exact h.len, g.wg.at_, fun o ho n => ?_, fun j hj hji => by rw [g.oth j hji]; exact h.oth j hj hji⟩
  obtain ⟨j, hj, rfl⟩ := List.mem_iff_getElem.mp ho
  rw [List.length_take] at hj
  rw [List.getElem_take]
  have ej : S2[j]? = some (S2[j]'(by omega)) := List.getElem?_eq_getElem (by omega)
  by_cases hji : j = i
  · subst hji
    obtain ⟨x, y, z, e, k⟩ := g.wg.at_
    rw [e] at ej
    have ej := Option.some.inj ej
    rw [← ej]
    exact bel_lst (fun d hd => by
      simp only [List.mem_cons, List.not_mem_nil, or_false] at hd
      rcases hd with rfl | rfl | rfl <;> exact nr_int _) n
  · rw [g.oth j hji] at ej
    have hj' : j < S.length := by omega
    refine h.old _ (List.mem_of_getElem? (i := j) ?_) n
    rw [List.getElem?_take_of_lt hj']
    exact ej
/-- a cell of one's own is written -/
theorem Wx.put {S S' : Sto} {i b j : Nat} {o : Ob} (h : Wx S S' i b) (hj : S.length ≤ j) (hi : i < S.length) : Wx S (S'.set j o) i b := by
  obtain ⟨x, y, z, e, k⟩ := h.at_
  refine ⟨by simpa using h.len, ⟨x, y, z, by rw [List.getElem?_set_ne (by omega)]; exact e, k⟩, fun o' ho n => ?_, fun k hk hki => by rw [List.getElem?_set_ne (by omega)]; exact h.oth k hk hki⟩
  rw [List.take_set_of_le hj] at ho
  exact h.old o' ho n
theorem Wx.add {S S' : Sto} {i b : Nat} {o : Ob} (h : Wx S S' i b) : Wx S (S' ++ [o]) i b := by
  obtain ⟨x, y, z, e, k⟩ := h.at_
  have hi := (List.getElem?_eq_some_iff.mp e).1
  refine ⟨by simp; have := h.len; omega, ⟨x, y, z, by rw [List.getElem?_append_left hi]; exact e, k⟩, fun o' ho n => ?_, fun k hk hki => by rw [List.getElem?_append_left (by have := h.len; omega)]; exact h.oth k hk hki⟩
  rw [List.take_append_of_le_length h.len] at ho
  exact h.old o' ho n
theorem Wx.get {S S1 S2 : Sto} {i b : Nat} {j : Nat} {o : Ob} (g : Wo S1 S2 i b) (hj : j ≠ i) (h : S1[j]? = some o) : S2[j]? = some o := by rw [g.oth j hj]; exact h
end Ag

namespace Ag
open PySem
/-! ### what is left -/
def minR (a b : Rat) : Rat := if b < a then b else a
theorem min_le (a b : Rat) : minR a b ≤ a ∧ minR a b ≤ b := by
  unfold minR
  split <;> grind
theorem le_min {a b c : Rat} (h1 : c ≤ a) (h2 : c ≤ b) : c ≤ minR a b := by
  unfold minR
  split <;> assumption
theorem min_same (a : Rat) : minR a a = a := by unfold minR; split <;> rfl
theorem min_nn {a b : Rat} (h1 : 0 ≤ a) (h2 : 0 ≤ b) : 0 ≤ minR a b := le_min h1 h2
/-- 1 less what two rows have in common -/
def apartR (n : Nat) (P Q : Nat → Rat) : Rat := 1 - sumTo n fun k => minR (P k) (Q k)
theorem sum_le {n : Nat} {f g : Nat → Rat} (h : ∀ k, k < n → f k ≤ g k) : sumTo n f ≤ sumTo n g := by
  induction n with
  | zero => simp only [sumTo]; exact Rat.le_refl
  | succ n ih =>
    have a := ih fun k hk => h k (by omega)
    have b := h n (by omega)
    simp only [sumTo]
    grind
theorem sum_sub (n : Nat) (f g : Nat → Rat) : sumTo n (fun k => f k - g k) = sumTo n f - sumTo n g := by
  induction n with
  | zero => simp only [sumTo]; grind
  | succ n ih => simp only [sumTo]; rw [ih]; grind
/-- means of rows are no farther apart than the rows -/
theorem apart_mean {n m : Nat} {L M : Nat → Rat} {P : Nat → Nat → Rat} {d : Rat} (l0 : ∀ i, i < n → 0 ≤ L i) (m0 : ∀ i, i < n → 0 ≤ M i) (l1 : sumTo n L = 1) (m1 : sumTo n M = 1) (hd : ∀ i j, i < n → j < n → apartR m (P i) (P j) ≤ d) :
    apartR m (fun k => sumTo n fun i => L i * P i k) (fun k => sumTo n fun i => M i * P i k) ≤ d := by
  have key : sumTo n (fun i => sumTo n fun j => L i * M j * sumTo m (fun k => minR (P i k) (P j k))) ≤ sumTo m (fun k => minR (sumTo n fun i => L i * P i k) (sumTo n fun i => M i * P i k)) := by
    have e : sumTo n (fun i => sumTo n fun j => L i * M j * sumTo m (fun k => minR (P i k) (P j k))) = sumTo m (fun k => sumTo n fun i => sumTo n fun j => L i * M j * minR (P i k) (P j k)) := by
      refine (sum_congr (g := fun i => sumTo m fun k => sumTo n fun j => L i * M j * minR (P i k) (P j k)) fun i _ => ?_).trans (sum_swap n m _)
      refine (sum_congr (g := fun j => sumTo m fun k => L i * M j * minR (P i k) (P j k)) fun j _ => ?_).trans (sum_swap n m _)
      exact (sum_mulL m _ _).symm
    rw [e]
    refine sum_le fun k _ => le_min ?_ ?_
    · have e2 : sumTo n (fun i => L i * P i k) = sumTo n (fun i => sumTo n fun j => L i * M j * P i k) := by
        refine sum_congr fun i _ => ?_
        rw [sum_congr (g := fun j => L i * P i k * M j) fun j _ => by grind, sum_mulL, m1, Rat.mul_one]
      rw [e2]
      refine sum_le fun i hi => sum_le fun j hj => ?_
      exact Rat.mul_le_mul_of_nonneg_left (min_le _ _).1 (Rat.mul_nonneg (l0 i hi) (m0 j hj))
    · have e2 : sumTo n (fun j => M j * P j k) = sumTo n (fun i => sumTo n fun j => L i * M j * P j k) := by
        rw [sum_swap]
        refine sum_congr fun j _ => ?_
        rw [sum_congr (g := fun i => M j * P j k * L i) fun i _ => by grind, sum_mulL, l1, Rat.mul_one]
      rw [e2]
      refine sum_le fun i hi => sum_le fun j hj => ?_
      exact Rat.mul_le_mul_of_nonneg_left (min_le _ _).2 (Rat.mul_nonneg (l0 i hi) (m0 j hj))
  have tot : sumTo n (fun i => sumTo n fun j => L i * M j) = 1 := by
    rw [sum_congr (g := fun i => L i * 1) fun i _ => by rw [sum_mulL, m1]]
    rw [sum_congr (g := L) fun i _ => Rat.mul_one _, l1]
  have up : sumTo n (fun i => sumTo n fun j => L i * M j * (1 - d)) ≤ sumTo n (fun i => sumTo n fun j => L i * M j * sumTo m (fun k => minR (P i k) (P j k))) := by
    refine sum_le fun i hi => sum_le fun j hj => Rat.mul_le_mul_of_nonneg_left ?_ (Rat.mul_nonneg (l0 i hi) (m0 j hj))
    have := hd i j hi hj
    unfold apartR at this
    grind
  have e3 : sumTo n (fun i => sumTo n fun j => L i * M j * (1 - d)) = 1 - d := by
    rw [sum_congr (g := fun i => (sumTo n fun j => L i * M j) * (1 - d)) fun i _ => by rw [sum_mulR], sum_mulR, tot, Rat.one_mul]
  unfold apartR
  grind
/-! ### the greatest of all pairs, the first of these -/
def bestS (d : Nat → Nat → Rat) (s : Rat × Option (Nat × Nat)) (p : Nat × Nat) : Rat × Option (Nat × Nat) := if s.2 = none ∨ s.1 < d p.1 p.2 then (d p.1 p.2, some p) else s
def pairsOf (n k : Nat) : List (Nat × Nat) := (List.range (n - (k + 1))).map fun j => (k, k + 1 + j)
def pairsTo (n : Nat) : Nat → List (Nat × Nat)
  | 0 => []
  | k + 1 => pairsTo n k ++ pairsOf n k
def leftR (n : Nat) (d : Nat → Nat → Rat) : Rat × Option (Nat × Nat) := (pairsTo n n).foldl (bestS d) (0, none)
theorem mem_pairs {n i j : Nat} : ∀ {k : Nat}, (i, j) ∈ pairsTo n k ↔ i < k ∧ i < j ∧ j < n
  | 0 => by simp [pairsTo]
  | k + 1 => by
    simp only [pairsTo, List.mem_append, mem_pairs (k := k), pairsOf, List.mem_map, List.mem_range, Prod.mk.injEq]
    constructor
    · rintro (h | ⟨x, hx, rfl, rfl⟩)
      · omega
      · omega
    · rintro ⟨h1, h2, h3⟩
      by_cases z : i = k
      · exact .inr ⟨j - (k + 1), by omega, z.symm, by omega⟩
      · exact .inl ⟨by omega, h2, h3⟩
theorem best_ge (d : Nat → Nat → Rat) : ∀ (l : List (Nat × Nat)) (s : Rat × Option (Nat × Nat)), (s.2 = none → s.1 = 0) → (∀ p ∈ l, 0 ≤ d p.1 p.2) → (0 ≤ s.1) → let r := l.foldl (bestS d) s
    (∀ p ∈ l, d p.1 p.2 ≤ r.1) ∧ s.1 ≤ r.1 ∧ (r = s ∨ ∃ p ∈ l, r = (d p.1 p.2, some p))
  | [], s, _, _, _ => ⟨by simp, Rat.le_refl, .inl rfl⟩
  | q :: l, s, h0, hn, hs => by
    have h1 : (bestS d s q).2 = none → (bestS d s q).1 = 0 := by
      unfold bestS
      split
      · intro z; cases z
      · exact h0
    have h2 : s.1 ≤ (bestS d s q).1 ∧ d q.1 q.2 ≤ (bestS d s q).1 := by
      unfold bestS
      split
      · rename_i h
        rcases h with h | h
        · rw [h0 h]; exact ⟨hn q (by simp), Rat.le_refl⟩
        · exact ⟨Rat.le_of_lt h, Rat.le_refl⟩
      · rename_i h
        have : ¬ s.1 < d q.1 q.2 := fun z => h (.inr z)
        exact ⟨Rat.le_refl, by grind⟩
    obtain ⟨a, b, c⟩ := best_ge d l (bestS d s q) h1 (fun p hp => hn p (by simp [hp])) (by grind)
    refine ⟨fun p hp => ?_, by simp only [List.foldl_cons]; grind, ?_⟩
    · rcases List.mem_cons.mp hp with rfl | hp
      · simp only [List.foldl_cons]; grind
      · exact a p hp
    · simp only [List.foldl_cons]
      rcases c with c | ⟨p, hp, c⟩
      · rw [c]
        unfold bestS
        split
        · exact .inr ⟨q, by simp, rfl⟩
        · exact .inl rfl
      · exact .inr ⟨p, by simp [hp], c⟩
/-- the value of what is left -/
theorem left_spec {n : Nat} {d : Nat → Nat → Rat} (hn : ∀ i j, i < j → j < n → 0 ≤ d i j) : (∀ i j, i < j → j < n → d i j ≤ (leftR n d).1) ∧ 0 ≤ (leftR n d).1 ∧ ((leftR n d) = (0, none) ∨ ∃ i j, i < j ∧ j < n ∧ leftR n d = (d i j, some (i, j))) := by
  obtain ⟨a, b, c⟩ := best_ge d (pairsTo n n) (0, none) (fun _ => rfl) (fun p hp => hn p.1 p.2 (mem_pairs.mp hp).2.1 (mem_pairs.mp hp).2.2) Rat.le_refl
  refine ⟨fun i j h1 h2 => a (i, j) (mem_pairs.mpr ⟨by omega, h1, h2⟩), b, ?_⟩
  rcases c with c | ⟨⟨i, j⟩, hp, c⟩
  · exact .inl c
  · exact .inr ⟨i, j, (mem_pairs.mp hp).2.1, (mem_pairs.mp hp).2.2, c⟩
/-! ### of shares -/
def shR (n : Nat) (ws : List (List (List Int))) (p : List Nat) (r k : Nat) : Rat := atR (walkR ws p (unitR n k)) r
def farR (n : Nat) (ws : List (List (List Int))) (p : List Nat) (i j : Nat) : Rat := apartR n (shR n ws p i) (shR n ws p j)
theorem far_nn {n : Nat} {ws : List (List (List Int))} (hw : ∀ w ∈ ws, WayOk n w) {p : List Nat} (hp : ∀ k ∈ p, k < ws.length) {i j : Nat} (hi : i < n) (hj : j < n) : 0 ≤ farR n ws p i j := by
  have h1 := tab_sum hw hp hi
  have h2 : sumTo n (fun k => minR (shR n ws p i k) (shR n ws p j k)) ≤ sumTo n (fun k => shR n ws p i k) := sum_le fun k _ => (min_le _ _).1
  unfold farR apartR
  have h3 : sumTo n (fun k => shR n ws p i k) = 1 := h1
  grind
theorem far_same {n : Nat} {ws : List (List (List Int))} (hw : ∀ w ∈ ws, WayOk n w) {p : List Nat} (hp : ∀ k ∈ p, k < ws.length) {i : Nat} (hi : i < n) : farR n ws p i i = 0 := by
  unfold farR apartR
  rw [sum_congr (g := fun k => shR n ws p i k) fun k _ => min_same _]
  have h3 : sumTo n (fun k => shR n ws p i k) = 1 := tab_sum hw hp hi
  rw [h3]; grind
theorem min_comm (a b : Rat) : minR a b = minR b a := by
  unfold minR
  split <;> split <;> grind
theorem far_comm (n : Nat) (ws : List (List (List Int))) (p : List Nat) (i j : Nat) : farR n ws p i j = farR n ws p j i := by
  unfold farR apartR
  congr 1
  exact sum_congr fun k _ => min_comm _ _
theorem far_le {n : Nat} {ws : List (List (List Int))} (hw : ∀ w ∈ ws, WayOk n w) {p : List Nat} (hp : ∀ k ∈ p, k < ws.length) {i j : Nat} (hi : i < n) (hj : j < n) : farR n ws p i j ≤ (leftR n (farR n ws p)).1 := by
  obtain ⟨a, b, _⟩ := left_spec (d := farR n ws p) fun i j h1 h2 => far_nn hw hp (show i < n by omega) h2
  by_cases h : i = j
  · subst h; rw [far_same hw hp hi]; exact b
  · by_cases h2 : i < j
    · exact a i j h2 hj
    · rw [far_comm]; exact a j i (by omega) hi
/-- a day more leaves no more -/
theorem left_day {n : Nat} {ws : List (List (List Int))} (hw : ∀ w ∈ ws, WayOk n w) {p : List Nat} (hp : ∀ k ∈ p, k < ws.length) {a : Nat} (ha : a < ws.length) : (leftR n (farR n ws (p ++ [a]))).1 ≤ (leftR n (farR n ws p)).1 := by
  have hpa : ∀ k ∈ p ++ [a], k < ws.length := fun k hk => by
    rcases List.mem_append.mp hk with hk | hk
    · exact hp k hk
    · have : k = a := by simpa using hk
      omega
  obtain ⟨_, b0, _⟩ := left_spec (d := farR n ws p) fun i j h1 h2 => far_nn hw hp (show i < n by omega) h2
  have wa := hw _ (getD_mem ha).1
  obtain ⟨_, _, c⟩ := left_spec (d := farR n ws (p ++ [a])) fun i j h1 h2 => far_nn hw hpa (show i < n by omega) h2
  rcases c with c | ⟨i, j, h1, h2, c⟩
  · rw [c]; exact b0
  · rw [c]
    have row : ∀ r, r < n → ∃ rw_, (ws.getD a [])[r]? = some rw_ ∧ RowOk n rw_ := fun r hr => ⟨_, List.getElem?_eq_getElem (by rw [wa.len]; exact hr), wa.row _ (List.getElem_mem _)⟩
    obtain ⟨ri, hri, oi⟩ := row i (by omega)
    obtain ⟨rj, hrj, oj⟩ := row j h2
    have one : ∀ {r : List Int}, RowOk n r → sumTo n (fun k => atI' r k / (r.sum : Rat)) = 1 := fun {r} o => by
      have e := dot_sum (ts := List.replicate n 1) (ws := r) (by rw [List.length_replicate]; exact o.len)
      rw [← o.len, dot_same 1 r] at e
      simp only [List.length_replicate] at e
      have e2 : sumTo r.length (fun k => atR (List.replicate r.length 1) k * atI' r k) = sumTo n (fun k => atI' r k) := by
        rw [o.len]
        refine sum_congr fun k hk => ?_
        have : atR (List.replicate n (1 : Rat)) k = 1 := by simp [atR, List.getD, List.getElem?_replicate, hk]
        rw [this, Rat.one_mul]
      rw [e2, Rat.one_mul] at e
      rw [sum_congr (g := fun k => atI' r k * (r.sum : Rat)⁻¹) fun k _ => Rat.div_def _ _, sum_mulR, ← e]
      have ns : (r.sum : Rat) ≠ 0 := by
        have := o.pos
        have : r.sum ≠ 0 := by omega
        simpa using this
      exact Rat.mul_inv_cancel _ ns
    have pos : ∀ {r : List Int}, RowOk n r → ∀ k, k < n → 0 ≤ atI' r k / (r.sum : Rat) := fun {r} o k _ => by
      rw [Rat.div_def]
      exact Rat.mul_nonneg (atI_nn o k) (Rat.le_of_lt (Rat.inv_pos.mpr (by exact_mod_cast o.pos)))
    have := apart_mean (n := n) (m := n) (L := fun k => atI' ri k / (ri.sum : Rat)) (M := fun k => atI' rj k / (rj.sum : Rat)) (P := fun r k => shR n ws p r k) (d := (leftR n (farR n ws p)).1) (pos oi) (pos oj) (one oi) (one oj) fun x y hx hy => far_le hw hp hx hy
    have e1 : farR n ws (p ++ [a]) i j = apartR n (fun k => sumTo n fun x => atI' ri x / (ri.sum : Rat) * shR n ws p x k) (fun k => sumTo n fun x => atI' rj x / (rj.sum : Rat) * shR n ws p x k) := by
      unfold farR apartR
      congr 1
      refine sum_congr fun k _ => ?_
      have s1 : shR n ws (p ++ [a]) i k = sumTo n fun x => atI' ri x / (ri.sum : Rat) * shR n ws p x k := tab_step hw hp ha (by omega) hri
      have s2 : shR n ws (p ++ [a]) j k = sumTo n fun x => atI' rj x / (rj.sum : Rat) * shR n ws p x k := tab_step hw hp ha h2 hrj
      rw [s1, s2]
    rw [e1]
    exact this
end Ag

namespace Ag
open PySem PySem.Spec PyProof.Rows L2
/-! ### a method's call by keywords -/
section
variable {X : Cx} {W : WX} {e o : Expr} {pos p apos : Pos} {mr : AM} {k n j : Nat} {f : Addr} {fd : FuncData} {ps : List Str} {fm : List D → Sto → Res D} {ma : EM} {c : Str}
def mMthK (c m : Str) (n : Nat) (ix : List Nat) (fm : List D → Sto → Res D) (ma : EM) (mr : AM) : EM := fun en S => (ma en S).bind fun d S1 => match namD c d S1 with
  | some ns => if m ∈ ns then .stuck else (mr en S1).bind fun ds S2 => if ds.length + 1 = n then (if (d :: pick ix ds).length = n then fm (d :: pick ix ds) S2 else .stuck) else .stuck
  | none => .stuck
theorem e_methKw {pl : Sem Bool} {mn : Str} {kws : List Keyword} {ks : List Str} {ix : List Nat} (B : Bd X W j) (ho : PE X o (tE X.K W ma)) (hc : Cls X.K (He.ga X.K c)) (hm : Meth X.K (He.ga X.K c) mn f) (F : FnG X.prog X.w X.K X.mg X.base k f fd ps (spOf X.K n fm)) (hk : k ≤ j)
    (hb : ∀ v, KwB X.K fd ps ks ix (v :: ·)) (hkw : PK X kws (tA X.K W mr)) (hll : ks.length + 1 = n) (hall : (backToKw pos (keywordEach kws X.env)).all (·.1.isSome) = true := by rfl) (hks : (backToKw pos (keywordEach kws X.env)).filterMap (·.1) = ks := by rfl)
    (hpl : ((backTo pos (starEach [] X.env)).any (·.1) || (backToKw pos (keywordEach kws X.env)).any (·.1.isNone)) = false := by rfl)
    (ht : eval (.Call (.Attribute o mn apos) [] kws pos) X.env = (do
      let ov ← eval o X.env
      standAt apos.atName
      let (f, first) ← holding [ov] (getMethod ov mn pl)
      callWith pos f first (backTo pos (starEach [] X.env)) (backToKw pos (keywordEach kws X.env))) := by rfl) :
    PE X (.Call (.Attribute o mn apos) [] kws pos) (tE X.K W (mMthK c mn n ix fm ma mr)) := by
  refine ⟨fun pins s σ H Q I h => ?_⟩
  obtain ⟨en, S, m, er, si, h⟩ := h
  refine PySem.W.methodCall_KW (pl := pl) (thn (ho.run pins s σ H _ I ⟨en, S, m, er, si, h.bind⟩) fun u s1 ⟨x, H1, I1, rx, d, S1, m1, e1, sm, r1, h1⟩ => ?_) ht
  cases q : namD c d S1 with
  | none => simp only [q] at h1; exact h1.elim
  | some ns =>
    simp only [q] at h1
    by_cases hn : mn ∈ ns
    · rw [if_pos hn] at h1; exact h1.elim
    · rw [if_neg hn] at h1
      obtain ⟨a, dx, fs, rfl, g1, g2⟩ := nam_at sm r1 q
      obtain rfl : u = Value.ref a := rx
      refine getmeth_ok I1 g1 hc hm (noF g2 hn) ?_
      refine PySem.W.callWith_KW0 (first := [.ref a]) (h₀ := X.base) I.ok.mod.kin hm.kp hall ?_ hpl
      refine thn (hkw.run pos pins s1 σ H1 _ I1 ⟨en, S1, m1, er.to e1, sm, h1.bind⟩) fun ws s2 ⟨zs, H2, I2, rz, ds, S2, m2, e2, sm2, r2, h2⟩ => ⟨I2.kIn, ?_⟩
      rw [hks]
      by_cases hl : ds.length + 1 = n
      · rw [if_pos hl] at h2
        have hlen : ws.length = ks.length := by rw [← rz.length, r2.len]; omega
        exact run_G (us0 := [.ref a]) (us := .ref a :: pick ix ws) (vs := .ref a :: pick ix zs) B F hk I2 (hb (.ref a) s2 ws I2.kIn hlen) (.cons rfl (Vals.pick rz ix)) (sp_of_post sm2 (.cons (r1.to e2) (r2.pick ix)) h2)
      · rw [if_neg hl] at h2; exact h2.elim
theorem kwb_ofM {K : PySem.W.Frag} {x qual : Str} {params : Arguments} {body : List Stmt} {scope : Scope} {f : Addr} {fd : FuncData} {ps : List Str} (F : FunD K x qual params body scope [] [] f fd) (ks : List Str) (ix : List Nat)
    (h : ∀ (v kV doc pm : Value) (an : Option Addr) (cdv ct : Value) (ws : List Value), ws.length = ks.length → bindArgs (PySem.W.fnOf x qual params body scope .none kV doc pm an cdv ct) ⟨[v], ks.zip ws⟩ = pure (ps.zip (v :: pick ix ws))) : ∀ v, KwB K fd ps ks ix (v :: ·) := by
  obtain ⟨oc, od, dV, kV, doc, pm, an, cdv, ct, osl, rfl, lk, hcd, hD, hK⟩ := F.ex
  rcases hD with ⟨_, rfl⟩ | ⟨e, _⟩
  · intro v s ws _ hl
    exact .of_eq (h v kV doc pm an cdv ct ws hl)
  · exact absurd rfl e
end
section
variable {mo : EM} {mr : AM} {en : List (Option D)} {S : Sto} {P : D → Sto → Prop}
theorem q_mthK {c m : Str} {n : Nat} {ix : List Nat} {fm : List D → Sto → Res D} : (mMthK c m n ix fm mo mr en S).sat P ↔ (mo en S).sat fun d S1 => osat (namD c d S1) fun ns => m ∉ ns ∧ ((mr en S1).sat fun ds S2 => ds.length + 1 = n ∧ (d :: pick ix ds).length = n ∧ (fm (d :: pick ix ds) S2).sat P) := by
  unfold mMthK
  rw [r_bind]
  refine iff_of_eq (congrArg _ (funext fun d => funext fun S1 => ?_))
  cases q : namD c d S1 with
  | none => simp [osat, r_stuck]
  | some ns =>
    by_cases h : m ∈ ns
    · simp [h, r_stuck, osat]
    · simp [h, osat, r_bind, r_ifs]
end
end Ag

namespace Ag
open PySem
/-! ### least, greatest, spread -/
def loF (a : Rat) (l : List Rat) : Rat := l.foldl (fun m x => if x < m then x else m) a
def hiF (a : Rat) (l : List Rat) : Rat := l.foldl (fun m x => if m < x then x else m) a
theorem lo_spec : ∀ (l : List Rat) (a : Rat), (∀ x ∈ l, loF a l ≤ x) ∧ loF a l ≤ a ∧ (loF a l = a ∨ loF a l ∈ l)
  | [], a => ⟨by simp, Rat.le_refl, .inl rfl⟩
  | y :: l, a => by
    obtain ⟨h1, h2, h3⟩ := lo_spec l (if y < a then y else a)
    have e : loF a (y :: l) = loF (if y < a then y else a) l := rfl
    rw [e]
    refine ⟨fun x hx => ?_, ?_, ?_⟩
    · rcases List.mem_cons.mp hx with rfl | hx
      · split at h2 <;> grind
      · exact h1 x hx
    · split at h2 <;> grind
    · rcases h3 with h3 | h3
      · rw [h3]
        split
        · exact .inr (by simp)
        · exact .inl rfl
      · exact .inr (by simp [h3])
theorem hi_spec : ∀ (l : List Rat) (a : Rat), (∀ x ∈ l, x ≤ hiF a l) ∧ a ≤ hiF a l ∧ (hiF a l = a ∨ hiF a l ∈ l)
  | [], a => ⟨by simp, Rat.le_refl, .inl rfl⟩
  | y :: l, a => by
    obtain ⟨h1, h2, h3⟩ := hi_spec l (if a < y then y else a)
    have e : hiF a (y :: l) = hiF (if a < y then y else a) l := rfl
    rw [e]
    refine ⟨fun x hx => ?_, ?_, ?_⟩
    · rcases List.mem_cons.mp hx with rfl | hx
      · split at h2 <;> grind
      · exact h1 x hx
    · split at h2 <;> grind
    · rcases h3 with h3 | h3
      · rw [h3]
        split
        · exact .inr (by simp)
        · exact .inl rfl
      · exact .inr (by simp [h3])
def loR (xs : List Rat) : Rat := loF (atR xs 0) xs
def hiR (xs : List Rat) : Rat := hiF (atR xs 0) xs
def spR (xs : List Rat) : Rat := hiR xs - loR xs
theorem at0_mem {xs : List Rat} (h : xs ≠ []) : atR xs 0 ∈ xs := (at_mem (us := xs) (r := 0) (List.length_pos_iff.mpr h)).2
theorem lo_mem {xs : List Rat} (h : xs ≠ []) : loR xs ∈ xs := by
  rcases (lo_spec xs (atR xs 0)).2.2 with e | e
  · unfold loR; rw [e]; exact at0_mem h
  · exact e
theorem hi_mem {xs : List Rat} (h : xs ≠ []) : hiR xs ∈ xs := by
  rcases (hi_spec xs (atR xs 0)).2.2 with e | e
  · unfold hiR; rw [e]; exact at0_mem h
  · exact e
theorem lo_le {xs : List Rat} {x : Rat} (h : x ∈ xs) : loR xs ≤ x := (lo_spec xs (atR xs 0)).1 x h
theorem le_hi {xs : List Rat} {x : Rat} (h : x ∈ xs) : x ≤ hiR xs := (hi_spec xs (atR xs 0)).1 x h
theorem sp_nn {xs : List Rat} (h : xs ≠ []) : 0 ≤ spR xs := by
  have := lo_le (hi_mem h)
  unfold spR
  grind
theorem diff_sp {xs : List Rat} {x y : Rat} (hx : x ∈ xs) (hy : y ∈ xs) : x - y ≤ spR xs := by
  have h1 := le_hi hx
  have h2 := lo_le hy
  unfold spR
  grind
/-! ### what days do to a spread -/
section
variable {n : Nat} {ws : List (List (List Int))} {p : List Nat} {ts : List Rat}
theorem walk_at (hw : ∀ w ∈ ws, WayOk n w) (hp : ∀ k ∈ p, k < ws.length) (ht : ts.length = n) {r : Nat} (hr : r < n) : atR (walkR ws p ts) r = sumTo n fun k => shR n ws p r k * atR ts k := walk_lin hw p ht hp hr
theorem walk_in (hw : ∀ w ∈ ws, WayOk n w) (hp : ∀ k ∈ p, k < ws.length) (ht : ts.length = n) {x : Rat} (hx : x ∈ walkR ws p ts) : loR ts ≤ x ∧ x ≤ hiR ts := by
  have wl := walk_len hw p ht hp
  obtain ⟨r, hr, rfl⟩ := List.mem_iff_getElem.mp hx
  have hrn : r < n := by rw [wl] at hr; exact hr
  have e : (walkR ws p ts)[r] = atR (walkR ws p ts) r := by simp [atR, List.getD, List.getElem?_eq_getElem hr]
  rw [e, walk_at hw hp ht hrn]
  have one : sumTo n (fun k => shR n ws p r k) = 1 := tab_sum hw hp hrn
  have nn : ∀ k, 0 ≤ shR n ws p r k := fun k => tab_nn hw hp (j := k) hrn
  have mem : ∀ k, k < n → atR ts k ∈ ts := fun k hk => (at_mem (us := ts) (r := k) (by omega)).2
  constructor
  · have := sum_le (n := n) (f := fun k => shR n ws p r k * loR ts) (g := fun k => shR n ws p r k * atR ts k) fun k hk => Rat.mul_le_mul_of_nonneg_left (lo_le (mem k hk)) (nn k)
    rw [sum_mulR, one, Rat.one_mul] at this
    exact this
  · have := sum_le (n := n) (f := fun k => shR n ws p r k * atR ts k) (g := fun k => shR n ws p r k * hiR ts) fun k hk => Rat.mul_le_mul_of_nonneg_left (le_hi (mem k hk)) (nn k)
    rw [sum_mulR, one, Rat.one_mul] at this
    exact this
theorem far_sub (hw : ∀ w ∈ ws, WayOk n w) (hp : ∀ k ∈ p, k < ws.length) {i j : Nat} (hi : i < n) : sumTo n (fun k => shR n ws p i k - minR (shR n ws p i k) (shR n ws p j k)) = farR n ws p i j := by
  rw [sum_sub]
  have one : sumTo n (fun k => shR n ws p i k) = 1 := tab_sum hw hp hi
  rw [one]; rfl
theorem min_comm' (a b : Rat) : minR a b = minR b a := by
  unfold minR
  split <;> split <;> grind
theorem walk_diff (hw : ∀ w ∈ ws, WayOk n w) (hp : ∀ k ∈ p, k < ws.length) (ht : ts.length = n) {i j : Nat} (hi : i < n) (hj : j < n) : atR (walkR ws p ts) i - atR (walkR ws p ts) j ≤ spR ts * farR n ws p i j := by
  have mem : ∀ k, k < n → atR ts k ∈ ts := fun k hk => (at_mem (us := ts) (r := k) (by omega)).2
  rw [walk_at hw hp ht hi, walk_at hw hp ht hj, ← sum_sub]
  have e1 := far_sub hw hp (j := j) hi
  have e2 := far_sub hw hp (j := i) hj
  rw [far_comm n ws p j i] at e2
  have s1 := sum_le (n := n) (f := fun k => shR n ws p i k * atR ts k - shR n ws p j k * atR ts k) (g := fun k => (shR n ws p i k - minR (shR n ws p i k) (shR n ws p j k)) * hiR ts - (shR n ws p j k - minR (shR n ws p j k) (shR n ws p i k)) * loR ts) fun k hk => by
    rw [min_comm' (shR n ws p j k)]
    have m1 := min_le (shR n ws p i k) (shR n ws p j k)
    have a := Rat.mul_le_mul_of_nonneg_left (c := shR n ws p i k - minR (shR n ws p i k) (shR n ws p j k)) (le_hi (mem k hk)) (by grind)
    have b := Rat.mul_le_mul_of_nonneg_left (c := shR n ws p j k - minR (shR n ws p i k) (shR n ws p j k)) (lo_le (mem k hk)) (by grind)
    grind
  rw [sum_sub n (fun k => (shR n ws p i k - minR (shR n ws p i k) (shR n ws p j k)) * hiR ts), sum_mulR, sum_mulR, e1, e2] at s1
  unfold spR
  grind
theorem walk_ne (hw : ∀ w ∈ ws, WayOk n w) (hp : ∀ k ∈ p, k < ws.length) (ht : ts.length = n) (n1 : 1 ≤ n) : walkR ws p ts ≠ [] := fun z => by
  have wl := walk_len hw p ht hp
  rw [z] at wl
  simp at wl
  omega
theorem at_of {xs : List Rat} {x : Rat} (h : x ∈ xs) : ∃ r, r < xs.length ∧ atR xs r = x := by
  obtain ⟨r, hr, rfl⟩ := List.mem_iff_getElem.mp h
  exact ⟨r, hr, by simp [atR, List.getD, List.getElem?_eq_getElem hr]⟩
theorem sp_walk (hw : ∀ w ∈ ws, WayOk n w) (hp : ∀ k ∈ p, k < ws.length) (ht : ts.length = n) (n1 : 1 ≤ n) : spR (walkR ws p ts) ≤ spR ts * (leftR n (farR n ws p)).1 := by
  have wn := walk_ne hw hp ht n1
  have wl := walk_len hw p ht hp
  have tn : ts ≠ [] := fun z => by rw [z] at ht; simp at ht; omega
  obtain ⟨i, hi, ei⟩ := at_of (hi_mem wn)
  obtain ⟨j, hj, ej⟩ := at_of (lo_mem wn)
  rw [wl] at hi hj
  have h1 := walk_diff hw hp ht hi hj
  rw [ei, ej] at h1
  have h2 := Rat.mul_le_mul_of_nonneg_left (far_le hw hp hi hj) (sp_nn tn)
  have h3 : spR (walkR ws p ts) = hiR (walkR ws p ts) - loR (walkR ws p ts) := rfl
  grind
/-! ### all rows of 0 and 1 -/
def onesR : Nat → List (List Rat)
  | 0 => [[]]
  | k + 1 => (onesR k).map (· ++ [0]) ++ (onesR k).map (· ++ [1])
theorem mem_ones : ∀ {k : Nat} {u : List Rat}, u ∈ onesR k ↔ u.length = k ∧ ∀ x ∈ u, x = 0 ∨ x = 1
  | 0, u => by
    simp only [onesR, List.mem_singleton]
    constructor
    · rintro rfl; simp
    · rintro ⟨h, _⟩; exact List.length_eq_zero_iff.mp h
  | k + 1, u => by
    simp only [onesR, List.mem_append, List.mem_map]
    constructor
    · rintro (⟨v, hv, rfl⟩ | ⟨v, hv, rfl⟩)
      · obtain ⟨h1, h2⟩ := mem_ones.mp hv
        refine ⟨by simp [h1], fun x hx => ?_⟩
        rcases List.mem_append.mp hx with hx | hx
        · exact h2 x hx
        · exact .inl (by simpa using hx)
      · obtain ⟨h1, h2⟩ := mem_ones.mp hv
        refine ⟨by simp [h1], fun x hx => ?_⟩
        rcases List.mem_append.mp hx with hx | hx
        · exact h2 x hx
        · exact .inr (by simpa using hx)
    · rintro ⟨h1, h2⟩
      rcases List.eq_nil_or_concat u with rfl | ⟨v, a, e⟩
      · simp at h1
      · rw [List.concat_eq_append] at e
        subst e
        have hv : v ∈ onesR k := mem_ones.mpr ⟨by simpa using h1, fun x hx => h2 x (by simp [hx])⟩
        rcases h2 a (by simp) with rfl | rfl
        · exact .inl ⟨v, hv, rfl⟩
        · exact .inr ⟨v, hv, rfl⟩
theorem ones_len : ∀ k, (onesR k).length = 2 ^ k
  | 0 => rfl
  | k + 1 => by simp [onesR, ones_len k]; omega
theorem ones_sp {u : List Rat} (h : ∀ x ∈ u, x = 0 ∨ x = 1) (hn : u ≠ []) : spR u ≤ 1 := by
  have h1 := h _ (hi_mem hn)
  have h2 := h _ (lo_mem hn)
  unfold spR
  grind
/-- the greatest spread that rows of 0 and 1 come to is what is left -/
theorem ones_best (hw : ∀ w ∈ ws, WayOk n w) (hp : ∀ k ∈ p, k < ws.length) (n1 : 1 ≤ n) : hiF 0 ((onesR n).map fun u => spR (walkR ws p u)) = (leftR n (farR n ws p)).1 := by
  obtain ⟨a, b, c⟩ := left_spec (d := farR n ws p) fun i j h1 h2 => far_nn hw hp (show i < n by omega) h2
  obtain ⟨h1, h2, h3⟩ := hi_spec ((onesR n).map fun u => spR (walkR ws p u)) 0
  have up : hiF 0 ((onesR n).map fun u => spR (walkR ws p u)) ≤ (leftR n (farR n ws p)).1 := by
    rcases h3 with e | e
    · rw [e]; exact b
    · obtain ⟨u, hu, e⟩ := List.mem_map.mp e
      rw [← e]
      obtain ⟨u1, u2⟩ := mem_ones.mp hu
      have un : u ≠ [] := fun z => by rw [z] at u1; simp at u1; omega
      have s1 := sp_walk hw hp u1 n1
      have s2 := Rat.mul_le_mul_of_nonneg_right (ones_sp u2 un) b
      rw [Rat.one_mul] at s2
      grind
  have dn : (leftR n (farR n ws p)).1 ≤ hiF 0 ((onesR n).map fun u => spR (walkR ws p u)) := by
    rcases c with c | ⟨i, j, hij, hj, c⟩
    · rw [c]; exact h2
    · have hi : i < n := by omega
      generalize eu : (List.range n).map (fun k => if shR n ws p j k < shR n ws p i k then (1 : Rat) else 0) = u
      have ul : u.length = n := by rw [← eu]; simp
      have u01 : ∀ x ∈ u, x = 0 ∨ x = 1 := fun x hx => by
        rw [← eu] at hx
        obtain ⟨k, _, rfl⟩ := List.mem_map.mp hx
        split <;> simp
      have hm := h1 _ (List.mem_map.mpr ⟨u, mem_ones.mpr ⟨ul, u01⟩, rfl⟩)
      have wl := walk_len hw p ul hp
      have d := diff_sp (xs := walkR ws p u) (at_mem (r := i) (by rw [wl]; exact hi)).2 (at_mem (r := j) (by rw [wl]; exact hj)).2
      rw [walk_at hw hp ul hi, walk_at hw hp ul hj, ← sum_sub] at d
      have e1 : sumTo n (fun k => shR n ws p i k * atR u k - shR n ws p j k * atR u k) = farR n ws p i j := by
        rw [← far_sub hw hp (j := j) hi]
        refine sum_congr fun k hk => ?_
        have ek : atR u k = if shR n ws p j k < shR n ws p i k then (1 : Rat) else 0 := by rw [← eu]; exact range_at hk
        rw [ek]
        unfold minR
        split <;> grind
      rw [e1] at d
      rw [c]
      simp only
      grind
  grind
end
end Ag

namespace Ag
open PySem PySem.Spec PyProof.Rows L2
/-! ### xs * n as a cell -/
section
variable {X : Cx} {W : WX} {a b : Expr} {pos : Pos} {ma mb : EM}
def repC (d e : D) (S : Sto) : Option (List D) := match lstOf d S, e with
  | some l, .int k => if 0 ≤ k ∧ k ≤ 1000 ∧ l.length ≤ 1000 then some (List.replicate k.toNat l).flatten else none
  | _, _ => none
def mRepC (ma mb : EM) : EM := fun en S => (ma en S).bind fun d S1 => (mb en S1).bind fun e S2 => match repC d e S2 with
  | some l => .ok (.ref S2.length) (S2 ++ [.lst l])
  | none => .stuck
theorem e_repC (ha : PE X a (tE X.K W ma)) (hb : PE X b (tE X.K W mb)) : PE X (.BinOp a .Mult b pos) (tE X.K W (mRepC ma mb)) := by
  refine PE.imp (pe_op op_rep ha hb) ?_
  rintro σ H Q ⟨en, S, m, er, si, h⟩
  refine ⟨en, S, m, er, si, h.bind.mono ?_⟩
  rintro v H1 ⟨d, S1, m1, e1, s1, r1, h1⟩
  refine ⟨en, S1, m1, er.to e1, s1, h1.bind.mono ?_⟩
  rintro w H2 ⟨c, S2, m2, e2, s2, r2, h2⟩
  cases q : repC d c S2 with
  | none => rw [q] at h2; exact h2.elim
  | some l =>
    rw [q] at h2
    unfold repC at q
    cases ql : lstOf d S2 with
    | none => simp only [ql] at q; cases q
    | some ds =>
      rw [ql] at q
      cases c with
      | int k =>
        simp only at q
        by_cases hl : 0 ≤ k ∧ k ≤ 1000 ∧ ds.length ≤ 1000
        · rw [if_pos hl] at q
          cases q
          cases r2
          obtain ⟨b, vs, rfl, g1, g2⟩ := lst_at s2 (r1.to e2) ql
          refine ⟨b, k, vs, rfl, rfl, g1, by omega, by omega, ?_, fun p hp => ?_⟩
          · rw [g2.len, ← line_eq]
            have h1 : k.toNat ≤ 1000 := by omega
            have h2 := Nat.mul_le_mul hl.2.2 h1
            unfold lineN
            omega
          · exact h2 _ (m2.add p) _ (.cell hp) (s2.grow hp ⟨_, upd_same, (g2.flatten _).to (.cell hp)⟩) (.ref (s2.last p))
        · rw [if_neg hl] at q; cases q
      | _ => simp only at q; cases q
end
theorem q_repC {ma mb : EM} {en : En} {S : Sto} {P : D → Sto → Prop} : (mRepC ma mb en S).sat P ↔ (ma en S).sat fun d S1 => (mb en S1).sat fun e S2 => osat (repC d e S2) fun l => P (.ref S2.length) (S2 ++ [.lst l]) := by
  unfold mRepC
  rw [r_bind]
  refine iff_of_eq (congrArg _ (funext fun d => funext fun S1 => ?_))
  rw [r_bind]
  refine congrArg _ (funext fun e => funext fun S2 => ?_)
  cases repC d e S2 <;> simp [osat, r_ok, r_stuck]
end Ag

namespace Ag
open PySem PySem.Spec PyProof.Rows L2
/-! ### dicts as cells -/
section
variable {K : PySem.W.Frag} {m : Mp} {H : Hp}
theorem optK_ok {f : D → Option NestedKey} {b : Nat} (hf : ∀ (d : D) (v : V) (k : NestedKey), Rep K m H v d → f d = some k → KeyH K H k v ∧ numK k = true ∧ k.depth ≤ b) : ∀ {vs : List V} {l : List D} {ks : List NestedKey}, Reps K m H vs l → optK f l = some ks → KeyHs K H ks vs ∧ numKs ks = true ∧ NestedKey.depthAll ks ≤ b
  | [], [], ks, _, q => by
    simp only [optK, Option.some.injEq] at q
    subst q
    exact ⟨.nil, rfl, Nat.zero_le _⟩
  | [], _ :: _, _, h, _ => by cases h
  | _ :: _, [], _, h, _ => by cases h
  | v :: vs, d :: l, ks, h, q => by
    cases h with
    | cons h1 h2 =>
      obtain ⟨k, q1, q2⟩ := Option.bind_eq_some_iff.mp (show ((f d).bind fun k => (optK f l).map (k :: ·)) = some ks from q)
      obtain ⟨ks', q3, rfl⟩ := Option.map_eq_some_iff.mp q2
      obtain ⟨a1, a2, a3⟩ := hf d v k h1 q1
      obtain ⟨b1, b2, b3⟩ := optK_ok hf h2 q3
      exact ⟨.cons a1 b1, by simp only [numKs, a2, b2, Bool.and_self], by simp only [NestedKey.depthAll]; omega⟩
theorem keyF_ok : ∀ (f : Nat) (d : D) (v : V) (k : NestedKey), Rep K m H v d → keyF f d = some k → KeyH K H k v ∧ numK k = true ∧ k.depth ≤ f
  | f, .int i, v, k, h, q => by
    have q : some (NestedKey.num i) = some k := by cases f <;> exact q
    cases q
    cases h
    exact ⟨.num i, rfl, Nat.zero_le _⟩
  | f + 1, .tup l, v, k, h, q => by
    obtain ⟨ks, q1, rfl⟩ := Option.map_eq_some_iff.mp (show (optK (keyF f) l).map .tup = some k from q)
    cases h with
    | tup h1 _ h2 =>
      obtain ⟨a, b, c⟩ := optK_ok (fun d v k h q => keyF_ok f d v k h q) h2 q1
      exact ⟨.tup h1 a, b, by simp only [NestedKey.depth]; omega⟩
  | 0, .tup l, v, k, h, q => by simp [keyF] at q
  | 0, .non, v, k, h, q | _ + 1, .non, v, k, h, q => by simp [keyF] at q
  | 0, .bl _, v, k, h, q | _ + 1, .bl _, v, k, h, q => by simp [keyF] at q
  | 0, .str _, v, k, h, q | _ + 1, .str _, v, k, h, q => by simp [keyF] at q
  | 0, .ty _, v, k, h, q | _ + 1, .ty _, v, k, h, q => by simp [keyF] at q
  | 0, .gl _, v, k, h, q | _ + 1, .gl _, v, k, h, q => by simp [keyF] at q
  | 0, .lst _, v, k, h, q | _ + 1, .lst _, v, k, h, q => by simp [keyF] at q
  | 0, .scr _, v, k, h, q | _ + 1, .scr _, v, k, h, q => by simp [keyF] at q
  | 0, .ref _, v, k, h, q | _ + 1, .ref _, v, k, h, q => by simp [keyF] at q
  | 0, .obj _ _ _, v, k, h, q | _ + 1, .obj _ _ _, v, k, h, q => by simp [keyF] at q
  | 0, .dct _, v, k, h, q | _ + 1, .dct _, v, k, h, q => by simp [keyF] at q
theorem DicR.key : ∀ {l : List D} {xs : List (NestedKey × Addr × Value)}, DicR K m H l xs → ∀ x ∈ xs, KeyH K H x.1 (.ref x.2.1) ∧ numK x.1 = true ∧ x.1.depth ≤ 8
  | [], _, h, x, hx => by cases h; cases hx
  | [_], _, h, x, hx => by cases h
  | kd :: vd :: l, _, h, x, hx => by
    cases h with
    | cons a b c d r =>
      rcases List.mem_cons.mp hx with e | hx
      · rw [e]
        obtain ⟨a1, a2, a3⟩ := keyF_ok 4 _ _ _ b a
        exact ⟨a1, a2, Nat.le_trans a3 (by decide)⟩
      · exact DicR.key r x hx
/-- the value at a key -/
def lookK (k : NestedKey) : List D → Option D
  | kd :: vd :: l => if keyD kd = some k then some vd else lookK k l
  | _ => none
theorem DicR.look (k : NestedKey) : ∀ {l : List D} {xs : List (NestedKey × Addr × Value)}, DicR K m H l xs → (lookK k l = none ∧ atKey xs k = none) ∨ ∃ d p v, lookK k l = some d ∧ atKey xs k = some p ∧ RelV v p.2 ∧ Rep K m H v d
  | [], _, h => by cases h; exact .inl ⟨rfl, rfl⟩
  | [_], _, h => by cases h
  | kd :: vd :: l, _, h => by
    cases h with
    | @cons _ _ k' b u v _ xs a b' c d r =>
      simp only [lookK]
      by_cases e : k' = k
      · subst e
        rw [if_pos a]
        exact .inr ⟨vd, (b, u), v, rfl, by simp [atKey], c, d⟩
      · have ne : ¬ keyD kd = some k := fun z => e (by rw [a] at z; exact Option.some.inj z)
        rw [if_neg ne]
        have e2 : atKey ((k', b, u) :: xs) k = atKey xs k := by simp [atKey, e]
        rw [e2]
        exact DicR.look k r
theorem look_some {l : List D} {xs : List (NestedKey × Addr × Value)} (h : DicR K m H l xs) (k : NestedKey) : (atKey xs k).isSome = (lookK k l).isSome := by
  rcases h.look k with ⟨a, b⟩ | ⟨d, p, v, a, b, _⟩ <;> rw [a, b] <;> rfl
theorem DicR.len : ∀ {l : List D} {xs : List (NestedKey × Addr × Value)}, DicR K m H l xs → l.length / 2 = xs.length
  | [], _, h => by cases h; rfl
  | [_], _, h => by cases h
  | kd :: vd :: l, _, h => by
    cases h with
    | cons a b c d r =>
      have := DicR.len r
      simp only [List.length_cons]
      omega
end
/-- a dict, as a cell or by value -/
def dicOf : D → Sto → Option (List D)
  | .ref i, S => match S[i]? with
    | some (.dic l) => some l
    | _ => none
  | .dct l, _ => some l
  | _, _ => none
theorem dic_at {K : PySem.W.Frag} {m : Mp} {H : Hp} {S : Sto} {v : V} {d : D} {l : List D} (si : Sim K m S H) (r : Rep K m H v d) (h : dicOf d S = some l) : ∃ a o xs, v = .ref a ∧ H a = some (DicO a o xs) ∧ DicR K m H l xs ∧ (xs.map (·.1)).Nodup := by
  cases r with
  | ref h1 =>
    rename_i a i
    simp only [dicOf] at h
    cases q : S[i]? with
    | none => rw [q] at h; cases h
    | some ob =>
      rw [q] at h
      cases ob with
      | dic k' =>
        cases h
        obtain ⟨o, xs, g1, g2, g3⟩ := si.cell i a _ h1 q
        exact ⟨a, o, xs, rfl, g1, g2, g3⟩
      | lst l => cases h
      | ins c ns l => cases h
  | dct h1 h2 h3 h4 =>
    cases h
    exact ⟨_, _, _, rfl, h1, h3, h4⟩
  | _ => cases h
/-- a key that is a tuple -/
def keyT : D → Option NestedKey
  | .tup l => keyD (.tup l)
  | _ => none
theorem keyT_ok {K : PySem.W.Frag} {m : Mp} {H : Hp} {v : V} {d : D} {k : NestedKey} (r : Rep K m H v d) (h : keyT d = some k) : ∃ b, v = .ref b ∧ KeyH K H k (.ref b) ∧ numK k = true ∧ k.depth ≤ 8 ∧ keyD d = some k := by
  cases d with
  | tup l =>
    obtain ⟨a, b, c⟩ := keyF_ok 4 _ _ _ r h
    cases r with
    | tup h1 h2 h3 => exact ⟨_, rfl, a, b, by omega, h⟩
  | _ => cases h
def fDIn (d c : D) (S : Sto) : Option D := (dicOf c S).bind fun l => (keyT d).map fun k => .bl (lookK k l).isSome
def fDNotIn (d c : D) (S : Sto) : Option D := (dicOf c S).bind fun l => (keyT d).map fun k => .bl (!(lookK k l).isSome)
def fDIx (c d : D) (S : Sto) : Option D := (dicOf c S).bind fun l => (keyT d).bind fun k => lookK k l
section
variable {X : Cx}
theorem q_dIn (hu : X.A.units + 64 < cLine) : OpR X (compareOp .In) (rO2 X.K fDIn) := by
  intro pins s σ H x y v u Q I rx ry ⟨d, c, S, m, r, si, hx, hy, hf, hq⟩
  obtain ⟨l, q1, q2⟩ := Option.bind_eq_some_iff.mp hf
  obtain ⟨k, q3, rfl⟩ := Option.map_eq_some_iff.mp q2
  obtain ⟨a, o, xs, rfl, g1, g2, g3⟩ := dic_at si hy q1
  obtain ⟨b, rfl, k1, k2, k3, _⟩ := keyT_ok hx q3
  refine o_dIn hu pins s σ H _ _ v u Q I rx ry ⟨k, b, a, o, xs, rfl, rfl, g1, ⟨g2.key, g3⟩, k1, k3, ?_⟩
  rw [if_neg Bool.false_ne_true, look_some g2]
  exact hq _ H .refl si (.bl _)
theorem q_dNotIn (hu : X.A.units + 64 < cLine) : OpR X (compareOp .NotIn) (rO2 X.K fDNotIn) := by
  intro pins s σ H x y v u Q I rx ry ⟨d, c, S, m, r, si, hx, hy, hf, hq⟩
  obtain ⟨l, q1, q2⟩ := Option.bind_eq_some_iff.mp hf
  obtain ⟨k, q3, rfl⟩ := Option.map_eq_some_iff.mp q2
  obtain ⟨a, o, xs, rfl, g1, g2, g3⟩ := dic_at si hy q1
  obtain ⟨b, rfl, k1, k2, k3, _⟩ := keyT_ok hx q3
  refine o_dNotIn hu pins s σ H _ _ v u Q I rx ry ⟨k, b, a, o, xs, rfl, rfl, g1, ⟨g2.key, g3⟩, k1, k3, ?_⟩
  rw [if_pos rfl, look_some g2]
  exact hq _ H .refl si (.bl _)
theorem q_dIx (hu : X.A.units + 64 < cLine) : IxR X (rO2 X.K fDIx) := by
  intro value slice pins s σ H x y v u Q I rx ry ⟨c, d, S, m, r, si, hx, hy, hf, hq⟩ hs
  obtain ⟨l, q1, q2⟩ := Option.bind_eq_some_iff.mp hf
  obtain ⟨k, q3, q4⟩ := Option.bind_eq_some_iff.mp q2
  obtain ⟨a, o, xs, rfl, g1, g2, g3⟩ := dic_at si hx q1
  obtain ⟨b, rfl, k1, k2, k3, _⟩ := keyT_ok hy q3
  rcases g2.look k with ⟨e, _⟩ | ⟨d', p, w, e, e2, rw_, rp⟩
  · rw [q4] at e; cases e
  · rw [q4] at e; cases e
    exact ix_dic hu value slice pins s σ H _ _ v u Q I rx ry ⟨k, b, a, o, xs, p, w, rfl, rfl, g1, ⟨g2.key, g3⟩, k1, k3, e2, rw_, hq _ H .refl si rp⟩ hs
/-- d[k] = v -/
def putK (k : NestedKey) (v : D) : List D → List D
  | kd :: vd :: l => kd :: (if keyD kd = some k then v else vd) :: putK k v l
  | l => l
def storeK (l : List D) (k : NestedKey) (d v : D) : List D := if (lookK k l).isSome = true then putK k v l else l ++ [d, v]
theorem DicR.app {K : PySem.W.Frag} {m : Mp} {H : Hp} : ∀ {l l' : List D} {xs xs' : List (NestedKey × Addr × Value)}, DicR K m H l xs → DicR K m H l' xs' → DicR K m H (l ++ l') (xs ++ xs')
  | [], _, _, _, h, g => by cases h; exact g
  | [_], _, _, _, h, _ => by cases h
  | kd :: vd :: l, _, _, _, h, g => by
    cases h with
    | cons a b c d r => exact .cons a b c d (DicR.app r g)
theorem DicR.put {K : PySem.W.Frag} {m : Mp} {H : Hp} {k : NestedKey} {u : Value} {v : V} {vd : D} (ru : RelV v u) (rv : Rep K m H v vd) : ∀ {l : List D} {xs : List (NestedKey × Addr × Value)}, DicR K m H l xs → DicR K m H (putK k vd l) (xs.map (putAt k u))
  | [], _, h => by cases h; exact .nil
  | [_], _, h => by cases h
  | kd :: vd' :: l, _, h => by
    cases h with
    | @cons _ _ k' b u' v' _ xs a b' c d r =>
      simp only [List.map_cons, putAt, putK]
      by_cases e : k' = k
      · subst e
        rw [if_pos a, if_pos rfl]
        exact .cons a b' ru rv (DicR.put ru rv r)
      · have ne : ¬ keyD kd = some k := fun z => e (by rw [a] at z; exact Option.some.inj z)
        rw [if_neg ne, if_neg e]
        exact .cons a b' c d (DicR.put ru rv r)
theorem DicR.store {K : PySem.W.Frag} {m : Mp} {H : Hp} {l : List D} {xs : List (NestedKey × Addr × Value)} {k : NestedKey} {b : Addr} {u : Value} {v : V} {d vd : D} (h : DicR K m H l xs) (hk : keyD d = some k) (rb : Rep K m H (.ref b) d) (ru : RelV v u) (rv : Rep K m H v vd) : DicR K m H (storeK l k d vd) (storedH xs k b u) := by
  unfold storeK storedH
  rw [look_some h k]
  split
  · exact h.put ru rv
  · exact h.app (.cons hk rb ru rv .nil)
theorem stored_nodup {xs : List (NestedKey × Addr × Value)} {k : NestedKey} {b : Addr} {u : Value} (h : (xs.map (·.1)).Nodup) : ((storedH xs k b u).map (·.1)).Nodup := by
  unfold storedH
  split
  · have : (xs.map (putAt k u)).map (·.1) = xs.map (·.1) := by
      rw [List.map_map]
      refine List.map_congr_left fun x _ => ?_
      show (putAt k u x).1 = x.1
      unfold putAt
      split <;> rfl
    rw [this]; exact h
  · rename_i hn
    rw [List.map_append, List.nodup_append]
    refine ⟨h, by simp, fun x hx y hy => ?_⟩
    have : y = k := by simpa using hy
    subst this
    rintro rfl
    apply hn
    obtain ⟨z, hz, rfl⟩ := List.mem_map.mp hx
    unfold atKey
    rw [Option.isSome_map, List.find?_isSome]
    exact ⟨z, hz, by simp⟩
def fDSet : D → D → D → Sto → Option Sto
  | .ref i, d, v, S => match S[i]? with
    | some (.dic l) => (keyT d).bind fun k => if l.length ≤ lineN then some (S.set i (.dic (storeK l k d v))) else none
    | _ => none
  | _, _, _, _ => none
theorem q_dSet (hu : X.A.units + 64 < cLine) : PSet X (rSetO X.K fDSet) := by
  intro pins s σ H o i v ov iv u Q I ro ri rv h
  obtain ⟨od, id, d, S, m, S', si, r1, r2, r3, hf, hq⟩ := h
  cases r1 with
  | ref h1 =>
    rename_i a n
    simp only [fDSet] at hf
    cases q : S[n]? with
    | none => rw [q] at hf; cases hf
    | some ob =>
      rw [q] at hf
      cases ob with
      | lst l => cases hf
      | ins c ns l => cases hf
      | dic l =>
        simp only at hf
        obtain ⟨k, q3, q4⟩ := Option.bind_eq_some_iff.mp hf
        obtain ⟨b, rfl, k1, k2, k3, k4⟩ := keyT_ok r2 q3
        by_cases hl : l.length ≤ lineN
        · rw [if_pos hl] at q4
          cases q4
          obtain ⟨ob, xs, g1, g2, g3⟩ := si.cell n a _ h1 q
          refine set_dic hu pins s σ H _ _ v ov iv u Q I ro ri rv ⟨k, b, a, ob, xs, rfl, rfl, g1, ⟨g2.key, g3⟩, k1, k2, k3, by rw [← g2.len, ← line_eq]; omega, fun u ob ru => ?_⟩
          have e : Ext m H m (upd H a (DicO a ob (storedH xs k b u))) := Ext.put si (List.mem_of_getElem? h1)
          exact hq _ e (si.put h1 ⟨ob, _, upd_same, (g2.store k4 r2 ru r3).tr e.tr, stored_nodup g3⟩)
        · rw [if_neg hl] at q4; cases q4
  | _ => cases hf
/-- {} -/
def mDNew : EM := fun _ S => .ok (.ref S.length) (S ++ [.dic []])
theorem e_dnew {W : WX} {pos : Pos} : PE X (.Dict [] [] pos) (tE X.K W mDNew) := by
  refine PE.imp pe_dnew ?_
  rintro σ H Q ⟨en, S, m, er, si, h⟩ p o hp
  exact h _ (m.add p) _ (.cell hp) (si.grow hp ⟨o, [], upd_same, .nil, List.nodup_nil⟩) (.ref (si.last p))
def gDLen (d : D) (S : Sto) : Option D := (dicOf d S).bind fun l => if l.length ≤ lineN then some (.int ((l.length / 2 : Nat) : Int)) else none
theorem b_dlen : CallR X (.builtin "len") (rOL X.K (f1 gDLen)) := c1 fun pins s σ H x u Q d S m r I rx si hx hf hq => by
  obtain ⟨l, q1, q2⟩ := Option.bind_eq_some_iff.mp hf
  obtain ⟨a, o, xs, rfl, g1, g2, g3⟩ := dic_at si hx q1
  by_cases hl : l.length ≤ lineN
  · rw [if_pos hl] at q2
    cases q2
    refine len_dic pins s σ H _ _ Q I rx ⟨a, o, xs, rfl, g1, ⟨g2.key, g3⟩, by rw [← g2.len, ← line_eq]; omega, ?_⟩
    rw [← g2.len]
    exact hq _ H .refl si (.int _)
  · rw [if_neg hl] at q2; cases q2
end
end Ag

namespace Ag
open PySem PySem.Spec PyProof.Rows L2
/-! ### d.items(), d a dict that stays -/
/-- the pairs of the dict at a, whose object is o; ws are its values -/
def ItDc (a : Addr) (o : Obj) (xs : List (NestedKey × Addr × Value)) (ws : List V) : It :=
  ⟨fun i H => H a = some (DicO a o xs) ∧ i < xs.length,
    fun i H v H' => ∃ T x w, v = .ref T ∧ H T = none ∧ xs[i]? = some x ∧ ws[i]? = some w ∧ H' = upd H T (.tup [.ref x.2.1, w]),
    fun i H => H a = some (DicO a o xs) ∧ xs.length ≤ i⟩
theorem dic_raw {X : Cx} {pins : List (Addr × Obj)} {σ : L2.St} {H : Hp} {s : Shared} (I : L2.Inv X pins σ H s) {a : Addr} {o : Obj} {xs : List (NestedKey × Addr × Value)} {es : Array DictEntry} {ep : Nat} (ha : H a = some (DicO a o xs)) (hod : o.data = .dict es ep) :
    s.heap.DictRaw a es ep ∧ es.size = xs.length ∧ ∀ (i : Nat) (hi : i < es.size) (x : NestedKey × Addr × Value), xs[i]? = some x → es[i].key = .ref x.2.1 ∧ es[i].val = x.2.2 := by
  obtain ⟨h0, ho, es', ep', hx, hd, he⟩ := (I.hok a _ ha).1
  rw [hod] at hd
  cases hd
  have hl : es.size = xs.length := by
    have := congrArg List.length he
    simpa using this
  refine ⟨⟨o, ho, hx, hod⟩, hl, fun i hi x hxi => ?_⟩
  have e : es.toList[i]? = (xs.map fun x => (⟨hashI x.1, .ref x.2.1, x.2.2⟩ : DictEntry))[i]? := by rw [he]
  rw [List.getElem?_map, hxi, Array.getElem?_toList, Array.getElem?_eq_getElem hi] at e
  have e := Option.some.inj e
  rw [e]
  exact ⟨rfl, rfl⟩
theorem turn_dic {P : Program} {w : World} {K : PySem.W.Frag} {a it : Addr} {o : Obj} {xs : List (NestedKey × Addr × Value)} {ws : List V} {es : Array DictEntry} {ep : Nat} {elts : List Expr} {kk : Nat} {tpos : Pos} (hod : o.data = .dict es ep) (hv : Vals ws (xs.map (·.2.2))) :
    Turn P w K (.Tuple elts kk tpos) (ItDc a o xs ws) [it] it (fun i h => ∃ ok ov, IsItemIter h it a i es.size ep ok ov) where
  mem := List.mem_singleton.mpr rfl
  obj := fun i h ⟨ok, ov, e⟩ b hb => by
    obtain rfl := List.mem_singleton.mp hb
    exact ⟨_, e, fun v z => by cases z⟩
  keep := fun i h h' ⟨ok, ov, e⟩ k => ⟨ok, ov, k it (List.mem_singleton.mpr rfl) _ e⟩
  item := by
    rintro X rfl rfl rfl hc i pins s σ H E I hf ⟨ok, ov, he⟩ ⟨ha, hi⟩
    obtain ⟨raw, hl, at_⟩ := dic_raw I ha hod
    have hlt : it < s.heap.objs.size := Heap.lt_size he
    have hxi : xs[i]? = some xs[i] := List.getElem?_eq_getElem hi
    obtain ⟨wv, hw, rw_⟩ : ∃ wv, ws[i]? = some wv ∧ RelV wv xs[i].2.2 := by
      have l1 := hv.length
      rw [List.length_map] at l1
      have e1 : ws[i]? = some (ws[i]'(by omega)) := List.getElem?_eq_getElem (by omega)
      obtain ⟨u, hu, ru⟩ := hv.get e1
      rw [List.getElem?_map, hxi] at hu
      cases hu
      exact ⟨_, e1, ru⟩
    obtain ⟨e1, e2⟩ := at_ i (by omega) _ hxi
    refine wpAny_pyNext_items_item_raw he raw (by omega) fun h' out new size old => ?_
    rw [e1, e2] at new out
    refine ⟨_, rfl, wpAny_letOwnedTupleGo_items (s := { s with heap := h' }) out fun h2 back sb => ?_⟩
    have tup2 : h2.get? s.heap.objs.size = some { cls := .type "tuple", data := .seq #[.ref xs[i].2.1, xs[i].2.2] } := (sb.2 _ (Nat.ne_of_gt hlt)).trans new
    have I2 : L2.Inv X pins σ (upd H s.heap.objs.size (.tup [.ref xs[i].2.1, wv])) { s with heap := h2 } :=
      I.turnedNew (t' := s.toks) (ch := [it]) (fun b ob hb e => (sb.2 b (fun z => hb (by rw [z]; exact List.mem_singleton.mpr rfl))).trans (old b ob (fun z => hb (by rw [z]; exact List.mem_singleton.mpr rfl)) e)) hf (Nat.le_refl _)
        ⟨by show 2 ≤ sizeLine; decide, [.ref xs[i].2.1, xs[i].2.2], .cons rfl (.cons rw_ .nil), ⟨_, tup2, rfl, _, rfl⟩⟩
    refine ⟨.ref s.heap.objs.size, _, I2, rfl, ⟨_, xs[i], wv, rfl, I.hok.fresh (Nat.le_refl _), hxi, hw, rfl⟩, ⟨_, _, back⟩, fun b hb => ?_⟩
    obtain rfl := List.mem_singleton.mp hb
    rw [upd_ne (Nat.ne_of_lt hlt)]
    exact (hf _ hb).1
  done := by
    rintro X rfl rfl rfl hc i pins s σ H E I hf ⟨ok, ov, he⟩ ⟨ha, hi⟩
    obtain ⟨raw, hl, _⟩ := dic_raw I ha hod
    obtain ⟨f0, f1, f2, f3, f4, f5⟩ := hf it (List.mem_singleton.mpr rfl)
    exact wpAny_pyNext_items_end_raw (I.ok.hd hc) he raw (by omega) fun h' eb => ⟨rfl, I.turned (t' := s.toks) (fun b ob hb e => eb b ob hb e) f0 f1 f3 f4 f5⟩
  self := fun A i s Q E ⟨_, _, e⟩ h => wpAny_pyIter_itemiter e h
def iDic (td : TE) : TI := fun σ H R => td σ H fun x H1 => ∃ (a : Addr) (o : Obj) (xs : List (NestedKey × Addr × Value)) (ws : List V), x = .ref a ∧ H1 a = some (DicO a o xs) ∧ Vals ws (xs.map (·.2.2)) ∧ R (ItDc a o xs ws) H1
theorem pi_dic {X : Cx} {e : Expr} {td : TE} {elts : List Expr} {kk : Nat} {tpos apos cpos : Pos} (he : PE X e td) (hbase : attributeBase e "items" X.env (eval e X.env) = eval e X.env := by rfl) (hline : (apos.endLine == cpos.line) = true := by rfl) :
    PI X (.Tuple elts kk tpos) (.Call (.Attribute e "items" apos) [] [] cpos) (iDic td) := by
  constructor
  intro pins s σ H R I h
  refine wpAny_Call_method (T := "dict") (id := "dict.items") hbase rfl hline F.plainAttrs_dict F.slot_dict_items F.type_dict_items (thn (he.run pins s σ H _ I h) fun u s1 hu => ?_)
  obtain ⟨x, H1, I1, rx, a, o, xs, ws, rfl, ha, hv, q⟩ := hu
  cases rx
  obtain ⟨h0, ho, es, ep, hx, hod, _⟩ := id (I1.hok a _ ha).1
  have raw := (dic_raw I1 ha hod).1
  refine ⟨raw.typeIs, fun b hb => (by cases hb; exact ⟨o, ho, hx.2.1⟩), ?_⟩
  refine method_meetsIn F.slot_dict_items F.entry_dict_items rfl (PySem.evalArgs_none ⟨rfl, raw.typeIs, F.args_dict_items_1 _, _, meets_dict_items_raw a h0, ⟨⟨es, ep, raw⟩, ?_⟩⟩)
  have I2 := I1.kept (t' := s1.toks) (h' := s1.heap.push { cls := .type "dict_items", data := .fields #[.ref a] }) fun b ob z => Heap.get?_push_of_some _ z
  exact wpAny_pyIter_items_raw (d := a) ⟨_, Heap.get?_push_size _ rfl, rfl, rfl⟩ (raw.at fun ob z => Heap.get?_push_of_some _ z) (pi_one (tk := s1.toks) I2 _ (turn_dic hod hv) ⟨.none, .none, Heap.get?_push_size _ rfl⟩ q)
/-- the keys, the values -/
def evs : List D → List D
  | kd :: _ :: l => kd :: evs l
  | _ => []
def ods : List D → List D
  | _ :: vd :: l => vd :: ods l
  | _ => []
theorem DicR.sides {K : PySem.W.Frag} {m : Mp} {H : Hp} : ∀ {l : List D} {xs : List (NestedKey × Addr × Value)}, DicR K m H l xs → ∃ ws, Vals ws (xs.map (·.2.2)) ∧ Reps K m H (xs.map fun x => V.ref x.2.1) (evs l) ∧ Reps K m H ws (ods l)
  | [], _, h => by cases h; exact ⟨[], .nil, .nil, .nil⟩
  | [_], _, h => by cases h
  | kd :: vd :: l, _, h => by
    cases h with
    | @cons _ _ k b u v _ xs a r c d q =>
      obtain ⟨ws, h1, h2, h3⟩ := DicR.sides q
      exact ⟨v :: ws, .cons c h1, .cons r h2, .cons d h3⟩
theorem wk_dic {K : PySem.W.Frag} {m : Mp} {H : Hp} {a : Addr} {o : Obj} {xs : List (NestedKey × Addr × Value)} {ws : List V} {l r : List D} (h1 : ∀ m' H', Tr m H m' H' → H' a = some (DicO a o xs)) (hl : ws.length = xs.length) (h2 : Reps K m H (xs.map fun x => V.ref x.2.1) l) (h3 : Reps K m H ws r) : WalkD K m H (ItDc a o xs ws) (zpIt l r).nxt := by
  intro m' S' H' e s k
  have q1 := h1 m' H' e
  have q2 := h2.tr e
  have q3 := h3.tr e
  have n2 := q2.len
  have n3 := q3.len
  rw [List.length_map] at n2
  show match (match l[k]?, r[k]? with | some d, some c => if names [d, c] = true then none else some (some (D.tup [d, c])) | _, _ => some none) with | none => True | some none => _ | some (some d) => _
  cases q : l[k]? with
  | none => exact ⟨q1, by rw [n2]; exact List.getElem?_eq_none_iff.mp q⟩
  | some d =>
    cases p : r[k]? with
    | none => exact ⟨q1, by rw [← hl, n3]; exact List.getElem?_eq_none_iff.mp p⟩
    | some c =>
      by_cases hn : names [d, c] = true
      · simp only [hn, if_true]
      · have hn' : names [d, c] = false := by simpa using hn
        simp only [hn', Bool.false_eq_true, if_false]
        obtain ⟨v, g1, g2⟩ := q2.get q
        obtain ⟨u, g3, g4⟩ := q3.get p
        rw [List.getElem?_map] at g1
        obtain ⟨x, gx, rfl⟩ := Option.map_eq_some_iff.mp g1
        refine ⟨⟨q1, (List.getElem?_eq_some_iff.mp gx).1⟩, fun y H2 ⟨T, x', w', e0, hT, e1, e2, e3⟩ => ?_⟩
        rw [gx] at e1; cases e1
        rw [g3] at e2; cases e2
        subst e0 e3
        exact new_pair hn' s hT g2 g4
/-- d.items(), d a dict by value -/
def itDc : D → Sto → Option ItD
  | .dct l, _ => some (zpIt (evs l) (ods l))
  | _, _ => none
def mItD (me : EM) : IM := fun en S => (me en S).bind fun d S1 => ofO (itDc d S1) S1
theorem i_items {X : Cx} {W : WX} {e : Expr} {me : EM} {elts : List Expr} {kk : Nat} {tpos apos cpos : Pos} (he : PE X e (tE X.K W me)) (hbase : attributeBase e "items" X.env (eval e X.env) = eval e X.env := by rfl) (hline : (apos.endLine == cpos.line) = true := by rfl) :
    PI X (.Tuple elts kk tpos) (.Call (.Attribute e "items" apos) [] [] cpos) (tI X.K W (mItD me)) := by
  refine PI.imp (pi_dic he hbase hline) ?_
  rintro σ H R ⟨en, S, m, er, si, h⟩
  refine ⟨en, S, m, er, si, (PostG.bind (R := Rep X.K) h).mono ?_⟩
  rintro v H1 ⟨d, S1, m1, e1, s1, r1, h1⟩
  cases r1 with
  | dct g1 g2 g3 g4 =>
    obtain ⟨ws, q1, q2, q3⟩ := g3.sides
    have hl := q1.length
    rw [List.length_map] at hl
    exact ⟨_, _, _, ws, rfl, g1, q1, h1 _ m1 H1 .refl s1 (wk_dic (fun m' H' e => e.keep _ _ g1 g2) hl q2 q3)⟩
  | _ => exact h1.elim
end Ag

/-! min and max of two values that are alike; max of a list of ints -/
namespace Ag
open PySem L2
open PySem.W (AlikeAll dataLt alike iter_tupleW cmpIn_gt cmpIn_lt moved_old reads_keeps)
section
variable {prog : Program} {w : World} {A : Around} {E : Value → Shared → Prop} {s : Shared} {a b : Value} {p q : PyData} {as bs : List Addr} {Q : Value → Shared → Prop}
theorem pair_best (bt : Nat → Nat → Bool) {v : Value} (h : (#[a, b] : Array Value)[argBest bt 1]? = some v) : v = if bt 1 0 = true then b else a := by
  have e : argBest bt 1 = if bt 1 0 = true then 1 else 0 := rfl
  rw [e] at h
  cases q : bt 1 0 <;> simp [q] at h ⊢ <;> exact h.symm
theorem pair_at (h : Heap) (o1 o2 : Value) : (h.push { cls := .type "tuple", data := .seq #[o1, o2] }).IsTuple h.objs.size #[o1, o2] := ⟨_, Heap.get?_push_size _ rfl, rfl, 0, rfl⟩
theorem two_max (calm : A.handled = none) (ra : Reads s.heap a p as) (rb : Reads s.heap b q bs) (al : AlikeAll [p, q]) (hu : A.units + 1 + PyData.depthAll [p, q] < cLine)
    (fin : ∀ g tk, (∀ c o, s.heap.get? c = some o → g.get? c = some o) → Q (if dataLt p q = true then b else a) { s with heap := g, toks := tk }) : wpAny (model prog w) A (call (.builtin "max") [a, b]) Q E s := by
  have old : ∀ c o, s.heap.get? c = some o → (s.heap.push { cls := .type "tuple", data := .seq #[a, b] }).get? c = some o := fun c o e => Heap.get?_push_of_some _ e
  have nm : (toString "max" ++ toString ".loop" : String) = "max.loop" := by decide
  have rd : ReadsAll (s.heap.push { cls := .type "tuple", data := .seq #[a, b] }) (#[a, b] : Array Value).toList [p, q] (as ++ (bs ++ [])) := .cons (reads_keeps old ra) (.cons (reads_keeps old rb) .nil)
  refine call_function_tree F.kind_max F.plain_max F.entry_max (F.args_max2 _ _) ?_
  refine (show wpAny _ A.in1 (Builtin.Builtins.bindParams "max" ["key", "default"] 0 ⟨[], []⟩ >>= _) _ _ s from wpAny_bind (wpAny_of_eq (a := [none, none]) rfl ?_))
  refine (show wpAny _ A.in1 (newTuple [a, b] >>= _) _ _ s from wpAny_bind (wpAny_newObj_type (wpAny_bind ?_)))
  refine iter_tupleW (A := A.in1) (s := { s with heap := s.heap.push { cls := .type "tuple", data := .seq #[a, b] } }) calm (pair_at s.heap a b) fun t te W st fp wr kp => wpAny_bind (wpAny_newObj_type ?_)
  rw [nm]
  refine wpAny_pure ⟨plainId_quiet F.plain_max_loop _, codeAny_max_loop_firstH W _ wr _ (cmpIn_gt (s := { s with heap := s.heap.push { cls := .type "tuple", data := .seq #[a, b] } }) (A := A.in1) rd al hu) t.heap.objs.size (fun z => Nat.lt_irrefl _ (fp _ z)) (fresh_in kp) _ (Nat.succ_pos 1) (fun c o e => Heap.get?_push_of_some _ (kp c o e)) (W.frame 0 t _ t.toks st (Nat.le_refl _) fun c _ o e => Heap.get?_push_of_some _ e) (Heap.get?_push_size _ rfl) ?_⟩
  intro v t2 hv mv
  obtain ⟨g, tk, e2, k2⟩ := moved_old (s := { s with heap := s.heap.push { cls := .type "tuple", data := .seq #[a, b] } }) te rfl (Moved.drop_new (tk := t.toks) mv (Nat.le_refl _))
  subst e2
  rw [pair_best _ hv]
  exact fin g tk fun c o e => k2 c o (old c o e)
theorem two_min (calm : A.handled = none) (ra : Reads s.heap a p as) (rb : Reads s.heap b q bs) (al : AlikeAll [p, q]) (hu : A.units + 1 + PyData.depthAll [p, q] < cLine)
    (fin : ∀ g tk, (∀ c o, s.heap.get? c = some o → g.get? c = some o) → Q (if dataLt q p = true then b else a) { s with heap := g, toks := tk }) : wpAny (model prog w) A (call (.builtin "min") [a, b]) Q E s := by
  have old : ∀ c o, s.heap.get? c = some o → (s.heap.push { cls := .type "tuple", data := .seq #[a, b] }).get? c = some o := fun c o e => Heap.get?_push_of_some _ e
  have nm : (toString "min" ++ toString ".loop" : String) = "min.loop" := by decide
  have rd : ReadsAll (s.heap.push { cls := .type "tuple", data := .seq #[a, b] }) (#[a, b] : Array Value).toList [p, q] (as ++ (bs ++ [])) := .cons (reads_keeps old ra) (.cons (reads_keeps old rb) .nil)
  refine call_function_tree F.kind_min F.plain_min F.entry_min (F.args_min2 _ _) ?_
  refine (show wpAny _ A.in1 (Builtin.Builtins.bindParams "min" ["key", "default"] 0 ⟨[], []⟩ >>= _) _ _ s from wpAny_bind (wpAny_of_eq (a := [none, none]) rfl ?_))
  refine (show wpAny _ A.in1 (newTuple [a, b] >>= _) _ _ s from wpAny_bind (wpAny_newObj_type (wpAny_bind ?_)))
  refine iter_tupleW (A := A.in1) (s := { s with heap := s.heap.push { cls := .type "tuple", data := .seq #[a, b] } }) calm (pair_at s.heap a b) fun t te W st fp wr kp => wpAny_bind (wpAny_newObj_type ?_)
  rw [nm]
  refine wpAny_pure ⟨plainId_quiet F.plain_min_loop _, codeAny_min_loop_firstH W _ wr _ (cmpIn_lt (s := { s with heap := s.heap.push { cls := .type "tuple", data := .seq #[a, b] } }) (A := A.in1) rd al hu) t.heap.objs.size (fun z => Nat.lt_irrefl _ (fp _ z)) (fresh_in kp) _ (Nat.succ_pos 1) (fun c o e => Heap.get?_push_of_some _ (kp c o e)) (W.frame 0 t _ t.toks st (Nat.le_refl _) fun c _ o e => Heap.get?_push_of_some _ e) (Heap.get?_push_size _ rfl) ?_⟩
  intro v t2 hv mv
  obtain ⟨g, tk, e2, k2⟩ := moved_old (s := { s with heap := s.heap.push { cls := .type "tuple", data := .seq #[a, b] } }) te rfl (Moved.drop_new (tk := t.toks) mv (Nat.le_refl _))
  subst e2
  rw [pair_best _ hv]
  exact fin g tk fun c o e => k2 c o (old c o e)
end
def notNon : PyData → Bool
  | .none => false
  | _ => true
theorem notNon_ok {p : PyData} (h : notNon p = true) : p ≠ .none := by
  rintro rfl
  exact absurd h (by decide)
/-- two data that are alike, not too deep -/
def alkB (p q : PyData) : Bool := alike p q && alike q p && alike p p && alike q q && notNon p && notNon q && decide (PyData.depthAll [p, q] ≤ 60)
theorem alk_ok {p q : PyData} (h : alkB p q = true) : AlikeAll [p, q] ∧ PyData.depthAll [p, q] ≤ 60 := by
  simp only [alkB, Bool.and_eq_true, decide_eq_true_eq] at h
  obtain ⟨⟨⟨⟨⟨⟨h1, h2⟩, h3⟩, h4⟩, h5⟩, h6⟩, h7⟩ := h
  refine ⟨⟨fun x hx y hy => ?_, fun x hx => ?_⟩, h7⟩
  · simp only [List.mem_cons, List.not_mem_nil, or_false] at hx hy
    rcases hx with rfl | rfl <;> rcases hy with rfl | rfl <;> assumption
  · simp only [List.mem_cons, List.not_mem_nil, or_false] at hx
    rcases hx with rfl | rfl
    · exact notNon_ok h5
    · exact notNon_ok h6
def fMaxT : List D → Sto → Option D
  | [d, e], S => match pyS d S, pyS e S with
    | some p, some q => if alkB p q = true then some (if dataLt p q = true then e else d) else none
    | _, _ => none
  | _, _ => none
def fMinT : List D → Sto → Option D
  | [d, e], S => match pyS d S, pyS e S with
    | some p, some q => if alkB p q = true then some (if dataLt q p = true then e else d) else none
    | _, _ => none
  | _, _ => none
section
variable {X : Cx}
theorem b_maxT (hc : X.calm = true) (hu : X.A.units + 65 < cLine) : CallR X (.builtin "max") (rOL X.K fMaxT) := by
  intro pins s σ H xs us Q I rx ⟨ds, S, m, r, si, hx, hf, hq⟩
  unfold fMaxT at hf
  split at hf
  · rename_i d e
    split at hf
    · rename_i p q q1 q2
      by_cases hb : alkB p q = true
      · rw [if_pos hb] at hf
        cases hx with
        | cons h1 hx =>
          cases hx with
          | cons h2 hx =>
            cases hx
            cases rx with
            | cons r1 rx =>
              cases rx with
              | cons r2 rx =>
                cases rx
                obtain ⟨al, dp⟩ := alk_ok hb
                obtain ⟨as, ra⟩ := Dp.reads I _ _ _ (dpS_of si h1 q1) r1
                obtain ⟨bs, rb⟩ := Dp.reads I _ _ _ (dpS_of si h2 q2) r2
                refine two_max (I.ok.hd hc) ra rb al (by omega) fun g tk kp => ?_
                by_cases lt : dataLt p q = true
                · rw [if_pos lt] at hf ⊢
                  cases hf
                  exact ⟨_, H, I.kept kp, r2, hq _ H .refl si h2⟩
                · rw [if_neg lt] at hf ⊢
                  cases hf
                  exact ⟨_, H, I.kept kp, r1, hq _ H .refl si h1⟩
      · rw [if_neg hb] at hf; cases hf
    · cases hf
  · cases hf
theorem b_minT (hc : X.calm = true) (hu : X.A.units + 65 < cLine) : CallR X (.builtin "min") (rOL X.K fMinT) := by
  intro pins s σ H xs us Q I rx ⟨ds, S, m, r, si, hx, hf, hq⟩
  unfold fMinT at hf
  split at hf
  · rename_i d e
    split at hf
    · rename_i p q q1 q2
      by_cases hb : alkB p q = true
      · rw [if_pos hb] at hf
        cases hx with
        | cons h1 hx =>
          cases hx with
          | cons h2 hx =>
            cases hx
            cases rx with
            | cons r1 rx =>
              cases rx with
              | cons r2 rx =>
                cases rx
                obtain ⟨al, dp⟩ := alk_ok hb
                obtain ⟨as, ra⟩ := Dp.reads I _ _ _ (dpS_of si h1 q1) r1
                obtain ⟨bs, rb⟩ := Dp.reads I _ _ _ (dpS_of si h2 q2) r2
                refine two_min (I.ok.hd hc) ra rb al (by omega) fun g tk kp => ?_
                by_cases lt : dataLt q p = true
                · rw [if_pos lt] at hf ⊢
                  cases hf
                  exact ⟨_, H, I.kept kp, r2, hq _ H .refl si h2⟩
                · rw [if_neg lt] at hf ⊢
                  cases hf
                  exact ⟨_, H, I.kept kp, r1, hq _ H .refl si h1⟩
      · rw [if_neg hb] at hf; cases hf
    · cases hf
  · cases hf
/-- max of a list of ints -/
def gMaxL (d : D) (S : Sto) : Option D := match (rdOf d S).bind isInts with
  | some (n :: ns) => some (.int (ns.foldl max n))
  | _ => none
theorem fold_max : ∀ (ns : List Int) (n : Int), ns.foldl max n ∈ n :: ns ∧ ∀ y ∈ n :: ns, y ≤ ns.foldl max n
  | [], n => by simp
  | k :: ns, n => by
    obtain ⟨h1, h2⟩ := fold_max ns (max n k)
    rw [List.foldl_cons]
    refine ⟨?_, fun y hy => ?_⟩
    · rcases List.mem_cons.mp h1 with e | e
      · rw [e]
        rcases Int.le_total n k with c | c
        · rw [Int.max_eq_right c]; simp
        · rw [Int.max_eq_left c]; simp
      · simp [e]
    · have h3 := h2 (max n k) (by simp)
      rcases List.mem_cons.mp hy with rfl | hy
      · exact Int.le_trans (Int.le_max_left _ _) h3
      · rcases List.mem_cons.mp hy with rfl | hy
        · exact Int.le_trans (Int.le_max_right _ _) h3
        · exact h2 y (by simp [hy])
theorem b_maxL (hc : X.calm = true) : CallR X (.builtin "max") (rOL X.K (f1 gMaxL)) := c1 fun pins s σ H x u Q d S m r I rx si hx hf hq => by
  unfold gMaxL at hf
  cases q : rdOf d S with
  | none => rw [q] at hf; cases hf
  | some l =>
    rw [q] at hf
    cases q2 : isInts l with
    | none => simp only [Option.bind_some, q2] at hf; cases hf
    | some ns =>
      simp only [Option.bind_some, q2] at hf
      cases ns with
      | nil => cases hf
      | cons n ns =>
        cases hf
        obtain ⟨a, vs, rfl, h1, h2⟩ := rd_at si hx q
        have e := ints_of h2 q2
        subst e
        obtain ⟨f1, f2⟩ := fold_max ns n
        refine cr_max hc pins s σ H _ _ Q I rx ⟨a, n :: ns, rfl, h1, by simp, fun k k1 k2 => ?_⟩
        have : k = ns.foldl max n := Int.le_antisymm (f2 k k1) (k2 _ f1)
        rw [this]
        exact hq _ H .refl si (.int _)
end
end Ag

/-! list(d.values()) -/
namespace Ag
open PySem PySem.Spec PyProof.Rows L2
theorem vals_items {es : Array DictEntry} {xs : List (NestedKey × Addr × Value)} {acc : Array Value} (hl : es.size = xs.length) (hv : ∀ (i : Nat) (hi : i < es.size) (x : NestedKey × Addr × Value), xs[i]? = some x → es[i].key = .ref x.2.1 ∧ es[i].val = x.2.2) (hi : ItemsOf (fun i v => ∃ h : i < es.size, v = es[i].val) acc es.size) : acc.toList = xs.map (·.2.2) := by
  obtain ⟨h1, h2⟩ := hi
  apply List.ext_getElem?
  intro i
  rw [Array.getElem?_toList, List.getElem?_map]
  cases q : acc[i]? with
  | none =>
    have : xs.length ≤ i := by
      have := Array.getElem?_eq_none_iff.mp q
      omega
    rw [List.getElem?_eq_none this]; rfl
  | some v =>
    obtain ⟨h, e⟩ := h2 i v q
    have hx : xs[i]? = some xs[i] := List.getElem?_eq_getElem (by omega)
    rw [hx, Option.map_some, e, (hv i h _ hx).2]
def tVals (td : TE) : TE := fun σ H Q => td σ H fun x H1 => ∃ (a : Addr) (o : Obj) (xs : List (NestedKey × Addr × Value)) (ws : List V), x = .ref a ∧ H1 a = some (DicO a o xs) ∧ Vals ws (xs.map (·.2.2)) ∧ xs.length ≤ sizeLine ∧ ∀ p, H1 p = none → Q (.ref p) (upd H1 p (.lst ws))
theorem pe_vals {X : Cx} {e : Expr} {td : TE} {p pos apos cpos : Pos} (hc : X.calm = true) (hg : Gl X "list") (hm : X.mg "list" = none) (he : PE X e td) (hbase : attributeBase e "values" X.env (eval e X.env) = eval e X.env := by rfl) (hline : (apos.endLine == cpos.line) = true := by rfl)
    (na : starEach [.Call (.Attribute e "values" apos) [] [] cpos] X.env = (false, eval (.Call (.Attribute e "values" apos) [] [] cpos) X.env) :: starEach [] X.env := by rfl) : PE X (.Call (.Name "list" p) [.Call (.Attribute e "values" apos) [] [] cpos] [] pos) (tVals td) := by
  constructor
  intro pins s σ H Q I h
  refine PyProof.Rows.Call_ (ld_blt I hg hm PyProof.Rows.boot_list (PyProof.Rows.callWith_type1 (args_cons ?_ na) na))
  refine wpAny_Call_method (T := "dict") (id := "dict.values") hbase rfl hline F.plainAttrs_dict F.slot_dict_values F.type_dict_values (thn (he.run pins s σ H _ I h) fun u s1 hu => ?_)
  obtain ⟨x, H1, I1, rx, a, o, xs, ws, rfl, ha, hv, hz, q⟩ := hu
  cases rx
  obtain ⟨h0, ho, es, ep, hx, hod, _⟩ := id (I1.hok a _ ha).1
  obtain ⟨raw, hl, hval⟩ := dic_raw I1 ha hod
  refine ⟨raw.typeIs, fun b hb => (by cases hb; exact ⟨o, ho, hx.2.1⟩), ?_⟩
  refine method_meetsIn F.slot_dict_values F.entry_dict_values rfl (PySem.evalArgs_none ⟨rfl, raw.typeIs, F.args_dict_values_1 _, _, meets_dict_values_raw a h0, ⟨⟨es, ep, raw⟩, args_nil ?_⟩⟩)
  have I2 := I1.kept (t' := s1.toks) (h' := s1.heap.push { cls := .type "dict_values", data := .fields #[.ref a] }) fun b ob z => Heap.get?_push_of_some _ z
  refine PySem.W.kdl_call (KdlSrc.rawValues (r := s1.heap.objs.size) (d := a) (es := es) (ep := ep)) (I1.ok.hd hc) ⟨⟨_, Heap.get?_push_size _ rfl, rfl, rfl⟩, raw.at fun ob z => Heap.get?_push_of_some _ z⟩ (by omega) fun g tk acc c kp eg hi => ?_
  refine ⟨.ref _, upd H1 _ (.lst ws), I2.laid (t' := tk) kp (Nat.le_refl _) (show ObjOk X.prog X.w _ _ _ (.lst ws) from ⟨?_, acc.toList, c, ?_, ?_⟩), rfl, q _ (I2.hok.fresh (Nat.le_refl _))⟩
  · have := hv.length
    rw [List.length_map] at this
    omega
  · rw [vals_items hl hval hi]; exact hv
  · rw [Array.toArray_toList]; exact eg
/-- list(d.values()), d a dict by value -/
def gVals (d : D) (_ : Sto) : Option D := match d with
  | .dct l => if l.length ≤ lineN then some (.lst (ods l)) else none
  | _ => none
theorem e_vals {X : Cx} {W : WX} {e : Expr} {me : EM} {p pos apos cpos : Pos} (hc : X.calm = true) (hg : Gl X "list") (hm : X.mg "list" = none) (he : PE X e (tE X.K W me)) (hbase : attributeBase e "values" X.env (eval e X.env) = eval e X.env := by rfl) (hline : (apos.endLine == cpos.line) = true := by rfl)
    (na : starEach [.Call (.Attribute e "values" apos) [] [] cpos] X.env = (false, eval (.Call (.Attribute e "values" apos) [] [] cpos) X.env) :: starEach [] X.env := by rfl) : PE X (.Call (.Name "list" p) [.Call (.Attribute e "values" apos) [] [] cpos] [] pos) (tE X.K W (mUn gVals me)) := by
  refine PE.imp (pe_vals hc hg hm he hbase hline na) ?_
  rintro σ H Q ⟨en, S, m, er, si, h⟩
  refine ⟨en, S, m, er, si, (PostG.bind (R := Rep X.K) h).mono ?_⟩
  rintro v H1 ⟨d, S1, m1, e1, s1, r1, h1⟩
  cases r1 with
  | dct g1 g2 g3 g4 =>
    rename_i l xs
    simp only [gVals] at h1
    by_cases hl : l.length ≤ lineN
    · rw [if_pos hl] at h1
      obtain ⟨ws, q1, q2, q3⟩ := g3.sides
      have n1 := g3.len
      refine ⟨_, _, _, ws, rfl, g1, q1, ?_, fun c hc => h1 _ m1 _ (.new hc) (s1.new hc) (.lst upd_same (s1.off hc) (q3.to (.new hc)))⟩
      rw [sizeLine_eq]
      unfold lineN at hl
      omega
    · rw [if_neg hl] at h1; exact h1.elim
  | _ => exact h1.elim
end Ag

/-! lots that hear apart, in plain Lean -/
namespace Ag
open PySem
open PySem.W (dataLt alike alikeAll keyToks keyToksAll)
/-- who is heard by some of a lot -/
def earsR (n : Nat) (w : List (List Int)) (A : List Nat) : List Nat := (List.range n).filter fun i => A.any fun m => decide (0 < (w.getD m []).getD i 0)
def meetR (A B : List Nat) : Bool := A.any fun m => decide (m ∈ B)
abbrev Pr := List Nat × List Nat
def pairD (P : Pr) : D := .tup [wordD P.1, wordD P.2]
def lotLt (A B : List Nat) : Bool := dataLt (wordP A) (wordP B)
def joinR (A B : List Nat) : Pr := (if lotLt B A = true then B else A, if lotLt A B = true then B else A)
theorem toks_inj : ∀ {A B : List Nat}, keyToksAll (A.map fun (k : Nat) => PyData.int (k : Int)) = keyToksAll (B.map fun (k : Nat) => PyData.int (k : Int)) → A = B
  | [], [], _ => rfl
  | [], b :: B, h => by simp [keyToksAll] at h
  | a :: A, [], h => by simp [keyToksAll] at h
  | a :: A, b :: B, h => by
    simp only [List.map_cons, keyToksAll, keyToks, List.cons_append, List.nil_append, List.cons.injEq, Sum.inl.injEq, true_and] at h
    rw [toks_inj h.2, Int.ofNat_inj.mp h.1]
theorem lot_asym {A B : List Nat} (h : lotLt A B = true) : lotLt B A = false := by
  cases q : lotLt B A with
  | false => rfl
  | true =>
    have t := PyProof.Rows.lex_trans _ _ _ h q
    rw [PyProof.Rows.lex_irrefl] at t
    exact t.symm
theorem lot_tot {A B : List Nat} (h1 : lotLt A B = false) (h2 : lotLt B A = false) : A = B := toks_inj (PyProof.Rows.lex_total _ _ h1 h2)
theorem join_or {A B : List Nat} (h : A ≠ B) : joinR A B = (A, B) ∨ joinR A B = (B, A) := by
  unfold joinR
  cases q : lotLt A B with
  | true => rw [lot_asym q]; exact .inl rfl
  | false =>
    cases p : lotLt B A with
    | true => exact .inr rfl
    | false => exact absurd (lot_tot q p) h
theorem alike_ints : ∀ A B : List Nat, alikeAll (A.map fun (k : Nat) => PyData.int (k : Int)) (B.map fun (k : Nat) => PyData.int (k : Int)) = true
  | [], [] => rfl
  | [], b :: B => rfl
  | a :: A, [] => rfl
  | a :: A, b :: B => by simp only [List.map_cons, alikeAll, alike, Bool.true_and]; exact alike_ints A B
theorem depth_word (A : List Nat) : (wordP A).depth ≤ 1 := by
  have : PyData.depthAll (A.map fun (k : Nat) => PyData.int (k : Int)) = 0 := by
    have := (lay_ints (A.map fun (k : Nat) => (k : Int))).2
    rw [List.map_map] at this
    exact this
  show PyData.depth (.tuple _) ≤ 1
  simp only [PyData.depth, this]; decide
theorem alk_word (A B : List Nat) : alkB (wordP A) (wordP B) = true := by
  have h := fun A B : List Nat => (show alike (wordP A) (wordP B) = alikeAll _ _ from rfl).trans (alike_ints A B)
  have d : PyData.depthAll [wordP A, wordP B] ≤ 60 := by
    have h1 := depth_word A
    have h2 := depth_word B
    simp only [PyData.depthAll]
    omega
  simp only [alkB, h, Bool.true_and, decide_eq_true d, Bool.and_true]
  rfl
theorem min_lots (A B : List Nat) (S : Sto) : fMinT [wordD A, wordD B] S = some (wordD (joinR A B).1) := by
  simp only [fMinT, pyS_py (py_word A), pyS_py (py_word B), alk_word, if_true, joinR]
  rw [show dataLt (wordP B) (wordP A) = lotLt B A from rfl]
  by_cases h : lotLt B A = true
  · rw [if_pos h, if_pos h]
  · rw [if_neg h, if_neg h]
theorem max_lots (A B : List Nat) (S : Sto) : fMaxT [wordD A, wordD B] S = some (wordD (joinR A B).2) := by
  simp only [fMaxT, pyS_py (py_word A), pyS_py (py_word B), alk_word, if_true, joinR]
  rw [show dataLt (wordP A) (wordP B) = lotLt A B from rfl]
  by_cases h : lotLt A B = true
  · rw [if_pos h, if_pos h]
  · rw [if_neg h, if_neg h]
theorem meet_comm (A B : List Nat) : meetR A B = meetR B A := by
  have : ∀ A B : List Nat, meetR A B = true → meetR B A = true := fun A B h => by
    obtain ⟨m, h1, h2⟩ := List.any_eq_true.mp h
    exact List.any_eq_true.mpr ⟨m, of_decide_eq_true h2, decide_eq_true h1⟩
  cases q : meetR A B with
  | true => rw [this A B q]
  | false =>
    cases p : meetR B A with
    | false => rfl
    | true => rw [this B A p] at q; cases q
theorem meet_false {A B : List Nat} : meetR A B = false ↔ ∀ m ∈ A, m ∉ B := by
  unfold meetR
  rw [List.any_eq_false]
  simp
section
variable (n : Nat) (ws : List (List (List Int)))
/-- the steps from a pair -/
def stepR (P : Pr) : List (Nat × Pr) := ((List.range ws.length).filter fun a => !meetR (earsR n (ws.getD a []) P.1) (earsR n (ws.getD a []) P.2)).map fun a => (a, joinR (earsR n (ws.getD a []) P.1) (earsR n (ws.getD a []) P.2))
/-- lots that stay apart through the ways p -/
def Apt (A B : List Nat) : List Nat → Prop
  | [] => meetR A B = false
  | a :: p => meetR A B = false ∧ Apt (earsR n (ws.getD a []) A) (earsR n (ws.getD a []) B) p
/-- there is a row of k steps -/
def Rn : Nat → Pr → Prop
  | 0, _ => True
  | k + 1, P => ∃ a Q, (a, Q) ∈ stepR n ws P ∧ Rn k Q
def startR (n : Nat) : List Pr := (List.range n).flatMap fun j => (List.range j).map fun i => ([i], [j])
/-- two minds are apart after some word of d days -/
def Ap (d : Nat) : Prop := ∃ i j p, i < n ∧ j < n ∧ i ≠ j ∧ p.length = d ∧ (∀ k ∈ p, k < ws.length) ∧ Apt n ws [i] [j] p
inductive Rc : Pr → Prop
  | start {P : Pr} : P ∈ startR n → Rc P
  | step {P Q : Pr} {a : Nat} : Rc P → (a, Q) ∈ stepR n ws P → Rc Q
end
structure Lot (n : Nat) (A : List Nat) : Prop where
  ne : A ≠ []
  lt : ∀ m ∈ A, m < n
  sub : ∃ f : Nat → Bool, A = (List.range n).filter f
structure Pok (n : Nat) (P : Pr) : Prop where
  one : Lot n P.1
  two : Lot n P.2
  ap : meetR P.1 P.2 = false
section
variable {n : Nat} {ws : List (List (List Int))}
theorem Apt.symm : ∀ {p A B : List Nat}, Apt n ws A B p → Apt n ws B A p
  | [], A, B, h => by
    show meetR B A = false
    rw [meet_comm]; exact h
  | a :: p, A, B, h => by
    refine ⟨?_, h.2.symm⟩
    rw [meet_comm]; exact h.1
theorem Apt.head : ∀ {p A B : List Nat}, Apt n ws A B p → meetR A B = false
  | [], _, _, h => h
  | _ :: _, _, _, h => h.1
theorem mem_step {P Q : Pr} {a : Nat} : (a, Q) ∈ stepR n ws P ↔ a < ws.length ∧ meetR (earsR n (ws.getD a []) P.1) (earsR n (ws.getD a []) P.2) = false ∧ Q = joinR (earsR n (ws.getD a []) P.1) (earsR n (ws.getD a []) P.2) := by
  unfold stepR
  rw [List.mem_map]
  constructor
  · rintro ⟨b, hb, e⟩
    obtain ⟨h1, h2⟩ := List.mem_filter.mp hb
    cases e
    exact ⟨List.mem_range.mp h1, by simpa using h2, rfl⟩
  · rintro ⟨h1, h2, rfl⟩
    exact ⟨a, List.mem_filter.mpr ⟨List.mem_range.mpr h1, by rw [h2]; rfl⟩, rfl⟩
theorem pos_at : ∀ {r : List Int}, (∀ w ∈ r, 0 ≤ w) → 0 < r.sum → ∃ i, i < r.length ∧ 0 < r.getD i 0
  | [], _, h => by simp at h
  | x :: r, h0, h => by
    by_cases hx : 0 < x
    · exact ⟨0, by simp, by simpa using hx⟩
    · have := h0 x (by simp)
      rw [List.sum_cons] at h
      obtain ⟨i, h1, h2⟩ := pos_at (r := r) (fun w hw => h0 w (by simp [hw])) (by omega)
      exact ⟨i + 1, by simpa using h1, by simpa using h2⟩
theorem row_of {w : List (List Int)} (hw : WayOk n w) {m : Nat} (hm : m < n) : RowOk n (w.getD m []) := by
  have h : m < w.length := by rw [hw.len]; exact hm
  have e : w.getD m [] = w[m] := by simp [List.getD, List.getElem?_eq_getElem h]
  rw [e]
  exact hw.row _ (List.getElem_mem h)
theorem mem_ears {w : List (List Int)} {A : List Nat} {i : Nat} : i ∈ earsR n w A ↔ i < n ∧ ∃ m ∈ A, 0 < (w.getD m []).getD i 0 := by
  unfold earsR
  rw [List.mem_filter, List.mem_range, List.any_eq_true]
  simp
theorem lot_ears {w : List (List Int)} (hw : WayOk n w) {A : List Nat} (h : Lot n A) : Lot n (earsR n w A) := by
  refine ⟨fun z => ?_, fun m hm => (mem_ears.mp hm).1, _, rfl⟩
  obtain ⟨m, hm⟩ := List.exists_mem_of_ne_nil _ h.ne
  have r := row_of hw (h.lt m hm)
  obtain ⟨i, h1, h2⟩ := pos_at (fun w hw => (r.in_ w hw).1) r.pos
  have : i ∈ earsR n w A := mem_ears.mpr ⟨by rw [← r.len]; exact h1, m, hm, h2⟩
  rw [z] at this
  simp at this
theorem ne_of_apart {A B : List Nat} (hA : Lot n A) (h : meetR A B = false) : A ≠ B := by
  rintro rfl
  obtain ⟨m, hm⟩ := List.exists_mem_of_ne_nil _ hA.ne
  exact meet_false.mp h m hm hm
theorem pok_step (hw : ∀ w ∈ ws, WayOk n w) {P Q : Pr} {a : Nat} (h : Pok n P) (hs : (a, Q) ∈ stepR n ws P) : Pok n Q ∧ (Q = (earsR n (ws.getD a []) P.1, earsR n (ws.getD a []) P.2) ∨ Q = (earsR n (ws.getD a []) P.2, earsR n (ws.getD a []) P.1)) := by
  obtain ⟨ha, hm, e⟩ := mem_step.mp hs
  have wa := hw _ (getD_mem ha).1
  have l1 := lot_ears wa h.one
  have l2 := lot_ears wa h.two
  rcases join_or (ne_of_apart l1 hm) with q | q
  · rw [q] at e; subst e; exact ⟨⟨l1, l2, hm⟩, .inl rfl⟩
  · rw [q] at e; subst e; exact ⟨⟨l2, l1, by rw [meet_comm]; exact hm⟩, .inr rfl⟩
theorem rn_apt (hw : ∀ w ∈ ws, WayOk n w) : ∀ {k : Nat} {P : Pr}, Pok n P → (Rn n ws k P ↔ ∃ p, p.length = k ∧ (∀ a ∈ p, a < ws.length) ∧ Apt n ws P.1 P.2 p)
  | 0, P, h => ⟨fun _ => ⟨[], rfl, by simp, h.ap⟩, fun _ => trivial⟩
  | k + 1, P, h => by
    constructor
    · rintro ⟨a, Q, hs, r⟩
      obtain ⟨pq, hq⟩ := pok_step hw h hs
      obtain ⟨p, l, hp, ap⟩ := (rn_apt hw pq).mp r
      have ha := (mem_step.mp hs).1
      refine ⟨a :: p, by simp [l], fun b hb => ?_, h.ap, ?_⟩
      · rcases List.mem_cons.mp hb with rfl | hb
        · exact ha
        · exact hp b hb
      · rcases hq with e | e
        · rw [e] at ap; exact ap
        · rw [e] at ap; exact ap.symm
    · rintro ⟨p, l, hp, ap⟩
      cases p with
      | nil => simp at l
      | cons a p =>
        have ha := hp a (by simp)
        have hs : (a, joinR (earsR n (ws.getD a []) P.1) (earsR n (ws.getD a []) P.2)) ∈ stepR n ws P := mem_step.mpr ⟨ha, ap.2.head, rfl⟩
        obtain ⟨pq, hq⟩ := pok_step hw h hs
        refine ⟨a, _, hs, (rn_apt hw pq).mpr ⟨p, by simpa using l, fun b hb => hp b (by simp [hb]), ?_⟩⟩
        rcases hq with e | e
        · rw [e]; exact ap.2
        · rw [e]; exact ap.2.symm
theorem rn_down : ∀ {k : Nat} {P : Pr}, Rn n ws (k + 1) P → Rn n ws k P
  | 0, _, _ => trivial
  | k + 1, P, h => by
    obtain ⟨a, Q, hs, r⟩ := h
    exact ⟨a, Q, hs, rn_down r⟩
theorem rn_le {j k : Nat} {P : Pr} (h : Rn n ws k P) (hj : j ≤ k) : Rn n ws j P := by
  induction k with
  | zero => rw [Nat.le_zero.mp hj]; trivial
  | succ k ih =>
    rcases Nat.lt_or_ge k j with c | c
    · rw [show j = k + 1 by omega]; exact h
    · exact ih (rn_down h) c
theorem mem_start {P : Pr} : P ∈ startR n ↔ ∃ i j, i < j ∧ j < n ∧ P = ([i], [j]) := by
  unfold startR
  rw [List.mem_flatMap]
  constructor
  · rintro ⟨j, hj, h⟩
    obtain ⟨i, hi, rfl⟩ := List.mem_map.mp h
    exact ⟨i, j, List.mem_range.mp hi, List.mem_range.mp hj, rfl⟩
  · rintro ⟨i, j, h1, h2, rfl⟩
    exact ⟨j, List.mem_range.mpr h2, List.mem_map.mpr ⟨i, List.mem_range.mpr h1, rfl⟩⟩
theorem lot_one' {i : Nat} (h : i < n) : Lot n [i] := by
  refine ⟨by simp, fun m hm => ?_, fun k => decide (k = i), ?_⟩
  · have : m = i := by simpa using hm
    omega
  · have : ∀ n, i < n → (List.range n).filter (fun k => decide (k = i)) = [i] := by
      intro n
      induction n with
      | zero => intro h; omega
      | succ n ih =>
        intro h
        rw [List.range_succ, List.filter_append]
        by_cases e : n = i
        · subst e
          have : (List.range n).filter (fun k => decide (k = n)) = [] := by
            rw [List.filter_eq_nil_iff]
            intro k hk
            have := List.mem_range.mp hk
            simp; omega
          rw [this]; simp
        · rw [ih (by omega)]
          simp [e]
    exact (this n h).symm
theorem pok_start {P : Pr} (h : P ∈ startR n) : Pok n P := by
  obtain ⟨i, j, h1, h2, rfl⟩ := mem_start.mp h
  refine ⟨lot_one' (by omega), lot_one' h2, meet_false.mpr fun m hm hm2 => ?_⟩
  have e1 : m = i := by simpa using hm
  have e2 : m = j := by simpa using hm2
  omega
theorem pok_rc (hw : ∀ w ∈ ws, WayOk n w) {P : Pr} (h : Rc n ws P) : Pok n P := by
  induction h with
  | start h => exact pok_start h
  | step _ hs ih => exact (pok_step hw ih hs).1
theorem ap_rn (hw : ∀ w ∈ ws, WayOk n w) {d : Nat} : Ap n ws d ↔ ∃ P ∈ startR n, Rn n ws d P := by
  constructor
  · rintro ⟨i, j, p, hi, hj, hne, l, hp, ap⟩
    rcases Nat.lt_or_gt_of_ne hne with c | c
    · have hs := mem_start.mpr ⟨i, j, c, hj, rfl⟩
      exact ⟨_, hs, (rn_apt hw (pok_start hs)).mpr ⟨p, l, hp, ap⟩⟩
    · have hs := mem_start.mpr ⟨j, i, c, hi, rfl⟩
      exact ⟨_, hs, (rn_apt hw (pok_start hs)).mpr ⟨p, l, hp, ap.symm⟩⟩
  · rintro ⟨P, hs, r⟩
    obtain ⟨p, l, hp, ap⟩ := (rn_apt hw (pok_start hs)).mp r
    obtain ⟨i, j, h1, h2, rfl⟩ := mem_start.mp hs
    exact ⟨i, j, p, by omega, h2, by omega, l, hp, ap⟩
theorem rc_rn {P : Pr} (h : Rc n ws P) : ∀ {k : Nat}, Rn n ws k P → ∃ P0 ∈ startR n, Rn n ws k P0 := by
  induction h with
  | start h => exact fun r => ⟨_, h, r⟩
  | @step P Q a _ hs ih => exact fun {k} r => ih (rn_down (k := k) ⟨a, Q, hs, r⟩)
theorem ap_le (hw : ∀ w ∈ ws, WayOk n w) {d e : Nat} (h : Ap n ws d) (he : e ≤ d) : Ap n ws e := by
  obtain ⟨P, hs, r⟩ := (ap_rn hw).mp h
  exact (ap_rn hw).mpr ⟨P, hs, rn_le r he⟩
end
/-! pigeons -/
theorem nodup_len {α : Type} [DecidableEq α] : ∀ {l m : List α}, l.Nodup → (∀ x ∈ l, x ∈ m) → l.length ≤ m.length
  | [], _, _, _ => Nat.zero_le _
  | x :: l, m, h, s => by
    obtain ⟨h1, h2⟩ := List.nodup_cons.mp h
    have hx := s x (by simp)
    have := nodup_len (m := m.erase x) h2 fun y hy => (List.mem_erase_of_ne (by intro e; rw [← e] at h1; exact h1 hy)).mpr (s y (by simp [hy]))
    have e := List.length_erase_of_mem hx
    have p := List.length_pos_of_mem hx
    rw [List.length_cons]
    omega
theorem nodup_all {α : Type} [DecidableEq α] {l m : List α} (h : l.Nodup) (s : ∀ x ∈ l, x ∈ m) (hl : m.length ≤ l.length) : ∀ x ∈ m, x ∈ l := fun x hx => by
  by_cases c : x ∈ l
  · exact c
  · have := nodup_len (l := x :: l) (m := m) (List.nodup_cons.mpr ⟨c, h⟩) fun y hy => by
      rcases List.mem_cons.mp hy with rfl | hy
      · exact hx
      · exact s y hy
    rw [List.length_cons] at this
    omega
def subsR {α : Type} : List α → List (List α)
  | [] => [[]]
  | a :: l => subsR l ++ (subsR l).map (a :: ·)
theorem subs_len {α : Type} : ∀ l : List α, (subsR l).length = 2 ^ l.length
  | [] => rfl
  | a :: l => by simp [subsR, subs_len l, Nat.pow_succ]; omega
theorem subs_filter {α : Type} (f : α → Bool) : ∀ l : List α, l.filter f ∈ subsR l
  | [] => by simp [subsR]
  | a :: l => by
    have := subs_filter f l
    simp only [subsR, List.mem_append, List.mem_map, List.filter_cons]
    cases f a
    · exact .inl this
    · exact .inr ⟨_, this, rfl⟩
def prsR (n : Nat) : List Pr := (subsR (List.range n)).flatMap fun A => (subsR (List.range n)).map fun B => (A, B)
theorem prs_len {n : Nat} (h : n ≤ 6) : (prsR n).length ≤ 4096 := by
  have : (prsR n).length = (subsR (List.range n)).length * (subsR (List.range n)).length := len_flat fun A _ => by rw [List.length_map]
  rw [this, subs_len, List.length_range]
  have h1 : 2 ^ n ≤ 2 ^ 6 := Nat.pow_le_pow_right (by decide) h
  exact Nat.mul_le_mul h1 h1
theorem prs_mem {n : Nat} {P : Pr} (h : Pok n P) : P ∈ prsR n := by
  obtain ⟨f, hf⟩ := h.one.sub
  obtain ⟨g, hg⟩ := h.two.sub
  refine List.mem_flatMap.mpr ⟨P.1, by rw [hf]; exact subs_filter f _, List.mem_map.mpr ⟨P.2, by rw [hg]; exact subs_filter g _, rfl⟩⟩
theorem prs_bound {n : Nat} (h6 : n ≤ 6) {ps : List Pr} (hn : ps.Nodup) (h : ∀ P ∈ ps, Pok n P) : ps.length ≤ 4096 := Nat.le_trans (nodup_len hn fun P hP => prs_mem (h P hP)) (prs_len h6)
/-! what the two searches give -/
structure Stp (n : Nat) (ws : List (List (List Int))) (ps : List Pr) : Prop where
  nd : ps.Nodup
  rc : ∀ P ∈ ps, Rc n ws P
  st : ∀ P ∈ startR n, P ∈ ps
  cl : ∀ P ∈ ps, ∀ a Q, (a, Q) ∈ stepR n ws P → Q ∈ ps
structure Lng (n : Nat) (ws : List (List (List Int))) (ps : List Pr) (fs : List (Pr × Nat)) : Prop where
  nd : (fs.map (·.1)).Nodup
  sub : ∀ q ∈ fs, q.1 ∈ ps
  at_ : ∀ q ∈ fs, Rn n ws q.2 q.1 ∧ ¬ Rn n ws (q.2 + 1) q.1
  bd : ∀ q ∈ fs, q.2 < fs.length
def LngE (n : Nat) (ws : List (List (List Int))) (ps : List Pr) (fs : List (Pr × Nat)) : Prop := ∀ P ∈ ps, P ∉ fs.map (·.1) → ∃ a Q, (a, Q) ∈ stepR n ws P ∧ Q ∉ fs.map (·.1)
theorem lng_none {n : Nat} {ws : List (List (List Int))} (hw : ∀ w ∈ ws, WayOk n w) {ps : List Pr} {fs : List (Pr × Nat)} (s : Stp n ws ps) (l : Lng n ws ps fs) (e : LngE n ws ps fs) (h : fs.length < ps.length) (d : Nat) : Ap n ws d := by
  have ⟨P, hP, hn⟩ : ∃ P ∈ ps, P ∉ fs.map (·.1) := by
    by_cases c : ∃ P ∈ ps, P ∉ fs.map (·.1)
    · exact c
    · have : ∀ P ∈ ps, P ∈ fs.map (·.1) := fun P hP => by
        by_cases z : P ∈ fs.map (·.1)
        · exact z
        · exact absurd ⟨P, hP, z⟩ c
      have := nodup_len s.nd this
      rw [List.length_map] at this
      omega
  have : ∀ d P, P ∈ ps → P ∉ fs.map (·.1) → Rn n ws d P := by
    intro d
    induction d with
    | zero => intro P _ _; trivial
    | succ d ih =>
      intro P hP hn
      obtain ⟨a, Q, h1, h2⟩ := e P hP hn
      exact ⟨a, Q, h1, ih Q (s.cl P hP a Q h1) h2⟩
  exact (ap_rn hw).mpr (rc_rn (s.rc P hP) (this d P hP hn))
theorem lng_some {n : Nat} {ws : List (List (List Int))} (hw : ∀ w ∈ ws, WayOk n w) {ps : List Pr} {fs : List (Pr × Nat)} (s : Stp n ws ps) (l : Lng n ws ps fs) (h : ps.length ≤ fs.length) {M : Nat} (hM : ∃ q ∈ fs, q.2 = M) (hm : ∀ q ∈ fs, q.2 ≤ M) : Ap n ws M ∧ ¬ Ap n ws (M + 1) := by
  constructor
  · obtain ⟨q, hq, rfl⟩ := hM
    exact (ap_rn hw).mpr (rc_rn (s.rc _ (l.sub q hq)) (l.at_ q hq).1)
  · intro z
    obtain ⟨P, hs, r⟩ := (ap_rn hw).mp z
    have hP := nodup_all l.nd (m := ps) (fun P hP => by
      obtain ⟨q, hq, rfl⟩ := List.mem_map.mp hP
      exact l.sub q hq) (by rw [List.length_map]; exact h) P (s.st P hs)
    obtain ⟨q, hq, rfl⟩ := List.mem_map.mp hP
    exact (l.at_ q hq).2 (rn_le r (by have := hm q hq; omega))
/-- the days needed -/
structure Days (n : Nat) (ws : List (List (List Int))) (r : Option Nat) : Prop where
  non : r = none → ∀ d, Ap n ws d
  som : ∀ D, r = some D → ¬ Ap n ws D ∧ (D = 0 ∨ Ap n ws (D - 1))
  le : ∀ D, r = some D → D ≤ 5000
end Ag

/-! dicts of pairs of lots, as plain data -/
namespace Ag
open PySem
theorem scop_lst {f : List D → Sto → Res D} {ds : List D} {S : Sto} {l : List D} (hS : Cl S) (hl : ∀ d ∈ l, Nr d) (h : (f ds S).sat fun d S' => ∃ j, d = .ref j ∧ S.length ≤ j ∧ S'[j]? = some (.lst l) ∧ S'.take S.length = S) : scop f ds S = .ok (.lst l) S := by
  refine sat_eq (f_scop (h.mono ?_))
  rintro d S' ⟨j, rfl, h1, h2, h3⟩
  rw [h3, frz_cell h1 h2 hl, os_some]
  exact ⟨cl_all hS _, rfl, rfl⟩
theorem scop_dic {f : List D → Sto → Res D} {ds : List D} {S : Sto} {P : List D → Prop} (hS : Cl S) (h : (f ds S).sat fun d S' => ∃ j l, d = .ref j ∧ S.length ≤ j ∧ S'[j]? = some (.dic l) ∧ (∀ d ∈ l, Nr d) ∧ P l ∧ S'.take S.length = S) : ∃ l, scop f ds S = .ok (.dct l) S ∧ P l := by
  suffices q : (scop f ds S).sat fun d S' => ∃ l, d = .dct l ∧ P l ∧ S' = S by
    obtain ⟨d, S', e, l, rfl, hp, rfl⟩ := q.eq
    exact ⟨l, e, hp⟩
  refine f_scop (h.mono ?_)
  rintro d S' ⟨j, l, rfl, h1, h2, h4, hp, h3⟩
  have e : frzD S.length S' (.ref j) = some (.dct l) := by
    simp only [frzD, frzF, if_neg (Nat.not_lt.mpr h1), h2, nrs h4 S.length, if_true]
  rw [h3, e, os_some]
  exact ⟨cl_all hS _, l, rfl, hp, rfl⟩
theorem bls_map {α : Type} (f : α → Bool) : ∀ l : List α, isBls (l.map fun x => .bl (f x)) = some (l.map f)
  | [] => rfl
  | x :: l => by simp [isBls, bls_map f l]
theorem any_map {α : Type} (f : α → Bool) (l : List α) (S : Sto) : gAny (.lst (l.map fun x => .bl (f x))) S = some (.bl (l.any f)) := by
  have e : gAny (.lst (l.map fun x => .bl (f x))) S = ((rdOf (.lst (l.map fun x => .bl (f x))) S).bind isBls).map fun bs => .bl (bs.any id) := rfl
  rw [e]
  simp [rdOf, lstOf, bls_map]
theorem all_map {α : Type} (f : α → Bool) (l : List α) (S : Sto) : gAll (.lst (l.map fun x => .bl (f x))) S = some (.bl (l.all f)) := by
  have e : gAll (.lst (l.map fun x => .bl (f x))) S = ((rdOf (.lst (l.map fun x => .bl (f x))) S).bind isBls).map fun bs => .bl (bs.all id) := rfl
  rw [e]
  simp [rdOf, lstOf, bls_map]
theorem in_word (k : Nat) (B : List Nat) (S : Sto) : fIn (.int (k : Int)) (wordD B) S = some (.bl (decide (k ∈ B))) := in_ixT k B S
theorem dp_pair (P : Pr) : Dp 2 (pairD P) := dp_tup fun d hd => by
  simp only [List.mem_cons, List.not_mem_nil, or_false] at hd
  rcases hd with rfl | rfl <;> exact dp_word _
theorem nr_pair (P : Pr) : Nr (pairD P) := nr_tup fun d hd => by
  simp only [List.mem_cons, List.not_mem_nil, or_false] at hd
  rcases hd with rfl | rfl <;> exact nr_word _
theorem ne_lnil {l : List D} (h : Pl (.lst l)) (S : Sto) : fNe (.lst l) (.lst []) S = some (.bl (!l.isEmpty)) := by
  cases l with
  | nil => exact ne_same h S
  | cons d l =>
    obtain ⟨p, h1, h2⟩ := h
    have e1 := pyS_py (S := S) h1
    obtain ⟨ps, hp, rfl⟩ := Option.map_eq_some_iff.mp (show (D.pys (d :: l)).map PyData.list = some p from h1)
    have e2 : pyS (.lst []) S = some (.list []) := rfl
    have s2 : SeqAt.shaped (.list []) = true := rfl
    show neD _ _ S = _
    simp only [neD, e1, e2, h2, s2, and_self, if_true]
    cases ps with
    | nil =>
      simp only [D.pys] at hp
      cases hd : d.py <;> simp [hd] at hp
      cases hl : D.pys l <;> simp [hl] at hp
    | cons a as => rfl
/-! keys -/
def keyP (P : Pr) : NestedKey := .tup [.tup (P.1.map fun (k : Nat) => .num (k : Int)), .tup (P.2.map fun (k : Nat) => .num (k : Int))]
theorem key_ints (f : Nat) : ∀ A : List Nat, optK (keyF f) (A.map fun (k : Nat) => .int (k : Int)) = some (A.map fun (k : Nat) => .num (k : Int))
  | [] => rfl
  | a :: A => by
    have : keyF f (.int (a : Int)) = some (.num (a : Int)) := by cases f <;> rfl
    simp [optK, this, key_ints f A]
theorem key_pair (P : Pr) : keyT (pairD P) = some (keyP P) := by
  have h : ∀ A : List Nat, keyF 3 (wordD A) = some (.tup (A.map fun (k : Nat) => .num (k : Int))) := fun A => by
    show (optK (keyF 2) (A.map fun (k : Nat) => D.int (k : Int))).map NestedKey.tup = _
    rw [key_ints]; rfl
  show (optK (keyF 3) [wordD P.1, wordD P.2]).map NestedKey.tup = _
  simp [optK, h, keyP]
theorem num_inj : ∀ {A B : List Nat}, (A.map fun (k : Nat) => NestedKey.num (k : Int)) = (B.map fun (k : Nat) => NestedKey.num (k : Int)) → A = B
  | [], [], _ => rfl
  | [], b :: B, h => by simp at h
  | a :: A, [], h => by simp at h
  | a :: A, b :: B, h => by
    simp only [List.map_cons, List.cons.injEq, NestedKey.num.injEq] at h
    rw [num_inj h.2, Int.ofNat_inj.mp h.1]
theorem keyP_inj {P Q : Pr} (h : keyP P = keyP Q) : P = Q := by
  unfold keyP at h
  simp only [NestedKey.tup.injEq, List.cons.injEq, and_true] at h
  exact Prod.ext (num_inj h.1) (num_inj h.2)
theorem keyD_pair (P : Pr) : keyD (pairD P) = some (keyP P) := key_pair P
/-! the entries -/
def dicA (xs : List (Pr × D)) : List D := xs.flatMap fun q => [pairD q.1, q.2]
def lookP (Q : Pr) (xs : List (Pr × D)) : Option D := (xs.find? fun q => decide (q.1 = Q)).map (·.2)
theorem look_A (Q : Pr) : ∀ xs : List (Pr × D), lookK (keyP Q) (dicA xs) = lookP Q xs
  | [] => rfl
  | q :: xs => by
    show (if keyD (pairD q.1) = some (keyP Q) then some q.2 else lookK (keyP Q) (dicA xs)) = _
    rw [keyD_pair, look_A Q xs]
    unfold lookP
    by_cases e : q.1 = Q
    · rw [if_pos (by rw [e]), List.find?_cons_of_pos (by simp [e])]; rfl
    · rw [if_neg (fun z => e (keyP_inj (Option.some.inj z))), List.find?_cons_of_neg (by simp [e])]
theorem lookP_some (Q : Pr) (xs : List (Pr × D)) : (lookP Q xs).isSome = decide (Q ∈ xs.map (·.1)) := by
  unfold lookP
  rw [Option.isSome_map]
  by_cases h : Q ∈ xs.map (·.1)
  · rw [decide_eq_true h, List.find?_isSome]
    obtain ⟨q, hq, rfl⟩ := List.mem_map.mp h
    exact ⟨q, hq, by simp⟩
  · rw [decide_eq_false h]
    rw [Bool.eq_false_iff]
    intro z
    rw [List.find?_isSome] at z
    obtain ⟨q, hq, e⟩ := z
    exact h (List.mem_map.mpr ⟨q, hq, by simpa using e⟩)
theorem lookP_at {Q : Pr} {v : D} : ∀ {xs : List (Pr × D)}, (xs.map (·.1)).Nodup → (Q, v) ∈ xs → lookP Q xs = some v
  | [], _, h => by simp at h
  | q :: xs, hn, h => by
    rw [List.map_cons] at hn
    obtain ⟨h1, h2⟩ := List.nodup_cons.mp hn
    unfold lookP
    rcases List.mem_cons.mp h with rfl | h
    · rw [List.find?_cons_of_pos (by simp)]; rfl
    · have ne : q.1 ≠ Q := fun e => h1 (by rw [e]; exact List.mem_map.mpr ⟨_, h, rfl⟩)
      rw [List.find?_cons_of_neg (by simp [ne])]
      exact lookP_at h2 h
theorem A_len (xs : List (Pr × D)) : (dicA xs).length = 2 * xs.length := by
  induction xs with
  | nil => rfl
  | cons q xs ih =>
    show (pairD q.1 :: q.2 :: dicA xs).length = _
    rw [List.length_cons, List.length_cons, List.length_cons, ih]
    omega
theorem A_app (xs ys : List (Pr × D)) : dicA (xs ++ ys) = dicA xs ++ dicA ys := by simp [dicA]
theorem A_evs : ∀ xs : List (Pr × D), evs (dicA xs) = xs.map fun q => pairD q.1
  | [] => rfl
  | q :: xs => by
    show pairD q.1 :: evs (dicA xs) = _
    rw [A_evs xs]; rfl
theorem A_ods : ∀ xs : List (Pr × D), ods (dicA xs) = xs.map (·.2)
  | [] => rfl
  | q :: xs => by
    show q.2 :: ods (dicA xs) = _
    rw [A_ods xs]; rfl
section
variable {c : D} {S : Sto} {xs : List (Pr × D)}
theorem d_in (h : dicOf c S = some (dicA xs)) (Q : Pr) : fDIn (pairD Q) c S = some (.bl (decide (Q ∈ xs.map (·.1)))) := by
  simp only [fDIn, h, key_pair, Option.bind_some, Option.map_some, look_A, lookP_some]
theorem d_notin (h : dicOf c S = some (dicA xs)) (Q : Pr) : fDNotIn (pairD Q) c S = some (.bl (!decide (Q ∈ xs.map (·.1)))) := by
  simp only [fDNotIn, h, key_pair, Option.bind_some, Option.map_some, look_A, lookP_some]
theorem d_ix (h : dicOf c S = some (dicA xs)) (hn : (xs.map (·.1)).Nodup) {Q : Pr} {v : D} (hq : (Q, v) ∈ xs) : fDIx c (pairD Q) S = some v := by
  simp only [fDIx, h, key_pair, Option.bind_some, look_A, lookP_at hn hq]
theorem d_len (h : dicOf c S = some (dicA xs)) (hl : xs.length ≤ 100000) : gDLen c S = some (.int (xs.length : Int)) := by
  have e : (dicA xs).length ≤ lineN := by rw [A_len]; unfold lineN; omega
  simp only [gDLen, h, Option.bind_some, e, if_true]
  rw [A_len]
  congr 3
  omega
theorem d_set {i : Nat} (h : S[i]? = some (.dic (dicA xs))) (hl : xs.length ≤ 100000) {Q : Pr} (hq : Q ∉ xs.map (·.1)) (v : D) : fDSet (.ref i) (pairD Q) v S = some (S.set i (.dic (dicA (xs ++ [(Q, v)])))) := by
  have e : (dicA xs).length ≤ lineN := by rw [A_len]; unfold lineN; omega
  have n : (lookK (keyP Q) (dicA xs)).isSome = false := by rw [look_A, lookP_some, decide_eq_false hq]
  simp only [fDSet, h, key_pair, Option.bind_some, e, if_true, storeK, n, Bool.false_eq_true, if_false, A_app]
  rfl
theorem dic_ref {i : Nat} {l : List D} (h : S[i]? = some (.dic l)) : dicOf (.ref i) S = some l := by simp only [dicOf, h]
theorem dic_dct (l : List D) : dicOf (.dct l) S = some l := rfl
theorem v_A (xs : List (Pr × D)) (hl : xs.length ≤ 100000) (S : Sto) : gVals (.dct (dicA xs)) S = some (.lst (xs.map (·.2))) := by
  have e : (dicA xs).length ≤ lineN := by rw [A_len]; unfold lineN; omega
  simp only [gVals, e, if_true, A_ods]
theorem it_A (xs : List (Pr × D)) (S : Sto) : itDc (.dct (dicA xs)) S = some (zpIt (xs.map fun q => pairD q.1) (xs.map (·.2))) := by
  simp only [itDc, A_evs, A_ods]
theorem zip_self : ∀ xs : List (Pr × D), List.zipWith (fun a b : Pr × D => D.tup [pairD a.1, b.2]) xs xs = xs.map fun q => D.tup [pairD q.1, q.2]
  | [] => rfl
  | q :: xs => by rw [List.zipWith_cons_cons, zip_self xs, List.map_cons]
theorem li_A {xs : List (Pr × D)} (h : ∀ q ∈ xs, q.2.isS = false) : LIt (zpIt (xs.map fun q => pairD q.1) (xs.map (·.2))) (xs.map fun q => .tup [pairD q.1, q.2]) := by
  have e : xs.map (fun q => D.tup [pairD q.1, q.2]) = List.zipWith (fun a b => D.tup [a, b]) (xs.map fun q => pairD q.1) (xs.map (·.2)) := by
    rw [List.zipWith_map]
    exact (zip_self xs).symm
  rw [e]
  exact li_zp fun d hd => by
    obtain ⟨q, hq, rfl⟩ := List.mem_map.mp hd
    exact h q hq
end
def stepsD (st : List (Nat × Pr)) : D := .lst (st.map fun q => .tup [.int (q.1 : Int), pairD q.2])
theorem nr_stepE (q : Nat × Pr) : Nr (D.tup [.int (q.1 : Int), pairD q.2]) := nr_tup fun d hd => by
  simp only [List.mem_cons, List.not_mem_nil, or_false] at hd
  rcases hd with rfl | rfl
  · exact nr_int _
  · exact nr_pair _
theorem nr_steps (st : List (Nat × Pr)) : Nr (stepsD st) := nr_lst (nr_map nr_stepE)
theorem nr_A {xs : List (Pr × D)} (h : ∀ q ∈ xs, Nr q.2) : ∀ d ∈ dicA xs, Nr d := fun d hd => by
  obtain ⟨q, hq, hd⟩ := List.mem_flatMap.mp hd
  simp only [List.mem_cons, List.not_mem_nil, or_false] at hd
  rcases hd with rfl | rfl
  · exact nr_pair _
  · exact h q hq
theorem max_ints (n : Int) (ns : List Int) (S : Sto) : gMaxL (.lst ((n :: ns).map .int)) S = some (.int (ns.foldl max n)) := by
  have e : (rdOf (.lst ((n :: ns).map .int)) S).bind isInts = some (n :: ns) := by
    show isInts ((n :: ns).map .int) = _
    exact ints_map _
  simp only [gMaxL, e]
end Ag
namespace Ag
open PySem
theorem q_dnew {en : En} {S : Sto} {P : D → Sto → Prop} : (mDNew en S).sat P ↔ P (.ref S.length) (S ++ [.dic []]) := by
  unfold mDNew
  exact r_ok
theorem q_itD {me : EM} {en : En} {S : Sto} {P : ItD → Sto → Prop} : (mItD me en S).sat P ↔ (me en S).sat fun d S1 => osat (itDc d S1) fun it => P it S1 := by
  unfold mItD
  rw [r_bind]
  refine iff_of_eq (congrArg _ (funext fun d => funext fun S1 => ?_))
  cases itDc d S1 <;> simp only [ofO, r_ok, r_stuck, os_some, os_none]
/-- the entries of the steps' dict -/
def entS (n : Nat) (ws : List (List (List Int))) (ps : List Pr) : List (Pr × D) := ps.map fun P => (P, stepsD (stepR n ws P))
theorem entS_keys (n : Nat) (ws : List (List (List Int))) (ps : List Pr) : (entS n ws ps).map (·.1) = ps := by
  unfold entS
  rw [List.map_map]
  exact List.map_id _
theorem entS_app (n : Nat) (ws : List (List (List Int))) (ps : List Pr) (P : Pr) : entS n ws (ps ++ [P]) = entS n ws ps ++ [(P, stepsD (stepR n ws P))] := by simp [entS]
theorem entS_len (n : Nat) (ws : List (List (List Int))) (ps : List Pr) : (entS n ws ps).length = ps.length := by simp [entS]
def entF (fs : List (Pr × Nat)) : List (Pr × D) := fs.map fun q => (q.1, .int (q.2 : Int))
theorem entF_keys (fs : List (Pr × Nat)) : (entF fs).map (·.1) = fs.map (·.1) := by
  unfold entF
  rw [List.map_map]; rfl
theorem entF_app (fs : List (Pr × Nat)) (q : Pr × Nat) : entF (fs ++ [q]) = entF fs ++ [(q.1, .int (q.2 : Int))] := by simp [entF]
theorem entF_len (fs : List (Pr × Nat)) : (entF fs).length = fs.length := by simp [entF]
end Ag

/-! set(x): what is walked is put into a new set -/
namespace Ag
open PySem PySem.Spec PyProof.Rows L2
/-- an empty set, as the World says -/
def set0 (w : World) : Obj := { cls := .type "set", dict := none, data := .set #[] 0 (.fresh 0 0 (!w.params.followText "set-order")) }
section
variable {P : Program} {w : World} {A : Around} {E : Value → Shared → Prop} {s : Shared}
set_option maxHeartbeats 6400000 in
theorem set_from {T : String} {l : Addr} {od : Option Addr} {da : Data} {sl : Array (Option Value)} {it : Obj} {Fin : Heap → Prop} {Q : Value → Shared → Prop} (ho : s.heap.get? l = some { cls := .type T, dict := od, data := da, slots := sl })
    (n1 : isSubtype (.type T) (.type "set") = pure false) (n2 : isSubtype (.type T) (.type "frozenset") = pure false) (n3 : (Value.type T == Value.type "dict") = false)
    (begins : ∀ (A' : Around) (E' : Value → Shared → Prop) (s' : Shared) (Q' : Value → Shared → Prop), s'.heap.get? l = some { cls := .type T, dict := od, data := da, slots := sl } → Q' (.ref s'.heap.objs.size) { s' with heap := s'.heap.push it } → wpAny (model P w) A' (pyIter (.ref l)) Q' E' s')
    (loop : ∀ R : Result → Shared → Prop, (∀ g tk, Fin g → (∀ b o, s.heap.get? b = some o → g.get? b = some o) → R (.ok (.ret .none)) { s with heap := g, toks := tk }) → codeAny (model P w) A.in1.in1 (.builtin "set.update.loop" ⟨[.ref s.heap.objs.size, .ref (s.heap.push (set0 w)).objs.size], []⟩) R { s with heap := (s.heap.push (set0 w)).push it })
    (fin : ∀ g tk, Fin g → (∀ b o, s.heap.get? b = some o → g.get? b = some o) → Q (.ref s.heap.objs.size) { s with heap := g, toks := tk }) : wpAny (model P w) A (call (.type "set") [.ref l]) Q E s := by
  obtain ⟨c, tl, mro⟩ := F.called_set.mro
  have made := F.called_set.made
  have sub := F.called_set.sub
  have nt := F.called_set.notType
  have cc := F.called_set.canCreate
  have ct := F.typeCall_set_1 (.ref l)
  refine wpAny_call (codeAny_of_tree (show wpAny _ _ (callAny (.type "set") _) _ _ _ from wpAny_pure ⟨Code.quiet_builtin _ (by decide +kernel), codeAny_builtin F.entry_type_call ?_⟩))
  rw [Around.under_plain (weight_type_call_type "set" [.ref l] []) rfl]
  repeat (any_goals (first | assumption | wp_step))
  refine codeAny_mono (code_set_led1 (.ref l) (E := E) (Q₁ := fun u t => u = .ref s.heap.objs.size ∧ t = { s with heap := s.heap.push (set0 w) }) ⟨rfl, rfl⟩) ?_
  intro r t hr
  cases r with
  | error e => exact hr
  | ok fl =>
  cases fl with
  | ret u =>
    obtain ⟨rfl, rfl⟩ := hr
    have hS : (s.heap.push (set0 w)).get? s.heap.objs.size = some (set0 w) := Heap.get?_push_size _ rfl
    have ty : Shared.TypeIs { s with heap := s.heap.push (set0 w) } (.ref s.heap.objs.size) "set" := ⟨_, hS, rfl⟩
    have hi1 := F.called_set.init.lookup
    have hi2 := F.called_set.init.bind (.ref s.heap.objs.size)
    repeat (any_goals (first | assumption | wp_step))
    refine codeAny_mono (codeAny_call_builtin (R := wants (fun r t => r = .none ∧ ∃ g tk, t = { s with heap := g, toks := tk } ∧ Fin g ∧ ∀ b o, s.heap.get? b = some o → g.get? b = some o) E) F.called_set.init.plain F.entry_set_init (check_set_init_1 ty ?_)) ?_
    · have ho' : (s.heap.push (set0 w)).get? l = some { cls := .type T, dict := od, data := da, slots := sl } := Heap.get?_push_of_some _ ho
      unfold Builtin.«set.__init__» noKeywords Builtin.Frozenset.updateFrom
      generalize hp : pyIter = pI
      wp_walk
      subst hp
      refine begins _ _ { s with heap := s.heap.push (set0 w) } _ ho' (wpAny_bind (wpAny_runValue (loop _ ?_)))
      intro g tk hg kp
      exact (show wpAny _ _ _ _ _ _ from wpAny_pure (wpAny_pure ⟨rfl, g, tk, rfl, hg, kp⟩))
    · intro r2 t2 hr2
      cases r2 with
      | error e => exact hr2
      | ok fl =>
      cases fl with
      | ret v =>
        obtain ⟨rfl, g, tk, rfl, hg, kp⟩ := hr2
        repeat (any_goals (first | assumption | wp_step))
        exact fin g tk hg kp
      | _ => exact hr2.elim
  | _ => exact hr.elim
end
end Ag

/-! sorted(set(x)), len(set(x)) of ints -/
namespace Ag
open PySem PySem.Spec PyProof.Rows L2
section
variable {P : Program} {w : World} {A : Around} {E : Value → Shared → Prop} {s : Shared}
theorem set_ints {l : Addr} {items : Array Value} {ns : List Int} {Q : Value → Shared → Prop} (calm : A.handled = none) (hl : s.heap.IsList l items) (hi : IntsAre items.toList ns) (hb : ns.length + 1 < scanBound)
    (fin : ∀ g tk c, SetR w g s.heap.objs.size (fun j => decide (j ∈ ns)) c → (∀ b o, s.heap.get? b = some o → g.get? b = some o) → Q (.ref s.heap.objs.size) { s with heap := g, toks := tk }) : wpAny (model P w) A (call (.type "set") [.ref l]) Q E s := by
  obtain ⟨⟨oc, od, oda, osl⟩, ho, hc, nl, hd⟩ := id hl
  simp only at hc hd
  subst hc hd
  have lt : l < s.heap.objs.size := Heap.lt_size ho
  have sz : items.size = ns.length := by
    have q := IntsAre.length hi
    rwa [Array.length_toList] at q
  have z1 : (s.heap.push (set0 w)).objs.size = s.heap.objs.size + 1 := Heap.size_push ..
  have h1 : (s.heap.push (set0 w)).IsList l items := hl.push _
  refine set_from (Fin := fun g => ∃ c, SetR w g s.heap.objs.size (fun j => decide (j ∈ ns)) c) (it := { cls := .type "list_iterator", data := .fields #[.ref l, .int 0 0] }) ho F.sub_list_set F.sub_list_frozenset (by decide) (fun A' E' s' Q' h q => wpAny_pyIter_list ⟨_, h, rfl, nl, rfl⟩ q) ?_ fun g tk ⟨c, hc⟩ kp => fin g tk c hc kp
  intro R hR
  have ne : l ≠ (s.heap.push (set0 w)).objs.size := by rw [z1]; exact Nat.ne_of_lt (Nat.lt_succ_of_lt lt)
  have nf : s.heap.objs.size ∉ [(s.heap.push (set0 w)).objs.size, l] := by
    rw [z1]
    simp only [List.mem_cons, List.not_mem_nil, or_false, not_or]
    exact ⟨Nat.ne_of_lt (Nat.lt_succ_self _), Nat.ne_of_gt lt⟩
  have val : ∀ (i : Nat) (v : Value), items[i]? = some v → ∃ k t, ns[i]? = some k ∧ v = .int k t := fun i v hv => by
    have hlt : i < ns.length := by rw [← sz]; exact (Array.getElem?_eq_some_iff.mp hv).1
    obtain ⟨t, e⟩ := IntsAre.int_at hi i v (by rw [Array.getElem?_toList]; exact hv)
    have e2 : ns.getD i 0 = ns[i] := by simp [List.getD, List.getElem?_eq_getElem hlt]
    rw [e2] at e
    exact ⟨ns[i], t, List.getElem?_eq_getElem hlt, e⟩
  refine set_update_ints (A := A.in1.in1) ((Walks.list (A := A.in1.in1.in1) (by simpa using calm) _ l ne items).toS) s.heap.objs.size nf ns sz hb val items.size 0 _ (by omega) (Nat.zero_le _) ⟨⟨_, Heap.get?_push_size _ rfl, rfl, rfl⟩, h1.push _⟩ ⟨0, Nat.le_refl _, setR_new_at (Heap.get?_push_of_some _ (Heap.get?_push_size _ rfl))⟩ ?_
  intro s' c mv _ hS
  obtain ⟨g, g2, d', tk', os'⟩ := s'
  obtain rfl : g2 = s.gens := mv.gens
  obtain rfl : d' = s.drawn := mv.drawn
  obtain rfl : os' = s.os := mv.os
  refine hR g tk' ⟨c, hS⟩ fun b o e => ?_
  have bl := Heap.lt_size e
  refine mv.heap b o ?_ (Heap.get?_push_of_some _ (Heap.get?_push_of_some _ e))
  rw [z1]
  simp only [List.mem_cons, List.not_mem_nil, or_false, not_or]
  exact ⟨Nat.ne_of_lt bl, Nat.ne_of_lt (Nat.lt_succ_of_lt bl)⟩
end
/-! ints in rising order, each once -/
def insU (x : Int) : List Int → List Int
  | [] => [x]
  | y :: l => if x < y then x :: y :: l else if x = y then y :: l else y :: insU x l
def sortU (ns : List Int) : List Int := ns.foldr insU []
theorem mem_insU {x z : Int} : ∀ {l : List Int}, z ∈ insU x l ↔ z = x ∨ z ∈ l
  | [] => by simp [insU]
  | y :: l => by
    unfold insU
    split
    · simp
    · split
      · rename_i e; subst e; simp
      · simp only [List.mem_cons, mem_insU (l := l)]
        constructor
        · rintro (h | h | h) <;> simp [h]
        · rintro (h | h | h) <;> simp [h]
theorem inc_insU {x : Int} : ∀ {l : List Int}, l.Pairwise (· < ·) → (insU x l).Pairwise (· < ·)
  | [], _ => by simp [insU]
  | y :: l, h => by
    obtain ⟨h1, h2⟩ := List.pairwise_cons.mp h
    unfold insU
    split
    · rename_i c
      refine List.pairwise_cons.mpr ⟨fun z hz => ?_, h⟩
      rcases List.mem_cons.mp hz with rfl | hz
      · exact c
      · have := h1 z hz; omega
    · split
      · exact h
      · refine List.pairwise_cons.mpr ⟨fun z hz => ?_, inc_insU h2⟩
        rcases mem_insU.mp hz with rfl | hz
        · omega
        · exact h1 z hz
theorem sortU_inc : ∀ ns : List Int, (sortU ns).Pairwise (· < ·)
  | [] => List.Pairwise.nil
  | _ :: ns => inc_insU (sortU_inc ns)
theorem mem_sortU {z : Int} : ∀ {ns : List Int}, z ∈ sortU ns ↔ z ∈ ns
  | [] => by simp [sortU]
  | x :: ns => by
    show z ∈ insU x (sortU ns) ↔ _
    rw [mem_insU, mem_sortU, List.mem_cons]
theorem inc_unique : ∀ {l m : List Int}, l.Pairwise (· < ·) → m.Pairwise (· < ·) → (∀ z, z ∈ l ↔ z ∈ m) → l = m
  | [], [], _, _, _ => rfl
  | [], y :: m, _, _, h => by have := (h y).mpr (by simp); simp at this
  | x :: l, [], _, _, h => by have := (h x).mp (by simp); simp at this
  | x :: l, y :: m, hl, hm, h => by
    obtain ⟨l1, l2⟩ := List.pairwise_cons.mp hl
    obtain ⟨m1, m2⟩ := List.pairwise_cons.mp hm
    have e : x = y := by
      rcases List.mem_cons.mp ((h x).mp (by simp)) with e | e
      · exact e
      · rcases List.mem_cons.mp ((h y).mpr (by simp)) with e2 | e2
        · exact e2.symm
        · have := m1 x e
          have := l1 y e2
          omega
    subst e
    have : l = m := inc_unique l2 m2 fun z => by
      constructor
      · intro hz
        rcases List.mem_cons.mp ((h z).mp (List.mem_cons_of_mem _ hz)) with e | e
        · have := l1 z hz; omega
        · exact e
      · intro hz
        rcases List.mem_cons.mp ((h z).mpr (List.mem_cons_of_mem _ hz)) with e | e
        · have := m1 z hz; omega
        · exact e
    rw [this]
/-- sorted(set(x)) -/
def gSortSet (d : D) (S : Sto) : Option D := match (rdOf d S).bind isInts with
  | some ns => if ns.length < 64 then some (.lst ((sortU ns).map .int)) else none
  | none => none
theorem sortU_len : ∀ ns : List Int, (sortU ns).length ≤ ns.length
  | [] => Nat.le_refl _
  | x :: ns => by
    have h : ∀ l : List Int, (insU x l).length ≤ l.length + 1 := by
      intro l
      induction l with
      | nil => simp [insU]
      | cons y l ih =>
        unfold insU
        split
        · simp
        · split
          · simp
          · simp; omega
    have := sortU_len ns
    have := h (sortU ns)
    show (insU x (sortU ns)).length ≤ ns.length + 1
    omega
theorem reps_ints {K : PySem.W.Frag} {m : Mp} {H : Hp} : ∀ ns : List Int, Reps K m H (ns.map V.int) (ns.map D.int)
  | [] => .nil
  | n :: ns => .cons (.int n) (reps_ints ns)
theorem setR_len {w : World} {h : Heap} {p : Addr} {ns : List Int} {c : Nat} (R : SetR w h p (fun j => decide (j ∈ ns)) c) : c = (sortU ns).length := by
  obtain ⟨o, es, ep, t, ho, _, _, _, nd, hm, _, _, hn, _⟩ := R
  have l1 : (es.toList.map keyOf).length = c := by rw [List.length_map, Array.length_toList]; exact hn
  have nd2 : (sortU ns).Nodup := (sortU_inc ns).imp fun h => by omega
  have m2 : ∀ k, k ∈ es.toList.map keyOf ↔ k ∈ sortU ns := fun k => by rw [← hm k, mem_sortU, decide_eq_true_eq]
  have a1 := nodup_len nd fun k hk => (m2 k).mp hk
  have a2 := nodup_len nd2 fun k hk => (m2 k).mpr hk
  omega
section
variable {X : Cx} {W : WX} {e : Expr} {me : EM} {p1 pos1 p2 pos2 : Pos}
def rSetL (K : PySem.W.Frag) (w : World) : List V → Hp → VK → Prop := fun vs H Q => ∃ (a : Addr) (ns : List Int), vs = [.ref a] ∧ SqL K H a (ns.map V.int) ∧ ns.length + 1 < scanBound ∧ ∀ p, H p = none → Q (.ref p) (upd H p (SetO w p (fun j => decide (j ∈ ns)) (sortU ns).length))
theorem cr_setL (hc : X.calm = true) : CallR X (.type "set") (rSetL X.K X.w) := by
  intro pins s σ H vs us Q I r h
  obtain ⟨a, ns, rfl, sq, hb, q⟩ := h
  obtain ⟨its, rv, pl, _⟩ := I.list sq
  rw [Vals.ref1 r]
  refine set_ints (I.ok.hd hc) pl.isList rv.ints hb fun g tk c hS kp => ?_
  have ec := setR_len hS
  subst ec
  exact ⟨.ref _, upd H s.heap.objs.size (SetO X.w s.heap.objs.size (fun j => decide (j ∈ ns)) (sortU ns).length), I.laid (t' := tk) kp (Nat.le_refl _) (setO_new hS), rfl, q _ (I.hok.fresh (Nat.le_refl _))⟩
theorem e_sortSet (hc : X.calm = true) (hg1 : Gl X "sorted") (hm1 : X.mg "sorted" = none) (hg2 : Gl X "set") (hm2 : X.mg "set" = none) (he : PE X e (tE X.K W me)) (na : starEach [e] X.env = (false, eval e X.env) :: starEach [] X.env := by rfl)
    (nb : starEach [.Call (.Name "set" p2) [e] [] pos2] X.env = (false, eval (.Call (.Name "set" p2) [e] [] pos2) X.env) :: starEach [] X.env := by rfl) : PE X (.Call (.Name "sorted" p1) [.Call (.Name "set" p2) [e] [] pos2] [] pos1) (tE X.K W (mUn gSortSet me)) := by
  refine PE.imp (pe_callB (cr_sortedSet hc) hg1 hm1 boot_sorted (pa_cons (pe_callTy (cr_setL hc) hg2 hm2 boot_set (pa_cons he pa_nil na) (he := na)) pa_nil nb) (he := nb)) ?_
  rintro σ H Q ⟨en, S, m, er, si, h⟩
  refine ⟨en, S, m, er, si, (PostG.bind (R := Rep X.K) h).mono ?_⟩
  rintro v H1 ⟨d, S1, m1, e1, s1, r1, h1⟩
  unfold gSortSet at h1
  cases q : rdOf d S1 with
  | none => rw [q] at h1; exact h1.elim
  | some l =>
    rw [q] at h1
    cases q2 : isInts l with
    | none => simp only [Option.bind_some, q2] at h1; exact h1.elim
    | some ns =>
      simp only [Option.bind_some, q2] at h1
      by_cases hl : ns.length < 64
      · rw [if_pos hl] at h1
        obtain ⟨a, vs, rfl, g1, g2⟩ := rd_at s1 r1 q
        have ei := ints_of g2 q2
        subst ei
        have sl := sortU_len ns
        refine ⟨a, ns, rfl, g1, by unfold scanBound; omega, fun p hp => ?_⟩
        refine ⟨p, _, _, rfl, upd_same, by omega, fun ns' c k1 k2 k3 hcn => ?_⟩
        have e2 : ns' = sortU ns := inc_unique k1 (sortU_inc ns) fun z => by rw [k2 z, mem_sortU, decide_eq_true_eq]
        subst e2
        exact h1 _ m1 _ ((Ext.new hp).trans (.new hcn)) ((s1.new hp).new hcn) (.lst upd_same ((s1.new hp).off hcn) (reps_ints _))
      · rw [if_neg hl] at h1; exact h1.elim
end
/-! facts for the mathematics -/
theorem ss_lst (ns : List Int) (h : ns.length < 64) (S : Sto) : gSortSet (.lst (ns.map .int)) S = some (.lst ((sortU ns).map .int)) := by
  have e : (rdOf (.lst (ns.map .int)) S).bind isInts = some ns := ints_map ns
  simp only [gSortSet, e, h, if_true]
end Ag

/-! len(set(x)) of truth values -/
namespace Ag
open PySem PySem.Spec PyProof.Rows L2 PpSet
section
variable {P : Program} {w : World} {A : Around}
/-- a set is filled from any walk: J says what the set is after i things -/
theorem set_walk {I : Addr} {fp wr : List Addr} {G : Array GenState → Array GenState → Prop} {n : Nat} {Pv : Nat → Value → Prop} {St : Nat → Shared → Prop} {R : Result → Shared → Prop} (W : WalksS P w A.in1 I fp wr G n Pv St) (T : Addr) (hT : T ∉ fp) (J : Nat → Heap → Prop)
    (keep : ∀ {i h h'}, J i h → (∀ o, h.get? T = some o → h'.get? T = some o) → J i h')
    (add : ∀ (E : Value → Shared → Prop) (i : Nat) (v : Value) (s : Shared) (Q : Bool → Shared → Prop), i < n → Pv i v → J i s.heap → (∀ b h' tk, s.toks ≤ tk → Heap.SameBut T s.heap h' → J (i + 1) h' → Q b { s with heap := h', toks := tk }) → wpAny (model P w) A.in1 (setAdd T v) Q E s) :
    ∀ (k i : Nat) (s : Shared), i + k = n → St i s → J i s.heap → (∀ s', Moved (T :: wr) G s s' → J n s'.heap → R (.ok (.ret .none)) s') → codeAny (model P w) A (.builtin "set.update.loop" ⟨[.ref T, .ref I], []⟩) R s
  | 0, i, s, hk, hst, hJ, hR => by
    obtain rfl : i = n := hk
    refine codeAny_builtin F.entry_set_update_loop ?_
    rw [Around.under_plainId F.plain_set_update_loop _]
    refine wpAny_bind (W.done s _ _ hst fun s' hm => ?_)
    have nT : T ∉ wr := fun z => hT (W.sub _ z)
    exact (show wpAny _ _ (ret Value.none) _ _ _ from wpAny_pure (hR s' (hm.mono fun b hb => List.mem_cons_of_mem _ hb) (keep hJ fun o e => hm.heap T o nT e)))
  | k + 1, i, s, hk, hst, hJ, hR => by
    have nT : T ∉ wr := fun z => hT (W.sub _ z)
    refine codeAny_builtin F.entry_set_update_loop ?_
    rw [Around.under_plainId F.plain_set_update_loop _]
    refine wpAny_bind (W.item i s _ _ (show i < n by omega) hst fun v s' hv hst' hm => ?_)
    show wpAny _ _ (holding [v] (setAdd T v) >>= _) _ _ _
    refine wpAny_bind (wpAny_holding (add _ i v s' _ (by omega) hv (keep hJ fun o e => hm.heap T o nT e) fun b h' tk le sb hJ' => ?_))
    refine wpAny_pure ⟨plainId_quiet F.plain_set_update_loop _, set_walk W T hT J keep add k (i + 1) _ (by omega) (W.frame _ s' _ _ hst' le fun c hc o e => ?_) hJ' fun s2 m2 j2 => hR s2 (Moved.trans W.gtrans ((hm.mono fun b hb => List.mem_cons_of_mem _ hb).then_heap le fun c o hc e => ?_) m2) j2⟩
    · exact (sb.2 c fun z => hT (z ▸ hc)).trans e
    · exact (sb.2 c fun z => hc (z ▸ List.mem_cons_self)).trans e
end
section
variable {P : Program} {w : World} {A : Around} {E : Value → Shared → Prop} {s : Shared}
/-- how many truth values there are in it -/
def manyB (bs : List Bool) : Nat := (if true ∈ bs then 1 else 0) + (if false ∈ bs then 1 else 0)
theorem manyB_le (bs : List Bool) : manyB bs ≤ 2 := by unfold manyB; split <;> split <;> omega
theorem manyB_add (bs : List Bool) (b : Bool) : manyB (bs ++ [b]) = if decide (b ∈ bs) = true then manyB bs else manyB bs + 1 := by
  unfold manyB
  cases b <;> simp only [List.mem_append, List.mem_singleton, decide_eq_true_eq, or_false, or_true, reduceCtorEq, if_true] <;> split <;> (try split) <;> omega
theorem set_bools {l : Addr} {items : Array Value} {bs : List Bool} {Q : Value → Shared → Prop} (calm : A.handled = none) (hl : s.heap.IsList l items) (hi : items.toList = bs.map Value.bool)
    (fin : ∀ g tk, SetB w g s.heap.objs.size (fun j => decide (j ∈ bs)) (manyB bs) → (∀ b o, s.heap.get? b = some o → g.get? b = some o) → Q (.ref s.heap.objs.size) { s with heap := g, toks := tk }) : wpAny (model P w) A (call (.type "set") [.ref l]) Q E s := by
  obtain ⟨⟨oc, od, oda, osl⟩, ho, hc, nl, hd⟩ := id hl
  simp only at hc hd
  subst hc hd
  have lt : l < s.heap.objs.size := Heap.lt_size ho
  have sz : items.size = bs.length := by rw [← Array.length_toList, hi, List.length_map]
  have z1 : (s.heap.push (set0 w)).objs.size = s.heap.objs.size + 1 := Heap.size_push ..
  refine set_from (Fin := fun g => SetB w g s.heap.objs.size (fun j => decide (j ∈ bs)) (manyB bs)) (it := { cls := .type "list_iterator", data := .fields #[.ref l, .int 0 0] }) ho F.sub_list_set F.sub_list_frozenset (by decide) (fun A' E' s' Q' h q => wpAny_pyIter_list ⟨_, h, rfl, nl, rfl⟩ q) ?_ fin
  intro R hR
  have ne : l ≠ (s.heap.push (set0 w)).objs.size := z1 ▸ Nat.ne_of_lt (Nat.lt_succ_of_lt lt)
  have nf : s.heap.objs.size ∉ [(s.heap.push (set0 w)).objs.size, l] := fun z => by
    rcases List.mem_cons.mp z with z | z
    · exact absurd (z.trans z1) (Nat.ne_of_lt (Nat.lt_succ_self _))
    · exact absurd (List.mem_singleton.mp z) (Nat.ne_of_gt lt)
  refine set_walk (A := A.in1.in1) ((Walks.list (A := A.in1.in1.in1) (by simpa using calm) _ l ne items).toS) s.heap.objs.size nf (fun i h => SetB w h s.heap.objs.size (fun j => decide (j ∈ bs.take i)) (manyB (bs.take i))) (fun hJ k => hJ.at k) ?_ items.size 0 _ (by omega) ⟨⟨_, Heap.get?_push_size _ rfl, rfl, rfl⟩, (hl.push _).push _⟩ ?_ ?_
  · intro E' i v s' Q' hi' hv hJ q
    have hlt : i < bs.length := by omega
    have ev : v = .bool bs[i] := by
      have e : items.toList[i]? = some v := by rw [Array.getElem?_toList]; exact hv
      rw [hi, List.getElem?_map, List.getElem?_eq_getElem hlt] at e
      exact (Option.some.inj e).symm
    subst ev
    unfold setAdd
    refine wpAny_holding (wpAny_bind ((boolK P w).pyHash (boolK_is P w _) ?_))
    have hm := manyB_le (bs.take i)
    refine setB_add_hashed (s := { s' with toks := s'.toks + 1 }) hJ (by unfold scanBound; omega) fun h' sb r => q _ h' _ (Nat.le_succ _) sb ?_
    have et : bs.take (i + 1) = bs.take i ++ [bs[i]] := by rw [List.take_add_one, List.getElem?_eq_getElem hlt]; rfl
    show SetB w h' _ (fun j => decide (j ∈ bs.take (i + 1))) (manyB (bs.take (i + 1)))
    rw [et, manyB_add]
    exact r.congr fun j => by simp only [List.mem_append, List.mem_singleton, Bool.decide_or]
  · exact (setB_fresh w).at fun o e => Heap.get?_push_of_some _ e
  · intro s' mv hS
    obtain ⟨g, g2, d', tk', os'⟩ := s'
    obtain rfl : g2 = s.gens := mv.gens
    obtain rfl : d' = s.drawn := mv.drawn
    obtain rfl : os' = s.os := mv.os
    rw [List.take_of_length_le (by omega)] at hS
    refine hR g tk' hS fun b o e => ?_
    have bl := Heap.lt_size e
    refine mv.heap b o ?_ (Heap.get?_push_of_some _ (Heap.get?_push_of_some _ e))
    intro z
    rcases List.mem_cons.mp z with z | z
    · exact absurd z (Nat.ne_of_lt bl)
    · exact absurd ((List.mem_singleton.mp z).trans z1) (Nat.ne_of_lt (Nat.lt_succ_of_lt bl))
end
section
variable {X : Cx} {W : WX} {e : Expr} {me : EM} {p1 pos1 p2 pos2 : Pos}
def rSetB (K : PySem.W.Frag) (w : World) : List V → Hp → VK → Prop := fun vs H Q => ∃ (a : Addr) (bs : List Bool), vs = [.ref a] ∧ SqL K H a (bs.map V.bl) ∧ ∀ p, H p = none → Q (.ref p) (upd H p (SetBO w p (fun j => decide (j ∈ bs)) (manyB bs)))
theorem vals_bls : ∀ {bs : List Bool} {us : List Value}, Vals (bs.map V.bl) us → us = bs.map Value.bool
  | [], _, h => by cases h; rfl
  | b :: bs, _, h => by
    cases h with
    | cons h1 h2 =>
      cases h1
      rw [vals_bls h2]; rfl
theorem cr_setB (hc : X.calm = true) : CallR X (.type "set") (rSetB X.K X.w) := by
  intro pins s σ H vs us Q I r h
  obtain ⟨a, bs, rfl, sq, q⟩ := h
  obtain ⟨its, rv, pl, _⟩ := I.list sq
  rw [Vals.ref1 r]
  refine set_bools (I.ok.hd hc) pl.isList (vals_bls rv) fun g tk hS kp => ?_
  exact ⟨.ref _, _, I.laid (t' := tk) kp (Nat.le_refl _) (setBO_new hS), rfl, q _ (I.hok.fresh (Nat.le_refl _))⟩
def rLenB (w : World) : List V → Hp → VK → Prop := fun vs H Q => ∃ (a : Addr) (T : Bool → Bool) (n : Nat), vs = [.ref a] ∧ H a = some (SetBO w a T n) ∧ Q (.int n) H
theorem cr_lenB : CallR X (.builtin "len") (rLenB X.w) := by
  intro pins s σ H vs us Q I r h
  obtain ⟨a, T, n, rfl, ha, q⟩ := h
  obtain ⟨o, es, ep, t, ho, hex, hd, _, _, _, hb, hf, hn, _⟩ := setBO_get I ha
  rw [Vals.ref1 r]
  exact call_len_set ho hex hd hf (by unfold scanBound at hb; omega) ⟨.int n, H, I.tok _, ⟨_, by rw [hn]⟩, q⟩
/-- len(set(x)) -/
def gLenSetB (d : D) (S : Sto) : Option D := ((rdOf d S).bind isBls).map fun bs => .int (manyB bs)
theorem e_lenSetB (hc : X.calm = true) (hg1 : Gl X "len") (hm1 : X.mg "len" = none) (hg2 : Gl X "set") (hm2 : X.mg "set" = none) (he : PE X e (tE X.K W me)) (na : starEach [e] X.env = (false, eval e X.env) :: starEach [] X.env := by rfl)
    (nb : starEach [.Call (.Name "set" p2) [e] [] pos2] X.env = (false, eval (.Call (.Name "set" p2) [e] [] pos2) X.env) :: starEach [] X.env := by rfl) : PE X (.Call (.Name "len" p1) [.Call (.Name "set" p2) [e] [] pos2] [] pos1) (tE X.K W (mUn gLenSetB me)) := by
  refine PE.imp (pe_callB cr_lenB hg1 hm1 boot_len (pa_cons (pe_callTy (cr_setB hc) hg2 hm2 boot_set (pa_cons he pa_nil na) (he := na)) pa_nil nb) (he := nb)) ?_
  rintro σ H Q ⟨en, S, m, er, si, h⟩
  refine ⟨en, S, m, er, si, (PostG.bind (R := Rep X.K) h).mono ?_⟩
  rintro v H1 ⟨d, S1, m1, e1, s1, r1, h1⟩
  unfold gLenSetB at h1
  cases q : rdOf d S1 with
  | none => rw [q] at h1; exact h1.elim
  | some l =>
    rw [q] at h1
    cases q2 : isBls l with
    | none => simp only [Option.bind_some, q2] at h1; exact h1.elim
    | some bs =>
      simp only [Option.bind_some, q2] at h1
      obtain ⟨a, vs, rfl, g1, g2⟩ := rd_at s1 r1 q
      have ei := bls_of g2 q2
      subst ei
      refine ⟨a, bs, rfl, g1, fun p hp => ⟨p, _, _, rfl, upd_same, ?_⟩⟩
      exact h1 _ m1 _ (.new hp) (s1.new hp) (.int _)
end
theorem lsb_lst (bs : List Bool) (S : Sto) : gLenSetB (.lst (bs.map .bl)) S = some (.int (manyB bs)) := by
  have e : (rdOf (.lst (bs.map .bl)) S).bind isBls = some bs := by
    show isBls (bs.map .bl) = some bs
    induction bs with
    | nil => rfl
    | cons b bs ih => simp [isBls, ih]
  simp only [gLenSetB, e, Option.map_some]
theorem manyB_one {bs : List Bool} (b : Bool) (h : ∀ c ∈ bs, c = b) : manyB bs ≤ 1 := by
  unfold manyB
  by_cases h1 : true ∈ bs
  · have := h _ h1
    subst this
    have : ¬ false ∈ bs := fun z => by cases h _ z
    simp [h1, this]
  · simp only [h1, if_false]; split <;> omega
/-- list(x) as a cell -/
def sqOf (d : D) (S : Sto) : Option (List D) := match d with
  | .tup l => some l
  | d => rdOf d S
def mLstC1 (ma : EM) : EM := fun en S => (ma en S).bind fun d S1 => match sqOf d S1 with
  | some l => .ok (.ref S1.length) (S1 ++ [.lst l])
  | none => .stuck
section
variable {X : Cx} {W : WX} {e : Expr} {ma : EM} {p pos : Pos}
theorem e_lstC1 (hg : Gl X "list") (hm : X.mg "list" = none) (ha : PE X e (tE X.K W ma)) (na : starEach [e] X.env = (false, eval e X.env) :: starEach [] X.env := by rfl) : PE X (.Call (.Name "list" p) [e] [] pos) (tE X.K W (mLstC1 ma)) := by
  refine PE.imp (pe_callTy call_list_of hg hm boot_list (pa_cons ha pa_nil na) (he := na)) ?_
  rintro σ H Q ⟨en, S, m, er, si, h⟩
  refine ⟨en, S, m, er, si, (PostG.bind (R := Rep X.K) h).mono ?_⟩
  rintro v H1 ⟨d, S1, m1, e1, s1, r1, h1⟩
  have key : ∀ vs ds, Reps X.K m1 H1 vs ds → sqOf d S1 = some ds → ∀ q, H1 q = none → Q (.ref q) (upd H1 q (.lst vs)) := fun vs ds g2 qd q hq => by
    rw [qd] at h1
    exact h1 _ (m1.add q) _ (.cell hq) (s1.grow hq ⟨_, upd_same, g2.to (.cell hq)⟩) (.ref (s1.last q))
  by_cases ht : ∃ l, d = .tup l
  · obtain ⟨l, rfl⟩ := ht
    cases r1 with
    | tup g1 hd g2 => exact ⟨_, _, rfl, .inr g1, key _ _ g2 rfl⟩
  · have e : sqOf d S1 = rdOf d S1 := by
      cases d with
      | tup l => exact absurd ⟨l, rfl⟩ ht
      | _ => rfl
    cases q : rdOf d S1 with
    | none => rw [e, q] at h1; exact h1.elim
    | some l =>
      obtain ⟨a, vs, rfl, g1, g2⟩ := rd_at s1 r1 q
      exact ⟨a, vs, rfl, .inl g1, key _ _ g2 (e.trans q)⟩
end
theorem q_lstC1 {ma : EM} {en : En} {S : Sto} {P : D → Sto → Prop} : (mLstC1 ma en S).sat P ↔ (ma en S).sat fun d S1 => osat (sqOf d S1) fun l => P (.ref S1.length) (S1 ++ [.lst l]) := by
  unfold mLstC1
  rw [r_bind]
  refine iff_of_eq (congrArg _ (funext fun d => funext fun S1 => ?_))
  cases sqOf d S1 <;> simp [osat, r_ok, r_stuck]
theorem seq_tup (l : List D) (S : Sto) : sqOf (.tup l) S = some l := rfl
/-- max of a list or tuple of ints -/
def gMaxS (d : D) (S : Sto) : Option D := match (sqOf d S).bind isInts with
  | some (n :: ns) => some (.int (ns.foldl max n))
  | _ => none
section
open PySem.W (AlikeAll alike max_tuple_data maxD_ints)
variable {X : Cx}
theorem reads_ints {h : Heap} : ∀ {ns : List Int} {us : List Value}, Vals (ns.map V.int) us → ∃ as, ReadsAll h us (ns.map PyData.int) as
  | [], _, r => by cases r; exact ⟨_, .nil⟩
  | n :: ns, _, r => by
    cases r with
    | cons h1 h2 =>
      obtain ⟨t, rfl⟩ := h1
      obtain ⟨as, k⟩ := reads_ints h2
      exact ⟨_, .cons (.int n t) k⟩
theorem depth_ints : ∀ ns : List Int, PyData.depthAll (ns.map PyData.int) ≤ 1
  | [] => by simp [PyData.depthAll]
  | n :: ns => by
    have := depth_ints ns
    simp only [List.map_cons, PyData.depthAll, PyData.depth]
    omega
theorem b_maxS (hc : X.calm = true) (hu : X.A.units + 65 < cLine) : CallR X (.builtin "max") (rOL X.K (f1 gMaxS)) := c1 fun pins s σ H x u Q d S m r I rx si hx hf hq => by
  unfold gMaxS at hf
  by_cases ht : ∃ l, d = .tup l
  · obtain ⟨l, rfl⟩ := ht
    simp only [sqOf, Option.bind_some] at hf
    cases q2 : isInts l with
    | none => rw [q2] at hf; cases hf
    | some ns =>
      rw [q2] at hf
      cases ns with
      | nil => cases hf
      | cons n ns =>
        cases hf
        cases hx with
        | tup g1 hd g2 =>
          obtain rfl := ints_of g2 q2
          obtain ⟨its, rv, pl, _⟩ := I.tuple g1
          obtain ⟨as, rd⟩ := reads_ints (h := s.heap) rv
          rw [Vals.ref1 rx]
          have dp := depth_ints (n :: ns)
          refine max_tuple_data (I.ok.hd hc) pl rd ⟨fun x hx y hy => ?_, fun x hx => ?_⟩ (by simp only [List.map_cons] at dp; omega) fun i v h' tk bs hv rr kp => ?_
          · obtain ⟨a, _, rfl⟩ := List.mem_map.mp (show x ∈ (n :: ns).map PyData.int from hx)
            obtain ⟨b, _, rfl⟩ := List.mem_map.mp (show y ∈ (n :: ns).map PyData.int from hy)
            rfl
          · obtain ⟨a, _, rfl⟩ := List.mem_map.mp (show x ∈ (n :: ns).map PyData.int from hx)
            intro z; cases z
          · rw [maxD_ints] at rr
            cases rr with
            | int _ t => exact ⟨.int _, H, I.kept kp, ⟨_, rfl⟩, hq _ H .refl si (.int _)⟩
  · have e : gMaxL d S = some r := by
      have e : sqOf d S = rdOf d S := by
        cases d with
        | tup l => exact absurd ⟨l, rfl⟩ ht
        | _ => rfl
      unfold gMaxL
      rw [← e]
      exact hf
    exact b_maxL hc pins s σ H _ _ Q I rx ⟨_, S, m, r, si, .cons hx .nil, e, hq⟩
end
theorem maxS_tup (n : Int) (ns : List Int) (S : Sto) : gMaxS (.tup ((n :: ns).map .int)) S = some (.int (ns.foldl max n)) := by
  have e : (sqOf (.tup ((n :: ns).map .int)) S).bind isInts = some (n :: ns) := by
    show isInts ((n :: ns).map .int) = _
    exact ints_map _
  simp only [gMaxS, e]
theorem maxS_lst (n : Int) (ns : List Int) (S : Sto) : gMaxS (.lst ((n :: ns).map .int)) S = some (.int (ns.foldl max n)) := by
  have e : (sqOf (.lst ((n :: ns).map .int)) S).bind isInts = some (n :: ns) := by
    show isInts ((n :: ns).map .int) = _
    exact ints_map _
  simp only [gMaxS, e]
end Ag

/-! len(set(x)), x a tuple of tuples of ints -/
namespace Ag
open PySem PySem.Spec PyProof.Rows L2
section
variable {P : Program} {w : World} {A : Around} {E : Value → Shared → Prop} {s : Shared}
theorem set_tups {l : Addr} {items : Array Value} (ks : List (Addr × List Int)) {Q : Value → Shared → Prop} (calm : A.handled = none) (hl : s.heap.IsTuple l items) (hi : items.toList = ks.map fun p => Value.ref p.1) (hk : ∀ p ∈ ks, IsT P w s.heap p.2 p.1) (few : ks.length < 64) (hu : A.units + 64 < cLine)
    (fin : ∀ g tk, (∃ L es ep t, SetTR P w g s.heap.objs.size L es ep t ∧ Got ks ks.length L) → (∀ b o, s.heap.get? b = some o → g.get? b = some o) → Q (.ref s.heap.objs.size) { s with heap := g, toks := tk }) : wpAny (model P w) A (call (.type "set") [.ref l]) Q E s := by
  obtain ⟨⟨oc, od, oda, osl⟩, ho, hc, nl, hd⟩ := id hl
  simp only at hc hd
  subst hc hd
  have lt : l < s.heap.objs.size := Heap.lt_size ho
  have sz : items.size = ks.length := by rw [← Array.length_toList, hi, List.length_map]
  have z1 : (s.heap.push (set0 w)).objs.size = s.heap.objs.size + 1 := Heap.size_push ..
  refine set_from (Fin := fun g => ∃ L es ep t, SetTR P w g s.heap.objs.size L es ep t ∧ Got ks ks.length L) (it := { cls := .type "tuple_iterator", data := .fields #[.ref l, .int 0 0] }) ho F.sub_tuple_set F.sub_tuple_frozenset (by decide) (fun A' E' s' Q' h q => wpAny_pyIter_tuple ⟨_, h, rfl, nl, rfl⟩ q) ?_ fin
  intro R hR
  have ne : l ≠ (s.heap.push (set0 w)).objs.size := z1 ▸ Nat.ne_of_lt (Nat.lt_succ_of_lt lt)
  have nf : s.heap.objs.size ∉ [(s.heap.push (set0 w)).objs.size, l] := fun z => by
    rcases List.mem_cons.mp z with z | z
    · exact absurd (z.trans z1) (Nat.ne_of_lt (Nat.lt_succ_self _))
    · exact absurd (List.mem_singleton.mp z) (Nat.ne_of_gt lt)
  have gone : ∀ b, s.heap.objs.size ≤ b → s.heap.get? b = none := fun b hb => by
    cases q : s.heap.get? b with
    | none => rfl
    | some o => exact absurd (Heap.lt_size q) (Nat.not_lt.mpr hb)
  refine set_update_tups (A := A.in1.in1) ((Walks.tuple (A := A.in1.in1.in1) (by simpa using calm) _ l ne items).toS) s.heap.objs.size nf ks sz few ?_ s.heap hk (gone _ (Nat.le_refl _)) ?_ ?_ items.size 0 _ (by omega) (Nat.zero_le _) ⟨⟨_, Heap.get?_push_size _ rfl, rfl, rfl⟩, (hl.push _).push _⟩ ?_ ⟨[], _, _, _, setTR_fresh (Heap.get?_push_of_some _ (Heap.get?_push_size _ rfl)), Got.zero ks⟩ ?_
  · intro i v hv
    have e : items.toList[i]? = some v := by rw [Array.getElem?_toList]; exact hv
    rw [hi, List.getElem?_map] at e
    cases q : ks[i]? with
    | none => rw [q] at e; cases e
    | some p => rw [q] at e; exact ⟨p, rfl, (Option.some.inj e).symm⟩
  · intro b hb
    rw [List.mem_singleton.mp hb, z1]
    exact gone _ (Nat.le_succ _)
  · show A.units + 1 + 1 + 1 < cLine
    omega
  · exact fun b o e => Heap.get?_push_of_some _ (Heap.get?_push_of_some _ e)
  · intro s' L es ep t mv hS hG kp
    obtain ⟨g, g2, d', tk', os'⟩ := s'
    obtain rfl : g2 = s.gens := mv.gens
    obtain rfl : d' = s.drawn := mv.drawn
    obtain rfl : os' = s.os := mv.os
    exact hR g tk' ⟨L, es, ep, t, hS, sz ▸ hG⟩ kp
end
/-- how many there are, each counted once -/
def manyK : List (List Int) → Nat
  | [] => 0
  | k :: ks => if k ∈ ks then manyK ks else manyK ks + 1
def onceK : List (List Int) → List (List Int)
  | [] => []
  | k :: ks => if k ∈ ks then onceK ks else k :: onceK ks
theorem mem_once {x : List Int} : ∀ {ks : List (List Int)}, x ∈ onceK ks ↔ x ∈ ks
  | [] => Iff.rfl
  | k :: ks => by
    unfold onceK
    split
    · rename_i h
      rw [mem_once, List.mem_cons]
      exact ⟨.inr, fun z => z.elim (fun e => e ▸ h) id⟩
    · rw [List.mem_cons, List.mem_cons, mem_once]
theorem nd_once : ∀ ks : List (List Int), (onceK ks).Nodup
  | [] => List.nodup_nil
  | k :: ks => by
    unfold onceK
    split
    · exact nd_once ks
    · rename_i h
      exact List.nodup_cons.mpr ⟨fun z => h (mem_once.mp z), nd_once ks⟩
theorem len_once : ∀ ks : List (List Int), (onceK ks).length = manyK ks
  | [] => rfl
  | k :: ks => by
    unfold onceK manyK
    split
    · exact len_once ks
    · rw [List.length_cons, len_once ks]
theorem many_of {L ks : List (List Int)} (nd : L.Nodup) (h : ∀ x, x ∈ L ↔ x ∈ ks) : L.length = manyK ks := by
  rw [← len_once]
  exact Nat.le_antisymm (nodup_len nd fun x hx => mem_once.mpr ((h x).mp hx)) (nodup_len (nd_once ks) fun x hx => (h x).mpr (mem_once.mp hx))
def tupKs : List D → Option (List (List Int))
  | [] => some []
  | .tup l :: r => match isInts l, tupKs r with
    | some k, some ks => some (k :: ks)
    | _, _ => none
  | _ :: _ => none
/-- len(set(x)) -/
def gLenSetT (d : D) (S : Sto) : Option D := match d with
  | .tup l => match tupKs l with
    | some ks => if ks.length < 64 then some (.int (manyK ks)) else none
    | none => none
  | _ => none
section
variable {X : Cx} {W : WX} {e : Expr} {me : EM} {p1 pos1 p2 pos2 : Pos} {K : PySem.W.Frag} {m : Mp} {H : Hp}
theorem ks_of : ∀ {vs : List V} {l : List D} {ks : List (List Int)}, Reps K m H vs l → tupKs l = some ks → ∃ ps : List (Addr × List Int), vs = ps.map (fun p => V.ref p.1) ∧ ps.map (·.2) = ks ∧ ∀ p ∈ ps, SqT K H p.1 (p.2.map V.int)
  | _, [], ks, h, q => by cases h; cases q; exact ⟨[], rfl, rfl, by simp⟩
  | _, d :: l, ks, h, q => by
    cases h with
    | cons h1 h2 =>
      cases h1 with
      | tup g1 hd g2 =>
        rename_i l1
        simp only [tupKs] at q
        cases q1 : isInts l1 with
        | none => rw [q1] at q; cases q
        | some k =>
          cases q2 : tupKs l with
          | none => rw [q1, q2] at q; cases q
          | some ks' =>
            rw [q1, q2] at q
            cases q
            obtain ⟨ps, rfl, e2, e3⟩ := ks_of h2 q2
            obtain rfl := ints_of g2 q1
            refine ⟨(_, k) :: ps, rfl, by simp [e2], fun p hp => ?_⟩
            rcases List.mem_cons.mp hp with rfl | hp
            · exact g1
            · exact e3 p hp
      | _ => cases q
def rSetT (K : PySem.W.Frag) (P : Program) (w : World) : List V → Hp → VK → Prop := fun xs H Q => ∃ (l : Addr) (ks : List (Addr × List Int)), xs = [V.ref l] ∧ SqT K H l (ks.map fun p => V.ref p.1) ∧ (∀ p ∈ ks, SqT K H p.1 (p.2.map V.int)) ∧ ks.length < 64 ∧
  ∀ a L, H a = none → L.length = manyK (ks.map (·.2)) → Q (.ref a) (upd H a (SetTO P w a L))
theorem cr_setT (hc : X.calm = true) (hu : X.A.units + 64 < cLine) : CallR X (.type "set") (rSetT X.K X.prog X.w) := by
  intro pins s σ H xs us Q I r h
  obtain ⟨l, ks, rfl, hl, hk, few, q⟩ := h
  obtain ⟨its, rv, pl, _⟩ := I.tuple hl
  rw [Vals.ref1 r]
  refine set_tups ks (I.ok.hd hc) pl (by simpa using refs_of_vals rv) (fun p hp => I.isT (hk p hp)) few hu fun g tk ⟨L, es, ep, t, R, G⟩ kp => ?_
  refine ⟨.ref _, _, I.laid (t' := tk) kp (Nat.le_refl _) (setTO_new R.t0), rfl, q _ L (I.hok.fresh (Nat.le_refl _)) ?_⟩
  rw [← List.length_map (f := (·.2)) (as := L)]
  refine many_of R.nd fun x => ⟨fun hx => ?_, fun hx => ?_⟩
  · obtain ⟨p, hp, rfl⟩ := List.mem_map.mp hx
    exact List.mem_map.mpr ⟨p, List.mem_of_mem_take (G.sub p hp), rfl⟩
  · obtain ⟨p, hp, rfl⟩ := List.mem_map.mp hx
    exact G.all p (by rw [List.take_length]; exact hp)
def rLenT (P : Program) (w : World) : List V → Hp → VK → Prop := fun vs H Q => ∃ (a : Addr) (L : List (Addr × List Int)), vs = [.ref a] ∧ H a = some (SetTO P w a L) ∧ Q (.int L.length) H
theorem cr_lenT : CallR X (.builtin "len") (rLenT X.prog X.w) := by
  intro pins s σ H vs us Q I r h
  obtain ⟨a, L, rfl, ha, q⟩ := h
  obtain ⟨es, ep, t, ⟨o, ho, hex, hd⟩, rows, tab, _, _, _, room, few⟩ := (show SetT0 X.prog X.w s.heap a L from (I.hok a _ ha).1).ex
  have hsz : es.size = L.length := by
    rw [← Array.length_toList, rows]
    simp [rowsOf]
  have pz : t.place.size = L.length := by rw [tab.sz, List.length_map]
  have fit : t.fits es.size = true := by
    simp only [SetTable.fits, SetTable.fill, tab.dm, Bool.and_eq_true, beq_iff_eq, decide_eq_true_eq, Array.size_empty]
    omega
  rw [Vals.ref1 r]
  exact call_len_set ho hex hd fit (by omega) ⟨.int L.length, H, I.tok _, ⟨_, by rw [hsz]⟩, q⟩
theorem e_lenSetT (hc : X.calm = true) (hu : X.A.units + 64 < cLine) (hg1 : Gl X "len") (hm1 : X.mg "len" = none) (hg2 : Gl X "set") (hm2 : X.mg "set" = none) (he : PE X e (tE X.K W me)) (na : starEach [e] X.env = (false, eval e X.env) :: starEach [] X.env := by rfl)
    (nb : starEach [.Call (.Name "set" p2) [e] [] pos2] X.env = (false, eval (.Call (.Name "set" p2) [e] [] pos2) X.env) :: starEach [] X.env := by rfl) : PE X (.Call (.Name "len" p1) [.Call (.Name "set" p2) [e] [] pos2] [] pos1) (tE X.K W (mUn gLenSetT me)) := by
  refine PE.imp (pe_callB cr_lenT hg1 hm1 boot_len (pa_cons (pe_callTy (cr_setT hc hu) hg2 hm2 boot_set (pa_cons he pa_nil na) (he := na)) pa_nil nb) (he := nb)) ?_
  rintro σ H Q ⟨en, S, m, er, si, h⟩
  refine ⟨en, S, m, er, si, (PostG.bind (R := Rep X.K) h).mono ?_⟩
  rintro v H1 ⟨d, S1, m1, e1, s1, r1, h1⟩
  unfold gLenSetT at h1
  cases r1 with
  | tup g1 hd g2 =>
    rename_i l
    simp only at h1
    cases q : tupKs l with
    | none => rw [q] at h1; exact h1.elim
    | some ks =>
      rw [q] at h1
      by_cases hl : ks.length < 64
      · simp only [hl, if_true] at h1
        obtain ⟨ps, rfl, e2, e3⟩ := ks_of g2 q
        refine ⟨_, ps, rfl, g1, e3, by rw [← e2, List.length_map] at hl; exact hl, fun a L ha hL => ⟨a, L, rfl, upd_same, ?_⟩⟩
        rw [hL, e2]
        exact h1 _ m1 _ (.new ha) (s1.new ha) (.int _)
      · simp only [hl, if_false] at h1; exact h1.elim
  | _ => exact h1.elim
end
end Ag

/-! {k: v}; d.get(k, v) -/
namespace Ag
open PySem PySem.Spec PyProof.Rows L2
section
variable {X : Cx} {k v : Expr} {tk tv : TE} {pos : Pos}
/-- {k: v}: the dict stands first, empty -/
def tDOne (K : PySem.W.Frag) (tk tv : TE) : TE := fun σ H Q => ∀ p o, H p = none → tk σ (upd H p (DicO p o [])) fun x H1 => tv σ H1 fun y H2 => ∃ o2, H2 p = some (DicO p o2 []) ∧ ∃ (kk : NestedKey) (b : Addr), x = .ref b ∧ KeyH K H2 kk (.ref b) ∧ numK kk = true ∧ kk.depth ≤ 8 ∧ ∀ u ob, RelV y u → Q (.ref p) (upd H2 p (DicO p ob [(kk, b, u)]))
theorem pe_dnew1 (hu : X.A.units + 64 < cLine) (hk : PE X k tk) (hv : PE X v tv) (e3 : (evalEachOpt [some k] X.env).zip ((evalEach [v] X.env).map fun v => do let x ← v; standAt pos; pure x) = [(eval k X.env, do let x ← eval v X.env; standAt pos; pure x)].map fun p => (some p.1, p.2) := by rfl) : PE X (.Dict [some k] [v] pos) (tDOne X.K tk tv) := ⟨fun pins s σ H Q I h => by
  have R : dicP s.heap.objs.size { cls := .type "dict", data := .dict #[] } [] (s.heap.push { cls := .type "dict", data := .dict #[] }) := ⟨beq_eq_false_iff_ne.mpr (Ne.symm (Nat.ne_of_lt I.big)), Heap.get?_push_size _ rfl, #[], 0, ⟨rfl, rfl, rfl⟩, rfl, rfl⟩
  have I1 := I.laid (t' := s.toks) (fun _ _ q => Heap.get?_push_of_some _ q) (Nat.le_refl _) (dicO_new R)
  have h1 := h _ { cls := .type "dict", data := .dict #[] } (I.hok.fresh (Nat.le_refl _))
  rw [arm_eval_Dict, e3, dictDisplay_pairs _ (by simp) (by simp)]
  refine wpAny_bind (wpAny_standAt (wpAny_bind (wpAny_subDictH (knd := nestedKind X.prog X.w) (by show X.A.units + 8 < cLine; omega) (by simp) ?_)))
  unfold evalPairs
  refine wpAny_bind (thn (hk.run pins _ σ _ _ I1 h1) fun kv s2 ⟨x, H1, I2, rx, h2⟩ => ?_)
  refine wpAny_bind (wpAny_holding (wpAny_bind (thn (hv.run pins s2 σ H1 _ I2 h2) fun vv s3 ⟨y, H2, I3, ry, h3⟩ => ?_)))
  refine wpAny_bind (wpAny_standAt (wpAny_pure (wpAny_bind (wpAny_holding ?_))))
  refine (show wpAny _ _ (pure []) _ _ _ from wpAny_pure (wpAny_pure ?_))
  obtain ⟨o2, hp, kk, b, rfl, hkk, hn, hd, q⟩ := h3
  cases rx
  obtain ⟨h0, R2⟩ := dic_get I3 hp ⟨fun x hx => (by cases hx), List.nodup_nil⟩
  refine ⟨[(kk, b, vv)], ⟨rfl, rfl, ⟨key_is I3 hkk rfl, hd⟩, trivial⟩, R2, fun h' tk R3 sb => wpAny_pure ?_⟩
  obtain ⟨o3, R4⟩ := dic_put h0 R3 (fun x hx => by
    have : x = (kk, b, vv) := by simpa [storedAllH, storedH, atKey] using hx
    rw [this]; exact hn)
  have e : storedAllH [] [(kk, b, vv)] = [(kk, b, vv)] := by simp [storedAllH, storedH, atKey]
  rw [e] at R4
  exact ⟨.ref _, upd H2 _ (DicO _ o3 [(kk, b, vv)]), I3.write (e := s.heap.objs.size) (t' := tk) (by rw [hp]; trivial) (.inl rfl) (fun c z hc hz => (sb.2 c hc).trans hz) ⟨o3, R4.2.1⟩ (dicO_new R4), rfl, q vv o3 ry⟩⟩
/-- {k: v} -/
def isD0 : Option Ob → Bool
  | some (.dic []) => true
  | _ => false
theorem isD0_ok {o : Option Ob} (h : isD0 o = true) : o = some (.dic []) := by
  unfold isD0 at h
  split at h
  · rfl
  · cases h
def mDOne (mk mv : EM) : EM := fun en S => (mk en (S ++ [.dic []])).bind fun d S1 => (mv en S1).bind fun c S2 => match isD0 S2[S.length]?, keyT d with
  | true, some _ => .ok (.ref S.length) (S2.set S.length (.dic [d, c]))
  | _, _ => .stuck
theorem e_dnew1 {W : WX} {mk mv : EM} (hu : X.A.units + 64 < cLine) (hk : PE X k (tE X.K W mk)) (hv : PE X v (tE X.K W mv)) (e3 : (evalEachOpt [some k] X.env).zip ((evalEach [v] X.env).map fun v => do let x ← v; standAt pos; pure x) = [(eval k X.env, do let x ← eval v X.env; standAt pos; pure x)].map fun p => (some p.1, p.2) := by rfl) : PE X (.Dict [some k] [v] pos) (tE X.K W (mDOne mk mv)) := by
  refine PE.imp (pe_dnew1 hu hk hv e3) ?_
  rintro σ H Q ⟨en, S, m, er, si, h⟩ p o hp
  have e0 : Ext m H (m.add p) (upd H p (DicO p o [])) := .cell hp
  have s0 : Sim X.K (m.add p) (S ++ [.dic []]) (upd H p (DicO p o [])) := si.grow hp ⟨o, [], upd_same, .nil, List.nodup_nil⟩
  have at0 : (m.add p).c[S.length]? = some p := si.last p
  refine ⟨en, _, m.add p, er.to e0, s0, (PostG.bind (R := Rep X.K) (PostG.to h e0)).mono ?_⟩
  rintro x H1 ⟨d, S1, m1, e1, s1, r1, h1⟩
  refine ⟨en, S1, m1, (er.to e0).to e1, s1, (PostG.bind (R := Rep X.K) h1).mono ?_⟩
  rintro y H2 ⟨c, S2, m2, e2, s2, r2, h2⟩
  cases q1 : isD0 S2[S.length]? with
  | false => rw [q1] at h2; exact h2.elim
  | true =>
    cases q2 : keyT d with
    | none => rw [q1, q2] at h2; exact h2.elim
    | some kk =>
      rw [q1, q2] at h2
      have g := isD0_ok q1
      have at2 : m2.c[S.length]? = some p := by
        obtain ⟨ex, hx, _⟩ := (e1.trans e2).pre
        exact pre_at hx at0
      obtain ⟨o2, xs, g1, g2, g3⟩ := s2.cell _ _ _ at2 g
      cases g2
      obtain ⟨b, rfl, k1, k2, k3, k4⟩ := keyT_ok (r1.to e2) q2
      refine ⟨o2, g1, kk, b, rfl, k1, k2, k3, fun u ob ru => ?_⟩
      have e : Ext m2 H2 m2 (upd H2 p (DicO p ob [(kk, b, u)])) := Ext.put s2 (List.mem_of_getElem? at2)
      exact h2 _ _ _ e (s2.put at2 ⟨ob, _, upd_same, (DicR.cons k4 (r1.to e2) ru r2 .nil).tr e.tr, by simp⟩) (.ref at2)
/-- d.get(k, c) -/
def okDic (d : D) (S : Sto) : Bool := (dicOf d S).isSome
def fDGet : D → List D → Sto → Option (D × Sto)
  | c, [d, e], S => (dicOf c S).bind fun l => (keyT d).map fun kk => ((lookK kk l).getD e, S)
  | _, _, _ => none
theorem m_dget (hu : X.A.units + 64 < cLine) : MtR X "dict.get" (rBM X.K fDGet) := by
  rintro pins s σ H x xs v us Q I rx rxs ⟨c, ds, S, m, r, si, hx, hxs, hf, hq⟩
  unfold fDGet at hf
  split at hf
  · rename_i d e
    obtain ⟨l, q1, q2⟩ := Option.bind_eq_some_iff.mp hf
    obtain ⟨kk, q3, rfl⟩ := Option.map_eq_some_iff.mp q2
    obtain ⟨a, o, ys, rfl, g1, g2, g3⟩ := dic_at si hx q1
    cases hxs with
    | cons r1 hxs =>
      cases hxs with
      | cons r2 hxs =>
        cases hxs
        obtain ⟨b, rfl, k1, k2, k3, _⟩ := keyT_ok r1 q3
        cases rx
        cases rxs with
        | cons t1 rxs =>
          cases rxs with
          | cons t2 rxs =>
            cases rxs
            cases t1
            obtain ⟨h0, R⟩ := dic_get I g1 ⟨g2.key, g3⟩
            refine getOr_keyed (room8 hu) ⟨key_is I k1 rfl, k3⟩ h0 ⟨ys, R, rfl⟩ ?_
            rw [valueAt_pairsH]
            rcases g2.look kk with ⟨e1, e2⟩ | ⟨d', p, w, e1, e2, rw_, rp⟩
            · rw [e2]
              rw [e1] at hq
              exact ⟨_, H, I.tok _, t2, hq _ _ .refl si r2⟩
            · rw [e2]
              rw [e1] at hq
              exact ⟨_, H, I.tok _, rw_, hq _ _ .refl si rp⟩
  · cases hf
section
variable {name : Str} {id : String} {o e : Expr} {es : List Expr} {apos cpos : Pos}
/-- a method of a dict -/
theorem e_dm {W : WX} {mo : EM} {mr : AM} {f : D → List D → Sto → Option (D × Sto)} (slot : Slot "dict" name id) (hty : typeOf (.builtin id) = pure (.type "method_descriptor")) (hm : MtR X id (rBM X.K f)) (ho : PE X o (tE X.K W mo)) (ha : PA X (e :: es) (tA X.K W mr))
    (h1 : attributeBase o name X.env (eval o X.env) = eval o X.env := by rfl)
    (h2 : ((((backTo cpos (starEach (e :: es) X.env)).all fun x => !x.fst) && (backToKw cpos (keywordEach [] X.env)).all fun x => x.fst.isSome) && decide (((e :: es).length + ([] : List Keyword).length + if ([] : List Keyword).isEmpty = true then 0 else 1) < 30)) = true := by rfl)
    (h3 : (apos.endLine == cpos.line) = true := by rfl) (h4 : starEach (e :: es) X.env = (false, eval e X.env) :: starEach es X.env := by rfl) (h5 : (backTo cpos (starEach es X.env)).any (·.1) = false := by rfl) :
    PE X (.Call (.Attribute o name apos) (e :: es) [] cpos) (tE X.K W (mBM f okDic mo mr)) := by
  constructor
  rintro pins s σ H Q I ⟨en, S, m, er, si, h⟩
  have step : PostG X.K W (Rep X.K) σ m H (mo en S) fun x H1 => (∃ a ob xs, x = V.ref a ∧ H1 a = some (DicO a ob xs)) ∧ tA X.K W mr σ H1 fun vs H2 => rBM X.K f x vs H2 Q := (PostG.bind (R := Rep X.K) h).mono (by
    rintro v H1 ⟨d, S1, m1, e1, s1, r1, h1⟩
    cases q : okDic d S1 with
    | false => rw [q] at h1; exact h1.elim
    | true =>
      rw [q] at h1
      obtain ⟨l, hl⟩ := Option.isSome_iff_exists.mp q
      obtain ⟨a, ob, xs, rfl, g1, _⟩ := dic_at s1 r1 hl
      refine ⟨⟨a, ob, xs, rfl, g1⟩, en, S1, m1, er.to e1, s1, (PostG.bind (R := Reps X.K) h1).mono ?_⟩
      rintro vs H2 ⟨ds, S2, m2, e2, s2, r2, h2⟩
      cases q : f d ds S2 with
      | none => rw [q] at h2; exact h2.elim
      | some r =>
        rw [q] at h2
        exact ⟨d, ds, S2, m2, r, s2, r1.to e2, r2, q, fun z H3 e3 s3 r3 => h2 z m2 H3 e3 s3 r3⟩)
  refine wpAny_Call_method_late h1 h2 h3 rfl (thn (ho.run pins s σ H _ I ⟨en, S, m, er, si, step⟩) fun v s1 ⟨x, H1, I1, rx, ⟨a, ob, xs, ex, g1⟩, q1⟩ => ?_)
  subst ex
  cases rx
  obtain ⟨_, hob, es', ep, hx, hod, _⟩ := show dicP a ob xs s1.heap from (I1.hok a _ g1).1
  refine ⟨"dict", id, F.plainAttrs_dict, slot, hty, ⟨ob, hob, hx.1⟩, fun b hb => (by cases hb; exact ⟨ob, hob, hx.2.1⟩), ?_⟩
  have arg := ha.run cpos pins s1 σ H1 _ I1 q1
  rw [h4] at arg ⊢
  refine Calls.callWith_builtin ((Bool.false_or _).trans h5) (Calls.evalArgs_plain (thn arg fun us s2 ⟨vs, H2, I2, r2, q2⟩ => ?_))
  exact hm pins s2 σ H2 (.ref a) vs _ us Q I2 rfl r2 q2
end
end
theorem q_dOne {mk mv : EM} {en : En} {S : Sto} {P : D → Sto → Prop} : (mDOne mk mv en S).sat P ↔ (mk en (S ++ [.dic []])).sat fun d S1 => (mv en S1).sat fun c S2 => isD0 S2[S.length]? = true ∧ (keyT d).isSome = true ∧ P (.ref S.length) (S2.set S.length (.dic [d, c])) := by
  unfold mDOne
  rw [r_bind]
  refine iff_of_eq (congrArg _ (funext fun d => funext fun S1 => ?_))
  rw [r_bind]
  refine congrArg _ (funext fun c => funext fun S2 => ?_)
  cases isD0 S2[S.length]? <;> cases keyT d <;> simp [r_ok, r_stuck]
end Ag

/-! sorted(t), t a tuple -/
namespace Ag
open PySem PySem.Spec PyProof.Rows L2
section
variable {prog : Program} {w : World} {A : Around} {E : Value → Shared → Prop} {s : Shared}
theorem collect_tup {l : Addr} {vs : List Value} {Q : List Value → Shared → Prop} (hl : s.heap.IsTuple l vs.toArray) (hz : vs.length ≤ sizeLine) (fin : Q vs { s with heap := (s.heap.push (seqObj "list" #[] 0)).update s.heap.objs.size (Obj.mapSeq (· ++ vs.toArray)) }) : wpAny (model prog w) A (collect (.ref l)) Q E s := by
  obtain ⟨o, ho, hc, n, hd⟩ := id hl
  have new : (s.heap.push (seqObj "list" #[] 0)).get? s.heap.objs.size = some (seqObj "list" #[] 0) := Heap.get?_push_size _ rfl
  have old : (s.heap.push (seqObj "list" #[] 0)).get? l = some o := Heap.get?_push_of_some _ ho
  have isT : (Value.type "tuple" == Value.type "tuple") = true := rfl
  unfold collect
  refine wpAny_bind (wpAny_runValue (codeAny_builtin entry_proto_collect' ?_))
  refine (show wpAny _ _ (do again (.builtin "list.__iadd__" ⟨[← newList [], .ref l], []⟩)) _ _ s from wpAny_bind (wpAny_newList (wpAny_pure ⟨Code.quiet_builtin _ (by decide +kernel), codeAny_builtin entry_list_iadd' ?_⟩)))
  refine (show wpAny _ _ (Builtin.List.listExtendWith (.ref s.heap.objs.size) (.ref l) (.ref s.heap.objs.size)) _ _ { s with heap := s.heap.push (seqObj "list" #[] 0) } from ?_)
  unfold Builtin.List.listExtendWith
  refine wpAny_bind (wpAny_typeOf (T := "tuple") ⟨o, old, hc⟩ ?_)
  rw [if_pos (by rw [isT, Bool.or_true])]
  refine wpAny_bind (listItems_at old hd ?_)
  refine wpAny_bind (listItems_at (xs := #[]) (n := 0) new rfl ?_)
  rw [if_neg (by simp)]
  refine wpAny_bind (listUpdate_at (xs := #[]) (n := 0) new rfl ?_ (Nat.zero_le _) (by show (#[] ++ vs.toArray).size ≤ sizeLine + 1; simp only [Array.size_append, List.size_toArray, List.length_nil]; omega))
  refine wpAny_pure (wpAny_bind (wpAny_load (get?_update_seq new _) ?_))
  have e : ((#[] : Array Value) ++ vs.toArray).toList = vs := by simp
  refine (show wpAny _ _ (pure ((#[] : Array Value) ++ vs.toArray).toList) Q E _ from ?_)
  rw [e]
  exact wpAny_pure fin
open PySem.W (SortsAt sortingHeap copyHeap copyHeap_at sortVals list_sort_vals)
/-- sorted(t): the items, put into a new list and sorted there -/
theorem sorted_tup {κ : PyProof.Rows.KeyKind} {l : Addr} {vs : List Value} {Q : Value → Shared → Prop} (hl : s.heap.IsTuple l vs.toArray) (S : SortsAt prog w A.in1.in1 { s with heap := sortingHeap (copyHeap s.heap vs) (s.heap.objs.size + 1) vs } κ vs) (hz : vs.length ≤ sizeLine)
    (fin : Q (.ref (s.heap.objs.size + 1)) { s with heap := sortedAll s.heap vs (sortVals κ false vs vs).toArray }) : wpAny (model prog w) A (call (.builtin "sorted") [.ref l]) Q E s := by
  have hsz : ((s.heap.push (seqObj "list" #[] 0)).update s.heap.objs.size (Obj.mapSeq (· ++ vs.toArray))).objs.size = s.heap.objs.size + 1 := by rw [Heap.size_update, size_push']
  refine call_function_entry_kw kind_sorted plain_sorted entry_sorted (args_sorted1 _) ?_
  unfold Builtin.«sorted»
  refine wpAny_bind (m := checkCount "sorted" 1 1 _) (wpAny_pure (wpAny_bind (collect_tup hl hz (wpAny_bind (wpAny_newList ?_ hz)))))
  refine (show wpAny _ _ _ _ _ { s with heap := copyHeap s.heap vs } from ?_)
  rw [hsz]
  refine wpAny_bind (wpAny_holding (wpAny_call_entry_kw slot_list_sort ⟨_, copyHeap_at s.heap vs, rfl⟩ entry_list_sort (list_sort_vals (A := A.in1.in1) (s := { s with heap := copyHeap s.heap vs }) (copyHeap_at s.heap vs) S hz ?_) (args_list_sort _)))
  exact ⟨_, rfl, wpAny_pure ⟨_, rfl, fin⟩⟩
end
def leS (a b : Str) : Bool := decide (a.cps.toList ≤ b.cps.toList)
/-- the texts in order -/
def sortS (xs : List Str) : List Str := xs.mergeSort leS
section
open PySem.W (SortsAt EachIs AllAlike Sortable dataLe dataLe_str sortVals_data sortVals_length sorting_copy_old sortVals sorted_data each_map)
variable {X : Cx}
theorem each_strs : ∀ {xs : List Str} {us : List Value}, Vals (xs.map V.str) us → EachIs (fun v x => ∃ t, v = Value.str x t) us xs
  | [], _, h => by cases h; exact .nil
  | x :: xs, _, h => by
    cases h with
    | cons h1 h2 =>
      obtain ⟨t, rfl⟩ := h1
      exact .cons ⟨t, rfl⟩ (each_strs h2)
theorem vals_each : ∀ {xs : List Str} {us : List Value}, EachIs (fun v x => ∃ t, v = Value.str x t) us xs → Vals (xs.map V.str) us
  | [], _, h => by cases h; exact .nil
  | x :: xs, _, h => by
    cases h with
    | cons h1 h2 => exact .cons h1 (vals_each h2)
theorem le_str : dataLe false (fun x : Str => PyData.str x) = leS := by
  rw [dataLe_str fun x : Str => x]; rfl
theorem like_strs (xs : List Str) : AllAlike (xs.map PyData.str) ∧ Sortable (xs.map PyData.str) := by
  refine ⟨fun d hd e he => ?_, .inr fun d hd => ?_⟩
  · obtain ⟨a, _, rfl⟩ := List.mem_map.mp hd
    obtain ⟨b, _, rfl⟩ := List.mem_map.mp he
    rfl
  · obtain ⟨a, _, rfl⟩ := List.mem_map.mp hd
    exact ⟨fun z => (by cases z), fun _ z => (by cases z)⟩
theorem reads_each {h : Heap} : ∀ {xs : List Str} {us : List Value}, EachIs (fun v x => ∃ t, v = Value.str x t) us xs → EachIs (fun v x => ∃ as, Reads h v (PyData.str x) as) us xs
  | [], _, h => by cases h; exact .nil
  | x :: xs, _, h => by
    cases h with
    | cons h1 h2 =>
      obtain ⟨t, rfl⟩ := h1
      exact .cons ⟨_, .str x t⟩ (reads_each h2)
def rSortS (K : PySem.W.Frag) : List V → Hp → VK → Prop := fun vs H Q => ∃ (a : Addr) (xs : List Str), vs = [V.ref a] ∧ (SqL K H a (xs.map V.str) ∨ SqT K H a (xs.map V.str)) ∧ ∀ p, H p = none → Q (.ref p) (upd H p (.lst ((sortS xs).map V.str)))
theorem cr_sortS (hu : X.A.units + 64 < cLine) : CallR X (.builtin "sorted") (rSortS X.K) := by
  intro pins s σ H vs us Q I r h
  obtain ⟨a, xs, rfl, hs, q⟩ := h
  rw [Vals.ref1 r]
  obtain ⟨al, so⟩ := like_strs xs
  have sl : (sortS xs).length = xs.length := List.length_mergeSort _
  have done : ∀ (its out : List Value), xs.length ≤ sizeLine → EachIs (fun v x => ∃ t, v = Value.str x t) out (sortS xs) → EP X pins σ Q (.ref (s.heap.objs.size + 1)) { s with heap := sortedAll s.heap its out.toArray } := fun its out hz ho => by
    obtain ⟨ep, he⟩ := sortedAll_at s.heap its out.toArray
    exact ⟨.ref _, upd H (s.heap.objs.size + 1) (.lst ((sortS xs).map V.str)), I.laid (t' := s.toks) (fun _ _ => sortedAll_old) (Nat.le_succ _) (show ObjOk X.prog X.w _ _ _ (.lst _) from ⟨by rw [List.length_map, sl]; exact hz, out, ep, vals_each ho, he⟩), rfl, q _ (I.hok.fresh (Nat.le_succ _))⟩
  have room : ∀ b ∈ xs, X.A.units + 2 + (PyData.str b).depth < cLine := fun b _ => by simp only [PyData.depth]; omega
  rcases hs with hs | hs
  · obtain ⟨its, rv, pl, hz⟩ := I.list hs
    rw [List.length_map] at hz
    have ee := each_strs rv
    refine sorted_data (enc := fun x : Str => PyData.str x) pl.isList ee (reads_each ee) al so hz room fun out _ ho => ?_
    rw [le_str] at ho
    exact done its out hz ho
  · obtain ⟨its, rv, pl, hz⟩ := I.tuple hs
    rw [List.length_map] at hz
    have ee := each_strs rv
    have er : EachIs (fun v x => ∃ as, Reads (PySem.W.sortingHeap (PySem.W.copyHeap s.heap its) (s.heap.objs.size + 1) its) v (PyData.str x) as) its xs := reads_each ee
    refine sorted_tup pl (SortsAt.data (s := { s with heap := PySem.W.sortingHeap (PySem.W.copyHeap s.heap its) (s.heap.objs.size + 1) its }) (each_map (R := fun v d => ∃ as, Reads (PySem.W.sortingHeap (PySem.W.copyHeap s.heap its) (s.heap.objs.size + 1) its) v d as) (fun x : Str => PyData.str x) er) al so ?_) (by rw [ee.length]; exact hz) ?_
    · intro d hd
      obtain ⟨b, hb, rfl⟩ := List.mem_map.mp hd
      exact room b hb
    · have ho := sortVals_data (enc := fun x : Str => PyData.str x) false ee er al
      rw [le_str] at ho
      exact done its _ hz ho
/-- sorted(x) of texts -/
def gSortS (d : D) (S : Sto) : Option D := ((sqOf d S).bind isStrs).map fun xs => .lst ((sortS xs).map .str)
theorem reps_txt {K : PySem.W.Frag} {m : Mp} {H : Hp} : ∀ xs : List Str, Reps K m H (xs.map V.str) (xs.map D.str)
  | [] => .nil
  | x :: xs => .cons (.str x) (reps_txt xs)
theorem b_sortS (hu : X.A.units + 64 < cLine) : CallR X (.builtin "sorted") (rOL X.K (f1 gSortS)) := c1 fun pins s σ H x u Q d S m r I rx si hx hf hq => by
  obtain ⟨xs, q1, rfl⟩ := Option.map_eq_some_iff.mp hf
  obtain ⟨l, q2, q3⟩ := Option.bind_eq_some_iff.mp q1
  have fin : ∀ p, H p = none → Q (.ref p) (upd H p (.lst ((sortS xs).map V.str))) := fun p hp => hq _ _ (.new hp) (si.new hp) (.lst upd_same (si.off hp) (reps_txt _))
  by_cases ht : ∃ l, d = .tup l
  · obtain ⟨l', rfl⟩ := ht
    cases q2
    cases hx with
    | tup g1 hd g2 =>
      obtain rfl := strs_of g2 q3
      exact cr_sortS hu pins s σ H _ _ Q I rx ⟨_, xs, rfl, .inr g1, fin⟩
  · have e : rdOf d S = some l := by
      cases d with
      | tup l => exact absurd ⟨l, rfl⟩ ht
      | _ => exact q2
    obtain ⟨a, vs, rfl, g1, g2⟩ := rd_at si hx e
    obtain rfl := strs_of g2 q3
    exact cr_sortS hu pins s σ H _ _ Q I rx ⟨_, xs, rfl, .inl g1, fin⟩
end
theorem bt_sorted : bootBuiltins "sorted" = some (.builtin "sorted") := by decide +kernel
end Ag

namespace Ag
open PySem L2
/-! ### str(x) of an own class with __str__ -/
section
variable {X : Cx} {W : WX} {j : Nat}
def strF (c : Str) (fm : List D → Sto → Res D) : List D → Sto → Res D
  | [d], S => match clsD d S with
    | some c' => if c' = c then (match fm [d] S with
      | .ok (.str x) S' => .ok (.str x) S'
      | _ => .stuck) else .stuck
    | none => ofO (gStr d S) S
  | _, _ => .stuck
theorem b_strO {k : Nat} {c : Str} {f : Addr} {fd : FuncData} {ps : List Str} {fm : List D → Sto → Res D} (B : Bd X W j) (hl : PySem.W.findIn X.K (.ref (He.ga X.K c)) "__str__" = some (some (.ref f))) (hfn : PySem.W.isFn X.K (.ref f) = true) (F : FnG X.prog X.w X.K X.mg X.base k f fd ps (spOf X.K 1 fm)) (hk : k + 2 ≤ j) (hb : Binds X.K fd ps []) :
    CallR X (.type "str") (rOR X.K (strF c fm)) := by
  intro pins s σ H xs us Q I rx ⟨ds, S, m, si, hx, h⟩
  cases hx with
  | nil => exact h.elim
  | cons r1 r2 =>
    cases r2 with
    | cons r2 r3 => exact h.elim
    | nil =>
      rename_i v d
      simp only [strF] at h
      cases q : clsD d S with
      | none =>
        simp only [q] at h
        cases q2 : gStr d S with
        | none => rw [q2] at h; exact h.elim
        | some r => rw [q2] at h; exact b_str pins s σ H _ _ Q I rx ⟨[d], S, m, r, si, .cons r1 .nil, q2, fun v H' e' s' r' => h v m H' e' s' r'⟩
      | some c' =>
        simp only [q] at h
        by_cases hc : c' = c
        · rw [if_pos hc] at h
          subst hc
          obtain ⟨a, dx, fs, rfl, g1⟩ := cls_at si r1 q
          cases rx with
          | cons ra rb =>
            cases ra; cases rb
            obtain ⟨mA, O, _, _, _, _⟩ := ins_get I.hok g1
            obtain ⟨od, J, _⟩ := O.look
            have r2 : Room (k + 2) X.A := B.room.mono hk
            refine PySem.W.kso_call (by have := r2.un; show X.A.units + 1 + 1 < cLine; omega) I.kIn J hl hfn ?_
            have hsp : spOf X.K 1 fm [.ref a] H (fun v H' => ∃ x : Str, v = .str x ∧ Q (.str x) H') fun _ _ _ => False := ⟨rfl, [d], S, m, .cons r1 .nil, si, by
              cases q2 : fm [d] S with
              | stuck => simp only [q2] at h; exact h
              | exc c fs S2 => simp only [q2] at h; exact h.elim
              | ok r S2 =>
                simp only [q2] at h
                intro v m' H' e' s' r'
                cases r' with
                | str x => exact ⟨x, rfl, h _ m' H' e' s' (.str x)⟩
                | _ => exact h.elim⟩
            have hlen : ([Value.ref a] : List Value).length = ps.length := F.len _ _ _ _ hsp
            have b := hb s [.ref a] I.kIn (by rw [List.append_nil]; exact hlen)
            rw [List.append_nil] at b
            refine wpAny_call (codeAny_mono (F.run X.A.in1.in1 X.stack s H ⟨[.ref a], []⟩ [.ref a] [.ref a] _ (fun _ _ _ => False) B.gd r2.in1.in1 I.env0.in1.in1 b (.cons rfl .nil) hsp) fun r s' hq => ?_)
            cases r with
            | error er =>
              obtain ⟨_, _, _, _, _, _, _, _, _, _, _, _, z⟩ := hq
              exact z.elim
            | ok fl =>
              cases fl with
              | ret u =>
                obtain ⟨v, H', I3, rv, x, rfl, q3⟩ := I.after hq
                obtain ⟨t, rfl⟩ := rv
                exact ⟨.str x, H', I3, ⟨_, rfl⟩, q3⟩
              | next => exact hq.elim
              | brk => exact hq.elim
              | cont => exact hq.elim
        · rw [if_neg hc] at h; exact h.elim

theorem e_ctr {x : Str} {T : String} {f : List D → Sto → Res D} {e : Expr} {es : List Expr} {mr : AM} {p pos : Pos} (hc : CallR X (.type T) (rOR X.K f)) (hg : Gl X x) (hm : X.mg x = none) (hv : bootBuiltins x = some (.type T)) (ha : PA X (e :: es) (tA X.K W mr))
    (hn : x ≠ "__name__" := by decide) (hd : (x == ("__debug__" : Str)) = false := by decide) (hs : starEach (e :: es) X.env = (false, eval e X.env) :: starEach es X.env := by rfl) (hb : (backTo pos (starEach es X.env)).any (·.1) = false := by rfl) :
    PE X (.Call (.Name x p) (e :: es) [] pos) (tE X.K W (mCR f mr)) := by
  refine PE.imp (pe_callTy hc hg hm hv ha hn hd hs hb) ?_
  rintro σ H Q ⟨en, S, m, er, si, h⟩
  refine ⟨en, S, m, er, si, (PostG.bind (R := Reps X.K) h).mono ?_⟩
  rintro vs H1 ⟨ds, S1, m1, e1, s1, r1, h1⟩
  refine ⟨ds, S1, m1, s1, r1, ?_⟩
  cases q : f ds S1 with
  | ok r S2 => simp only [q] at h1; exact h1
  | exc c fs S2 => simp only [q] at h1; exact h1.elim
  | stuck => simp only [q] at h1; exact h1
/-! ### operators that run a def -/
def rO2R (K : PySem.W.Frag) (f : D → D → Sto → Res D) : R2 := fun x y H Q => ∃ d e S m, Sim K m S H ∧ Rep K m H x d ∧ Rep K m H y e ∧ PostG K W0 (Rep K) [] m H (f d e S) Q
def mOpR (f : D → D → Sto → Res D) (ma mb : EM) : EM := fun en S => (ma en S).bind fun d S1 => (mb en S1).bind fun e S2 => match f d e S2 with
  | .ok r S3 => .ok r S3
  | _ => .stuck
theorem opR_to {f : D → D → Sto → Res D} {ma mb : EM} {σ : L2.St} {H : Hp} {Q : VK} (h : tE X.K W (mOpR f ma mb) σ H Q) : tOp (rO2R X.K f) (tE X.K W ma) (tE X.K W mb) σ H Q := by
  obtain ⟨en, S, m, er, si, h⟩ := h
  refine ⟨en, S, m, er, si, h.bind.mono ?_⟩
  rintro v H1 ⟨d, S1, m1, e1, s1, r1, h1⟩
  refine ⟨en, S1, m1, er.to e1, s1, h1.bind.mono ?_⟩
  rintro w H2 ⟨c, S2, m2, e2, s2, r2, h2⟩
  refine ⟨d, c, S2, m2, s2, r1.to e2, r2, ?_⟩
  cases q : f d c S2 with
  | ok r S3 => simp only [q] at h2; exact h2
  | exc c fs S3 => simp only [q] at h2; exact h2.elim
  | stuck => simp only [q] at h2; exact h2
theorem e_cmpR {op : CmpOp} {f : D → D → Sto → Res D} {a b : Expr} {ma mb : EM} {pos : Pos} (ho : OpR X (compareOp op) (rO2R X.K f)) (ha : PE X a (tE X.K W ma)) (hb : PE X b (tE X.K W mb)) (hm : behindInMarks op b = false) : PE X (.Compare a [op] [b] pos) (tE X.K W (mOpR f ma mb)) :=
  PE.imp (pe_cmpR ho ha hb hm) fun _ _ _ => opR_to
theorem t_cmpR {op : CmpOp} {f : D → D → Sto → Res D} {a b : Expr} {ma mb : EM} {pos : Pos} (ho : OpR X (compareOp op) (rO2R X.K f)) (ha : PE X a (tE X.K W ma)) (hb : PE X b (tE X.K W mb)) (hm : behindInMarks op b = false) : PT X (.Compare a [op] [b] pos) (tT X.K W (mB (mOpR f ma mb))) :=
  PT.imp (pt_cmpR ho ha hb hm) fun _ _ _ h => opR_to (b_to h)
/-- x == y of two things of the class c by its own __eq__; of plain data as ever -/
def eqF (c : Str) (fm : List D → Sto → Res D) (neg : Bool) (x y : D) (S : Sto) : Res D := match clsD x S, clsD y S with
  | some c1, some c2 => if c1 = c ∧ c2 = c then (match fm [x, y] S with
    | .ok (.bl b) S' => .ok (.bl (neg ^^ b)) S'
    | _ => .stuck) else .stuck
  | _, _ => .stuck
theorem eq_call {k : Nat} {f : Addr} {fd : FuncData} {ps : List Str} {fm : List D → Sto → Res D} {A : Around} {pins : List (Addr × Obj)} {σ : L2.St} {H : Hp} {s : Shared} {a b : Addr} {d e : D} {S : Sto} {m : Mp} {Q : VK} {neg : Bool} (gd : A.guards = some []) (rm : Room k A) (e0 : Env0 X.prog X.w X.K X.mg X.base A X.stack s H) (F : FnG X.prog X.w X.K X.mg X.base k f fd ps (spOf X.K 2 fm)) (hb : Binds X.K fd ps [])
    (I : Inv X pins σ H s) (si : Sim X.K m S H) (r1 : Rep X.K m H (.ref a) d) (r2 : Rep X.K m H (.ref b) e) (h : PostG X.K W0 (Rep X.K) [] m H (match fm [d, e] S with | .ok (.bl b) S' => .ok (.bl (neg ^^ b)) S' | _ => (.stuck : Res D)) Q) :
    wpAny (model X.prog X.w) A (call (.ref f) [.ref a, .ref b]) (fun v s' => ∃ r, v = .bool r ∧ EP X pins σ Q (.bool (neg ^^ r)) s') X.xe s := by
  have hsp : spOf X.K 2 fm [.ref a, .ref b] H (fun v H' => ∃ r : Bool, v = .bl r ∧ Q (.bl (neg ^^ r)) H') fun _ _ _ => False := ⟨rfl, [d, e], S, m, .cons r1 (.cons r2 .nil), si, by
    cases q2 : fm [d, e] S with
    | stuck => simp only [q2] at h; exact h
    | exc c fs S2 => simp only [q2] at h; exact h.elim
    | ok r S2 =>
      simp only [q2] at h
      intro v m' H' e' s' r'
      cases r' with
      | bl x => exact ⟨x, rfl, h _ m' H' e' s' (.bl _)⟩
      | _ => exact h.elim⟩
  have hlen : ([Value.ref a, Value.ref b] : List Value).length = ps.length := F.len _ _ _ _ hsp
  have bb := hb s [.ref a, .ref b] I.kIn (by rw [List.append_nil]; exact hlen)
  rw [List.append_nil] at bb
  refine wpAny_call (codeAny_mono (F.run A X.stack s H ⟨[.ref a, .ref b], []⟩ [.ref a, .ref b] [.ref a, .ref b] _ (fun _ _ _ => False) gd rm e0 bb (.cons rfl (.cons rfl .nil)) hsp) fun r s' hq => ?_)
  cases r with
  | error er =>
    obtain ⟨_, _, _, _, _, _, _, _, _, _, _, _, z⟩ := hq
    exact z.elim
  | ok fl =>
    cases fl with
    | ret u =>
      obtain ⟨v, H', I3, rv, r, rfl, q3⟩ := I.after hq
      cases rv
      exact ⟨r, rfl, .bl (neg ^^ r), H', I3, rfl, q3⟩
    | next => exact hq.elim
    | brk => exact hq.elim
    | cont => exact hq.elim
theorem o_eqO {k : Nat} {c : Str} {f : Addr} {fd : FuncData} {ps : List Str} {fm : List D → Sto → Res D} (B : Bd X W j) (hl : PySem.W.findIn X.K (.ref (He.ga X.K c)) "__eq__" = some (some (.ref f))) (hfn : PySem.W.isFn X.K (.ref f) = true) (F : FnG X.prog X.w X.K X.mg X.base k f fd ps (spOf X.K 2 fm)) (hk : k ≤ j) (hb : Binds X.K fd ps []) :
    OpR X (compareOp .Eq) (rO2R X.K (eqF c fm false)) := by
  intro pins s σ H x y v u Q I rx ry ⟨d, e, S, m, si, hx, hy, h⟩
  unfold eqF at h
  cases q1 : clsD d S with
  | none => simp only [q1] at h; exact h.elim
  | some c1 =>
    cases q2 : clsD e S with
    | none => simp only [q1, q2] at h; exact h.elim
    | some c2 =>
      simp only [q1, q2] at h
      by_cases hc : c1 = c ∧ c2 = c
      · rw [if_pos hc] at h
        obtain ⟨rfl, rfl⟩ := hc
        obtain ⟨a, dx, fs, rfl, g1⟩ := cls_at si hx q1
        obtain ⟨b, dy, gs, rfl, g2⟩ := cls_at si hy q2
        cases rx; cases ry
        obtain ⟨mA, O, _⟩ := ins_get I.hok g1
        obtain ⟨od, J, _⟩ := O.look
        obtain ⟨mB, O', _⟩ := ins_get I.hok g2
        obtain ⟨od', J', _⟩ := O'.look
        obtain ⟨mf, Fr⟩ := I.fr
        show wpAny (model X.prog X.w) X.A (richCompare .Eq (.ref a) (.ref b)) (EP X pins σ Q) X.xe s
        refine PySem.W.cmp_K (op := .Eq) (tb := .ref (He.ga X.K c2)) (B.room.mono hk).units0 Fr I.ok.mod.kin J J'.type (by simp [PySem.W.notFirst]) hl hfn ?_
        refine wpAny_mono (eq_call (neg := false) B.gd (B.room.mono hk) I.env0 F hb I si hx hy h) (fun v s' hv => ?_) fun _ _ z => z
        obtain ⟨r, rfl, hq⟩ := hv
        rw [Bool.false_xor] at hq
        exact hq
      · rw [if_neg hc] at h; exact h.elim
end
section
variable {M : Model} {A : Around} {E : Value → Shared → Prop} {s : Shared} {K : PySem.W.Frag} {x C : Addr} {ox : Obj} {od : Option Obj}
theorem bound_b {name : Str} {id : String} {args : List Value} {Q : Option Value → Shared → Prop} (X : K.In s.heap) (I : PySem.W.InstAt s.heap x ox C od) (hs : PySem.W.findIn K (.ref C) name = some (some (.builtin id)))
    (hb : ∀ self, bindSpecial (.builtin id) self = pure (.builtin id, [self])) (h : wpAny M A (call (.builtin id) (.ref x :: args)) (fun v => Q (some v)) E s) : wpAny M A (callSpecialIfBound? (.ref x) name args) Q E s := by
  have fin : wpAny M A (do let v ← call (.builtin id) ([.ref x] ++ args); pure (some v)) Q E s := wpAny_bind (wpAny_mono h (fun v s' z => wpAny_pure z) fun _ _ z => z)
  have bd := (PySem.W.Looks.of_pure (M := M) (h := s.heap) (hb (.ref x)))
  unfold callSpecialIfBound? bindSpecialIfBound?
  refine wpAny_holding (wpAny_bind (wpAny_bind (wpAny_bind (I.type.here ((PySem.W.looks_findIn X hs).here (wpAny_bind (wpAny_askSetting (wpAny_ite ?_))))))))
  split
  · exact wpAny_bind (bd.here (wpAny_pure fin))
  · exact wpAny_tryCatch (wpAny_bind (bd.here (wpAny_pure fin)))
end
section
variable {prog : Program} {w : World} {A : Around} {E : Value → Shared → Prop} {s : Shared} {K : PySem.W.Frag} {x y C f : Addr} {ox oy : Obj} {od od' : Option Obj}
theorem try_ne (hu : A.units + 1 < cLine) (X : K.In s.heap) (I : PySem.W.InstAt s.heap x ox C od) (hn : PySem.W.findIn K (.ref C) "__ne__" = some (some (.builtin "object.__ne__"))) (hm : PySem.W.mroIn K C (.type "object") = some true) (he : PySem.W.findIn K (.ref C) "__eq__" = some (some (.ref f))) (hf : PySem.W.isFn K (.ref f) = true) {Q : Option Value → Shared → Prop}
    (h : wpAny (model prog w) A.in1 (call (.ref f) [.ref x, .ref y]) (fun v s' => ∃ b, v = .bool b ∧ Q (some (.bool (!b))) s') E s) : wpAny (model prog w) A (tryCompare (.ref x) "__ne__" (.ref y)) Q E s := by
  unfold tryCompare
  refine wpAny_bind (bound_b X I hn PySem.F.cmp_object.ne.bind (wpAny_call (codeAny_call_builtin PySem.F.cmp_object.ne.plain F.cmpEntry_ne (PySem.W.check_slot F.cmpKind_ne F.cmpSplit_ne (I.type.andThen (PySem.W.looks_mroIn X hm)) (F.cmpArgs_ne _ _) ?_))))
  unfold Builtin.«object.__ne__»
  refine wpAny_bind (m := slotArgs "__ne__" 1 _) (wpAny_pure ?_)
  refine wpAny_bind (m := cRoomFor _ _) (wpAny_cRoomFor hu ?_)
  refine wpAny_bind (m := callSpecialIfBound? (.ref x) (Str.ofString "__eq__") _) (PySem.W.ifBound_K X I he hf (wpAny_mono h (fun v s' z => ?_) fun _ _ z => z))
  obtain ⟨b, rfl, q⟩ := z
  refine wpAny_bind (wpAny_truthy_bool ?_)
  exact wpAny_pure (wpAny_pure q)
theorem rich_ne (hu : A.units + 1 < cLine) (X : K.In s.heap) (I : PySem.W.InstAt s.heap x ox C od) (J : PySem.W.InstAt s.heap y oy C od') (hn : PySem.W.findIn K (.ref C) "__ne__" = some (some (.builtin "object.__ne__"))) (hm : PySem.W.mroIn K C (.type "object") = some true) (he : PySem.W.findIn K (.ref C) "__eq__" = some (some (.ref f))) (hf : PySem.W.isFn K (.ref f) = true) {Q : Value → Shared → Prop}
    (h : wpAny (model prog w) A.in1 (call (.ref f) [.ref x, .ref y]) (fun v s' => ∃ b, v = .bool b ∧ Q (.bool (!b)) s') E s) : wpAny (model prog w) A (richCompare .NotEq (.ref x) (.ref y)) Q E s := by
  have one := try_ne (Q := fun r s' => ∃ v, r = some v ∧ Q v s') hu X I hn hm he hf (wpAny_mono h (fun v s' ⟨b, e, q⟩ => ⟨b, e, _, rfl, q⟩) fun _ _ z => z)
  unfold richCompare
  rw [cmpInfo_NotEq]
  simp only [oneThing_ref]
  refine wpAny_holding (wpAny_bind (wpAny_cRoomFor (by omega) (wpAny_bind (I.type.here (wpAny_bind (J.type.here ?_))))))
  rw [show (Value.ref C != Value.ref C) = false by simp]
  simp only [Bool.false_eq_true, if_false]
  refine wpAny_bind (wpAny_pure ?_)
  simp only [Bool.false_eq_true, if_false]
  refine wpAny_bind (wpAny_mono one (fun r s' z => ?_) fun _ _ z => z)
  obtain ⟨v, rfl, q⟩ := z
  exact wpAny_pure q
end
section
variable {X : Cx} {W : WX} {j : Nat}
theorem o_neO {k : Nat} {c : Str} {f : Addr} {fd : FuncData} {ps : List Str} {fm : List D → Sto → Res D} (B : Bd X W j) (hn : PySem.W.findIn X.K (.ref (He.ga X.K c)) "__ne__" = some (some (.builtin "object.__ne__"))) (hm : PySem.W.mroIn X.K (He.ga X.K c) (.type "object") = some true) (hl : PySem.W.findIn X.K (.ref (He.ga X.K c)) "__eq__" = some (some (.ref f))) (hfn : PySem.W.isFn X.K (.ref f) = true) (F : FnG X.prog X.w X.K X.mg X.base k f fd ps (spOf X.K 2 fm)) (hk : k + 1 ≤ j) (hb : Binds X.K fd ps []) :
    OpR X (compareOp .NotEq) (rO2R X.K (eqF c fm true)) := by
  intro pins s σ H x y v u Q I rx ry ⟨d, e, S, m, si, hx, hy, h⟩
  unfold eqF at h
  cases q1 : clsD d S with
  | none => simp only [q1] at h; exact h.elim
  | some c1 =>
    cases q2 : clsD e S with
    | none => simp only [q1, q2] at h; exact h.elim
    | some c2 =>
      simp only [q1, q2] at h
      by_cases hc : c1 = c ∧ c2 = c
      · rw [if_pos hc] at h
        obtain ⟨rfl, rfl⟩ := hc
        obtain ⟨a, dx, fs, rfl, g1⟩ := cls_at si hx q1
        obtain ⟨b, dy, gs, rfl, g2⟩ := cls_at si hy q2
        cases rx; cases ry
        obtain ⟨mA, O, _⟩ := ins_get I.hok g1
        obtain ⟨od, J, _⟩ := O.look
        obtain ⟨mB, O', _⟩ := ins_get I.hok g2
        obtain ⟨od', J', _⟩ := O'.look
        have rm : Room (k + 1) X.A := B.room.mono hk
        show wpAny (model X.prog X.w) X.A (richCompare .NotEq (.ref a) (.ref b)) (EP X pins σ Q) X.xe s
        refine rich_ne (by have := rm.un; omega) I.kIn J J' hn hm hl hfn ?_
        refine wpAny_mono (eq_call (neg := true) (A := X.A.in1) B.gd rm.in1 I.env0.in1 F hb I si hx hy h) (fun v s' hv => ?_) fun _ _ z => z
        obtain ⟨r, rfl, hq⟩ := hv
        exact ⟨r, rfl, by simpa using hq⟩
      · rw [if_neg hc] at h; exact h.elim
end
section
variable {X : Cx} {W : WX} {j k n : Nat} {f : Addr} {fd : FuncData} {ps : List Str} {fm : List D → Sto → Res D}
/-- c.m(..), m a class method -/
def mCM (c : Str) (n : Nat) (fm : List D → Sto → Res D) (mr : AM) : EM := fun en S => (mr en S).bind fun ds S1 => if (D.gl c :: ds).length = n then fm (.gl c :: ds) S1 else .stuck
theorem run_cmG {q C : Addr} {sp : Sp} {pins : List (Addr × Obj)} {σ : L2.St} {H : Hp} {s : Shared} {Q : VK} {us : List Value} {vs : List V} (B : Bd X W j) (F : FnG X.prog X.w X.K X.mg X.base k f fd ps sp) (hk : k ≤ j) (hb : Binds X.K fd ps []) (I : Inv X ((q, PySem.W.methodObj (.ref f) (.ref C)) :: pins) σ H s)
    (r : Vals vs us) (h : sp (.ref C :: vs) H Q (WE W σ)) : wpAny (model X.prog X.w) X.A (call (.ref q) us) (EP X pins σ Q) X.xe s := by
  have hl := F.len _ _ _ _ h
  have r2 : Vals (V.ref C :: vs) (Value.ref C :: us) := .cons rfl r
  have b := hb s (.ref C :: us) I.kIn (by rw [List.append_nil, ← r2.length]; exact hl)
  rw [List.append_nil] at b
  have J := ClX.unpin I
  refine wpAny_call (PySem.W.method_call (ClX.pin_at I) (codeAny_mono (F.run X.A X.stack s H ⟨.ref C :: us, []⟩ (.ref C :: us) (.ref C :: vs) Q (WE W σ) B.gd (B.room.mono hk) J.env0 b r2 h) fun r s' hq => ?_))
  cases r with
  | error e => exact passAt B.tk σ pins H s e s' J hq
  | ok fl => cases fl <;> first | exact J.after hq | exact hq.elim
theorem e_cm {c mn : Str} {p : Addr} {mc : Value} {e : Expr} {es : List Expr} {mr : AM} {p0 apos pos : Pos} {pl : Sem Bool} (B : Bd X W j) (hc : ClX.CRead X.K (He.ga X.K c) mc ∧ ClX.CMet X.K (He.ga X.K c) mc mn p f) (F : FnG X.prog X.w X.K X.mg X.base k f fd ps (spOf X.K n fm)) (hk : k ≤ j) (hg : Gl X c) (hm : X.mg c = some (.ref (He.ga X.K c))) (hb : Binds X.K fd ps []) (ha : PA X (e :: es) (tA X.K W mr))
    (hdb : (c == ("__debug__" : Str)) = false := by decide) (hst : starEach (e :: es) X.env = (false, eval e X.env) :: starEach es X.env := by rfl) (hpl : (backTo pos (starEach es X.env)).any (·.1) = false := by rfl)
    (ht : eval (.Call (.Attribute (.Name c p0) mn apos) (e :: es) [] pos) X.env = (do
      let ov ← eval (.Name c p0) X.env
      standAt apos.atName
      let (f, first) ← holding [ov] (getMethod ov mn pl)
      callWith pos f first (backTo pos (starEach (e :: es) X.env)) (backToKw pos (keywordEach [] X.env))) := by rfl) :
    PE X (.Call (.Attribute (.Name c p0) mn apos) (e :: es) [] pos) (tE X.K W (mCM c n fm mr)) := by
  refine ⟨fun pins s σ H Q I h => ?_⟩
  obtain ⟨en, S, m, er, si, h⟩ := h
  have gc : PE X (.Name c p0) (tE X.K W (mC (.gl c))) := g_cls hm hg hdb
  refine PySem.W.methodCall_KW (pl := pl) (thn (gc.run pins s σ H (fun v H1 => v = .ref (He.ga X.K c) ∧ ∃ m1, Ext m H m1 H1 ∧ Sim X.K m1 S H1) I ⟨en, S, m, er, si, fun v m' H' e' s' r' => by cases r'; exact ⟨rfl, m', e', s'⟩⟩) fun u s1 ⟨x, H1, I1, rx, ex, m1, e1, sm⟩ => ?_) ht
  subst ex
  cases rx
  refine ClX.getmethcm_ok I1 hc.1 hc.2 fun s2 I2 => ?_
  refine ClX.callwith_cm I2 (ClX.base_none I1 (Nat.le_refl _)) hc.2.fi (thn (ha.run pos _ s2 σ H1 (fun vs H2 => ∃ ds S2 m2, Ext m1 H1 m2 H2 ∧ Sim X.K m2 S2 H2 ∧ Reps X.K m2 H2 vs ds ∧ Post X.K W σ m2 H2 (if (D.gl c :: ds).length = n then fm (.gl c :: ds) S2 else .stuck) Q) I2 ⟨en, S, m1, er.to e1, sm, (PostG.to h e1).bind⟩) fun us s3 ⟨vs, H2, I3, rv, ds, S2, m2, e2, sm2, r2, h2⟩ => ⟨⟨ClX.pin_at I3, I3.kIn⟩, ?_⟩) hst hpl
  exact run_cmG B F hk hb I3 rv (sp_of_post sm2 (.cons (.gl c) r2) h2)
/-- cls(..), cls a local that holds the class c -/
def mMakeL (i : Nat) (c : Str) (frz : Bool) (n : Nat) (fm : List D → Sto → Res D) (mr : AM) : EM := fun en S => match en[i]? with
  | some (some (.gl c')) => if c' = c then mMake c frz n fm mr en S else .stuck
  | _ => .stuck
theorem e_makeL {frz : Bool} {i : Nat} {c x : Str} {e : Expr} {es : List Expr} {mr : AM} {p pos : Pos} (B : Bd X W j) (M : Mk X.K (He.ga X.K c) f) (F : FnG X.prog X.w X.K X.mg X.base k f fd ps (spOf X.K (n + 1) fm)) (hk : k + 1 ≤ j) (hb : Binds X.K fd ps [])
    (ha : PA X (e :: es) (tA X.K W mr)) (hN : X.N[i]? = some x := by rfl) (hv : Vis X.env.scope x := by first | exact Or.inl rfl | exact Or.inr (Or.inl rfl) | exact Or.inr (Or.inr rfl)) (hdb : (x == ("__debug__" : Str)) = false := by decide) (hcd : (x == ("__classdict__" : Str)) = false := by decide) (he : starEach (e :: es) X.env = (false, eval e X.env) :: starEach es X.env := by rfl) (hpl : (backTo pos (starEach es X.env)).any (·.1) = false := by rfl) :
    PE X (.Call (.Name x p) (e :: es) [] pos) (tE X.K W (mMakeL i c frz n fm mr)) := by
  refine ⟨fun pins s σ H Q I h => ?_⟩
  obtain ⟨en, S, m, er, si, h⟩ := h
  unfold mMakeL at h
  split at h
  · rename_i c' q
    by_cases hc : c' = c
    · subst hc
      rw [if_pos rfl] at h
      obtain ⟨v, q1, q2⟩ := er.2 i _ q
      cases q2
      refine wpAny_Call_Name_kw (thn ((pe_var (pos := p) hN hv hdb hcd).run pins s σ H (fun v H1 => v = .ref (He.ga X.K c') ∧ H1 = H) I ⟨_, q1, rfl, rfl⟩) fun u s1 ⟨v, H1, I1, r1, q1⟩ => ?_)
      obtain ⟨rfl, rfl⟩ := q1
      cases r1
      refine PySem.W.callWith_K (h₀ := X.base) I.ok.mod.kin M.kp (thn (ha.run pos pins s1 σ _ (fun vs H1 => ∃ ds S1 m1, Ext m _ m1 H1 ∧ Sim X.K m1 S1 H1 ∧ Reps X.K m1 H1 vs ds ∧ Post X.K W σ m1 H1 (if ds.length = n then mkD c' frz fm ds S1 else .stuck) Q) I1 ⟨en, S, m, er, si, h.bind⟩) fun us s2 ⟨vs, H2, I2, r, ds, S1, m1, e1, sm, r1, h1⟩ => ⟨I2.kIn, ?_⟩) he hpl
      have hq := mk_to (X := X) (W := W) sm r1 h1
      refine run_mk B M F hk I2 r ?_ hq
      have I3 := Inv.made (C := He.ga X.K c') I2
      have hl : (Value.ref (s2.heap.objs.size + 1) :: us).length = ps.length := by
        have h5 := F.len _ _ _ _ (hq (s2.heap.objs.size + 1) s2.heap.objs.size (I2.hok.fresh (Nat.le_succ _)) (I2.hok.fresh (Nat.le_refl _)) (Nat.ne_of_lt (Nat.lt_succ_self _)))
        rw [← h5, List.length_cons, List.length_cons, r.length]
      have b := hb _ (Value.ref (s2.heap.objs.size + 1) :: us) I3.kIn (by rw [List.append_nil]; exact hl)
      rw [List.append_nil] at b
      exact b
    · rw [if_neg hc] at h; exact h.elim
  · exact h.elim
end
section
variable {en : En} {S : Sto} {P : D → Sto → Prop} {ma mb : EM} {mr : AM}
theorem q_opR {f : D → D → Sto → Res D} : (mOpR f ma mb en S).sat P ↔ (ma en S).sat fun d S1 => (mb en S1).sat fun e S2 => (f d e S2).sat P := by
  unfold mOpR
  rw [r_bind]
  refine iff_of_eq (congrArg _ (funext fun d => funext fun S1 => ?_))
  rw [r_bind]
  refine congrArg _ (funext fun e => funext fun S2 => ?_)
  cases q : f d e S2 <;> simp only [r_ok, r_exc, r_stuck]
theorem q_cm {c : Str} {n : Nat} {fm : List D → Sto → Res D} : (mCM c n fm mr en S).sat P ↔ (mr en S).sat fun ds S1 => (D.gl c :: ds).length = n ∧ (fm (.gl c :: ds) S1).sat P := by unfold mCM; simp only [r_bind, r_ifs]
theorem q_makeL {i : Nat} {c : Str} {z : Bool} {n : Nat} {fm : List D → Sto → Res D} (h : en[i]? = some (some (.gl c))) : (mMakeL i c z n fm mr en S).sat P ↔ (mMake c z n fm mr en S).sat P := by
  unfold mMakeL
  rw [h]
  simp only [if_true]
end
end Ag

namespace Ag
open PySem
open TL (tl joinL numL)
/-! ### the text of a council -/
def numS (i : Int) : Str := Str.ofString (toString i)
def rowS (r : List Int) : Str := Txt.join "," (r.map numS)
def wayS (w : List (List Int)) : Str := Txt.join " " (w.map rowS)
def pageL (hs : List Str) (ws : List (List (List Int))) : List Str := Txt.join " " hs :: ws.map wayS
def pageS (hs : List Str) (ws : List (List (List Int))) : Str := Txt.join "\n" (pageL hs ws)
theorem mem_joinL {S : List Nat} {c : Nat} : ∀ {ps : List (List Nat)}, c ∈ joinL S ps → c ∈ S ∨ ∃ p ∈ ps, c ∈ p
  | [], h => by simp [joinL] at h
  | [p], h => .inr ⟨p, by simp, h⟩
  | p :: q :: r, h => by
    simp only [joinL, List.mem_append] at h
    rcases h with h | h | h
    · exact .inr ⟨p, by simp, h⟩
    · exact .inl h
    · rcases mem_joinL h with h | ⟨z, hz, h⟩
      · exact .inl h
      · exact .inr ⟨z, List.mem_cons_of_mem _ hz, h⟩
theorem len_joinL {S : List Nat} {B : Nat} : ∀ {ps : List (List Nat)}, (∀ p ∈ ps, p.length ≤ B) → (joinL S ps).length ≤ ps.length * (B + S.length)
  | [], _ => by simp [joinL]
  | [p], h => by
    have := h p (by simp)
    simp only [joinL, List.length_cons, List.length_nil]
    omega
  | p :: q :: r, h => by
    have h1 := h p (by simp)
    have h2 := len_joinL (S := S) (ps := q :: r) fun z hz => h z (List.mem_cons_of_mem _ hz)
    simp only [joinL, List.length_append, List.length_cons] at h2 ⊢
    rw [Nat.succ_mul]
    omega
theorem tl_joinT (y : Str) (ps : List Str) : tl (Txt.join y ps) = joinL (tl y) (ps.map tl) := by rw [TL.join_eq, TL.tl_join]
theorem mem_join {y : Str} {c : Nat} {ps : List Str} (h : c ∈ tl (Txt.join y ps)) : c ∈ tl y ∨ ∃ p ∈ ps, c ∈ tl p := by
  rw [tl_joinT] at h
  rcases mem_joinL h with h | ⟨p, hp, h⟩
  · exact .inl h
  · obtain ⟨z, hz, rfl⟩ := List.mem_map.mp hp
    exact .inr ⟨z, hz, h⟩
theorem len_join {y : Str} {B : Nat} {ps : List Str} (h : ∀ p ∈ ps, p.length ≤ B) : (Txt.join y ps).length ≤ ps.length * (B + y.length) := by
  have := len_joinL (S := tl y) (B := B) (ps := ps.map tl) fun p hp => by
    obtain ⟨z, hz, rfl⟩ := List.mem_map.mp hp
    rw [← TL.len_tl]; exact h z hz
  rw [← tl_joinT, ← TL.len_tl, List.length_map, ← TL.len_tl] at this
  exact this
theorem sum_len {B : Nat} : ∀ {ps : List Str}, (∀ p ∈ ps, p.length ≤ B) → (ps.map (·.length)).sum ≤ ps.length * B
  | [], _ => by simp
  | p :: ps, h => by
    have h1 := h p (by simp)
    have h2 := sum_len (ps := ps) fun z hz => h z (List.mem_cons_of_mem _ hz)
    simp only [List.map_cons, List.sum_cons, List.length_cons]
    rw [Nat.succ_mul]
    omega
theorem tl_num {i : Int} (h : 0 ≤ i) : tl (numS i) = numL i.toNat := by
  obtain ⟨n, rfl⟩ := Int.eq_ofNat_of_zero_le h
  exact TL.tl_num n
theorem num_len {i : Int} (h : 0 ≤ i) (h9 : i ≤ 1000000000) : (numS i).length ≤ 10 := by
  rw [TL.len_tl, tl_num h]
  exact TL.numL_len (by decide) (by have e : (10 : Nat) ^ 10 = 10000000000 := by decide
                                    omega)
theorem num_free {i : Int} (h : 0 ≤ i) {c : Nat} (hc : c ∈ tl (numS i)) : 48 ≤ c ∧ c ≤ 57 := by
  rw [tl_num h] at hc
  by_cases h1 : c < 48 ∨ 57 < c
  · exact absurd hc (TL.numL_free h1)
  · omega
theorem num_ne {i : Int} (h : 0 ≤ i) : numS i ≠ "" := fun z => by
  have := congrArg tl z
  rw [tl_num h] at this
  exact TL.numL_ne _ this
section
variable {n : Nat} {r : List Int} {w : List (List Int)} {hs : List Str} {ws : List (List (List Int))}
theorem row_sign (hr : RowOk n r) {c : Nat} (h : c ∈ tl (rowS r)) : c = 44 ∨ 48 ≤ c ∧ c ≤ 57 := by
  rcases mem_join h with h | ⟨p, hp, h⟩
  · left
    have e : tl "," = [44] := by decide +kernel
    rw [e] at h; simpa using h
  · obtain ⟨i, hi, rfl⟩ := List.mem_map.mp hp
    exact .inr (num_free (hr.in_ i hi).1 h)
theorem way_sign (hw : WayOk n w) {c : Nat} (h : c ∈ tl (wayS w)) : c = 32 ∨ c = 44 ∨ 48 ≤ c ∧ c ≤ 57 := by
  rcases mem_join h with h | ⟨p, hp, h⟩
  · left
    have e : tl " " = [32] := by decide +kernel
    rw [e] at h; simpa using h
  · obtain ⟨i, hi, rfl⟩ := List.mem_map.mp hp
    exact .inr (row_sign (hw.row i hi) h)
theorem row_slen (hr : RowOk n r) (hn : n ≤ 6) : (rowS r).length ≤ 66 := by
  have := len_join (y := ",") (B := 10) (ps := r.map numS) fun p hp => by
    obtain ⟨i, hi, rfl⟩ := List.mem_map.mp hp
    exact num_len (hr.in_ i hi).1 (hr.in_ i hi).2
  rw [List.length_map, hr.len, show (Str.length "," : Nat) = 1 from by decide +kernel] at this
  refine Nat.le_trans this ?_
  omega
theorem way_slen (hw : WayOk n w) (hn : n ≤ 6) : (wayS w).length ≤ 402 := by
  have := len_join (y := " ") (B := 66) (ps := w.map rowS) fun p hp => by
    obtain ⟨i, hi, rfl⟩ := List.mem_map.mp hp
    exact row_slen (hw.row i hi) hn
  rw [List.length_map, hw.len, show (Str.length " " : Nat) = 1 from by decide +kernel] at this
  refine Nat.le_trans this ?_
  omega
/-- names that are whole words -/
structure Wd (hs : List Str) : Prop where
  ne : hs ≠ []
  six : hs.length ≤ 6
  len : ∀ h ∈ hs, h.length ≤ 8
  fr : ∀ h ∈ hs, 32 ∉ tl h ∧ 10 ∉ tl h
theorem hd_slen (H : Wd hs) : (Txt.join " " hs).length ≤ 54 := by
  have := len_join (y := " ") (B := 8) H.len
  rw [show (Str.length " " : Nat) = 1 from by decide +kernel] at this
  have := H.six
  refine Nat.le_trans ‹_› ?_
  omega
theorem page_slen (H : Wd hs) (hw : ∀ w ∈ ws, WayOk n w) (hn : n ≤ 6) (h6 : ws.length ≤ 6) : (pageS hs ws).length ≤ 3000 := by
  have := len_join (y := "\n") (B := 402) (ps := pageL hs ws) fun p hp => by
    rcases List.mem_cons.mp hp with rfl | hp
    · have := hd_slen H; omega
    · obtain ⟨i, hi, rfl⟩ := List.mem_map.mp hp
      exact way_slen (hw i hi) hn
  rw [show (Str.length "\n" : Nat) = 1 from by decide +kernel] at this
  have hl : (pageL hs ws).length = ws.length + 1 := by simp [pageL]
  rw [hl] at this
  refine Nat.le_trans this ?_
  omega
theorem split_row (hr : RowOk n r) (n1 : 1 ≤ n) : Txt.split (rowS r) "," = r.map numS := by
  refine TL.split_join (s := 44) (S := []) (by decide +kernel) (by decide +kernel) (fun z => ?_) fun p hp => ?_
  · have := hr.len
    rw [List.map_eq_nil_iff.mp z] at this
    simp at this; omega
  · obtain ⟨i, hi, rfl⟩ := List.mem_map.mp hp
    intro h
    have := num_free (hr.in_ i hi).1 h
    omega
theorem split_way (hw : WayOk n w) (n1 : 1 ≤ n) : Txt.split (wayS w) " " = w.map rowS := by
  refine TL.split_join (s := 32) (S := []) (by decide +kernel) (by decide +kernel) (fun z => ?_) fun p hp => ?_
  · have := hw.len
    rw [List.map_eq_nil_iff.mp z] at this
    simp at this; omega
  · obtain ⟨i, hi, rfl⟩ := List.mem_map.mp hp
    intro h
    have := row_sign (hw.row i hi) h
    omega
theorem split_hd (H : Wd hs) : Txt.split (Txt.join " " hs) " " = hs :=
  TL.split_join (s := 32) (S := []) (by decide +kernel) (by decide +kernel) H.ne fun p hp => (H.fr p hp).1
theorem split_page (H : Wd hs) (hw : ∀ w ∈ ws, WayOk n w) : Txt.split (pageS hs ws) "\n" = pageL hs ws := by
  refine TL.split_join (s := 10) (S := []) (by decide +kernel) (by decide +kernel) (by simp [pageL]) fun p hp => ?_
  rcases List.mem_cons.mp hp with rfl | hp
  · intro h
    rcases mem_join h with h | ⟨p, hp, h⟩
    · have e : tl " " = [32] := by decide +kernel
      rw [e] at h; simp at h
    · exact (H.fr p hp).2 h
  · obtain ⟨i, hi, rfl⟩ := List.mem_map.mp hp
    intro h
    have := way_sign (hw i hi) h
    omega
theorem numS_inj {i j : Int} (hi : 0 ≤ i) (hj : 0 ≤ j) (h : numS i = numS j) : i = j := by
  have := congrArg tl h
  rw [tl_num hi, tl_num hj] at this
  have := TL.numL_inj this
  omega
theorem map_inj {α β : Type} {f : α → β} {P : α → Prop} (hf : ∀ a b, P a → P b → f a = f b → a = b) : ∀ {l m : List α}, (∀ a ∈ l, P a) → (∀ a ∈ m, P a) → l.map f = m.map f → l = m
  | [], [], _, _, _ => rfl
  | [], _ :: _, _, _, h => by simp at h
  | _ :: _, [], _, _, h => by simp at h
  | a :: l, b :: m, h1, h2, h => by
    simp only [List.map_cons, List.cons.injEq] at h
    rw [hf a b (h1 a (by simp)) (h2 b (by simp)) h.1, map_inj hf (fun x hx => h1 x (by simp [hx])) (fun x hx => h2 x (by simp [hx])) h.2]
theorem row_inj {m : Nat} {r' : List Int} (hr : RowOk n r) (hr' : RowOk m r') (n1 : 1 ≤ n) (m1 : 1 ≤ m) (h : rowS r = rowS r') : r = r' := by
  have := congrArg (Txt.split · ",") h
  simp only [split_row hr n1, split_row hr' m1] at this
  exact map_inj (P := fun i => 0 ≤ i) (fun a b ha hb e => numS_inj ha hb e) (fun a ha => (hr.in_ a ha).1) (fun a ha => (hr'.in_ a ha).1) this
theorem way_inj {m : Nat} {w' : List (List Int)} (hw : WayOk n w) (hw' : WayOk m w') (n1 : 1 ≤ n) (m1 : 1 ≤ m) (h : wayS w = wayS w') : w = w' := by
  have := congrArg (Txt.split · " ") h
  simp only [split_way hw n1, split_way hw' m1] at this
  exact map_inj (P := fun r => ∃ n, 1 ≤ n ∧ RowOk n r) (fun a b ⟨n, n1, ha⟩ ⟨m, m1, hb⟩ e => row_inj ha hb n1 m1 e) (fun a ha => ⟨n, n1, hw.row a ha⟩) (fun a ha => ⟨m, m1, hw'.row a ha⟩) this
theorem page_inj {hs' : List Str} {ws' : List (List (List Int))} {m : Nat} (H : Wd hs) (H' : Wd hs') (hw : ∀ w ∈ ws, WayOk n w) (hw' : ∀ w ∈ ws', WayOk m w) (n1 : 1 ≤ n) (m1 : 1 ≤ m) (h : pageS hs ws = pageS hs' ws') : hs = hs' ∧ ws = ws' := by
  have := congrArg (Txt.split · "\n") h
  simp only [split_page H hw, split_page H' hw', pageL, List.cons.injEq] at this
  obtain ⟨h1, h2⟩ := this
  have h1 := congrArg (Txt.split · " ") h1
  simp only [split_hd H, split_hd H'] at h1
  exact ⟨h1, map_inj (P := fun w => ∃ n, 1 ≤ n ∧ WayOk n w) (fun a b ⟨n, n1, ha⟩ ⟨m, m1, hb⟩ e => way_inj ha hb n1 m1 e) (fun a ha => ⟨n, n1, hw a ha⟩) (fun a ha => ⟨m, m1, hw' a ha⟩) h2⟩
end
end Ag

namespace Ag
open PySem L2
/-! ### bool(x) of an own class with __bool__ -/
section
variable {prog : Program} {w : World} {A : Around} {E : Value → Shared → Prop} {s : Shared} {K : PySem.W.Frag} {x C L f : Addr} {h₀ : Heap} {m : Str → Option Value} {ox : Obj} {od : Option Obj}
theorem bool_call (Fr : PyProof.Rows.Fr h₀ L s.heap m) (X : K.In h₀) (I : PySem.W.InstAt s.heap x ox C od) (hs : PySem.W.findIn K (.ref C) "__bool__" = some (some (.ref f))) (hf : PySem.W.isFn K (.ref f) = true) {Q : Value → Shared → Prop}
    (h : wpAny (model prog w) A.in1.in1 (call (.ref f) [.ref x]) (PySem.W.BoolBack fun b s' => Q (.bool b) s') E s) : wpAny (model prog w) A (call (.type "bool") [.ref x]) Q E s := by
  refine callType_codes (T := "bool") (Bi := Builtin.«object.__init__») (Q₁ := fun r s₁ => ∃ b, r = .bool b ∧ Q r s₁) PySem.F.called_bool (PySem.F.typeCall_bool_1 _) PySem.F.entry_object_init ?_ ?_
  · refine codeAny_of_tree ?_
    show wpAny _ A.in1.in1 (do checkBuiltinCall "bool.__new__" ⟨[.type "bool", .ref x], []⟩; again (.builtin "bool.__new__" ⟨[.type "bool", .ref x], []⟩)) _ _ s
    refine wpAny_bind (wpAny_of_eq (PySem.F.newCall_bool_1 _) (wpAny_pure ⟨plainId_quiet (by decide +kernel) _, codeAny_builtin PySem.F.entry_bool_new ?_⟩))
    rw [Around.under_plainId (by decide +kernel) _]
    have t := PySem.W.truthy_K (M := model prog w) (A := A.in1.in1) (E := E) (Q := fun b s' => Q (.bool b) s') Fr X I hs hf h
    have f1 := PySem.F.conv_sub_bool
    obtain ⟨hp, g, d, tk, os⟩ := s
    repeat (any_goals (first | assumption | (refine wpAny_bind (m := truthy (.ref x)) (wpAny_mono t (fun b s' hb => ?_) fun _ _ z => z)) | wp_step))
    all_goals exact ⟨_, rfl, hb⟩
  · rintro obj s₁ ⟨b, rfl, hq⟩
    exact ⟨typeIs_bool _ _, PySem.F.args_object_init_2 _ _, object_init_meets PySem.F.called_bool.init.lookup PySem.F.called_bool.made (by decide) prog w A.in1 _ s₁ ⟨typeIs_bool _ _, rfl, hq⟩⟩
end
section
variable {X : Cx} {W : WX} {j : Nat}
def boolF (c : Str) (fm : List D → Sto → Res D) : List D → Sto → Res D
  | [d], S => match clsD d S with
    | some c' => if c' = c then (match fm [d] S with
      | .ok (.bl x) S' => .ok (.bl x) S'
      | _ => .stuck) else .stuck
    | none => .stuck
  | _, _ => .stuck
theorem b_boolO {k : Nat} {c : Str} {f : Addr} {fd : FuncData} {ps : List Str} {fm : List D → Sto → Res D} (B : Bd X W j) (hl : PySem.W.findIn X.K (.ref (He.ga X.K c)) "__bool__" = some (some (.ref f))) (hfn : PySem.W.isFn X.K (.ref f) = true) (F : FnG X.prog X.w X.K X.mg X.base k f fd ps (spOf X.K 1 fm)) (hk : k + 2 ≤ j) (hb : Binds X.K fd ps []) :
    CallR X (.type "bool") (rOR X.K (boolF c fm)) := by
  intro pins s σ H xs us Q I rx ⟨ds, S, m, si, hx, h⟩
  cases hx with
  | nil => exact h.elim
  | cons r1 r2 =>
    cases r2 with
    | cons r2 r3 => exact h.elim
    | nil =>
      rename_i v d
      simp only [boolF] at h
      cases q : clsD d S with
      | none => simp only [q] at h; exact h.elim
      | some c' =>
        simp only [q] at h
        by_cases hc : c' = c
        · rw [if_pos hc] at h
          subst hc
          obtain ⟨a, dx, fs, rfl, g1⟩ := cls_at si r1 q
          cases rx with
          | cons ra rb =>
            cases ra; cases rb
            obtain ⟨mA, O, _, _, _, _⟩ := ins_get I.hok g1
            obtain ⟨od, J, _⟩ := O.look
            obtain ⟨mf, Fr⟩ := I.fr
            have r2 : Room (k + 2) X.A := B.room.mono hk
            refine bool_call Fr I.ok.mod.kin J hl hfn ?_
            have hsp : spOf X.K 1 fm [.ref a] H (fun v H' => ∃ x : Bool, v = .bl x ∧ Q (.bl x) H') fun _ _ _ => False := ⟨rfl, [d], S, m, .cons r1 .nil, si, by
              cases q2 : fm [d] S with
              | stuck => simp only [q2] at h; exact h
              | exc c fs S2 => simp only [q2] at h; exact h.elim
              | ok r S2 =>
                simp only [q2] at h
                intro v m' H' e' s' r'
                cases r' with
                | bl x => exact ⟨x, rfl, h _ m' H' e' s' (.bl x)⟩
                | _ => exact h.elim⟩
            have hlen : ([Value.ref a] : List Value).length = ps.length := F.len _ _ _ _ hsp
            have b := hb s [.ref a] I.kIn (by rw [List.append_nil]; exact hlen)
            rw [List.append_nil] at b
            refine wpAny_call (codeAny_mono (F.run X.A.in1.in1 X.stack s H ⟨[.ref a], []⟩ [.ref a] [.ref a] _ (fun _ _ _ => False) B.gd r2.in1.in1 I.env0.in1.in1 b (.cons rfl .nil) hsp) fun r s' hq => ?_)
            cases r with
            | error er =>
              obtain ⟨_, _, _, _, _, _, _, _, _, _, _, _, z⟩ := hq
              exact z.elim
            | ok fl =>
              cases fl with
              | ret u =>
                obtain ⟨v, H', I3, rv, x, rfl, q3⟩ := I.after hq
                cases rv
                exact ⟨.bl x, H', I3, rfl, q3⟩
              | next => exact hq.elim
              | brk => exact hq.elim
              | cont => exact hq.elim
        · rw [if_neg hc] at h; exact h.elim
end
/-! ### making by keywords -/
section
variable {X : Cx} {W : WX} {pos p : Pos} {mr : AM} {k n j : Nat} {f : Addr} {fd : FuncData} {ps : List Str} {fm : List D → Sto → Res D} {c : Str}
def mMakeK (c : Str) (frz : Bool) (n : Nat) (ix : List Nat) (fm : List D → Sto → Res D) (mr : AM) : EM := fun en S => (mr en S).bind fun ds S1 => if ds.length = n then (if (pick ix ds).length = n then mkD c frz fm (pick ix ds) S1 else .stuck) else .stuck
theorem e_makeK {frz : Bool} {kws : List Keyword} {ks : List Str} {ix : List Nat} (B : Bd X W j) (M : Mk X.K (He.ga X.K c) f) (F : FnG X.prog X.w X.K X.mg X.base k f fd ps (spOf X.K (n + 1) fm)) (hk : k + 1 ≤ j) (hg : Gl X c) (hm : X.mg c = some (.ref (He.ga X.K c)))
    (hb : ∀ v, KwB X.K fd ps ks ix (v :: ·)) (hkw : PK X kws (tA X.K W mr)) (hll : ks.length = n) (hall : (backToKw pos (keywordEach kws X.env)).all (·.1.isSome) = true := by rfl) (hks : (backToKw pos (keywordEach kws X.env)).filterMap (·.1) = ks := by rfl)
    (hdb : (c == ("__debug__" : Str)) = false := by decide) (hpl : ((backTo pos (starEach [] X.env)).any (·.1) || (backToKw pos (keywordEach kws X.env)).any (·.1.isNone)) = false := by rfl) :
    PE X (.Call (.Name c p) [] kws pos) (tE X.K W (mMakeK c frz n ix fm mr)) :=
  e_makeKw (frz := frz) B M F hk hg hm (fun s a ws h1 h2 => hb a s ws h1 h2) hkw hll hall hks hdb hpl
/-! ### a class method by keywords -/
def mCMK (c : Str) (n : Nat) (ix : List Nat) (fm : List D → Sto → Res D) (mr : AM) : EM := fun en S => (mr en S).bind fun ds S1 => if ds.length + 1 = n then (if (D.gl c :: pick ix ds).length = n then fm (.gl c :: pick ix ds) S1 else .stuck) else .stuck
theorem e_cmK {mn : Str} {p1 : Addr} {mc : Value} {p0 apos : Pos} {pl : Sem Bool} {kws : List Keyword} {ks : List Str} {ix : List Nat} (B : Bd X W j) (hc : ClX.CRead X.K (He.ga X.K c) mc ∧ ClX.CMet X.K (He.ga X.K c) mc mn p1 f) (F : FnG X.prog X.w X.K X.mg X.base k f fd ps (spOf X.K n fm)) (hk : k ≤ j) (hg : Gl X c) (hm : X.mg c = some (.ref (He.ga X.K c)))
    (hb : ∀ v, KwB X.K fd ps ks ix (v :: ·)) (hkw : PK X kws (tA X.K W mr)) (hll : ks.length + 1 = n) (hall : (backToKw pos (keywordEach kws X.env)).all (·.1.isSome) = true := by rfl) (hks : (backToKw pos (keywordEach kws X.env)).filterMap (·.1) = ks := by rfl)
    (hdb : (c == ("__debug__" : Str)) = false := by decide) (hpl : ((backTo pos (starEach [] X.env)).any (·.1) || (backToKw pos (keywordEach kws X.env)).any (·.1.isNone)) = false := by rfl)
    (ht : eval (.Call (.Attribute (.Name c p0) mn apos) [] kws pos) X.env = (do
      let ov ← eval (.Name c p0) X.env
      standAt apos.atName
      let (f, first) ← holding [ov] (getMethod ov mn pl)
      callWith pos f first (backTo pos (starEach [] X.env)) (backToKw pos (keywordEach kws X.env))) := by rfl) :
    PE X (.Call (.Attribute (.Name c p0) mn apos) [] kws pos) (tE X.K W (mCMK c n ix fm mr)) := by
  refine ⟨fun pins s σ H Q I h => ?_⟩
  obtain ⟨en, S, m, er, si, h⟩ := h
  have gc : PE X (.Name c p0) (tE X.K W (mC (.gl c))) := g_cls hm hg hdb
  refine PySem.W.methodCall_KW (pl := pl) (thn (gc.run pins s σ H (fun v H1 => v = .ref (He.ga X.K c) ∧ ∃ m1, Ext m H m1 H1 ∧ Sim X.K m1 S H1) I ⟨en, S, m, er, si, fun v m' H' e' s' r' => by cases r'; exact ⟨rfl, m', e', s'⟩⟩) fun u s1 ⟨x, H1, I1, rx, ex, m1, e1, sm⟩ => ?_) ht
  subst ex
  cases rx
  refine ClX.getmethcm_ok I1 hc.1 hc.2 fun s2 I2 => ?_
  refine PySem.W.callWith_of (first := []) hpl (PySem.W.keeps_M (self := .ref (He.ga X.K c)) hc.2.fi) (PyProof.Rows.evalArgs_kw2_nil hall ?_)
  refine thn (hkw.run pos _ s2 σ H1 (fun vs H2 => ∃ ds S2 m2, Ext m1 H1 m2 H2 ∧ Sim X.K m2 S2 H2 ∧ Reps X.K m2 H2 vs ds ∧ Post X.K W σ m2 H2 (if ds.length + 1 = n then (if (D.gl c :: pick ix ds).length = n then fm (.gl c :: pick ix ds) S2 else .stuck) else .stuck) Q) I2 ⟨en, S, m1, er.to e1, sm, (PostG.to h e1).bind⟩) fun ws s3 ⟨zs, H2, I3, rz, ds, S2, m2, e2, sm2, r2, h2⟩ => ⟨⟨ClX.pin_at I3, I3.kIn⟩, ?_⟩
  rw [hks]
  by_cases hl : ds.length + 1 = n
  · rw [if_pos hl] at h2
    have hlen : ws.length = ks.length := by rw [← rz.length, r2.len]; omega
    have J := ClX.unpin I3
    have rv : Vals (V.ref (He.ga X.K c) :: pick ix zs) (Value.ref (He.ga X.K c) :: pick ix ws) := .cons rfl (Vals.pick rz ix)
    refine wpAny_call (PySem.W.method_call (ClX.pin_at I3) (codeAny_mono (F.run X.A X.stack s3 H2 ⟨[.ref (He.ga X.K c)], ks.zip ws⟩ _ _ Q (WE W σ) B.gd (B.room.mono hk) J.env0 (hb _ s3 ws I3.kIn hlen) rv (sp_of_post sm2 (.cons (.gl c) (r2.pick ix)) h2)) fun r s' hq => ?_))
    cases r with
    | error e => exact passAt B.tk σ pins H2 s3 e s' J hq
    | ok fl => cases fl <;> first | exact J.after hq | exact hq.elim
  · rw [if_neg hl] at h2; exact h2.elim
end
section
variable {en : En} {S : Sto} {P : D → Sto → Prop} {mr : AM} {c : Str} {n : Nat} {ix : List Nat} {fm : List D → Sto → Res D}
theorem q_makeK {z : Bool} : (mMakeK c z n ix fm mr en S).sat P ↔ (mr en S).sat fun ds S1 => ds.length = n ∧ (pick ix ds).length = n ∧ (mkD c z fm (pick ix ds) S1).sat P := by unfold mMakeK; simp only [r_bind, r_ifs]
theorem q_cmK : (mCMK c n ix fm mr en S).sat P ↔ (mr en S).sat fun ds S1 => ds.length + 1 = n ∧ (D.gl c :: pick ix ds).length = n ∧ (fm (.gl c :: pick ix ds) S1).sat P := by unfold mCMK; simp only [r_bind, r_ifs]
end
/-! ### texts in a repr -/
theorem rb_str {x : Str} {n : Nat} (hx : ∀ c ∈ TL.tl x, c < 1114112) (hn : x.length ≤ n) : Rb 0 (10 * n + 2) (.str x) := by
  refine ⟨.str x, rfl, rfl, rfl, by simp [PyData.depth], ?_⟩
  have := StrLaws.reprText_len x fun c hc => Nat.lt_trans (hx c hc) (by decide)
  simp only [PyData.shown]
  omega
theorem tl_ok {x : Str} (h : PyData.strOk x = true) {c : Nat} (hc : c ∈ TL.tl x) : c < 1114112 := by
  have h1 : x.cps.all (· < 0x110000) = true := h
  rw [Array.all_eq_true'] at h1
  have := h1 c (by simpa [TL.tl] using hc)
  simpa using this
theorem page_sign {n : Nat} {hs : List Str} {ws : List (List (List Int))} (H : ∀ x ∈ hs, PyData.strOk x = true) (hw : ∀ w ∈ ws, WayOk n w) {c : Nat} (h : c ∈ TL.tl (pageS hs ws)) : c < 1114112 := by
  rcases mem_join h with z | ⟨p, hp, z⟩
  · exact tl_ok (x := "\n") (by decide +kernel) z
  · rcases List.mem_cons.mp hp with rfl | hp
    · rcases mem_join z with z | ⟨q, hq, z⟩
      · exact tl_ok (x := " ") (by decide +kernel) z
      · exact tl_ok (H q hq) z
    · obtain ⟨w, hm, rfl⟩ := List.mem_map.mp hp
      have := way_sign (hw w hm) z
      omega
end Ag

namespace Ag.k02
open PySem PySem.Spec PyProof.Rows L2
def N_is_integer : List Str := ["value"]
def s_is_integer : SM := (sRet (mAndV (mCB (fIsi isoC isoT) (mCons (mVar 0) (mCons (mC (.ty "int")) mNil))) (mNotV (mCB (fIsi isoC isoT) (mCons (mVar 0) (mCons (mC (.ty "bool")) mNil))))))
def F_is_integer : List D → Sto → Res D := runB 1 s_is_integer
def N_is_within : List Str := ["value", "least", "most"]
def s_is_within : SM := (sRet (mAndV (mCall 1 F_is_integer (mCons (mVar 0) mNil)) (mChain fLe fLe (mVar 1) (mVar 0) (mVar 2))))
def F_is_within : List D → Sto → Res D := runB 3 s_is_within
def N_is_row : List Str := ["value", "count", "weight"]
def s_is_row : SM := (sSeq (sIf (mOrB (mNotB (mB (mCB (fIsi isoC isoT) (mCons (mVar 0) (mCons (mC (.ty "tuple")) mNil))))) (mB (mOp fNe (mCB (f1 gLen) (mCons (mVar 0) mNil)) (mVar 1)))) (sRet (mC (.bl false))) sNil)
  (sRet (mAndV (mCB (f1 gAll) (mCons (mLc (mItV (mVar 0)) [2] (gNm 2) mYes (mCall 3 F_is_within (mCons (mVar 2) (mCons (mC (.int 0)) (mCons (mC (.int 1000000000)) mNil))))) mNil)) (mOp fGt (mCB (f1 gSum) (mCons (mVar 0) mNil)) (mC (.int 0))))))
def F_is_row : List D → Sto → Res D := runB 3 s_is_row
def N_is_way : List Str := ["value", "count", "row"]
def s_is_way : SM := (sRet (mAndV (mCB (fIsi isoC isoT) (mCons (mVar 0) (mCons (mC (.ty "tuple")) mNil))) (mAndV (mOp fEq (mCB (f1 gLen) (mCons (mVar 0) mNil)) (mVar 1)) (mCB (f1 gAll) (mCons (mLc (mItV (mVar 0)) [2] (gNm 2) mYes (mCall 2 F_is_row (mCons (mVar 2) (mCons (mVar 1) mNil)))) mNil)))))
def F_is_way : List D → Sto → Res D := runB 3 s_is_way
def N_wrong_way : List Str := ["ways", "count", "at", "way"]
def s_wrong_way : SM := (sSeq (sIf (mOrB (mNotB (mB (mCB (fIsi isoC isoT) (mCons (mVar 0) (mCons (mC (.ty "tuple")) mNil))))) (mB (mOp fEq (mCB (f1 gLen) (mCons (mVar 0) mNil)) (mC (.int 0))))) (sRet (mTup (mCons (mC .non) mNil))) sNil)
  (sSeq (sFor (mItA en1 (mCons (mVar 0) mNil)) (gUnp 2 (gsCons (gNm 2) (gsCons (gNm 3) gsNil))) (sIf (mOrB (mNotB (mB (mCall 2 F_is_way (mCons (mVar 3) (mCons (mVar 1) mNil))))) (mB (mOp fGe (mVar 2) (mC (.int 6))))) (sRet (mTup (mCons (mVar 2) mNil))) sNil))
  (sRet (mTup mNil))))
def F_wrong_way : List D → Sto → Res D := runB 4 s_wrong_way
def N_is_name : List Str := ["value", "sign"]
def s_is_name : SM := (sSeq (sIf (mOrB (mNotB (mB (mCB (fIsi isoC isoT) (mCons (mVar 0) (mCons (mC (.ty "str")) mNil))))) (mNotB (mB (mChain fLe fLe (mC (.int 1)) (mCB (f1 gLen) (mCons (mVar 0) mNil)) (mC (.int 8)))))) (sRet (mC (.bl false))) sNil)
  (sRet (mAndV (mOp fIn (mOp fIx (mVar 0) (mC (.int 0))) (mC (.str "abcdefghijklmnopqrstuvwxyz"))) (mCB (f1 gAll) (mCons (mLc (mItV (mVar 0)) [1] (gNm 1) mYes (mOrV (mOp fIn (mVar 1) (mC (.str "abcdefghijklmnopqrstuvwxyz"))) (mOp fIn (mVar 1) (mC (.str "0123456789"))))) mNil)))))
def F_is_name : List D → Sto → Res D := runB 2 s_is_name
def N_wrong_mind : List Str := ["minds", "at", "name"]
def s_wrong_mind : SM := (sSeq (sIf (mOrB (mNotB (mB (mCB (fIsi isoC isoT) (mCons (mVar 0) (mCons (mC (.ty "tuple")) mNil))))) (mB (mOp fEq (mCB (f1 gLen) (mCons (mVar 0) mNil)) (mC (.int 0))))) (sRet (mTup (mCons (mC .non) mNil))) sNil)
  (sSeq (sFor (mItA en1 (mCons (mVar 0) mNil)) (gUnp 2 (gsCons (gNm 1) (gsCons (gNm 2) gsNil))) (sIf (mOrB (mNotB (mB (mCall 1 F_is_name (mCons (mVar 2) mNil)))) (mOrB (mB (mOp fGe (mVar 1) (mC (.int 6)))) (mB (mOp fIn (mVar 2) (mSl (mVar 0) oNone (oSome (mVar 1))))))) (sRet (mTup (mCons (mVar 1) mNil))) sNil))
  (sRet (mTup mNil))))
def F_wrong_mind : List D → Sto → Res D := runB 3 s_wrong_mind
def N_Councild_initd : List Str := ["self", "minds", "ways", "wrong"]
def s_Councild_initd : SM := (sSeq (sAsg (mCall 1 F_wrong_mind (mCons (mVar 1) mNil)) (gNm 3))
  (sSeq (sIf (mB (mOp fNe (mVar 3) (mTup mNil))) sStuck sNil)
  (sSeq (sAsg (mCall 2 F_wrong_way (mCons (mVar 2) (mCons (mCB (f1 gLen) (mCons (mVar 1) mNil)) mNil))) (gNm 3))
  (sSeq (sIf (mB (mOp fNe (mVar 3) (mTup mNil))) sStuck sNil)
  (sSeq (sFldM ["Council"] "heads" (mVar 0) (mVar 1))
  (sFldM ["Council"] "tables" (mVar 0) (mVar 2)))))))
def F_Councild_initd : List D → Sto → Res D := runB 4 s_Councild_initd
def N_read_number : List Str := ["word", "number", "sign"]
def s_read_number : SM := (sSeq (sIf (mOrB (mB (mOp fEq (mVar 0) (mC (.str "")))) (mOrB (mB (mOp fGt (mCB (f1 gLen) (mCons (mVar 0) mNil)) (mC (.int 80)))) (mNotB (mB (mCB (f1 gAll) (mCons (mLc (mItV (mVar 0)) [2] (gNm 2) mYes (mOp fIn (mVar 2) (mC (.str "0123456789")))) mNil)))))) (sRet (mC .non)) sNil)
  (sSeq (sAsg (mCB (f1 gInt) (mCons (mVar 0) mNil)) (gNm 1))
  (sRet (mIf (mB (mOp fEq (mCB (f1 gStr) (mCons (mVar 1) mNil)) (mVar 0))) (mVar 1) (mC .non)))))
def F_read_number : List D → Sto → Res D := runB 3 s_read_number
def N_read_way : List Str := ["line", "part", "word"]
def s_read_way : SM := (sRet (mCB (f1 gTup) (mCons (mLc (mItV (mBM fSplit okStr (mVar 0) (mCons (mC (.str " ")) mNil))) [1] (gNm 1) mYes (mCB (f1 gTup) (mCons (mLc (mItV (mBM fSplit okStr (mVar 1) (mCons (mC (.str ",")) mNil))) [2] (gNm 2) mYes (mCall 1 F_read_number (mCons (mVar 2) mNil))) mNil))) mNil)))
def F_read_way : List D → Sto → Res D := runB 3 s_read_way
def N_read_council : List Str := ["text", "lines", "minds", "ways", "line"]
def s_read_council : SM := (sSeq (sIf (mNotB (mB (mCB (fIsi isoC isoT) (mCons (mVar 0) (mCons (mC (.ty "str")) mNil))))) (sRet (mC .non)) sNil)
  (sSeq (sAsg (mBM fSplit okStr (mVar 0) (mCons (mC (.str "\n")) mNil)) (gNm 1))
  (sSeq (sPar 2 3 (mCons (mCB (f1 gTup) (mCons (mBM fSplit okStr (mOp fIx (mVar 1) (mC (.int 0))) (mCons (mC (.str " ")) mNil)) mNil)) (mCons (mCB (f1 gTup) (mCons (mLc (mItV (mSl (mVar 1) (oSome (mC (.int 1))) oNone)) [4] (gNm 4) mYes (mCall 1 F_read_way (mCons (mVar 4) mNil))) mNil)) mNil)))
  (sSeq (sIf (mOrB (mB (mOp fNe (mCall 1 F_wrong_mind (mCons (mVar 2) mNil)) (mTup mNil))) (mB (mOp fNe (mCall 2 F_wrong_way (mCons (mVar 3) (mCons (mCB (f1 gLen) (mCons (mVar 2) mNil)) mNil))) (mTup mNil)))) (sRet (mC .non)) sNil)
  (sRet (mTup (mCons (mVar 2) (mCons (mVar 3) mNil))))))))
def F_read_council : List D → Sto → Res D := runB 5 s_read_council
def N_Council_read : List Str := ["cls", "text", "found"]
def s_Council_read : SM := (sSeq (sAsg (mCall 1 F_read_council (mCons (mVar 1) mNil)) (gNm 2))
  (sSeq (sIf (mB (mOp fIs (mVar 2) (mC .non))) sStuck sNil)
  (sRet (mMakeL 0 "Council" true 2 F_Councild_initd (mCons (mOp fIx (mVar 2) (mC (.int 0))) (mCons (mOp fIx (mVar 2) (mC (.int 1))) mNil))))))
def F_Council_read : List D → Sto → Res D := runB 3 s_Council_read
def N_way_text : List Str := ["way", "rows", "row", "weight"]
def s_way_text : SM := (sSeq (sAsg (mLst mNil) (gNm 1))
  (sSeq (sFor (mItV (mVar 0)) (gNm 2) (sAsg (mOp fAdd (mVar 1) (mLst (mCons (mBM fJoin okStr (mC (.str ",")) (mCons (mLc (mItV (mVar 2)) [3] (gNm 3) mYes (mCB (f1 gStr) (mCons (mVar 3) mNil))) mNil)) mNil))) (gNm 1)))
  (sRet (mBM fJoin okStr (mC (.str " ")) (mCons (mVar 1) mNil)))))
def F_way_text : List D → Sto → Res D := runB 4 s_way_text
def N_lines_of : List Str := ["minds", "ways", "way"]
def s_lines_of : SM := (sRet (mOp fAdd (mLst (mCons (mBM fJoin okStr (mC (.str " ")) (mCons (mVar 0) mNil)) mNil)) (mLc (mItV (mVar 1)) [2] (gNm 2) mYes (mCall 1 F_way_text (mCons (mVar 2) mNil)))))
def F_lines_of : List D → Sto → Res D := runB 3 s_lines_of
def N_Councild_strd : List Str := ["self", "lines"]
def s_Councild_strd : SM := (sSeq (sAsg (mCall 2 F_lines_of (mCons (mUn (fFld ["Council"] "heads") (mVar 0)) (mCons (mUn (fFld ["Council"] "tables") (mVar 0)) mNil))) (gNm 1))
  (sRet (mBM fJoin okStr (mC (.str "\n")) (mCons (mVar 1) mNil))))
def F_Councild_strd : List D → Sto → Res D := runB 2 s_Councild_strd
def N_Councild_eqd : List Str := ["self", "other"]
def s_Councild_eqd : SM := (sRet (mAndV (mCB (fIsi isoC isoT) (mCons (mVar 1) (mCons (mC (.gl "Council")) mNil))) (mAndV (mOp fEq (mUn (fFld ["Council"] "heads") (mVar 0)) (mUn (fFld ["Council"] "heads") (mVar 1))) (mOp fEq (mUn (fFld ["Council"] "tables") (mVar 0)) (mUn (fFld ["Council"] "tables") (mVar 1))))))
def F_Councild_eqd : List D → Sto → Res D := runB 2 s_Councild_eqd
def N_Councild_boold : List Str := ["self"]
def s_Councild_boold : SM := (sRet (mC (.bl true)))
def F_Councild_boold : List D → Sto → Res D := runB 1 s_Councild_boold
def N_Councild_lend : List Str := ["self"]
def s_Councild_lend : SM := (sRet (mCB (f1 gLen) (mCons (mUn (fFld ["Council"] "heads") (mVar 0)) mNil)))
def F_Councild_lend : List D → Sto → Res D := runB 1 s_Councild_lend
def N_Council_ways : List Str := ["self"]
def s_Council_ways : SM := (sRet (mUn (fFld ["Council"] "tables") (mVar 0)))
def F_Council_ways : List D → Sto → Res D := runB 1 s_Council_ways
def N_Council_minds : List Str := ["self"]
def s_Council_minds : SM := (sRet (mUn (fFld ["Council"] "heads") (mVar 0)))
def F_Council_minds : List D → Sto → Res D := runB 1 s_Council_minds
def N_page_l : List Str := ["_law_heads_here", "_law_talks", "_law_rows_here", "_law_talk_here", "_law_row_here", "_law_one"]
def s_page_l : SM := (sSeq (sAsg (mLstC (mCons (mBM fJoin okStr (mC (.str " ")) (mCons (mVar 0) mNil)) mNil)) (gNm 2))
  (sSeq (sFor (mItV (mVar 1)) (gNm 3) (sExpr (mBM fAppend okLst (mVar 2) (mCons (mBM fJoin okStr (mC (.str " ")) (mCons (mLc (mItV (mVar 3)) [4] (gNm 4) mYes (mBM fJoin okStr (mC (.str ",")) (mCons (mLc (mItV (mVar 4)) [5] (gNm 5) mYes (mCB (f1 gStr) (mCons (mVar 5) mNil))) mNil))) mNil)) mNil))))
  (sRet (mBM fJoin okStr (mC (.str "\n")) (mCons (mVar 2) mNil)))))
def F_page_l : List D → Sto → Res D := scop (runB 6 s_page_l)
def N_sip_l : List Str := ["_law_jug_here", "_law_most", "_law_digit"]
def s_sip_l : SM := (sSeq (sIf (mB (mOp fGt (mOp fIx (mVar 0) (mC (.int 0))) (mC (.int 0)))) (sSeq (sAsg (mCB fDivmod (mCons (mOp fIx (mVar 0) (mC (.int 0))) (mCons (mVar 1) mNil))) (gUnp 2 (gsCons (gSubM fSet (mVar 0) (mC (.int 0))) (gsCons (gNm 2) gsNil))))
  (sRet (mVar 2))) sNil)
  (sSeq (sAsg (mOp fAdd (mOp fIx (mVar 0) (mC (.int 2))) (mC (.int 1))) (gSubM fSet (mVar 0) (mC (.int 2))))
  (sSeq (sAsg (mOp fMod (mCB (f1 gInt) (mCons (mOp fAdd (mOp fMul (mOp fIx (mVar 0) (mC (.int 1))) (mC (.int 43003))) (mOp fMul (mC (.int 29009)) (mOp fIx (mVar 0) (mC (.int 2))))) mNil)) (mC (.int 2147483269))) (gSubM fSet (mVar 0) (mC (.int 1))))
  (sRet (mOp fMod (mCB (f1 gInt) (mCons (mOp fDiv (mOp fIx (mVar 0) (mC (.int 1))) (mC (.int 1024))) mNil)) (mVar 1))))))
def F_sip_l : List D → Sto → Res D := runB 3 s_sip_l
def N_row_l : List Str := ["_law_jug_here", "_law_size", "_law_row_here", "_law_k"]
def s_row_l : SM := (sSeq (sAsg (mLcC (mItA rg1 (mCons (mVar 1) mNil)) [3] (gNm 3) mYes (mOp fIx (mLst (mCons (mC (.int 0)) (mCons (mC (.int 0)) (mCons (mC (.int 1)) (mCons (mC (.int 1)) (mCons (mC (.int 2)) (mCons (mC (.int 3)) (mCons (mC (.int 7)) mNil)))))))) (mCall 2 F_sip_l (mCons (mVar 0) (mCons (mC (.int 7)) mNil))))) (gNm 2))
  (sSeq (sIf (mB (mOp fEq (mCB (f1 gSum) (mCons (mVar 2) mNil)) (mC (.int 0)))) (sAsg (mOp fIx (mLst (mCons (mC (.int 1)) (mCons (mC (.int 2)) (mCons (mOp fPow (mC (.int 10)) (mC (.int 9))) mNil)))) (mCall 2 F_sip_l (mCons (mVar 0) (mCons (mC (.int 3)) mNil)))) (gSubM fSet (mVar 2) (mCall 2 F_sip_l (mCons (mVar 0) (mCons (mVar 1) mNil))))) sNil)
  (sRet (mCB (f1 gTup) (mCons (mVar 2) mNil)))))
def F_row_l : List D → Sto → Res D := scop (runB 4 s_row_l)
def N_talk_l : List Str := ["_law_jug_here", "_law_size", "_law_k"]
def s_talk_l : SM := (sRet (mCB (f1 gTup) (mCons (mLc (mItA rg1 (mCons (mVar 1) mNil)) [2] (gNm 2) mYes (mCall 2 F_row_l (mCons (mVar 0) (mCons (mVar 1) mNil)))) mNil)))
def F_talk_l : List D → Sto → Res D := runB 3 s_talk_l
def N_pair_l : List Str := ["_law_jug_here", "_law_most_here", "_law_size", "_law_pool", "_law_heads_here", "_law_k"]
def s_pair_l : SM := (sSeq (sAsg (mOp fAdd (mC (.int 1)) (mCall 2 F_sip_l (mCons (mVar 0) (mCons (mVar 1) mNil)))) (gNm 2))
  (sSeq (sAsg (mLstC (mCons (mC (.str "ann")) (mCons (mC (.str "bob")) (mCons (mC (.str "cyd")) (mCons (mC (.str "d2")) (mCons (mC (.str "e")) (mCons (mC (.str "z9999999")) (mCons (mC (.str "abe")) (mCons (mC (.str "x")) mNil))))))))) (gNm 3))
  (sSeq (sAsg (mLstC mNil) (gNm 4))
  (sSeq (sFor (mItA rg1 (mCons (mVar 2) mNil)) (gNm 5) (sExpr (mBM fAppend okLst (mVar 4) (mCons (mBM fPopAt okLst (mVar 3) (mCons (mCall 2 F_sip_l (mCons (mVar 0) (mCons (mCB (f1 gLen) (mCons (mVar 3) mNil)) mNil))) mNil)) mNil))))
  (sRet (mLst (mCons (mCB (f1 gTup) (mCons (mVar 4) mNil)) (mCons (mCB (f1 gTup) (mCons (mLc (mItA rg1 (mCons (mOp fAdd (mC (.int 1)) (mCall 2 F_sip_l (mCons (mVar 0) (mCons (mC (.int 4)) mNil)))) mNil)) [5] (gNm 5) mYes (mCall 2 F_talk_l (mCons (mVar 0) (mCons (mVar 2) mNil)))) mNil)) mNil))))))))
def F_pair_l : List D → Sto → Res D := scop (runB 6 s_pair_l)
def N_right_l : List Str := ["_law_jug_here", "_law_again", "_law_page_here", "_law_some", "_law_base", "_law_heads_here", "_law_talks", "_law_told"]
def s_right_l : SM := (sSeq (sFor (mItA rg1 (mCons (mC (.int 5)) mNil)) (gNm 1) (sSeq (sAsg (mCall 2 F_pair_l (mCons (mVar 0) (mCons (mC (.int 6)) mNil))) (gUnp 2 (gsCons (gNm 5) (gsCons (gNm 6) gsNil))))
  (sSeq (sAsg (mCall 2 F_page_l (mCons (mVar 5) (mCons (mVar 6) mNil))) (gNm 2))
  (sSeq (sAsg (mLst (mCons (mMake "Council" true 2 F_Councild_initd (mCons (mVar 5) (mCons (mVar 6) mNil))) (mCons (mMakeK "Council" true 2 [1, 0] F_Councild_initd (mCons (mVar 6) (mCons (mVar 5) mNil))) (mCons (mCM "Council" 2 F_Council_read (mCons (mVar 2) mNil)) mNil)))) (gNm 3))
  (sFor (mItV (mOp fAdd (mVar 3) (mLst (mCons (mCMK "Council" 2 [0] F_Council_read (mCons (mVar 2) mNil)) (mCons (mCM "Council" 2 F_Council_read (mCons (mCR (strF "Council" F_Councild_strd) (mCons (mOp fIx (mVar 3) (mC (.int 0))) mNil)) mNil)) mNil))))) (gNm 4) (sSeq (sAsg (mLst (mCons (mProp "Council" F_Council_minds (mVar 4)) (mCons (mProp "Council" F_Council_ways (mVar 4)) (mCons (mCR (lenF "Council" F_Councild_lend) (mCons (mVar 4) mNil)) (mCons (mCR (strF "Council" F_Councild_strd) (mCons (mVar 4) mNil)) (mCons (mCR (boolF "Council" F_Councild_boold) (mCons (mVar 4) mNil)) (mCons (mOpR (eqF "Council" F_Councild_eqd false) (mVar 4) (mOp fIx (mVar 3) (mC (.int 0)))) (mCons (mOpR (eqF "Council" F_Councild_eqd true) (mVar 4) (mOp fIx (mVar 3) (mC (.int 0)))) mNil)))))))) (gNm 7))
  (sIf (mB (mOp fNe (mCB (f1 gRepr) (mCons (mVar 7) mNil)) (mCB (f1 gRepr) (mCons (mLst (mCons (mVar 5) (mCons (mVar 6) (mCons (mCB (f1 gLen) (mCons (mVar 5) mNil)) (mCons (mVar 2) (mCons (mC (.bl true)) (mCons (mC (.bl true)) (mCons (mC (.bl false)) mNil)))))))) mNil)))) (sRet (mC (.bl false))) sNil)))))))
  (sRet (mC (.bl true))))
def F_right_l : List D → Sto → Res D := runB 8 s_right_l
def N_quiet_l : List Str := ["_law_jug_here", "_law_is_right"]
def s_quiet_l : SM := (sSeq (sTryQ (sAsg (mCall 1 F_right_l (mCons (mVar 0) mNil)) (gNm 1)))
  (sRet (mVar 1)))
def F_quiet_l : List D → Sto → Res D := runB 2 s_quiet_l
def N_jug_l : List Str := ["_law_script", "_law_at", "_law_figure", "_law_seed", "_law_each"]
def s_jug_l : SM := (sSeq (sAsg (mIf (mB (mOp fLt (mVar 1) (mCB (f1 gLen) (mCons (mVar 0) mNil)))) (mOp fIx (mVar 0) (mVar 1)) (mOp fAdd (mOp fMul (mC (.int 53)) (mVar 1)) (mC (.int 11)))) (gNm 2))
  (sSeq (sAsg (mOp fAdd (mC (.int 122949823)) (mOp fMul (mC (.int 37013)) (mVar 1))) (gNm 3))
  (sSeq (sFor (mItV (mOp fAdd (mLst (mCons (mVar 2) mNil)) (mSl (mVar 0) oNone (oSome (mC (.int 6)))))) (gNm 4) (sAsg (mOp fMod (mCB (f1 gInt) (mCons (mOp fAdd (mOp fMul (mVar 3) (mC (.int 59063))) (mVar 4)) mNil)) (mC (.int 2147483269))) (gNm 3)))
  (sRet (mLstC (mCons (mIf (mB (mOp fGe (mCB (f1 gAbs) (mCons (mVar 2) mNil)) (mOp fPow (mC (.int 10)) (mC (.int 18))))) (mCB (f1 gAbs) (mCons (mVar 2) mNil)) (mC (.int 0))) (mCons (mVar 3) (mCons (mC (.int 0)) mNil))))))))
def F_jug_l : List D → Sto → Res D := runB 5 s_jug_l
def N_law : List Str := ["_law_script", "_law_at"]
def s_law : SM := (sRet (mCB (f1 gAll) (mCons (mLc (mItA rg1 (mCons (mCB fMax2 (mCons (mC (.int 2)) (mCons (mCB fMin2 (mCons (mCB (f1 gLen) (mCons (mVar 0) mNil)) (mCons (mC (.int 5)) mNil))) mNil))) mNil)) [1] (gNm 1) mYes (mCall 1 F_quiet_l (mCons (mCall 2 F_jug_l (mCons (mVar 0) (mCons (mVar 1) mNil))) mNil))) mNil)))
def F_law : List D → Sto → Res D := runB 2 s_law
end Ag.k02

namespace Ag.k02
open PySem

variable {ts : List Rat} {ws : List Int} {M B a : Nat}
theorem isi_tup (l : List D) (S : Sto) : fIsi isoC isoT [.tup l, .ty "tuple"] S = some (.bl true) := rfl
theorem isi_ii (i : Int) (S : Sto) : fIsi isoC isoT [.int i, .ty "int"] S = some (.bl true) := rfl
theorem isi_ib (i : Int) (S : Sto) : fIsi isoC isoT [.int i, .ty "bool"] S = some (.bl false) := rfl
theorem isi_ss (x : Str) (S : Sto) : fIsi isoC isoT [.str x, .ty "str"] S = some (.bl true) := rfl
theorem isi_c (ns : List Str) (l : List D) (S : Sto) : fIsi isoC isoT [.obj "Council" ns l, .gl "Council"] S = some (.bl true) := rfl
theorem integer_ok (i : Int) (S : Sto) : F_is_integer [.int i] S = .ok (.bl true) S := rfl
theorem within_ok (i lo hi : Int) (S : Sto) : F_is_within [.int i, .int lo, .int hi] S = .ok (.bl (decide (lo ≤ i) && decide (i ≤ hi))) S := by
  unfold F_is_within
  apply sat_eq
  rw [f_run]
  show (s_is_within [some (.int i), some (.int lo), some (.int hi)] S).sat _ _
  unfold s_is_within
  simp only [p_ret, q_andV, q_call, q_cons, q_nil, q_var, sl_0, sl_s, os_some, integer_ok, r_ok, bOf, if_true, q_chain, fLe, cmpI, Option.bind_some, List.length_cons, List.length_nil, true_and]
  by_cases h : lo ≤ i <;> simp [h]
structure Heads (hs : List Str) : Prop where
  ne : hs ≠ []
  six : hs.length ≤ 6
  nm : ∀ h ∈ hs, ∀ S, F_is_name [.str h] S = .ok (.bl true) S
  ok : ∀ h ∈ hs, PyData.strOk h = true
  nd : hs.Nodup
  rb : ∀ h ∈ hs, Rb 0 40 (.str h)
theorem mind_ok {hs : List Str} (H : Heads hs) (S : Sto) : F_wrong_mind [.tup (hs.map .str)] S = .ok (.tup []) S := by
  unfold F_wrong_mind
  apply sat_eq
  rw [f_run]
  show (s_wrong_mind [some (.tup (hs.map .str)), none, none] S).sat _ _
  unfold s_wrong_mind
  simp only [p_seq, p_if, q_orB, q_notB, q_b, q_cb, q_cons, q_nil, q_var, q_c, q_op, sl_0, sl_s, os_some, isi_tup, bOf, Bool.not_true, Bool.false_eq_true, if_false, f1, gLen, List.length_map, eq_int, eq_len0 H.ne, decide_false, p_nil, p_for, q_itA, en1]
  refine for_inv (li_en _) (fun k en S' => ∃ x y, en = [some (.tup (hs.map .str)), x, y] ∧ S' = S) ?_ ?_ ⟨none, none, rfl, rfl⟩
  · rintro k d en S' hd ⟨x, y, rfl, rfl⟩
    have hk : k < hs.length := by
      have := (List.getElem?_eq_some_iff.mp hd).1
      simpa using this
    have h1 : hs[k]? = some hs[k] := List.getElem?_eq_getElem hk
    have ed : d = .tup [.int (k : Int), .str hs[k]] := by
      rw [List.getElem?_mapIdx, List.getElem?_map, h1] at hd
      simpa using hd.symm
    subst ed
    have hm := List.mem_of_getElem? h1
    have e1 := H.nm _ hm S'
    have e2 : ¬ (6 : Int) ≤ (k : Int) := by have := H.six; omega
    have e3 : fIn (.str hs[k]) (.tup ((hs.take k).map .str)) S' = some (.bl false) := by
      rw [in_strs S' (H.ok _ hm) fun y hy => H.ok y (List.mem_of_mem_take hy)]
      congr 2
      refine decide_eq_false fun hin => ?_
      obtain ⟨j, hj, e⟩ := List.mem_iff_getElem.mp hin
      rw [List.getElem_take] at e
      simp only [List.length_take] at hj
      have := (List.getElem?_inj (i := j) (j := k) (by omega) H.nd).mp (by rw [List.getElem?_eq_getElem (by omega), h1, e])
      omega
    simp only [g_unpS, seqOf, os_some, List.length_cons, List.length_nil, gs_consS, gs_nilS, g_nm, List.set_cons_zero, List.set_cons_succ, true_and, p_if, q_orB, q_notB, q_b, q_call, q_cons, q_nil, q_var, sl_0, sl_s, e1, r_ok, bOf, Bool.not_true, Bool.false_eq_true, if_false, q_op, q_c, fGe, cmpI, e2, decide_false, q_sl, q_oN, q_oS, intD, fSl, cut_take, ← List.map_take, e3, p_nil]
    exact ⟨_, _, rfl, trivial⟩
  · rintro en S' ⟨x, y, rfl, rfl⟩
    simp only [p_ret, q_tup, q_nil, List.length_nil]
    exact ⟨by decide, trivial, trivial⟩
theorem row_ok {n : Nat} {r : List Int} (h : RowOk n r) (hn : n < 1000) (S : Sto) : F_is_row [rowD r, .int (n : Int)] S = .ok (.bl true) S := by
  unfold F_is_row
  apply sat_eq
  rw [f_run]
  show (s_is_row [some (.tup (r.map .int)), some (.int (n : Int)), none] S).sat _ _
  unfold s_is_row
  simp only [p_seq, p_if, q_orB, q_notB, q_b, q_cb, q_cons, q_nil, q_var, q_c, q_op, sl_0, sl_s, os_some, isi_tup, bOf, Bool.not_true, Bool.false_eq_true, if_false, f1, gLen, List.length_map, h.len, ne_int, ne_eq, not_true_eq_false, decide_false, p_nil, p_ret, q_andV, q_lc, q_itV, itOf]
  refine lc_map (li_ls _) (fun _ => .bl true) (by rw [List.length_map, h.len]; exact len_line hn) (fun k d hd => ?_) ?_
  · rw [List.getElem?_map] at hd
    obtain ⟨w, hw, rfl⟩ := Option.map_eq_some_iff.mp hd
    have hb := h.in_ w (List.mem_of_getElem? hw)
    simp only [wipeE, List.set_cons_zero, List.set_cons_succ, g_nm, q_call, q_cons, q_nil, q_var, q_c, sl_0, sl_s, os_some, within_ok, r_ok, hb.1, hb.2, decide_true, Bool.and_self, List.length_cons, List.length_nil]
    trivial
  · rw [map_true (fun _ _ => rfl)]
    have := all_true (r.map D.int).length S
    simp only [f1] at this
    simp only [this, os_some, bOf, if_true, sum_tup, fGt, cmpI, h.pos, decide_true]
    trivial
theorem way_ok {n : Nat} {w : List (List Int)} (h : WayOk n w) (hn : n < 1000) (S : Sto) : F_is_way [wayD w, .int (n : Int)] S = .ok (.bl true) S := by
  unfold F_is_way
  apply sat_eq
  rw [f_run]
  show (s_is_way [some (.tup (w.map rowD)), some (.int (n : Int)), none] S).sat _ _
  unfold s_is_way
  simp only [p_ret, q_andV, q_cb, q_cons, q_nil, q_var, q_c, q_op, sl_0, sl_s, os_some, isi_tup, bOf, if_true, f1, gLen, List.length_map, h.len, eq_int, decide_true, q_lc, q_itV, itOf]
  refine lc_map (li_ls _) (fun _ => .bl true) (by rw [List.length_map, h.len]; exact len_line hn) (fun k d hd => ?_) ?_
  · rw [List.getElem?_map] at hd
    obtain ⟨r, hr, rfl⟩ := Option.map_eq_some_iff.mp hd
    have e1 := row_ok (h.row r (List.mem_of_getElem? hr)) hn S
    simp only [wipeE, List.set_cons_zero, List.set_cons_succ, g_nm, q_call, q_cons, q_nil, q_var, q_c, sl_0, sl_s, os_some, e1, r_ok, List.length_cons, List.length_nil]
    trivial
  · rw [map_true (fun _ _ => rfl)]
    have := all_true (w.map rowD).length S
    simp only [f1] at this
    simp only [this, os_some]
    trivial
theorem wrong_way_ok {n : Nat} {ws : List (List (List Int))} (h : ∀ w ∈ ws, WayOk n w) (hn : n < 1000) (h0 : ws ≠ []) (h6 : ws.length ≤ 6) (S : Sto) : F_wrong_way [.tup (ws.map wayD), .int (n : Int)] S = .ok (.tup []) S := by
  unfold F_wrong_way
  apply sat_eq
  rw [f_run]
  show (s_wrong_way [some (.tup (ws.map wayD)), some (.int (n : Int)), none, none] S).sat _ _
  unfold s_wrong_way
  simp only [p_seq, p_if, q_orB, q_notB, q_b, q_cb, q_cons, q_nil, q_var, q_c, q_op, sl_0, sl_s, os_some, isi_tup, bOf, Bool.not_true, Bool.false_eq_true, if_false, f1, gLen, List.length_map, eq_int, eq_len0 h0, decide_false, p_nil, p_for, q_itA, en1]
  refine for_inv (li_en _) (fun k en S' => ∃ x y, en = [some (.tup (ws.map wayD)), some (.int (n : Int)), x, y] ∧ S' = S) ?_ ?_ ⟨none, none, rfl, rfl⟩
  · rintro k d en S' hd ⟨x, y, rfl, rfl⟩
    have hk : k < ws.length := by
      have := (List.getElem?_eq_some_iff.mp hd).1
      simpa using this
    have h1 : ws[k]? = some ws[k] := List.getElem?_eq_getElem hk
    have ed : d = .tup [.int (k : Int), wayD ws[k]] := by
      rw [List.getElem?_mapIdx, List.getElem?_map, h1] at hd
      simpa using hd.symm
    subst ed
    have e1 := way_ok (h _ (List.mem_of_getElem? h1)) hn S'
    have e2 : ¬ (6 : Int) ≤ (k : Int) := by omega
    simp only [g_unpS, seqOf, os_some, List.length_cons, List.length_nil, gs_consS, gs_nilS, g_nm, List.set_cons_zero, List.set_cons_succ, true_and, p_if, q_orB, q_notB, q_b, q_call, q_cons, q_nil, q_var, sl_0, sl_s, e1, r_ok, bOf, Bool.not_true, Bool.false_eq_true, if_false, q_op, q_c, fGe, cmpI, e2, decide_false, p_nil]
    exact ⟨_, _, rfl, trivial⟩
  · rintro en S' ⟨x, y, rfl, rfl⟩
    simp only [p_ret, q_tup, q_nil, List.length_nil]
    exact ⟨by decide, trivial, trivial⟩

theorem init_ok {hs : List Str} {ws : List (List (List Int))} (H : Heads hs) (hw : ∀ w ∈ ws, WayOk hs.length w) (h0 : ws ≠ []) (h6 : ws.length ≤ 6) (S : Sto) :
    F_Councild_initd [.ref S.length, .tup (hs.map .str), .tup (ws.map wayD)] (S ++ [.ins "Council" [] []]) = .ok .non (S ++ [.ins "Council" ["heads", "tables"] [.tup (hs.map .str), .tup (ws.map wayD)]]) := by
  unfold F_Councild_initd
  apply sat_eq
  rw [f_run]
  show (s_Councild_initd [some (.ref S.length), some (.tup (hs.map .str)), some (.tup (ws.map wayD)), none] _).sat _ _
  unfold s_Councild_initd
  have e1 := mind_ok H (S ++ [.ins "Council" [] []])
  have e2 := wrong_way_ok hw (by have := H.six; omega) h0 h6 (S ++ [.ins "Council" [] []])
  simp only [p_seq, p_asgN, q_call, q_cons, q_nil, q_var, sl_0, sl_s, os_some, e1, r_ok, List.length_cons, List.length_nil, true_and, List.set_cons_zero, List.set_cons_succ, p_if, q_b, q_op, q_tup, ne_nil, bOf, Bool.false_eq_true, if_false, p_nil, q_cb, f1, gLen, List.length_map, e2, Nat.zero_le, true_and]
  refine p_fld ?_
  simp only [q_var, sl_0, sl_s, os_some]
  refine ⟨S.length, "Council", [], [], (["heads"], [.tup (hs.map .str)]), rfl, by simp, by simp, by decide, rfl, p_fld ?_⟩
  simp only [q_var, sl_0, sl_s, os_some]
  refine ⟨S.length, "Council", ["heads"], [.tup (hs.map .str)], (["heads", "tables"], [.tup (hs.map .str), .tup (ws.map wayD)]), rfl, by simp, by simp, by decide, rfl, by simp⟩
theorem make_ok {hs : List Str} {ws : List (List (List Int))} (H : Heads hs) (hw : ∀ w ∈ ws, WayOk hs.length w) (h0 : ws ≠ []) (h6 : ws.length ≤ 6) {S : Sto} (hS : Cl S) :
    mkD "Council" true F_Councild_initd [.tup (hs.map .str), .tup (ws.map wayD)] S = .ok (cncl hs ws) S := by
  unfold mkD
  rw [init_ok H hw h0 h6 S]
  have b : optAll (frzF S.length (S ++ [.ins "Council" ["heads", "tables"] [.tup (hs.map .str), .tup (ws.map wayD)]]) 2) [.tup (hs.map .str), .tup (ws.map wayD)] = some [.tup (hs.map .str), .tup (ws.map wayD)] := optAll_nr (by
    intro d hd
    simp only [List.mem_cons, List.not_mem_nil, or_false] at hd
    rcases hd with rfl | rfl
    · exact nr_tup (nr_map nr_str)
    · exact nr_tup (nr_map nr_way))
  simp only [if_true, cutR, List.take_left', cl_all hS, frzD, frzF, Nat.lt_irrefl, if_false, List.getElem?_append_right (Nat.le_refl _), Nat.sub_self, List.getElem?_cons_zero, b]
  rfl
theorem ways_ok (hs : List Str) (ws : List (List (List Int))) (S : Sto) : F_Council_ways [cncl hs ws] S = .ok (.tup (ws.map wayD)) S := rfl
theorem len_c (hs : List Str) (ws : List (List (List Int))) (S : Sto) : F_Councild_lend [cncl hs ws] S = .ok (.int (hs.length : Int)) S := by
  have : F_Councild_lend [cncl hs ws] S = .ok (.int ((hs.map D.str).length : Int)) S := rfl
  rw [this, List.length_map]
theorem sip_ok {S : Sto} {i : Nat} (h : Jg S i) {m : Int} (hm : 0 < m) (hm2 : m < 1073741824) : (F_sip_l [.ref i, .int m] S).sat fun v S' => ∃ d : Nat, v = .int (d : Int) ∧ (d : Int) < m ∧ Lk S S' i := by
  unfold F_sip_l
  rw [f_run]
  show (s_sip_l [some (.ref i), some (.int m), none] S).sat _ _
  obtain ⟨a, b, c, e⟩ := h.at_
  unfold s_sip_l
  have x0 : fIx (.ref i) (.int 0) S = some (.int a) := ix_ref e 0
  have x1 : ∀ a b c S, S[i]? = some (.lst [.int a, .int b, .int c]) → fIx (.ref i) (.int 1) S = some (.int b) := fun a b c S z => ix_ref z 1
  have x2 : ∀ a b c S, S[i]? = some (.lst [.int a, .int b, .int c]) → fIx (.ref i) (.int 2) S = some (.int c) := fun a b c S z => ix_ref z 2
  have y0 : ∀ a b c d S, S[i]? = some (.lst [.int a, .int b, .int c]) → fSet (.ref i) (.int 0) (.int d) S = some (S.set i (.lst [.int d, .int b, .int c])) := fun a b c d S z => set_ref z (k := 0) (by simp) _
  have y1 : ∀ a b c d S, S[i]? = some (.lst [.int a, .int b, .int c]) → fSet (.ref i) (.int 1) (.int d) S = some (S.set i (.lst [.int a, .int d, .int c])) := fun a b c d S z => set_ref z (k := 1) (by simp) _
  have y2 : ∀ a b c d S, S[i]? = some (.lst [.int a, .int b, .int c]) → fSet (.ref i) (.int 2) (.int d) S = some (S.set i (.lst [.int a, .int b, .int d])) := fun a b c d S z => set_ref z (k := 2) (by simp) _
  have fin : ∀ z : Int, ∃ d : Nat, z % m = (d : Int) ∧ (d : Int) < m := fun z => by
    have h1 := Int.emod_nonneg z (show m ≠ 0 by omega)
    have h2 := Int.emod_lt_of_pos z hm
    exact ⟨(z % m).toNat, by omega, by omega⟩
  simp only [p_seq, p_if, q_b, q_op, q_var, q_c, sl_0, sl_s, os_some, x0, fGt, cmpI, bOf]
  by_cases ha : 0 < a
  · simp only [ha, decide_true, if_true, p_seq, p_asg, q_cb, q_cons, q_nil, q_op, q_var, q_c, sl_0, sl_s, os_some, x0, fDivmod, hm, hm2, and_self, g_unpS, seqOf, List.length_cons, List.length_nil, gs_consS, gs_nilS, g_subS, y0 a b c _ S e, g_nm, List.set_cons_zero, List.set_cons_succ, p_ret, true_and]
    obtain ⟨d, h1, h2⟩ := fin a
    rw [h1]
    exact ⟨d, rfl, h2, Lk.put h _ _ _⟩
  · have m1 : ∀ z : Int, mulOk z 43003 = true := fun z => mulOk_r (by decide)
    have m2 : ∀ z : Int, mulOk 29009 z = true := fun z => by
      unfold mulOk
      rw [decide_eq_true (by decide)]
      simp
    have d1 : divOk 1024 = true := by decide
    have e1 := set_get (o := .lst [.int a, .int b, .int (c + 1)]) e
    have e2 : ∀ z : Int, (S.set i (.lst [.int a, .int z, .int (c + 1)]))[i]? = some (.lst [.int a, .int z, .int (c + 1)]) := fun z => set_get e
    simp only [ha, decide_false, Bool.false_eq_true, if_false, p_nil, p_asg, g_subS, q_op, q_var, q_c, sl_0, sl_s, os_some, x2 a b c S e, fAdd, y2 a b c _ S e, q_cb, q_cons, q_nil, x1 _ _ _ _ e1, x2 _ _ _ _ e1, fMul, m1, m2, if_true, f1, gInt, fMod, y1 _ _ _ _ _ e1, List.set_set, p_ret, x1 _ _ _ _ (e2 _), fDiv, d1, hm]
    simp only [show (0 : Int) < 2147483269 by decide, if_true, os_some]
    obtain ⟨d, h1, h2⟩ := fin ((b * 43003 + 29009 * (c + 1)) % 2147483269 / 1024)
    simp only [y1 _ _ _ _ _ e1, List.set_set, os_some, x1 _ _ _ _ (e2 _)]
    simp only [d1, hm, if_true, os_some]
    rw [h1]
    exact ⟨d, rfl, h2, Lk.put h _ _ _⟩
theorem row_draw {S : Sto} {i n : Nat} (h : Jg S i) (h1 : 1 ≤ n) (h6 : n ≤ 6) : (F_row_l [.ref i, .int (n : Int)] S).sat fun v S' => (∃ r, v = rowD r ∧ RowOk n r) ∧ Lk S S' i := by
  unfold F_row_l
  have k1 : i < S.length := h.lt
  refine scop_ok k1 ?_
  rw [f_run]
  show (s_row_l [some (.ref i), some (.int (n : Int)), none, none] S).sat _ _
  unfold s_row_l
  have r1 := rg1_len n S (by omega)
  simp only [p_seq, p_asgN, q_lcC, q_itA, q_cons, q_nil, q_var, sl_0, sl_s, os_some, r1]
  refine lc_inv (li_rg _ _) (fun k acc S' => Lk S S' i ∧ ∃ r : List Int, acc = r.map .int ∧ r.length = k ∧ ∀ w ∈ r, 0 ≤ w ∧ w ≤ 7) ?_ ?_ ⟨.refl h, [], rfl, rfl, by simp⟩
  · rintro k d acc S' hd ⟨l, r, rfl, hr, hb⟩
    have hk : k < n := by
      have := (List.getElem?_eq_some_iff.mp hd).1
      simpa using this
    simp only [wipeE, List.set_cons_zero, List.set_cons_succ, g_nm, mYes, r_ok, if_true, q_op, q_lst, q_cons, q_nil, q_c, q_call, q_var, sl_0, sl_s, os_some, List.length_cons, List.length_nil, true_and]
    refine ⟨by decide, (sip_ok l.jg (by decide) (by decide)).mono ?_⟩
    rintro v S2 ⟨d, rfl, hd, l2⟩
    rw [ix_lst]
    have : d = 0 ∨ d = 1 ∨ d = 2 ∨ d = 3 ∨ d = 4 ∨ d = 5 ∨ d = 6 := by omega
    have fin : ∀ w : Int, 0 ≤ w ∧ w ≤ 7 → (r.map D.int).length < lineN ∧ Lk S S2 i ∧ ∃ r' : List Int, r.map D.int ++ [.int w] = r'.map .int ∧ r'.length = k + 1 ∧ ∀ w ∈ r', 0 ≤ w ∧ w ≤ 7 := fun w hw =>
      ⟨by rw [List.length_map, hr]; unfold lineN; omega, l.trans l2, r ++ [w], by simp, by simp [hr], fun x hx => by
        rcases List.mem_append.mp hx with hx | hx
        · exact hb x hx
        · have : x = w := by simpa using hx
          subst this; exact hw⟩
    rcases this with rfl | rfl | rfl | rfl | rfl | rfl | rfl
    · exact os_some.mpr (fin 0 (by decide))
    · exact os_some.mpr (fin 0 (by decide))
    · exact os_some.mpr (fin 1 (by decide))
    · exact os_some.mpr (fin 1 (by decide))
    · exact os_some.mpr (fin 2 (by decide))
    · exact os_some.mpr (fin 3 (by decide))
    · exact os_some.mpr (fin 7 (by decide))
  · rintro acc S1 ⟨l, r, rfl, hr, hb⟩
    rw [show ((List.range n).map fun k => D.int (0 + (k : Nat))).length = n by simp] at hr
    have x0 : Ex S (S1 ++ [.lst (r.map .int)]) i := l.toEx.add (bel_lst (nr_map nr_int))
    have g0 : (S1 ++ [Ob.lst (r.map .int)])[S1.length]? = some (.lst (r.map .int)) := by simp
    have ni : i ≠ S1.length := by have := l.jg.lt; omega
    have li : i < S.length := h.lt
    have nn : ∀ w ∈ r, 0 ≤ w := fun w hw => (hb w hw).1
    simp only [p_if, q_b, q_op, q_cb, q_cons, q_nil, q_var, q_c, sl_0, sl_s, os_some, List.set_cons_zero, List.set_cons_succ, f1, sum_ref g0, eq_int, bOf]
    by_cases hs : r.sum = 0
    · simp only [hs, decide_true, if_true, p_asg, q_op, q_lst, q_cons, q_nil, q_c, fPow, os_if, q_call, q_var, sl_0, sl_s, os_some, List.length_cons, List.length_nil, true_and]
      refine ⟨by decide, by decide, (sip_ok x0.jg (by decide) (by decide)).mono ?_⟩
      rintro v S2 ⟨d, rfl, hd, l2⟩
      rw [ix_lst]
      have g2 : S2[S1.length]? = some (.lst (r.map .int)) := by rw [l2.oth _ (by simp) (Ne.symm ni)]; exact g0
      have fin : ∀ w : Int, 0 < w ∧ w ≤ 1000000000 → (gSubM fSet (mVar 2) (mCall 2 F_sip_l (mCons (mVar 0) (mCons (mVar 1) mNil))) (.int w) [some (.ref i), some (.int (n : Int)), some (.ref S1.length), none] S2).sat fun en S' => (sRet (mCB (f1 gTup) (mCons (mVar 2) mNil)) en S').sat (fun _ S' => (∃ r, D.non = rowD r ∧ RowOk n r) ∧ Nr .non ∧ Ex S S' i) fun d S' => (∃ r, d = rowD r ∧ RowOk n r) ∧ Nr d ∧ Ex S S' i := fun w hw => by
        simp only [g_subS, q_call, q_cons, q_nil, q_var, sl_0, sl_s, os_some, List.length_cons, List.length_nil, true_and]
        refine (sip_ok l2.jg (by omega) (by omega)).mono ?_
        rintro v S3 ⟨d, rfl, hd, l3⟩
        have g3 : S3[S1.length]? = some (.lst (r.map .int)) := by rw [l3.oth _ (by rw [l2.same]; simp) (Ne.symm ni)]; exact g2
        have hd' : d < r.length := by omega
        rw [set_ref g3 (by simpa using hd')]
        have g4 := set_get (o := .lst ((r.map D.int).set d (.int w))) g3
        simp only [os_some, p_ret, q_cb, q_cons, q_nil, q_var, sl_0, sl_s, tup_ref g4]
        refine ⟨⟨r.set d w, by simp [rowD, List.map_set], by simp [hr], fun x hx => ?_, ?_⟩, ?_, ((x0.trans l2.toEx).trans l3.toEx).put (by rw [l.same]; exact Nat.le_refl _) li (bel_lst ?_)⟩
        · rcases List.mem_or_eq_of_mem_set hx with hx | rfl
          · have := hb x hx; omega
          · omega
        · have : w ≤ (r.set d w).sum := mem_le_sum (fun x hx => by
            rcases List.mem_or_eq_of_mem_set hx with hx | rfl
            · exact nn x hx
            · omega) w (List.mem_set hd' w)
          omega
        · rw [← List.map_set]; exact nr_tup (nr_map nr_int)
        · rw [← List.map_set]; exact nr_map nr_int
      have : d = 0 ∨ d = 1 ∨ d = 2 := by omega
      rcases this with rfl | rfl | rfl
      · exact os_some.mpr (fin 1 (by decide))
      · exact os_some.mpr (fin 2 (by decide))
      · exact os_some.mpr (fin (10 ^ 9) (by decide))
    · simp only [hs, decide_false, Bool.false_eq_true, if_false, p_nil, p_ret, q_cb, q_cons, q_nil, q_var, sl_0, sl_s, os_some, tup_ref g0]
      have h0 := (sum_take_le r r.length nn).1
      rw [List.take_length] at h0
      exact ⟨⟨r, rfl, hr, fun w hw => ⟨(hb w hw).1, by have := (hb w hw).2; omega⟩, by omega⟩, nr_row r, x0⟩

theorem talk_draw {S : Sto} {i n : Nat} (h : Jg S i) (h1 : 1 ≤ n) (h6 : n ≤ 6) : (F_talk_l [.ref i, .int (n : Int)] S).sat fun v S' => (∃ w, v = wayD w ∧ WayOk n w) ∧ Lk S S' i := by
  unfold F_talk_l
  rw [f_run]
  show (s_talk_l [some (.ref i), some (.int (n : Int)), none] S).sat _ _
  unfold s_talk_l
  have r1 := rg1_len n S (by omega)
  simp only [p_ret, q_cb, q_lc, q_itA, q_cons, q_nil, q_var, sl_0, sl_s, os_some, r1]
  refine lc_inv (li_rg _ _) (fun k acc S' => Lk S S' i ∧ ∃ w, acc = w.map rowD ∧ w.length = k ∧ ∀ r ∈ w, RowOk n r) ?_ ?_ ⟨.refl h, [], rfl, rfl, by simp⟩
  · rintro k d acc S' hd ⟨l, w, rfl, hr, hb⟩
    have hk : k < n := by
      have := (List.getElem?_eq_some_iff.mp hd).1
      simpa using this
    simp only [wipeE, List.set_cons_zero, List.set_cons_succ, g_nm, mYes, r_ok, if_true, q_cons, q_nil, q_call, q_var, sl_0, sl_s, os_some, List.length_cons, List.length_nil, true_and]
    refine (row_draw l.jg h1 h6).mono ?_
    rintro v S2 ⟨⟨r, rfl, hr2⟩, l2⟩
    refine ⟨by rw [List.length_map, hr]; unfold lineN; omega, l.trans l2, w ++ [r], by simp, by simp [hr], fun x hx => ?_⟩
    rcases List.mem_append.mp hx with hx | hx
    · exact hb x hx
    · have : x = r := by simpa using hx
      subst this; exact hr2
  · rintro acc S1 ⟨l, w, rfl, hr, hb⟩
    rw [range_len] at hr
    simp only [tup_lst, os_some]
    exact ⟨⟨w, rfl, hr, hb⟩, l⟩
theorem pool_nm : ∀ h ∈ pool, ∀ S, F_is_name [.str h] S = .ok (.bl true) S := by
  intro h hh S
  simp only [pool, List.mem_cons, List.not_mem_nil, or_false] at hh
  rcases hh with rfl | rfl | rfl | rfl | rfl | rfl | rfl | rfl <;> kernel_rfl
theorem pool_rb : ∀ h ∈ pool, Rb 0 40 (.str h) := by
  intro h hh
  refine ⟨.str h, rfl, ?_, rfl, by simp [PyData.depth], ?_⟩
  all_goals
    simp only [pool, List.mem_cons, List.not_mem_nil, or_false] at hh
    rcases hh with rfl | rfl | rfl | rfl | rfl | rfl | rfl | rfl <;> decide +kernel
theorem heads_of {hs ps : List Str} (hp : (hs ++ ps).Perm pool) (h0 : hs ≠ []) (h6 : hs.length ≤ 6) : Heads hs := by
  have hm : ∀ h ∈ hs, h ∈ pool := fun h hh => hp.mem_iff.mp (by simp [hh])
  refine ⟨h0, h6, fun h hh => pool_nm h (hm h hh), fun h hh => pool_ok h (hm h hh), ?_, ?_⟩
  · have := hp.nodup_iff.mpr pool_nd
    exact (List.nodup_append.mp this).1
  · exact fun h hh => pool_rb h (hm h hh)
theorem pair_draw {S : Sto} {i mo : Nat} (h : Jg S i) (m1 : 1 ≤ mo) (m6 : mo ≤ 6) : (F_pair_l [.ref i, .int (mo : Int)] S).sat fun v S' => (∃ hs ws, v = .lst [.tup (hs.map .str), .tup (ws.map wayD)] ∧ Heads hs ∧ (∀ w ∈ ws, WayOk hs.length w) ∧ ws ≠ [] ∧ ws.length ≤ 4) ∧ Lk S S' i := by
  unfold F_pair_l
  refine scop_ok h.lt ?_
  rw [f_run]
  show (s_pair_l [some (.ref i), some (.int (mo : Int)), none, none, none, none] S).sat _ _
  unfold s_pair_l
  simp only [p_seq, p_asgN, q_op, q_c, q_call, q_cons, q_nil, q_var, sl_0, sl_s, os_some, List.length_cons, List.length_nil, true_and]
  refine (sip_ok h (by omega) (by omega)).mono ?_
  rintro v S1 ⟨n0, rfl, hn, l1⟩
  simp only [fAdd, os_some, List.set_cons_zero, List.set_cons_succ, q_lstC, q_cons, q_nil, q_c, List.length_cons, List.length_nil, p_for, q_itA, q_var, sl_0, sl_s]
  refine ⟨by decide, by decide, ?_⟩
  have en : (1 : Int) + (n0 : Int) = ((n0 + 1 : Nat) : Int) := by omega
  rw [en]
  have h6 : n0 + 1 ≤ 6 := by omega
  have h1 : 1 ≤ n0 + 1 := by omega
  generalize n0 + 1 = n at h6 h1
  have r1 := rg1_len n (S1 ++ [Ob.lst (pool.map .str)] ++ [.lst []]) (by omega)
  have li := h.lt
  have x0 : Ex S (S1 ++ [Ob.lst (pool.map .str)] ++ [.lst []]) i := (l1.toEx.add (bel_lst (nr_map nr_str))).add (bel_lst (by simp))
  have ga : (S1 ++ [Ob.lst (pool.map .str)] ++ [.lst []])[S1.length]? = some (.lst (pool.map .str)) := by simp
  have gb : (S1 ++ [Ob.lst (pool.map .str)] ++ [.lst []])[(S1 ++ [Ob.lst (pool.map .str)]).length]? = some (.lst (([] : List Str).map .str)) := by simp
  have ha : S.length ≤ S1.length := by rw [l1.same]; exact Nat.le_refl _
  have hb : (S1 ++ [Ob.lst (pool.map .str)]).length = S1.length + 1 := by simp
  have ep : ([.str "ann", .str "bob", .str "cyd", .str "d2", .str "e", .str "z9999999", .str "abe", .str "x"] : List D) = pool.map .str := rfl
  simp only [ep]
  rw [r1, os_some]
  generalize S1 ++ [Ob.lst (pool.map .str)] ++ [.lst []] = T0 at x0 ga gb
  generalize (S1 ++ [Ob.lst (pool.map .str)]).length = b at gb hb
  generalize S1.length = a at ga ha hb
  subst hb
  refine for_inv (li_rg _ _) (fun k en S' => ∃ x hs ps, en = [some (.ref i), some (.int (mo : Int)), some (.int (n : Int)), some (.ref a), some (.ref (a + 1)), x] ∧ Ex S S' i ∧ S'[a]? = some (.lst (ps.map .str)) ∧ S'[a + 1]? = some (.lst (hs.map .str)) ∧ (hs ++ ps).Perm pool ∧ hs.length = k) ?_ ?_ ⟨none, [], pool, rfl, x0, ga, gb, by simp, rfl⟩
  · rintro k d en S' hd ⟨x, hs, ps, rfl, e1, g1, g2, hp, hk⟩
    have hkn : k < n := by
      have := (List.getElem?_eq_some_iff.mp hd).1
      simpa using this
    have hl : hs.length + ps.length = 8 := by
      have := hp.length_eq
      simpa [pool] using this
    simp only [g_nm, List.set_cons_zero, List.set_cons_succ, p_expr, q_bm, q_var, sl_0, sl_s, os_some, ok_ref g2, ok_ref g1, q_cons, q_nil, q_call, q_cb, f1, len_ref g1, List.length_map, List.length_cons, List.length_nil, true_and]
    refine (sip_ok e1.jg (by omega) (by omega)).mono ?_
    rintro v S2 ⟨d, rfl, hd2, l2⟩
    have hd3 : d < ps.length := by omega
    have lt1 := (List.getElem?_eq_some_iff.mp g1).1
    have lt2 := (List.getElem?_eq_some_iff.mp g2).1
    have k1 : S2[a]? = some (.lst (ps.map .str)) := by rw [l2.oth a lt1 (by omega)]; exact g1
    have k2 : S2[a + 1]? = some (.lst (hs.map .str)) := by rw [l2.oth (a + 1) lt2 (by omega)]; exact g2
    have hx : (ps.map D.str)[d]? = some (.str ps[d]) := by rw [List.getElem?_map, List.getElem?_eq_getElem hd3]; rfl
    rw [pop_ref k1 hx]
    have k3 : (S2.set a (.lst ((ps.map D.str).eraseIdx d)))[a + 1]? = some (.lst (hs.map .str)) := by rw [List.getElem?_set_ne (by omega)]; exact k2
    have k4 : ∀ o, ((S2.set a (.lst ((ps.map D.str).eraseIdx d))).set (a + 1) o)[a]? = some (.lst ((ps.map D.str).eraseIdx d)) := fun o => by rw [List.getElem?_set_ne (by omega)]; exact set_get k1
    simp only [os_some, app_ref k3 (show (hs.map D.str).length < lineN by rw [List.length_map]; unfold lineN; omega)]
    refine ⟨_, hs ++ [ps[d]], ps.eraseIdx d, rfl, ?_, ?_, ?_, ?_, by simp [hk]⟩
    · refine ((e1.trans l2.toEx).put ha li (bel_lst ?_)).put (by omega) li (bel_lst ?_)
      · rw [erase_map]; exact nr_map nr_str
      · rw [show hs.map D.str ++ [.str ps[d]] = (hs ++ [ps[d]]).map .str by simp]; exact nr_map nr_str
    · rw [k4, erase_map]
    · rw [set_get k3]; simp
    · refine .trans ?_ hp
      rw [List.append_assoc]
      exact List.Perm.append_left hs (erase_perm hd3)
  · rintro en S' ⟨x, hs, ps, rfl, e1, g1, g2, hp, hk⟩
    rw [range_len] at hk
    have hH : Heads hs := heads_of hp (fun z => by rw [z] at hk; simp at hk; omega) (by omega)
    have t1 := tup_ref g2
    simp only [p_ret, q_lst, q_cons, q_nil, q_cb, q_var, sl_0, sl_s, os_some, t1, q_lc, q_itA, q_op, q_c, q_call, List.length_cons, List.length_nil, true_and]
    refine (sip_ok e1.jg (by decide) (by decide)).mono ?_
    rintro v S2 ⟨m, rfl, hm, l2⟩
    have em : (1 : Int) + (m : Int) = ((m + 1 : Nat) : Int) := by omega
    simp only [fAdd, os_some]
    rw [em, rg1_len (m + 1) S2 (by omega), os_some]
    refine lc_inv (li_rg _ _) (fun k acc S3 => Lk S' S3 i ∧ ∃ ws, acc = ws.map wayD ∧ ws.length = k ∧ ∀ w ∈ ws, WayOk n w) ?_ ?_ ⟨l2, [], rfl, rfl, by simp⟩
    · rintro k d acc S3 hd ⟨l3, ws, rfl, hr, hb⟩
      have hk : k < m + 1 := by
        have := (List.getElem?_eq_some_iff.mp hd).1
        simpa using this
      simp only [wipeE, List.set_cons_zero, List.set_cons_succ, g_nm, mYes, r_ok, if_true, q_cons, q_nil, q_call, q_var, sl_0, sl_s, os_some, List.length_cons, List.length_nil, true_and]
      refine (talk_draw l3.jg h1 h6).mono ?_
      rintro v S4 ⟨⟨w, rfl, hw⟩, l4⟩
      refine ⟨by rw [List.length_map, hr]; unfold lineN; omega, l3.trans l4, ws ++ [w], by simp, by simp [hr], fun x hx => ?_⟩
      rcases List.mem_append.mp hx with hx | hx
      · exact hb x hx
      · have : x = w := by simpa using hx
        subst this; exact hw
    · rintro acc S3 ⟨l3, ws, rfl, hr, hb⟩
      rw [range_len] at hr
      have t2 := tup_lst (ws.map wayD) S3
      simp only [t2, os_some]
      refine ⟨by decide, ⟨hs, ws, rfl, hH, by rw [hk]; exact hb, fun z => by rw [z] at hr; simp at hr, by omega⟩, ?_, e1.trans l3.toEx⟩
      refine nr_lst fun d hd => ?_
      simp only [List.mem_cons, List.not_mem_nil, or_false] at hd
      rcases hd with rfl | rfl
      · exact nr_tup (nr_map nr_str)
      · exact nr_tup (nr_map nr_way)

theorem pair_drawP {S : Sto} {i mo : Nat} (h : Jg S i) (m1 : 1 ≤ mo) (m6 : mo ≤ 6) : (F_pair_l [.ref i, .int (mo : Int)] S).sat fun v S' => (∃ hs ws, v = .lst [.tup (hs.map .str), .tup (ws.map wayD)] ∧ Heads hs ∧ (∀ h ∈ hs, h ∈ pool) ∧ hs.length ≤ mo ∧ (∀ w ∈ ws, WayOk hs.length w) ∧ ws ≠ [] ∧ ws.length ≤ 4) ∧ Lk S S' i := by
  unfold F_pair_l
  refine scop_ok h.lt ?_
  rw [f_run]
  show (s_pair_l [some (.ref i), some (.int (mo : Int)), none, none, none, none] S).sat _ _
  unfold s_pair_l
  simp only [p_seq, p_asgN, q_op, q_c, q_call, q_cons, q_nil, q_var, sl_0, sl_s, os_some, List.length_cons, List.length_nil, true_and]
  refine (sip_ok h (by omega) (by omega)).mono ?_
  rintro v S1 ⟨n0, rfl, hn, l1⟩
  simp only [fAdd, os_some, List.set_cons_zero, List.set_cons_succ, q_lstC, q_cons, q_nil, q_c, List.length_cons, List.length_nil, p_for, q_itA, q_var, sl_0, sl_s]
  refine ⟨by decide, by decide, ?_⟩
  have en : (1 : Int) + (n0 : Int) = ((n0 + 1 : Nat) : Int) := by omega
  rw [en]
  have h6 : n0 + 1 ≤ 6 := by omega
  have hmo : n0 + 1 ≤ mo := by omega
  have h1 : 1 ≤ n0 + 1 := by omega
  generalize n0 + 1 = n at h6 h1 hmo
  have r1 := rg1_len n (S1 ++ [Ob.lst (pool.map .str)] ++ [.lst []]) (by omega)
  have li := h.lt
  have x0 : Ex S (S1 ++ [Ob.lst (pool.map .str)] ++ [.lst []]) i := (l1.toEx.add (bel_lst (nr_map nr_str))).add (bel_lst (by simp))
  have ga : (S1 ++ [Ob.lst (pool.map .str)] ++ [.lst []])[S1.length]? = some (.lst (pool.map .str)) := by simp
  have gb : (S1 ++ [Ob.lst (pool.map .str)] ++ [.lst []])[(S1 ++ [Ob.lst (pool.map .str)]).length]? = some (.lst (([] : List Str).map .str)) := by simp
  have ha : S.length ≤ S1.length := by rw [l1.same]; exact Nat.le_refl _
  have hb : (S1 ++ [Ob.lst (pool.map .str)]).length = S1.length + 1 := by simp
  have ep : ([.str "ann", .str "bob", .str "cyd", .str "d2", .str "e", .str "z9999999", .str "abe", .str "x"] : List D) = pool.map .str := rfl
  simp only [ep]
  rw [r1, os_some]
  generalize S1 ++ [Ob.lst (pool.map .str)] ++ [.lst []] = T0 at x0 ga gb
  generalize (S1 ++ [Ob.lst (pool.map .str)]).length = b at gb hb
  generalize S1.length = a at ga ha hb
  subst hb
  refine for_inv (li_rg _ _) (fun k en S' => ∃ x hs ps, en = [some (.ref i), some (.int (mo : Int)), some (.int (n : Int)), some (.ref a), some (.ref (a + 1)), x] ∧ Ex S S' i ∧ S'[a]? = some (.lst (ps.map .str)) ∧ S'[a + 1]? = some (.lst (hs.map .str)) ∧ (hs ++ ps).Perm pool ∧ hs.length = k) ?_ ?_ ⟨none, [], pool, rfl, x0, ga, gb, by simp, rfl⟩
  · rintro k d en S' hd ⟨x, hs, ps, rfl, e1, g1, g2, hp, hk⟩
    have hkn : k < n := by
      have := (List.getElem?_eq_some_iff.mp hd).1
      simpa using this
    have hl : hs.length + ps.length = 8 := by
      have := hp.length_eq
      simpa [pool] using this
    simp only [g_nm, List.set_cons_zero, List.set_cons_succ, p_expr, q_bm, q_var, sl_0, sl_s, os_some, ok_ref g2, ok_ref g1, q_cons, q_nil, q_call, q_cb, f1, len_ref g1, List.length_map, List.length_cons, List.length_nil, true_and]
    refine (sip_ok e1.jg (by omega) (by omega)).mono ?_
    rintro v S2 ⟨d, rfl, hd2, l2⟩
    have hd3 : d < ps.length := by omega
    have lt1 := (List.getElem?_eq_some_iff.mp g1).1
    have lt2 := (List.getElem?_eq_some_iff.mp g2).1
    have k1 : S2[a]? = some (.lst (ps.map .str)) := by rw [l2.oth a lt1 (by omega)]; exact g1
    have k2 : S2[a + 1]? = some (.lst (hs.map .str)) := by rw [l2.oth (a + 1) lt2 (by omega)]; exact g2
    have hx : (ps.map D.str)[d]? = some (.str ps[d]) := by rw [List.getElem?_map, List.getElem?_eq_getElem hd3]; rfl
    rw [pop_ref k1 hx]
    have k3 : (S2.set a (.lst ((ps.map D.str).eraseIdx d)))[a + 1]? = some (.lst (hs.map .str)) := by rw [List.getElem?_set_ne (by omega)]; exact k2
    have k4 : ∀ o, ((S2.set a (.lst ((ps.map D.str).eraseIdx d))).set (a + 1) o)[a]? = some (.lst ((ps.map D.str).eraseIdx d)) := fun o => by rw [List.getElem?_set_ne (by omega)]; exact set_get k1
    simp only [os_some, app_ref k3 (show (hs.map D.str).length < lineN by rw [List.length_map]; unfold lineN; omega)]
    refine ⟨_, hs ++ [ps[d]], ps.eraseIdx d, rfl, ?_, ?_, ?_, ?_, by simp [hk]⟩
    · refine ((e1.trans l2.toEx).put ha li (bel_lst ?_)).put (by omega) li (bel_lst ?_)
      · rw [erase_map]; exact nr_map nr_str
      · rw [show hs.map D.str ++ [.str ps[d]] = (hs ++ [ps[d]]).map .str by simp]; exact nr_map nr_str
    · rw [k4, erase_map]
    · rw [set_get k3]; simp
    · refine .trans ?_ hp
      rw [List.append_assoc]
      exact List.Perm.append_left hs (erase_perm hd3)
  · rintro en S' ⟨x, hs, ps, rfl, e1, g1, g2, hp, hk⟩
    rw [range_len] at hk
    have hH : Heads hs := heads_of hp (fun z => by rw [z] at hk; simp at hk; omega) (by omega)
    have t1 := tup_ref g2
    simp only [p_ret, q_lst, q_cons, q_nil, q_cb, q_var, sl_0, sl_s, os_some, t1, q_lc, q_itA, q_op, q_c, q_call, List.length_cons, List.length_nil, true_and]
    refine (sip_ok e1.jg (by decide) (by decide)).mono ?_
    rintro v S2 ⟨m, rfl, hm, l2⟩
    have em : (1 : Int) + (m : Int) = ((m + 1 : Nat) : Int) := by omega
    simp only [fAdd, os_some]
    rw [em, rg1_len (m + 1) S2 (by omega), os_some]
    refine lc_inv (li_rg _ _) (fun k acc S3 => Lk S' S3 i ∧ ∃ ws, acc = ws.map wayD ∧ ws.length = k ∧ ∀ w ∈ ws, WayOk n w) ?_ ?_ ⟨l2, [], rfl, rfl, by simp⟩
    · rintro k d acc S3 hd ⟨l3, ws, rfl, hr, hb⟩
      have hk : k < m + 1 := by
        have := (List.getElem?_eq_some_iff.mp hd).1
        simpa using this
      simp only [wipeE, List.set_cons_zero, List.set_cons_succ, g_nm, mYes, r_ok, if_true, q_cons, q_nil, q_call, q_var, sl_0, sl_s, os_some, List.length_cons, List.length_nil, true_and]
      refine (talk_draw l3.jg h1 h6).mono ?_
      rintro v S4 ⟨⟨w, rfl, hw⟩, l4⟩
      refine ⟨by rw [List.length_map, hr]; unfold lineN; omega, l3.trans l4, ws ++ [w], by simp, by simp [hr], fun x hx => ?_⟩
      rcases List.mem_append.mp hx with hx | hx
      · exact hb x hx
      · have : x = w := by simpa using hx
        subst this; exact hw
    · rintro acc S3 ⟨l3, ws, rfl, hr, hb⟩
      rw [range_len] at hr
      have t2 := tup_lst (ws.map wayD) S3
      simp only [t2, os_some]
      refine ⟨by decide, ⟨hs, ws, rfl, hH, fun h hh => hp.mem_iff.mp (by simp [hh]), by omega, by rw [hk]; exact hb, fun z => by rw [z] at hr; simp at hr, by omega⟩, ?_, e1.trans l3.toEx⟩
      refine nr_lst fun d hd => ?_
      simp only [List.mem_cons, List.not_mem_nil, or_false] at hd
      rcases hd with rfl | rfl
      · exact nr_tup (nr_map nr_str)
      · exact nr_tup (nr_map nr_way)


end Ag.k02

namespace Ag.k02
open PySem

/-! texts of councils -/
theorem str_num {i : Int} (h : 0 ≤ i) (h9 : i ≤ 1000000000) (S : Sto) : gStr (.int i) S = some (.str (numS i)) := by
  have : i.natAbs.log2 < 1920 := by
    have := log2_lt (n := i.natAbs) (k := 40) (by have e : (2 : Nat) ^ 40 = 1099511627776 := by decide
                                                  omega) (by decide)
    omega
  simp only [gStr, this, if_true]
  rfl
theorem join_lst {a : Str} {ys : List Str} {B : Nat} (h : ∀ y ∈ ys, y.length ≤ B) (hb : ys.length * B + ys.length * a.length ≤ 16777216) (S : Sto) : fJoin (.str a) [.lst (ys.map .str)] S = some (.str (Txt.join a ys), S) := by
  have e : (match (D.lst (ys.map .str)) with | .tup l => some l | d => rdOf d S) = some (ys.map .str) := rfl
  have s1 := sum_len h
  simp only [fJoin, e, isStrs_map, Option.bind_some]
  rw [if_pos (by unfold lineN; omega)]
theorem join_tup {a : Str} {ys : List Str} {B : Nat} (h : ∀ y ∈ ys, y.length ≤ B) (hb : ys.length * B + ys.length * a.length ≤ 16777216) (S : Sto) : fJoin (.str a) [.tup (ys.map .str)] S = some (.str (Txt.join a ys), S) := by
  have e : (match (D.tup (ys.map .str)) with | .tup l => some l | d => rdOf d S) = some (ys.map .str) := rfl
  have s1 := sum_len h
  simp only [fJoin, e, isStrs_map, Option.bind_some]
  rw [if_pos (by unfold lineN; omega)]
theorem split_txt {a b : Str} {ys : List Str} (e : Txt.split a b = ys) (hb : b.length = 1) (ha : a.length ≤ 1000000) (S : Sto) : fSplit (.str a) [.str b] S = some (.lst (ys.map .str), S) := by
  simp only [fSplit]
  rw [if_pos ⟨by omega, by unfold lineN; omega⟩, e]
theorem l_sp : (Str.length " " : Nat) = 1 := by decide +kernel
theorem l_cm : (Str.length "," : Nat) = 1 := by decide +kernel
theorem l_nl : (Str.length "\n" : Nat) = 1 := by decide +kernel
theorem way_text_ok {n : Nat} {w : List (List Int)} (hw : WayOk n w) (hn : n ≤ 6) (S : Sto) : F_way_text [wayD w] S = .ok (.str (wayS w)) S := by
  unfold F_way_text
  apply sat_eq
  simp only [f_run, List.map_cons, List.map_nil, List.length_cons, List.length_nil, Nat.zero_add, Nat.reduceAdd, Nat.reduceSub, List.replicate_succ, List.replicate_zero, List.cons_append, List.nil_append]
  unfold s_way_text
  have wl := hw.len
  try simp only [p_seqL, p_par, p_par3, p_asgN, p_asg, p_expr, p_ret, p_nil, p_pass, p_if, p_for, p_try, q_cons, q_nil, q_cb, q_cr, q_call, q_callK, q_prop, q_make, q_bm, q_var, q_c, q_op, q_un, q_b, q_andB, q_orB, q_notB, q_andV, q_orV, q_notV, q_if, q_chain, q_tup, q_lst, q_lstC, q_lc, q_lcC, q_lc2, q_itV, q_itA, q_sl, q_oN, q_oS, sl_0, sl_s, os_some, os_if, f_1, ex_pair, ex_trip, g_unpS, gs_consS, gs_nilS, g_nm, g_subS, sq_tup, sq_lst, List.set_cons_zero, List.set_cons_succ, List.length_cons, List.length_nil, List.length_map, true_and, and_true, b_bl, Bool.not_true, Bool.not_false, Bool.false_eq_true, if_false, if_true, r_ok, i_int, sl_tup, sl_lst, it_tup, it_lst, it_scr, it_word, it_row, it_way, w_0, w_s, decide_true, decide_false, n_tup, n_lst, n_scr, n_word, n_row, n_way, eq_int, ne_int, c_int, en_tup, en_lst, zp_tup, zp_lst, zp_mix, m_yes, t_lst, t_tup, bind_s, a_int, s_int, g_ii, g_ib, is_non, isnt_non, rv_tup, rv_lst, not_true_eq_false, ne_eq, Nat.zero_le]
  rw [later_eq]
  try simp only [p_seqL, p_par, p_par3, p_asgN, p_asg, p_expr, p_ret, p_nil, p_pass, p_if, p_for, p_try, q_cons, q_nil, q_cb, q_cr, q_call, q_callK, q_prop, q_make, q_bm, q_var, q_c, q_op, q_un, q_b, q_andB, q_orB, q_notB, q_andV, q_orV, q_notV, q_if, q_chain, q_tup, q_lst, q_lstC, q_lc, q_lcC, q_lc2, q_itV, q_itA, q_sl, q_oN, q_oS, sl_0, sl_s, os_some, os_if, f_1, ex_pair, ex_trip, g_unpS, gs_consS, gs_nilS, g_nm, g_subS, sq_tup, sq_lst, List.set_cons_zero, List.set_cons_succ, List.length_cons, List.length_nil, List.length_map, true_and, and_true, b_bl, Bool.not_true, Bool.not_false, Bool.false_eq_true, if_false, if_true, r_ok, i_int, sl_tup, sl_lst, it_tup, it_lst, it_scr, it_word, it_row, it_way, w_0, w_s, decide_true, decide_false, n_tup, n_lst, n_scr, n_word, n_row, n_way, eq_int, ne_int, c_int, en_tup, en_lst, zp_tup, zp_lst, zp_mix, m_yes, t_lst, t_tup, bind_s, a_int, s_int, g_ii, g_ib, is_non, isnt_non, rv_tup, rv_lst, not_true_eq_false, ne_eq, Nat.zero_le]
  refine for_T (xs := w) (e := rowD) (li_ls _) (fun k en S' => ∃ x y, en = [some (wayD w), some (.lst (((w.take k).map rowS).map .str)), x, y] ∧ S' = S) ⟨none, none, rfl, rfl⟩ ?_ ?_
  · rintro k r en S' hk hm ⟨x, y, rfl, rfl⟩
    have ro := hw.row r hm
    have rl := ro.len
    have kl : k < w.length := (List.getElem?_eq_some_iff.mp hk).1
    try simp only [p_seqL, p_par, p_par3, p_asgN, p_asg, p_expr, p_ret, p_nil, p_pass, p_if, p_for, p_try, q_cons, q_nil, q_cb, q_cr, q_call, q_callK, q_prop, q_make, q_bm, q_var, q_c, q_op, q_un, q_b, q_andB, q_orB, q_notB, q_andV, q_orV, q_notV, q_if, q_chain, q_tup, q_lst, q_lstC, q_lc, q_lcC, q_lc2, q_itV, q_itA, q_sl, q_oN, q_oS, sl_0, sl_s, os_some, os_if, f_1, ex_pair, ex_trip, g_unpS, gs_consS, gs_nilS, g_nm, g_subS, sq_tup, sq_lst, List.set_cons_zero, List.set_cons_succ, List.length_cons, List.length_nil, List.length_map, true_and, and_true, b_bl, Bool.not_true, Bool.not_false, Bool.false_eq_true, if_false, if_true, r_ok, i_int, sl_tup, sl_lst, it_tup, it_lst, it_scr, it_word, it_row, it_way, w_0, w_s, decide_true, decide_false, n_tup, n_lst, n_scr, n_word, n_row, n_way, eq_int, ne_int, c_int, en_tup, en_lst, zp_tup, zp_lst, zp_mix, m_yes, t_lst, t_tup, bind_s, a_int, s_int, g_ii, g_ib, is_non, isnt_non, rv_tup, rv_lst, not_true_eq_false, ne_eq, Nat.zero_le, okStr]
    refine lc_mapT (xs := r) (e := .int) (g := fun i => .str (numS i)) (li_ls _) (len_line (by omega)) (fun i hi => ?_) ?_
    · try simp only [p_seqL, p_par, p_par3, p_asgN, p_asg, p_expr, p_ret, p_nil, p_pass, p_if, p_for, p_try, q_cons, q_nil, q_cb, q_cr, q_call, q_callK, q_prop, q_make, q_bm, q_var, q_c, q_op, q_un, q_b, q_andB, q_orB, q_notB, q_andV, q_orV, q_notV, q_if, q_chain, q_tup, q_lst, q_lstC, q_lc, q_lcC, q_lc2, q_itV, q_itA, q_sl, q_oN, q_oS, sl_0, sl_s, os_some, os_if, f_1, ex_pair, ex_trip, g_unpS, gs_consS, gs_nilS, g_nm, g_subS, sq_tup, sq_lst, List.set_cons_zero, List.set_cons_succ, List.length_cons, List.length_nil, List.length_map, true_and, and_true, b_bl, Bool.not_true, Bool.not_false, Bool.false_eq_true, if_false, if_true, r_ok, i_int, sl_tup, sl_lst, it_tup, it_lst, it_scr, it_word, it_row, it_way, w_0, w_s, decide_true, decide_false, n_tup, n_lst, n_scr, n_word, n_row, n_way, eq_int, ne_int, c_int, en_tup, en_lst, zp_tup, zp_lst, zp_mix, m_yes, t_lst, t_tup, bind_s, a_int, s_int, g_ii, g_ib, is_non, isnt_non, rv_tup, rv_lst, not_true_eq_false, ne_eq, Nat.zero_le, str_num (ro.in_ i hi).1 (ro.in_ i hi).2]
    have e1 : (r.map fun i => D.str (numS i)) = (r.map numS).map .str := by simp [List.map_map, Function.comp_def]
    have j1 := join_lst (a := ",") (ys := r.map numS) (B := 10) (fun y hy => by
      obtain ⟨i, hi, rfl⟩ := List.mem_map.mp hy
      exact num_len (ro.in_ i hi).1 (ro.in_ i hi).2) (by rw [l_cm, List.length_map]; omega) S'
    rw [e1]
    try simp only [p_seqL, p_par, p_par3, p_asgN, p_asg, p_expr, p_ret, p_nil, p_pass, p_if, p_for, p_try, q_cons, q_nil, q_cb, q_cr, q_call, q_callK, q_prop, q_make, q_bm, q_var, q_c, q_op, q_un, q_b, q_andB, q_orB, q_notB, q_andV, q_orV, q_notV, q_if, q_chain, q_tup, q_lst, q_lstC, q_lc, q_lcC, q_lc2, q_itV, q_itA, q_sl, q_oN, q_oS, sl_0, sl_s, os_some, os_if, f_1, ex_pair, ex_trip, g_unpS, gs_consS, gs_nilS, g_nm, g_subS, sq_tup, sq_lst, List.set_cons_zero, List.set_cons_succ, List.length_cons, List.length_nil, List.length_map, true_and, and_true, b_bl, Bool.not_true, Bool.not_false, Bool.false_eq_true, if_false, if_true, r_ok, i_int, sl_tup, sl_lst, it_tup, it_lst, it_scr, it_word, it_row, it_way, w_0, w_s, decide_true, decide_false, n_tup, n_lst, n_scr, n_word, n_row, n_way, eq_int, ne_int, c_int, en_tup, en_lst, zp_tup, zp_lst, zp_mix, m_yes, t_lst, t_tup, bind_s, a_int, s_int, g_ii, g_ib, is_non, isnt_non, rv_tup, rv_lst, not_true_eq_false, ne_eq, Nat.zero_le, j1]
    have ad : fAdd (.lst (((w.take k).map rowS).map .str)) (.lst [.str (Txt.join "," (r.map numS))]) S' = some (.lst (((w.take (k + 1)).map rowS).map .str)) := by
      show (if (((w.take k).map rowS).map D.str).length + 1 ≤ lineN then some (D.lst (((w.take k).map rowS).map D.str ++ [.str (Txt.join "," (r.map numS))])) else none) = _
      rw [if_pos (by simp; unfold lineN; omega), List.take_add_one, hk]
      simp [rowS]
    rw [ad, os_some]
    exact ⟨by decide, _, _, rfl⟩
  · rintro en S' ⟨x, y, rfl, rfl⟩
    rw [List.take_length]
    have j1 := join_lst (a := " ") (ys := w.map rowS) (B := 66) (fun y hy => by
      obtain ⟨i, hi, rfl⟩ := List.mem_map.mp hy
      exact row_slen (hw.row i hi) hn) (by rw [l_sp, List.length_map]; omega) S'
    rw [later_eq]
    try simp only [p_seqL, p_par, p_par3, p_asgN, p_asg, p_expr, p_ret, p_nil, p_pass, p_if, p_for, p_try, q_cons, q_nil, q_cb, q_cr, q_call, q_callK, q_prop, q_make, q_bm, q_var, q_c, q_op, q_un, q_b, q_andB, q_orB, q_notB, q_andV, q_orV, q_notV, q_if, q_chain, q_tup, q_lst, q_lstC, q_lc, q_lcC, q_lc2, q_itV, q_itA, q_sl, q_oN, q_oS, sl_0, sl_s, os_some, os_if, f_1, ex_pair, ex_trip, g_unpS, gs_consS, gs_nilS, g_nm, g_subS, sq_tup, sq_lst, List.set_cons_zero, List.set_cons_succ, List.length_cons, List.length_nil, List.length_map, true_and, and_true, b_bl, Bool.not_true, Bool.not_false, Bool.false_eq_true, if_false, if_true, r_ok, i_int, sl_tup, sl_lst, it_tup, it_lst, it_scr, it_word, it_row, it_way, w_0, w_s, decide_true, decide_false, n_tup, n_lst, n_scr, n_word, n_row, n_way, eq_int, ne_int, c_int, en_tup, en_lst, zp_tup, zp_lst, zp_mix, m_yes, t_lst, t_tup, bind_s, a_int, s_int, g_ii, g_ib, is_non, isnt_non, rv_tup, rv_lst, not_true_eq_false, ne_eq, Nat.zero_le, okStr, j1]
    rfl
theorem lines_ok {n : Nat} {hs : List Str} {ws : List (List (List Int))} (H : Wd hs) (hw : ∀ w ∈ ws, WayOk n w) (hn : n ≤ 6) (h6 : ws.length ≤ 6) (S : Sto) : F_lines_of [.tup (hs.map .str), .tup (ws.map wayD)] S = .ok (.lst ((pageL hs ws).map .str)) S := by
  unfold F_lines_of
  apply sat_eq
  simp only [f_run, List.map_cons, List.map_nil, List.length_cons, List.length_nil, Nat.zero_add, Nat.reduceAdd, Nat.reduceSub, List.replicate_succ, List.replicate_zero, List.cons_append, List.nil_append]
  unfold s_lines_of
  have j1 := join_tup (a := " ") (ys := hs) (B := 8) H.len (by have := H.six; rw [l_sp]; omega) S
  try simp only [p_seqL, p_par, p_par3, p_asgN, p_asg, p_expr, p_ret, p_nil, p_pass, p_if, p_for, p_try, q_cons, q_nil, q_cb, q_cr, q_call, q_callK, q_prop, q_make, q_bm, q_var, q_c, q_op, q_un, q_b, q_andB, q_orB, q_notB, q_andV, q_orV, q_notV, q_if, q_chain, q_tup, q_lst, q_lstC, q_lc, q_lcC, q_lc2, q_itV, q_itA, q_sl, q_oN, q_oS, sl_0, sl_s, os_some, os_if, f_1, ex_pair, ex_trip, g_unpS, gs_consS, gs_nilS, g_nm, g_subS, sq_tup, sq_lst, List.set_cons_zero, List.set_cons_succ, List.length_cons, List.length_nil, List.length_map, true_and, and_true, b_bl, Bool.not_true, Bool.not_false, Bool.false_eq_true, if_false, if_true, r_ok, i_int, sl_tup, sl_lst, it_tup, it_lst, it_scr, it_word, it_row, it_way, w_0, w_s, decide_true, decide_false, n_tup, n_lst, n_scr, n_word, n_row, n_way, eq_int, ne_int, c_int, en_tup, en_lst, zp_tup, zp_lst, zp_mix, m_yes, t_lst, t_tup, bind_s, a_int, s_int, g_ii, g_ib, is_non, isnt_non, rv_tup, rv_lst, not_true_eq_false, ne_eq, Nat.zero_le, okStr, j1]
  refine ⟨by decide, ?_⟩
  refine lc_mapT (xs := ws) (e := wayD) (g := fun w => .str (wayS w)) (li_ls _) (len_line (by omega)) (fun w hm => ?_) ?_
  · try simp only [p_seqL, p_par, p_par3, p_asgN, p_asg, p_expr, p_ret, p_nil, p_pass, p_if, p_for, p_try, q_cons, q_nil, q_cb, q_cr, q_call, q_callK, q_prop, q_make, q_bm, q_var, q_c, q_op, q_un, q_b, q_andB, q_orB, q_notB, q_andV, q_orV, q_notV, q_if, q_chain, q_tup, q_lst, q_lstC, q_lc, q_lcC, q_lc2, q_itV, q_itA, q_sl, q_oN, q_oS, sl_0, sl_s, os_some, os_if, f_1, ex_pair, ex_trip, g_unpS, gs_consS, gs_nilS, g_nm, g_subS, sq_tup, sq_lst, List.set_cons_zero, List.set_cons_succ, List.length_cons, List.length_nil, List.length_map, true_and, and_true, b_bl, Bool.not_true, Bool.not_false, Bool.false_eq_true, if_false, if_true, r_ok, i_int, sl_tup, sl_lst, it_tup, it_lst, it_scr, it_word, it_row, it_way, w_0, w_s, decide_true, decide_false, n_tup, n_lst, n_scr, n_word, n_row, n_way, eq_int, ne_int, c_int, en_tup, en_lst, zp_tup, zp_lst, zp_mix, m_yes, t_lst, t_tup, bind_s, a_int, s_int, g_ii, g_ib, is_non, isnt_non, rv_tup, rv_lst, not_true_eq_false, ne_eq, Nat.zero_le, way_text_ok (hw w hm) hn]
  try simp only [p_seqL, p_par, p_par3, p_asgN, p_asg, p_expr, p_ret, p_nil, p_pass, p_if, p_for, p_try, q_cons, q_nil, q_cb, q_cr, q_call, q_callK, q_prop, q_make, q_bm, q_var, q_c, q_op, q_un, q_b, q_andB, q_orB, q_notB, q_andV, q_orV, q_notV, q_if, q_chain, q_tup, q_lst, q_lstC, q_lc, q_lcC, q_lc2, q_itV, q_itA, q_sl, q_oN, q_oS, sl_0, sl_s, os_some, os_if, f_1, ex_pair, ex_trip, g_unpS, gs_consS, gs_nilS, g_nm, g_subS, sq_tup, sq_lst, List.set_cons_zero, List.set_cons_succ, List.length_cons, List.length_nil, List.length_map, true_and, and_true, b_bl, Bool.not_true, Bool.not_false, Bool.false_eq_true, if_false, if_true, r_ok, i_int, sl_tup, sl_lst, it_tup, it_lst, it_scr, it_word, it_row, it_way, w_0, w_s, decide_true, decide_false, n_tup, n_lst, n_scr, n_word, n_row, n_way, eq_int, ne_int, c_int, en_tup, en_lst, zp_tup, zp_lst, zp_mix, m_yes, t_lst, t_tup, bind_s, a_int, s_int, g_ii, g_ib, is_non, isnt_non, rv_tup, rv_lst, not_true_eq_false, ne_eq, Nat.zero_le]
  have ad : fAdd (.lst [.str (Txt.join " " hs)]) (.lst (ws.map fun w => .str (wayS w))) S = some (.lst ((pageL hs ws).map .str)) := by
    show (if 1 + (ws.map fun w => D.str (wayS w)).length ≤ lineN then some (D.lst ([.str (Txt.join " " hs)] ++ ws.map fun w => .str (wayS w))) else none) = _
    rw [if_pos (by simp; unfold lineN; omega)]
    simp [pageL]
  rw [ad, os_some]
  try exact ⟨rfl, rfl⟩
theorem page_join {n : Nat} {hs : List Str} {ws : List (List (List Int))} (H : Wd hs) (hw : ∀ w ∈ ws, WayOk n w) (hn : n ≤ 6) (h6 : ws.length ≤ 6) (S : Sto) : fJoin (.str "\n") [.lst ((pageL hs ws).map .str)] S = some (.str (pageS hs ws), S) := by
  refine join_lst (B := 402) (fun y hy => ?_) (by rw [l_nl]; simp [pageL]; omega) S
  rcases List.mem_cons.mp hy with rfl | hy
  · have := hd_slen H; omega
  · obtain ⟨i, hi, rfl⟩ := List.mem_map.mp hy
    exact way_slen (hw i hi) hn
theorem str_ok {n : Nat} {hs : List Str} {ws : List (List (List Int))} (H : Wd hs) (hw : ∀ w ∈ ws, WayOk n w) (hn : n ≤ 6) (h6 : ws.length ≤ 6) (S : Sto) : F_Councild_strd [cncl hs ws] S = .ok (.str (pageS hs ws)) S := by
  unfold F_Councild_strd
  apply sat_eq
  simp only [f_run, List.map_cons, List.map_nil, List.length_cons, List.length_nil, Nat.zero_add, Nat.reduceAdd, Nat.reduceSub, List.replicate_succ, List.replicate_zero, List.cons_append, List.nil_append]
  unfold s_Councild_strd
  have f1' : fFld ["Council"] "heads" (cncl hs ws) S = some (.tup (hs.map .str)) := rfl
  have f2 : fFld ["Council"] "tables" (cncl hs ws) S = some (.tup (ws.map wayD)) := rfl
  try simp only [p_seqL, p_par, p_par3, p_asgN, p_asg, p_expr, p_ret, p_nil, p_pass, p_if, p_for, p_try, q_cons, q_nil, q_cb, q_cr, q_call, q_callK, q_prop, q_make, q_bm, q_var, q_c, q_op, q_un, q_b, q_andB, q_orB, q_notB, q_andV, q_orV, q_notV, q_if, q_chain, q_tup, q_lst, q_lstC, q_lc, q_lcC, q_lc2, q_itV, q_itA, q_sl, q_oN, q_oS, sl_0, sl_s, os_some, os_if, f_1, ex_pair, ex_trip, g_unpS, gs_consS, gs_nilS, g_nm, g_subS, sq_tup, sq_lst, List.set_cons_zero, List.set_cons_succ, List.length_cons, List.length_nil, List.length_map, true_and, and_true, b_bl, Bool.not_true, Bool.not_false, Bool.false_eq_true, if_false, if_true, r_ok, i_int, sl_tup, sl_lst, it_tup, it_lst, it_scr, it_word, it_row, it_way, w_0, w_s, decide_true, decide_false, n_tup, n_lst, n_scr, n_word, n_row, n_way, eq_int, ne_int, c_int, en_tup, en_lst, zp_tup, zp_lst, zp_mix, m_yes, t_lst, t_tup, bind_s, a_int, s_int, g_ii, g_ib, is_non, isnt_non, rv_tup, rv_lst, not_true_eq_false, ne_eq, Nat.zero_le, f1', f2, lines_ok H hw hn h6]
  rw [later_eq]
  try simp only [p_seqL, p_par, p_par3, p_asgN, p_asg, p_expr, p_ret, p_nil, p_pass, p_if, p_for, p_try, q_cons, q_nil, q_cb, q_cr, q_call, q_callK, q_prop, q_make, q_bm, q_var, q_c, q_op, q_un, q_b, q_andB, q_orB, q_notB, q_andV, q_orV, q_notV, q_if, q_chain, q_tup, q_lst, q_lstC, q_lc, q_lcC, q_lc2, q_itV, q_itA, q_sl, q_oN, q_oS, sl_0, sl_s, os_some, os_if, f_1, ex_pair, ex_trip, g_unpS, gs_consS, gs_nilS, g_nm, g_subS, sq_tup, sq_lst, List.set_cons_zero, List.set_cons_succ, List.length_cons, List.length_nil, List.length_map, true_and, and_true, b_bl, Bool.not_true, Bool.not_false, Bool.false_eq_true, if_false, if_true, r_ok, i_int, sl_tup, sl_lst, it_tup, it_lst, it_scr, it_word, it_row, it_way, w_0, w_s, decide_true, decide_false, n_tup, n_lst, n_scr, n_word, n_row, n_way, eq_int, ne_int, c_int, en_tup, en_lst, zp_tup, zp_lst, zp_mix, m_yes, t_lst, t_tup, bind_s, a_int, s_int, g_ii, g_ib, is_non, isnt_non, rv_tup, rv_lst, not_true_eq_false, ne_eq, Nat.zero_le, okStr, page_join H hw hn h6]
theorem strF_ok {n : Nat} {hs : List Str} {ws : List (List (List Int))} (H : Wd hs) (hw : ∀ w ∈ ws, WayOk n w) (hn : n ≤ 6) (h6 : ws.length ≤ 6) (S : Sto) : strF "Council" F_Councild_strd [cncl hs ws] S = .ok (.str (pageS hs ws)) S := by
  simp only [strF, cls_c, if_true, str_ok H hw hn h6]
theorem sign_in {c : Nat} (h : 48 ≤ c ∧ c ≤ 57) (S : Sto) : fIn (.str ⟨#[c]⟩) (.str "0123456789") S = some (.bl true) := by
  have : c = 48 ∨ c = 49 ∨ c = 50 ∨ c = 51 ∨ c = 52 ∨ c = 53 ∨ c = 54 ∨ c = 55 ∨ c = 56 ∨ c = 57 := by omega
  rcases this with rfl | rfl | rfl | rfl | rfl | rfl | rfl | rfl | rfl | rfl <;> kernel_rfl
theorem int_num {i : Int} (h : 0 ≤ i) (h9 : i ≤ 1000000000) (S : Sto) : gInt (.str (numS i)) S = some (.int i) := by
  have nl := num_len h h9
  simp only [gInt]
  rw [if_pos (by omega)]
  have := PySem.W.KIN.num_reads (n := i) h (by have e : (10 : Int) ^ 10 = 10000000000 := by decide
                                               omega)
  rw [show numS i = Str.ofString (toString i) from rfl, this]; rfl
theorem number_ok {i : Int} (h : 0 ≤ i) (h9 : i ≤ 1000000000) (S : Sto) : F_read_number [.str (numS i)] S = .ok (.int i) S := by
  unfold F_read_number
  apply sat_eq
  simp only [f_run, List.map_cons, List.map_nil, List.length_cons, List.length_nil, Nat.zero_add, Nat.reduceAdd, Nat.reduceSub, List.replicate_succ, List.replicate_zero, List.cons_append, List.nil_append]
  unfold s_read_number
  have nl := num_len h h9
  have e0 : fEq (.str (numS i)) (.str "") S = some (.bl false) := by
    show some (D.bl (decide (numS i = ""))) = _
    rw [decide_eq_false (num_ne h)]
  have e1 : gLen (.str (numS i)) S = some (.int ((numS i).length : Int)) := by
    first | rfl | (simp [gLen]; unfold lineN; omega)
  have g8 : ¬ ((80 : Int) < ((numS i).length : Int)) := by omega
  have gi : gInt (.str (numS i)) S = some (.int i) := by
    simp only [gInt]
    rw [if_pos (by omega)]
    have := PySem.W.KIN.num_reads (n := i) h (by have e : (10 : Int) ^ 10 = 10000000000 := by decide
                                                 omega)
    rw [show numS i = Str.ofString (toString i) from rfl, this]; rfl
  try simp only [p_seqL, p_par, p_par3, p_asgN, p_asg, p_expr, p_ret, p_nil, p_pass, p_if, p_for, p_try, q_cons, q_nil, q_cb, q_cr, q_call, q_callK, q_prop, q_make, q_bm, q_var, q_c, q_op, q_un, q_b, q_andB, q_orB, q_notB, q_andV, q_orV, q_notV, q_if, q_chain, q_tup, q_lst, q_lstC, q_lc, q_lcC, q_lc2, q_itV, q_itA, q_sl, q_oN, q_oS, sl_0, sl_s, os_some, os_if, f_1, ex_pair, ex_trip, g_unpS, gs_consS, gs_nilS, g_nm, g_subS, sq_tup, sq_lst, List.set_cons_zero, List.set_cons_succ, List.length_cons, List.length_nil, List.length_map, true_and, and_true, b_bl, Bool.not_true, Bool.not_false, Bool.false_eq_true, if_false, if_true, r_ok, i_int, sl_tup, sl_lst, it_tup, it_lst, it_scr, it_word, it_row, it_way, w_0, w_s, decide_true, decide_false, n_tup, n_lst, n_scr, n_word, n_row, n_way, eq_int, ne_int, c_int, en_tup, en_lst, zp_tup, zp_lst, zp_mix, m_yes, t_lst, t_tup, bind_s, a_int, s_int, g_ii, g_ib, is_non, isnt_non, rv_tup, rv_lst, not_true_eq_false, ne_eq, Nat.zero_le, e0, e1, fGt, cmpI, g8]
  have it : itOf (.str (numS i)) S = some (lsIt ((TL.tl (numS i)).map fun c => .str ⟨#[c]⟩)) := rfl
  simp only [it, os_some]
  refine lc_mapT (xs := TL.tl (numS i)) (e := fun c => .str ⟨#[c]⟩) (g := fun _ => .bl true) (li_ls _) (by rw [← TL.len_tl]; exact len_line (by omega)) (fun c hc => ?_) ?_
  · try simp only [p_seqL, p_par, p_par3, p_asgN, p_asg, p_expr, p_ret, p_nil, p_pass, p_if, p_for, p_try, q_cons, q_nil, q_cb, q_cr, q_call, q_callK, q_prop, q_make, q_bm, q_var, q_c, q_op, q_un, q_b, q_andB, q_orB, q_notB, q_andV, q_orV, q_notV, q_if, q_chain, q_tup, q_lst, q_lstC, q_lc, q_lcC, q_lc2, q_itV, q_itA, q_sl, q_oN, q_oS, sl_0, sl_s, os_some, os_if, f_1, ex_pair, ex_trip, g_unpS, gs_consS, gs_nilS, g_nm, g_subS, sq_tup, sq_lst, List.set_cons_zero, List.set_cons_succ, List.length_cons, List.length_nil, List.length_map, true_and, and_true, b_bl, Bool.not_true, Bool.not_false, Bool.false_eq_true, if_false, if_true, r_ok, i_int, sl_tup, sl_lst, it_tup, it_lst, it_scr, it_word, it_row, it_way, w_0, w_s, decide_true, decide_false, n_tup, n_lst, n_scr, n_word, n_row, n_way, eq_int, ne_int, c_int, en_tup, en_lst, zp_tup, zp_lst, zp_mix, m_yes, t_lst, t_tup, bind_s, a_int, s_int, g_ii, g_ib, is_non, isnt_non, rv_tup, rv_lst, not_true_eq_false, ne_eq, Nat.zero_le, sign_in (num_free h hc)]
  rw [map_true fun _ _ => rfl]
  have al := all_true (TL.tl (numS i)).length S
  simp only [f_1] at al
  try simp only [p_seqL, p_par, p_par3, p_asgN, p_asg, p_expr, p_ret, p_nil, p_pass, p_if, p_for, p_try, q_cons, q_nil, q_cb, q_cr, q_call, q_callK, q_prop, q_make, q_bm, q_var, q_c, q_op, q_un, q_b, q_andB, q_orB, q_notB, q_andV, q_orV, q_notV, q_if, q_chain, q_tup, q_lst, q_lstC, q_lc, q_lcC, q_lc2, q_itV, q_itA, q_sl, q_oN, q_oS, sl_0, sl_s, os_some, os_if, f_1, ex_pair, ex_trip, g_unpS, gs_consS, gs_nilS, g_nm, g_subS, sq_tup, sq_lst, List.set_cons_zero, List.set_cons_succ, List.length_cons, List.length_nil, List.length_map, true_and, and_true, b_bl, Bool.not_true, Bool.not_false, Bool.false_eq_true, if_false, if_true, r_ok, i_int, sl_tup, sl_lst, it_tup, it_lst, it_scr, it_word, it_row, it_way, w_0, w_s, decide_true, decide_false, n_tup, n_lst, n_scr, n_word, n_row, n_way, eq_int, ne_int, c_int, en_tup, en_lst, zp_tup, zp_lst, zp_mix, m_yes, t_lst, t_tup, bind_s, a_int, s_int, g_ii, g_ib, is_non, isnt_non, rv_tup, rv_lst, not_true_eq_false, ne_eq, Nat.zero_le, al]
  rw [later_eq]
  try simp only [p_seqL, p_par, p_par3, p_asgN, p_asg, p_expr, p_ret, p_nil, p_pass, p_if, p_for, p_try, q_cons, q_nil, q_cb, q_cr, q_call, q_callK, q_prop, q_make, q_bm, q_var, q_c, q_op, q_un, q_b, q_andB, q_orB, q_notB, q_andV, q_orV, q_notV, q_if, q_chain, q_tup, q_lst, q_lstC, q_lc, q_lcC, q_lc2, q_itV, q_itA, q_sl, q_oN, q_oS, sl_0, sl_s, os_some, os_if, f_1, ex_pair, ex_trip, g_unpS, gs_consS, gs_nilS, g_nm, g_subS, sq_tup, sq_lst, List.set_cons_zero, List.set_cons_succ, List.length_cons, List.length_nil, List.length_map, true_and, and_true, b_bl, Bool.not_true, Bool.not_false, Bool.false_eq_true, if_false, if_true, r_ok, i_int, sl_tup, sl_lst, it_tup, it_lst, it_scr, it_word, it_row, it_way, w_0, w_s, decide_true, decide_false, n_tup, n_lst, n_scr, n_word, n_row, n_way, eq_int, ne_int, c_int, en_tup, en_lst, zp_tup, zp_lst, zp_mix, m_yes, t_lst, t_tup, bind_s, a_int, s_int, g_ii, g_ib, is_non, isnt_non, rv_tup, rv_lst, not_true_eq_false, ne_eq, Nat.zero_le, gi]
  rw [later_eq]
  have es : fEq (.str (numS i)) (.str (numS i)) S = some (.bl true) := by
    show some (D.bl (decide (numS i = numS i))) = _
    simp
  try simp only [p_seqL, p_par, p_par3, p_asgN, p_asg, p_expr, p_ret, p_nil, p_pass, p_if, p_for, p_try, q_cons, q_nil, q_cb, q_cr, q_call, q_callK, q_prop, q_make, q_bm, q_var, q_c, q_op, q_un, q_b, q_andB, q_orB, q_notB, q_andV, q_orV, q_notV, q_if, q_chain, q_tup, q_lst, q_lstC, q_lc, q_lcC, q_lc2, q_itV, q_itA, q_sl, q_oN, q_oS, sl_0, sl_s, os_some, os_if, f_1, ex_pair, ex_trip, g_unpS, gs_consS, gs_nilS, g_nm, g_subS, sq_tup, sq_lst, List.set_cons_zero, List.set_cons_succ, List.length_cons, List.length_nil, List.length_map, true_and, and_true, b_bl, Bool.not_true, Bool.not_false, Bool.false_eq_true, if_false, if_true, r_ok, i_int, sl_tup, sl_lst, it_tup, it_lst, it_scr, it_word, it_row, it_way, w_0, w_s, decide_true, decide_false, n_tup, n_lst, n_scr, n_word, n_row, n_way, eq_int, ne_int, c_int, en_tup, en_lst, zp_tup, zp_lst, zp_mix, m_yes, t_lst, t_tup, bind_s, a_int, s_int, g_ii, g_ib, is_non, isnt_non, rv_tup, rv_lst, not_true_eq_false, ne_eq, Nat.zero_le, str_num h h9, es]
theorem read_way_ok {n : Nat} {w : List (List Int)} (hw : WayOk n w) (n1 : 1 ≤ n) (hn : n ≤ 6) (S : Sto) : F_read_way [.str (wayS w)] S = .ok (wayD w) S := by
  unfold F_read_way
  apply sat_eq
  simp only [f_run, List.map_cons, List.map_nil, List.length_cons, List.length_nil, Nat.zero_add, Nat.reduceAdd, Nat.reduceSub, List.replicate_succ, List.replicate_zero, List.cons_append, List.nil_append]
  unfold s_read_way
  have wl := hw.len
  have s1 := split_txt (split_way hw n1) l_sp (by have := way_slen hw hn; omega) S
  try simp only [p_seqL, p_par, p_par3, p_asgN, p_asg, p_expr, p_ret, p_nil, p_pass, p_if, p_for, p_try, q_cons, q_nil, q_cb, q_cr, q_call, q_callK, q_prop, q_make, q_bm, q_var, q_c, q_op, q_un, q_b, q_andB, q_orB, q_notB, q_andV, q_orV, q_notV, q_if, q_chain, q_tup, q_lst, q_lstC, q_lc, q_lcC, q_lc2, q_itV, q_itA, q_sl, q_oN, q_oS, sl_0, sl_s, os_some, os_if, f_1, ex_pair, ex_trip, g_unpS, gs_consS, gs_nilS, g_nm, g_subS, sq_tup, sq_lst, List.set_cons_zero, List.set_cons_succ, List.length_cons, List.length_nil, List.length_map, true_and, and_true, b_bl, Bool.not_true, Bool.not_false, Bool.false_eq_true, if_false, if_true, r_ok, i_int, sl_tup, sl_lst, it_tup, it_lst, it_scr, it_word, it_row, it_way, w_0, w_s, decide_true, decide_false, n_tup, n_lst, n_scr, n_word, n_row, n_way, eq_int, ne_int, c_int, en_tup, en_lst, zp_tup, zp_lst, zp_mix, m_yes, t_lst, t_tup, bind_s, a_int, s_int, g_ii, g_ib, is_non, isnt_non, rv_tup, rv_lst, not_true_eq_false, ne_eq, Nat.zero_le, okStr, s1]
  refine lc_mapT (xs := w.map rowS) (e := .str) (g := fun x => .tup (((Txt.split x ",").map fun y => (match gInt (.str y) S with | some d => d | none => .non)))) (li_ls _) (by rw [List.length_map]; exact len_line (by omega)) (fun x hx => ?_) ?_
  · obtain ⟨r, hr, rfl⟩ := List.mem_map.mp hx
    have ro := hw.row r hr
    have rl := ro.len
    have s2 := split_txt (split_row ro n1) l_cm (by have := row_slen ro hn; omega) S
    try simp only [p_seqL, p_par, p_par3, p_asgN, p_asg, p_expr, p_ret, p_nil, p_pass, p_if, p_for, p_try, q_cons, q_nil, q_cb, q_cr, q_call, q_callK, q_prop, q_make, q_bm, q_var, q_c, q_op, q_un, q_b, q_andB, q_orB, q_notB, q_andV, q_orV, q_notV, q_if, q_chain, q_tup, q_lst, q_lstC, q_lc, q_lcC, q_lc2, q_itV, q_itA, q_sl, q_oN, q_oS, sl_0, sl_s, os_some, os_if, f_1, ex_pair, ex_trip, g_unpS, gs_consS, gs_nilS, g_nm, g_subS, sq_tup, sq_lst, List.set_cons_zero, List.set_cons_succ, List.length_cons, List.length_nil, List.length_map, true_and, and_true, b_bl, Bool.not_true, Bool.not_false, Bool.false_eq_true, if_false, if_true, r_ok, i_int, sl_tup, sl_lst, it_tup, it_lst, it_scr, it_word, it_row, it_way, w_0, w_s, decide_true, decide_false, n_tup, n_lst, n_scr, n_word, n_row, n_way, eq_int, ne_int, c_int, en_tup, en_lst, zp_tup, zp_lst, zp_mix, m_yes, t_lst, t_tup, bind_s, a_int, s_int, g_ii, g_ib, is_non, isnt_non, rv_tup, rv_lst, not_true_eq_false, ne_eq, Nat.zero_le, okStr, s2]
    refine lc_mapT (xs := r.map numS) (e := .str) (g := fun y => (match gInt (.str y) S with | some d => d | none => .non)) (li_ls _) (by rw [List.length_map]; exact len_line (by omega)) (fun y hy => ?_) ?_
    · obtain ⟨i, hi, rfl⟩ := List.mem_map.mp hy
      have b := ro.in_ i hi
      try simp only [p_seqL, p_par, p_par3, p_asgN, p_asg, p_expr, p_ret, p_nil, p_pass, p_if, p_for, p_try, q_cons, q_nil, q_cb, q_cr, q_call, q_callK, q_prop, q_make, q_bm, q_var, q_c, q_op, q_un, q_b, q_andB, q_orB, q_notB, q_andV, q_orV, q_notV, q_if, q_chain, q_tup, q_lst, q_lstC, q_lc, q_lcC, q_lc2, q_itV, q_itA, q_sl, q_oN, q_oS, sl_0, sl_s, os_some, os_if, f_1, ex_pair, ex_trip, g_unpS, gs_consS, gs_nilS, g_nm, g_subS, sq_tup, sq_lst, List.set_cons_zero, List.set_cons_succ, List.length_cons, List.length_nil, List.length_map, true_and, and_true, b_bl, Bool.not_true, Bool.not_false, Bool.false_eq_true, if_false, if_true, r_ok, i_int, sl_tup, sl_lst, it_tup, it_lst, it_scr, it_word, it_row, it_way, w_0, w_s, decide_true, decide_false, n_tup, n_lst, n_scr, n_word, n_row, n_way, eq_int, ne_int, c_int, en_tup, en_lst, zp_tup, zp_lst, zp_mix, m_yes, t_lst, t_tup, bind_s, a_int, s_int, g_ii, g_ib, is_non, isnt_non, rv_tup, rv_lst, not_true_eq_false, ne_eq, Nat.zero_le, number_ok b.1 b.2]
      rw [int_num b.1 b.2]
    · try simp only [p_seqL, p_par, p_par3, p_asgN, p_asg, p_expr, p_ret, p_nil, p_pass, p_if, p_for, p_try, q_cons, q_nil, q_cb, q_cr, q_call, q_callK, q_prop, q_make, q_bm, q_var, q_c, q_op, q_un, q_b, q_andB, q_orB, q_notB, q_andV, q_orV, q_notV, q_if, q_chain, q_tup, q_lst, q_lstC, q_lc, q_lcC, q_lc2, q_itV, q_itA, q_sl, q_oN, q_oS, sl_0, sl_s, os_some, os_if, f_1, ex_pair, ex_trip, g_unpS, gs_consS, gs_nilS, g_nm, g_subS, sq_tup, sq_lst, List.set_cons_zero, List.set_cons_succ, List.length_cons, List.length_nil, List.length_map, true_and, and_true, b_bl, Bool.not_true, Bool.not_false, Bool.false_eq_true, if_false, if_true, r_ok, i_int, sl_tup, sl_lst, it_tup, it_lst, it_scr, it_word, it_row, it_way, w_0, w_s, decide_true, decide_false, n_tup, n_lst, n_scr, n_word, n_row, n_way, eq_int, ne_int, c_int, en_tup, en_lst, zp_tup, zp_lst, zp_mix, m_yes, t_lst, t_tup, bind_s, a_int, s_int, g_ii, g_ib, is_non, isnt_non, rv_tup, rv_lst, not_true_eq_false, ne_eq, Nat.zero_le]
      rw [split_row ro n1]
  · try simp only [p_seqL, p_par, p_par3, p_asgN, p_asg, p_expr, p_ret, p_nil, p_pass, p_if, p_for, p_try, q_cons, q_nil, q_cb, q_cr, q_call, q_callK, q_prop, q_make, q_bm, q_var, q_c, q_op, q_un, q_b, q_andB, q_orB, q_notB, q_andV, q_orV, q_notV, q_if, q_chain, q_tup, q_lst, q_lstC, q_lc, q_lcC, q_lc2, q_itV, q_itA, q_sl, q_oN, q_oS, sl_0, sl_s, os_some, os_if, f_1, ex_pair, ex_trip, g_unpS, gs_consS, gs_nilS, g_nm, g_subS, sq_tup, sq_lst, List.set_cons_zero, List.set_cons_succ, List.length_cons, List.length_nil, List.length_map, true_and, and_true, b_bl, Bool.not_true, Bool.not_false, Bool.false_eq_true, if_false, if_true, r_ok, i_int, sl_tup, sl_lst, it_tup, it_lst, it_scr, it_word, it_row, it_way, w_0, w_s, decide_true, decide_false, n_tup, n_lst, n_scr, n_word, n_row, n_way, eq_int, ne_int, c_int, en_tup, en_lst, zp_tup, zp_lst, zp_mix, m_yes, t_lst, t_tup, bind_s, a_int, s_int, g_ii, g_ib, is_non, isnt_non, rv_tup, rv_lst, not_true_eq_false, ne_eq, Nat.zero_le]
    show D.tup _ = D.tup _
    congr 1
    rw [List.map_map]
    refine List.map_congr_left fun r hr => ?_
    have ro := hw.row r hr
    show D.tup ((Txt.split (rowS r) ",").map _) = rowD r
    rw [split_row ro n1, List.map_map]
    unfold rowD
    congr 1
    refine List.map_congr_left fun i hi => ?_
    have b := ro.in_ i hi
    simp only [Function.comp, int_num b.1 b.2]
theorem cut_1 (l : List D) : cutD l (some 1) none = l.drop 1 := by
  simp only [cutD, HT.sIx_none]
  have e : HT.sIx l.length 0 (some 1) = min 1 l.length := rfl
  rw [e]
  cases l with
  | nil => rfl
  | cons d l =>
    have : min 1 (d :: l).length = 1 := by simp
    rw [this]
    simp
theorem read_council_ok {hs : List Str} {ws : List (List (List Int))} (H : Heads hs) (Hw : Wd hs) (hw : ∀ w ∈ ws, WayOk hs.length w) (w0 : ws ≠ []) (h6 : ws.length ≤ 6) (S : Sto) : F_read_council [.str (pageS hs ws)] S = .ok (.tup [.tup (hs.map .str), .tup (ws.map wayD)]) S := by
  unfold F_read_council
  apply sat_eq
  simp only [f_run, List.map_cons, List.map_nil, List.length_cons, List.length_nil, Nat.zero_add, Nat.reduceAdd, Nat.reduceSub, List.replicate_succ, List.replicate_zero, List.cons_append, List.nil_append]
  unfold s_read_council
  have n1 : 1 ≤ hs.length := List.length_pos_iff.mpr H.ne
  have s1 := split_txt (split_page Hw hw) l_nl (by have := page_slen Hw hw H.six h6; omega) S
  have s2 := split_txt (split_hd Hw) l_sp (by have := hd_slen Hw; omega) S
  have i0 : fIx (.lst ((pageL hs ws).map .str)) (.int 0) S = some (.str (Txt.join " " hs)) := ix_lst _ 0 S
  have c1 : cutD ((pageL hs ws).map .str) (some 1) none = (ws.map wayS).map .str := by rw [cut_1]; simp [pageL]
  try simp only [p_seqL, p_par, p_par3, p_asgN, p_asg, p_expr, p_ret, p_nil, p_pass, p_if, p_for, p_try, q_cons, q_nil, q_cb, q_cr, q_call, q_callK, q_prop, q_make, q_bm, q_var, q_c, q_op, q_un, q_b, q_andB, q_orB, q_notB, q_andV, q_orV, q_notV, q_if, q_chain, q_tup, q_lst, q_lstC, q_lc, q_lcC, q_lc2, q_itV, q_itA, q_sl, q_oN, q_oS, sl_0, sl_s, os_some, os_if, f_1, ex_pair, ex_trip, g_unpS, gs_consS, gs_nilS, g_nm, g_subS, sq_tup, sq_lst, List.set_cons_zero, List.set_cons_succ, List.length_cons, List.length_nil, List.length_map, true_and, and_true, b_bl, Bool.not_true, Bool.not_false, Bool.false_eq_true, if_false, if_true, r_ok, i_int, sl_tup, sl_lst, it_tup, it_lst, it_scr, it_word, it_row, it_way, w_0, w_s, decide_true, decide_false, n_tup, n_lst, n_scr, n_word, n_row, n_way, eq_int, ne_int, c_int, en_tup, en_lst, zp_tup, zp_lst, zp_mix, m_yes, t_lst, t_tup, bind_s, a_int, s_int, g_ii, g_ib, is_non, isnt_non, rv_tup, rv_lst, not_true_eq_false, ne_eq, Nat.zero_le, isi_ss]
  rw [later_eq]
  try simp only [p_seqL, p_par, p_par3, p_asgN, p_asg, p_expr, p_ret, p_nil, p_pass, p_if, p_for, p_try, q_cons, q_nil, q_cb, q_cr, q_call, q_callK, q_prop, q_make, q_bm, q_var, q_c, q_op, q_un, q_b, q_andB, q_orB, q_notB, q_andV, q_orV, q_notV, q_if, q_chain, q_tup, q_lst, q_lstC, q_lc, q_lcC, q_lc2, q_itV, q_itA, q_sl, q_oN, q_oS, sl_0, sl_s, os_some, os_if, f_1, ex_pair, ex_trip, g_unpS, gs_consS, gs_nilS, g_nm, g_subS, sq_tup, sq_lst, List.set_cons_zero, List.set_cons_succ, List.length_cons, List.length_nil, List.length_map, true_and, and_true, b_bl, Bool.not_true, Bool.not_false, Bool.false_eq_true, if_false, if_true, r_ok, i_int, sl_tup, sl_lst, it_tup, it_lst, it_scr, it_word, it_row, it_way, w_0, w_s, decide_true, decide_false, n_tup, n_lst, n_scr, n_word, n_row, n_way, eq_int, ne_int, c_int, en_tup, en_lst, zp_tup, zp_lst, zp_mix, m_yes, t_lst, t_tup, bind_s, a_int, s_int, g_ii, g_ib, is_non, isnt_non, rv_tup, rv_lst, not_true_eq_false, ne_eq, Nat.zero_le, okStr, s1]
  rw [later_eq]
  try simp only [p_seqL, p_par, p_par3, p_asgN, p_asg, p_expr, p_ret, p_nil, p_pass, p_if, p_for, p_try, q_cons, q_nil, q_cb, q_cr, q_call, q_callK, q_prop, q_make, q_bm, q_var, q_c, q_op, q_un, q_b, q_andB, q_orB, q_notB, q_andV, q_orV, q_notV, q_if, q_chain, q_tup, q_lst, q_lstC, q_lc, q_lcC, q_lc2, q_itV, q_itA, q_sl, q_oN, q_oS, sl_0, sl_s, os_some, os_if, f_1, ex_pair, ex_trip, g_unpS, gs_consS, gs_nilS, g_nm, g_subS, sq_tup, sq_lst, List.set_cons_zero, List.set_cons_succ, List.length_cons, List.length_nil, List.length_map, true_and, and_true, b_bl, Bool.not_true, Bool.not_false, Bool.false_eq_true, if_false, if_true, r_ok, i_int, sl_tup, sl_lst, it_tup, it_lst, it_scr, it_word, it_row, it_way, w_0, w_s, decide_true, decide_false, n_tup, n_lst, n_scr, n_word, n_row, n_way, eq_int, ne_int, c_int, en_tup, en_lst, zp_tup, zp_lst, zp_mix, m_yes, t_lst, t_tup, bind_s, a_int, s_int, g_ii, g_ib, is_non, isnt_non, rv_tup, rv_lst, not_true_eq_false, ne_eq, Nat.zero_le, i0, okStr, s2, sl_lst, c1]
  refine lc_mapT (xs := ws) (e := fun w => .str (wayS w)) (g := wayD) (by rw [List.map_map]; exact li_ls _) (len_line (by omega)) (fun w hm => ?_) ?_
  · try simp only [p_seqL, p_par, p_par3, p_asgN, p_asg, p_expr, p_ret, p_nil, p_pass, p_if, p_for, p_try, q_cons, q_nil, q_cb, q_cr, q_call, q_callK, q_prop, q_make, q_bm, q_var, q_c, q_op, q_un, q_b, q_andB, q_orB, q_notB, q_andV, q_orV, q_notV, q_if, q_chain, q_tup, q_lst, q_lstC, q_lc, q_lcC, q_lc2, q_itV, q_itA, q_sl, q_oN, q_oS, sl_0, sl_s, os_some, os_if, f_1, ex_pair, ex_trip, g_unpS, gs_consS, gs_nilS, g_nm, g_subS, sq_tup, sq_lst, List.set_cons_zero, List.set_cons_succ, List.length_cons, List.length_nil, List.length_map, true_and, and_true, b_bl, Bool.not_true, Bool.not_false, Bool.false_eq_true, if_false, if_true, r_ok, i_int, sl_tup, sl_lst, it_tup, it_lst, it_scr, it_word, it_row, it_way, w_0, w_s, decide_true, decide_false, n_tup, n_lst, n_scr, n_word, n_row, n_way, eq_int, ne_int, c_int, en_tup, en_lst, zp_tup, zp_lst, zp_mix, m_yes, t_lst, t_tup, bind_s, a_int, s_int, g_ii, g_ib, is_non, isnt_non, rv_tup, rv_lst, not_true_eq_false, ne_eq, Nat.zero_le, read_way_ok (hw w hm) n1 H.six]
  try simp only [p_seqL, p_par, p_par3, p_asgN, p_asg, p_expr, p_ret, p_nil, p_pass, p_if, p_for, p_try, q_cons, q_nil, q_cb, q_cr, q_call, q_callK, q_prop, q_make, q_bm, q_var, q_c, q_op, q_un, q_b, q_andB, q_orB, q_notB, q_andV, q_orV, q_notV, q_if, q_chain, q_tup, q_lst, q_lstC, q_lc, q_lcC, q_lc2, q_itV, q_itA, q_sl, q_oN, q_oS, sl_0, sl_s, os_some, os_if, f_1, ex_pair, ex_trip, g_unpS, gs_consS, gs_nilS, g_nm, g_subS, sq_tup, sq_lst, List.set_cons_zero, List.set_cons_succ, List.length_cons, List.length_nil, List.length_map, true_and, and_true, b_bl, Bool.not_true, Bool.not_false, Bool.false_eq_true, if_false, if_true, r_ok, i_int, sl_tup, sl_lst, it_tup, it_lst, it_scr, it_word, it_row, it_way, w_0, w_s, decide_true, decide_false, n_tup, n_lst, n_scr, n_word, n_row, n_way, eq_int, ne_int, c_int, en_tup, en_lst, zp_tup, zp_lst, zp_mix, m_yes, t_lst, t_tup, bind_s, a_int, s_int, g_ii, g_ib, is_non, isnt_non, rv_tup, rv_lst, not_true_eq_false, ne_eq, Nat.zero_le]
  rw [later_eq]
  try simp only [p_seqL, p_par, p_par3, p_asgN, p_asg, p_expr, p_ret, p_nil, p_pass, p_if, p_for, p_try, q_cons, q_nil, q_cb, q_cr, q_call, q_callK, q_prop, q_make, q_bm, q_var, q_c, q_op, q_un, q_b, q_andB, q_orB, q_notB, q_andV, q_orV, q_notV, q_if, q_chain, q_tup, q_lst, q_lstC, q_lc, q_lcC, q_lc2, q_itV, q_itA, q_sl, q_oN, q_oS, sl_0, sl_s, os_some, os_if, f_1, ex_pair, ex_trip, g_unpS, gs_consS, gs_nilS, g_nm, g_subS, sq_tup, sq_lst, List.set_cons_zero, List.set_cons_succ, List.length_cons, List.length_nil, List.length_map, true_and, and_true, b_bl, Bool.not_true, Bool.not_false, Bool.false_eq_true, if_false, if_true, r_ok, i_int, sl_tup, sl_lst, it_tup, it_lst, it_scr, it_word, it_row, it_way, w_0, w_s, decide_true, decide_false, n_tup, n_lst, n_scr, n_word, n_row, n_way, eq_int, ne_int, c_int, en_tup, en_lst, zp_tup, zp_lst, zp_mix, m_yes, t_lst, t_tup, bind_s, a_int, s_int, g_ii, g_ib, is_non, isnt_non, rv_tup, rv_lst, not_true_eq_false, ne_eq, Nat.zero_le, mind_ok H S, ne_nil, wrong_way_ok hw (by have := H.six; omega) w0 h6 S]
  rw [later_eq]
  try simp only [p_seqL, p_par, p_par3, p_asgN, p_asg, p_expr, p_ret, p_nil, p_pass, p_if, p_for, p_try, q_cons, q_nil, q_cb, q_cr, q_call, q_callK, q_prop, q_make, q_bm, q_var, q_c, q_op, q_un, q_b, q_andB, q_orB, q_notB, q_andV, q_orV, q_notV, q_if, q_chain, q_tup, q_lst, q_lstC, q_lc, q_lcC, q_lc2, q_itV, q_itA, q_sl, q_oN, q_oS, sl_0, sl_s, os_some, os_if, f_1, ex_pair, ex_trip, g_unpS, gs_consS, gs_nilS, g_nm, g_subS, sq_tup, sq_lst, List.set_cons_zero, List.set_cons_succ, List.length_cons, List.length_nil, List.length_map, true_and, and_true, b_bl, Bool.not_true, Bool.not_false, Bool.false_eq_true, if_false, if_true, r_ok, i_int, sl_tup, sl_lst, it_tup, it_lst, it_scr, it_word, it_row, it_way, w_0, w_s, decide_true, decide_false, n_tup, n_lst, n_scr, n_word, n_row, n_way, eq_int, ne_int, c_int, en_tup, en_lst, zp_tup, zp_lst, zp_mix, m_yes, t_lst, t_tup, bind_s, a_int, s_int, g_ii, g_ib, is_non, isnt_non, rv_tup, rv_lst, not_true_eq_false, ne_eq, Nat.zero_le]
  decide
theorem read_ok {hs : List Str} {ws : List (List (List Int))} (H : Heads hs) (Hw : Wd hs) (hw : ∀ w ∈ ws, WayOk hs.length w) (w0 : ws ≠ []) (h6 : ws.length ≤ 6) {S : Sto} (hS : Cl S) : F_Council_read [.gl "Council", .str (pageS hs ws)] S = .ok (cncl hs ws) S := by
  unfold F_Council_read
  apply sat_eq
  simp only [f_run, List.map_cons, List.map_nil, List.length_cons, List.length_nil, Nat.zero_add, Nat.reduceAdd, Nat.reduceSub, List.replicate_succ, List.replicate_zero, List.cons_append, List.nil_append]
  unfold s_Council_read
  have mk := make_ok H hw w0 h6 hS
  have isn : fIs (.tup [.tup (hs.map .str), .tup (ws.map wayD)]) .non S = some (.bl false) := rfl
  try simp only [p_seqL, p_par, p_par3, p_asgN, p_asg, p_expr, p_ret, p_nil, p_pass, p_if, p_for, p_try, q_cons, q_nil, q_cb, q_cr, q_call, q_callK, q_prop, q_make, q_bm, q_var, q_c, q_op, q_un, q_b, q_andB, q_orB, q_notB, q_andV, q_orV, q_notV, q_if, q_chain, q_tup, q_lst, q_lstC, q_lc, q_lcC, q_lc2, q_itV, q_itA, q_sl, q_oN, q_oS, sl_0, sl_s, os_some, os_if, f_1, ex_pair, ex_trip, g_unpS, gs_consS, gs_nilS, g_nm, g_subS, sq_tup, sq_lst, List.set_cons_zero, List.set_cons_succ, List.length_cons, List.length_nil, List.length_map, true_and, and_true, b_bl, Bool.not_true, Bool.not_false, Bool.false_eq_true, if_false, if_true, r_ok, i_int, sl_tup, sl_lst, it_tup, it_lst, it_scr, it_word, it_row, it_way, w_0, w_s, decide_true, decide_false, n_tup, n_lst, n_scr, n_word, n_row, n_way, eq_int, ne_int, c_int, en_tup, en_lst, zp_tup, zp_lst, zp_mix, m_yes, t_lst, t_tup, bind_s, a_int, s_int, g_ii, g_ib, is_non, isnt_non, rv_tup, rv_lst, not_true_eq_false, ne_eq, Nat.zero_le, read_council_ok H Hw hw w0 h6]
  rw [later_eq]
  have isn2 : isNon (.tup [.tup (hs.map .str), .tup (ws.map wayD)]) = false := rfl
  try simp only [p_seqL, p_par, p_par3, p_asgN, p_asg, p_expr, p_ret, p_nil, p_pass, p_if, p_for, p_try, q_cons, q_nil, q_cb, q_cr, q_call, q_callK, q_prop, q_make, q_bm, q_var, q_c, q_op, q_un, q_b, q_andB, q_orB, q_notB, q_andV, q_orV, q_notV, q_if, q_chain, q_tup, q_lst, q_lstC, q_lc, q_lcC, q_lc2, q_itV, q_itA, q_sl, q_oN, q_oS, sl_0, sl_s, os_some, os_if, f_1, ex_pair, ex_trip, g_unpS, gs_consS, gs_nilS, g_nm, g_subS, sq_tup, sq_lst, List.set_cons_zero, List.set_cons_succ, List.length_cons, List.length_nil, List.length_map, true_and, and_true, b_bl, Bool.not_true, Bool.not_false, Bool.false_eq_true, if_false, if_true, r_ok, i_int, sl_tup, sl_lst, it_tup, it_lst, it_scr, it_word, it_row, it_way, w_0, w_s, decide_true, decide_false, n_tup, n_lst, n_scr, n_word, n_row, n_way, eq_int, ne_int, c_int, en_tup, en_lst, zp_tup, zp_lst, zp_mix, m_yes, t_lst, t_tup, bind_s, a_int, s_int, g_ii, g_ib, is_non, isnt_non, rv_tup, rv_lst, not_true_eq_false, ne_eq, Nat.zero_le, isn2]
  rw [later_eq]
  rw [p_ret, q_makeL rfl]
  try simp only [p_seqL, p_par, p_par3, p_asgN, p_asg, p_expr, p_ret, p_nil, p_pass, p_if, p_for, p_try, q_cons, q_nil, q_cb, q_cr, q_call, q_callK, q_prop, q_make, q_bm, q_var, q_c, q_op, q_un, q_b, q_andB, q_orB, q_notB, q_andV, q_orV, q_notV, q_if, q_chain, q_tup, q_lst, q_lstC, q_lc, q_lcC, q_lc2, q_itV, q_itA, q_sl, q_oN, q_oS, sl_0, sl_s, os_some, os_if, f_1, ex_pair, ex_trip, g_unpS, gs_consS, gs_nilS, g_nm, g_subS, sq_tup, sq_lst, List.set_cons_zero, List.set_cons_succ, List.length_cons, List.length_nil, List.length_map, true_and, and_true, b_bl, Bool.not_true, Bool.not_false, Bool.false_eq_true, if_false, if_true, r_ok, i_int, sl_tup, sl_lst, it_tup, it_lst, it_scr, it_word, it_row, it_way, w_0, w_s, decide_true, decide_false, n_tup, n_lst, n_scr, n_word, n_row, n_way, eq_int, ne_int, c_int, en_tup, en_lst, zp_tup, zp_lst, zp_mix, m_yes, t_lst, t_tup, bind_s, a_int, s_int, g_ii, g_ib, is_non, isnt_non, rv_tup, rv_lst, not_true_eq_false, ne_eq, Nat.zero_le, ix_0, ix_1, mk]
theorem pys_hs (hs : List Str) : (D.tup (hs.map .str)).py = some (.tuple (hs.map .str)) := by
  show (D.pys _).map PyData.tuple = _
  rw [pys_strs]; rfl
theorem eqv_all2 {α : Type} [DecidableEq α] {f : α → PyData} (hf : ∀ a b, PyData.eqv (f a) (f b) = decide (a = b)) : ∀ a b : List α, PyData.eqvAll (a.map f) (b.map f) = decide (a = b)
  | [], [] => by simp [PyData.eqvAll]
  | [], y :: b => by simp [PyData.eqvAll]
  | x :: a, [] => by simp [PyData.eqvAll]
  | x :: a, y :: b => by
    simp only [List.map_cons, PyData.eqvAll, hf, eqv_all2 hf a b, List.cons.injEq]
    by_cases h1 : x = y <;> by_cases h2 : a = b <;> simp [h1, h2]
def rowP (r : List Int) : PyData := .tuple (r.map .int)
def wayP (w : List (List Int)) : PyData := .tuple (w.map rowP)
def waysP (ws : List (List (List Int))) : PyData := .tuple (ws.map wayP)
theorem py_row (r : List Int) : (rowD r).py = some (rowP r) := by
  show (D.pys _).map PyData.tuple = _
  rw [pys_ints]; rfl
theorem pys_rows : ∀ w : List (List Int), D.pys (w.map rowD) = some (w.map rowP)
  | [] => rfl
  | r :: w => by simp [D.pys, py_row, pys_rows w]
theorem py_way (w : List (List Int)) : (wayD w).py = some (wayP w) := by
  show (D.pys _).map PyData.tuple = _
  rw [pys_rows]; rfl
theorem pys_ways : ∀ ws : List (List (List Int)), D.pys (ws.map wayD) = some (ws.map wayP)
  | [] => rfl
  | w :: ws => by simp [D.pys, py_way, pys_ways ws]
theorem py_ways (ws : List (List (List Int))) : (D.tup (ws.map wayD)).py = some (waysP ws) := by
  show (D.pys _).map PyData.tuple = _
  rw [pys_ways]; rfl
theorem eqv_row (a b : List Int) : PyData.eqv (rowP a) (rowP b) = decide (a = b) := by simp only [rowP, PyData.eqv, eqv_all2 eqv_int]
theorem eqv_way (a b : List (List Int)) : PyData.eqv (wayP a) (wayP b) = decide (a = b) := by simp only [wayP, PyData.eqv, eqv_all2 eqv_row]
theorem eqv_ways (a b : List (List (List Int))) : PyData.eqv (waysP a) (waysP b) = decide (a = b) := by simp only [waysP, PyData.eqv, eqv_all2 eqv_way]
theorem eqv_hs (a b : List Str) : PyData.eqv (.tuple (a.map .str)) (.tuple (b.map .str)) = decide (a = b) := by simp only [PyData.eqv, eqv_all2 eqv_str]
theorem pl_sh' {d : D} {p : PyData} (h : Pl d) (e : d.py = some p) : SeqAt.shaped p = true := by
  obtain ⟨q, h1, h2⟩ := h
  rw [e] at h1; cases h1; exact h2
theorem dp_hs {hs : List Str} (h : ∀ x ∈ hs, PyData.strOk x = true) : Dp 1 (.tup (hs.map .str)) := dp_tup fun d hd => by
  obtain ⟨x, hx, rfl⟩ := List.mem_map.mp hd
  exact dp_str (h x hx)
theorem dp_ways (ws : List (List (List Int))) : Dp 3 (.tup (ws.map wayD)) := dp_tup fun d hd => by
  obtain ⟨w, _, rfl⟩ := List.mem_map.mp hd
  exact dp_tup fun d hd => by
    obtain ⟨r, _, rfl⟩ := List.mem_map.mp hd
    exact dp_tup fun d hd => by
      obtain ⟨i, _, rfl⟩ := List.mem_map.mp hd
      exact dp_int i
theorem eq_hs {a b : List Str} (ha : ∀ x ∈ a, PyData.strOk x = true) (hb : ∀ x ∈ b, PyData.strOk x = true) (S : Sto) : fEq (.tup (a.map .str)) (.tup (b.map .str)) S = some (.bl (decide (a = b))) := by
  show eqD _ _ S = _
  simp only [eqD, pyS_py (pys_hs a), pyS_py (pys_hs b), pl_sh' ((dp_hs ha).pl (by decide)) (pys_hs a), pl_sh' ((dp_hs hb).pl (by decide)) (pys_hs b), and_self, if_true, eqv_hs]
theorem eq_ways (a b : List (List (List Int))) (S : Sto) : fEq (.tup (a.map wayD)) (.tup (b.map wayD)) S = some (.bl (decide (a = b))) := by
  show eqD _ _ S = _
  simp only [eqD, pyS_py (py_ways a), pyS_py (py_ways b), pl_sh' ((dp_ways a).pl (by decide)) (py_ways a), pl_sh' ((dp_ways b).pl (by decide)) (py_ways b), and_self, if_true, eqv_ways]
theorem eqc_ok {a b : List Str} {u v : List (List (List Int))} (ha : ∀ x ∈ a, PyData.strOk x = true) (hb : ∀ x ∈ b, PyData.strOk x = true) (S : Sto) : F_Councild_eqd [cncl a u, cncl b v] S = .ok (.bl (decide (a = b ∧ u = v))) S := by
  unfold F_Councild_eqd
  apply sat_eq
  simp only [f_run, List.map_cons, List.map_nil, List.length_cons, List.length_nil, Nat.zero_add, Nat.reduceAdd, Nat.reduceSub, List.replicate_succ, List.replicate_zero, List.cons_append, List.nil_append]
  unfold s_Councild_eqd
  have g1 : fFld ["Council"] "heads" (cncl a u) S = some (.tup (a.map .str)) := rfl
  have g2 : fFld ["Council"] "heads" (cncl b v) S = some (.tup (b.map .str)) := rfl
  have g3 : fFld ["Council"] "tables" (cncl a u) S = some (.tup (u.map wayD)) := rfl
  have g4 : fFld ["Council"] "tables" (cncl b v) S = some (.tup (v.map wayD)) := rfl
  have g5 : fIsi isoC isoT [cncl b v, .gl "Council"] S = some (.bl true) := rfl
  try simp only [p_seqL, p_par, p_par3, p_asgN, p_asg, p_expr, p_ret, p_nil, p_pass, p_if, p_for, p_try, q_cons, q_nil, q_cb, q_cr, q_call, q_callK, q_prop, q_make, q_bm, q_var, q_c, q_op, q_un, q_b, q_andB, q_orB, q_notB, q_andV, q_orV, q_notV, q_if, q_chain, q_tup, q_lst, q_lstC, q_lc, q_lcC, q_lc2, q_itV, q_itA, q_sl, q_oN, q_oS, sl_0, sl_s, os_some, os_if, f_1, ex_pair, ex_trip, g_unpS, gs_consS, gs_nilS, g_nm, g_subS, sq_tup, sq_lst, List.set_cons_zero, List.set_cons_succ, List.length_cons, List.length_nil, List.length_map, true_and, and_true, b_bl, Bool.not_true, Bool.not_false, Bool.false_eq_true, if_false, if_true, r_ok, i_int, sl_tup, sl_lst, it_tup, it_lst, it_scr, it_word, it_row, it_way, w_0, w_s, decide_true, decide_false, n_tup, n_lst, n_scr, n_word, n_row, n_way, eq_int, ne_int, c_int, en_tup, en_lst, zp_tup, zp_lst, zp_mix, m_yes, t_lst, t_tup, bind_s, a_int, s_int, g_ii, g_ib, is_non, isnt_non, rv_tup, rv_lst, not_true_eq_false, ne_eq, Nat.zero_le, g1, g2, g3, g4, g5, eq_hs ha hb, eq_ways]
  by_cases h1 : a = b <;> by_cases h2 : u = v <;> simp [h1, h2]
theorem eqF_ok {a b : List Str} {u v : List (List (List Int))} (ha : ∀ x ∈ a, PyData.strOk x = true) (hb : ∀ x ∈ b, PyData.strOk x = true) (z : Bool) (S : Sto) : eqF "Council" F_Councild_eqd z (cncl a u) (cncl b v) S = .ok (.bl (z ^^ decide (a = b ∧ u = v))) S := by
  simp only [eqF, cls_c, and_self, if_true, eqc_ok ha hb]

end Ag.k02

namespace Ag.k02
open PySem

/-! the law's own page -/
theorem page_ok {n : Nat} {hs : List Str} {ws : List (List (List Int))} (H : Wd hs) (hw : ∀ w ∈ ws, WayOk n w) (hn : n ≤ 6) (h6 : ws.length ≤ 6) {S : Sto} (hS : Cl S) : F_page_l [.tup (hs.map .str), .tup (ws.map wayD)] S = .ok (.str (pageS hs ws)) S := by
  unfold F_page_l
  refine scop_pure hS ?_
  simp only [f_run, List.map_cons, List.map_nil, List.length_cons, List.length_nil, Nat.zero_add, Nat.reduceAdd, Nat.reduceSub, List.replicate_succ, List.replicate_zero, List.cons_append, List.nil_append]
  unfold s_page_l
  have j1 := join_tup (a := " ") (ys := hs) (B := 8) H.len (by have := H.six; rw [l_sp]; omega) S
  try simp only [p_seqL, p_par, p_par3, p_asgN, p_asg, p_expr, p_ret, p_nil, p_pass, p_if, p_for, p_try, q_cons, q_nil, q_cb, q_cr, q_call, q_callK, q_prop, q_make, q_bm, q_var, q_c, q_op, q_un, q_b, q_andB, q_orB, q_notB, q_andV, q_orV, q_notV, q_if, q_chain, q_tup, q_lst, q_lstC, q_lc, q_lcC, q_lc2, q_itV, q_itA, q_sl, q_oN, q_oS, sl_0, sl_s, os_some, os_if, f_1, ex_pair, ex_trip, g_unpS, gs_consS, gs_nilS, g_nm, g_subS, sq_tup, sq_lst, List.set_cons_zero, List.set_cons_succ, List.length_cons, List.length_nil, List.length_map, true_and, and_true, b_bl, Bool.not_true, Bool.not_false, Bool.false_eq_true, if_false, if_true, r_ok, i_int, sl_tup, sl_lst, it_tup, it_lst, it_scr, it_word, it_row, it_way, w_0, w_s, decide_true, decide_false, n_tup, n_lst, n_scr, n_word, n_row, n_way, eq_int, ne_int, c_int, en_tup, en_lst, zp_tup, zp_lst, zp_mix, m_yes, t_lst, t_tup, bind_s, a_int, s_int, g_ii, g_ib, is_non, isnt_non, rv_tup, rv_lst, not_true_eq_false, ne_eq, Nat.zero_le, okStr, j1]
  rw [later_eq]
  try simp only [p_seqL, p_par, p_par3, p_asgN, p_asg, p_expr, p_ret, p_nil, p_pass, p_if, p_for, p_try, q_cons, q_nil, q_cb, q_cr, q_call, q_callK, q_prop, q_make, q_bm, q_var, q_c, q_op, q_un, q_b, q_andB, q_orB, q_notB, q_andV, q_orV, q_notV, q_if, q_chain, q_tup, q_lst, q_lstC, q_lc, q_lcC, q_lc2, q_itV, q_itA, q_sl, q_oN, q_oS, sl_0, sl_s, os_some, os_if, f_1, ex_pair, ex_trip, g_unpS, gs_consS, gs_nilS, g_nm, g_subS, sq_tup, sq_lst, List.set_cons_zero, List.set_cons_succ, List.length_cons, List.length_nil, List.length_map, true_and, and_true, b_bl, Bool.not_true, Bool.not_false, Bool.false_eq_true, if_false, if_true, r_ok, i_int, sl_tup, sl_lst, it_tup, it_lst, it_scr, it_word, it_row, it_way, w_0, w_s, decide_true, decide_false, n_tup, n_lst, n_scr, n_word, n_row, n_way, eq_int, ne_int, c_int, en_tup, en_lst, zp_tup, zp_lst, zp_mix, m_yes, t_lst, t_tup, bind_s, a_int, s_int, g_ii, g_ib, is_non, isnt_non, rv_tup, rv_lst, not_true_eq_false, ne_eq, Nat.zero_le]
  refine ⟨by decide, ?_⟩
  refine for_T (xs := ws) (e := wayD) (li_ls _) (fun k en S' => ∃ x y z, en = [some (.tup (hs.map .str)), some (.tup (ws.map wayD)), some (.ref S.length), x, y, z] ∧ S' = S ++ [.lst ((pageL hs (ws.take k)).map .str)]) ⟨none, none, none, rfl, rfl⟩ ?_ ?_
  · rintro k w en S' hk hm ⟨x, y, z, rfl, rfl⟩
    have wk := hw w hm
    have wl := wk.len
    have kl : k < ws.length := (List.getElem?_eq_some_iff.mp hk).1
    try simp only [p_seqL, p_par, p_par3, p_asgN, p_asg, p_expr, p_ret, p_nil, p_pass, p_if, p_for, p_try, q_cons, q_nil, q_cb, q_cr, q_call, q_callK, q_prop, q_make, q_bm, q_var, q_c, q_op, q_un, q_b, q_andB, q_orB, q_notB, q_andV, q_orV, q_notV, q_if, q_chain, q_tup, q_lst, q_lstC, q_lc, q_lcC, q_lc2, q_itV, q_itA, q_sl, q_oN, q_oS, sl_0, sl_s, os_some, os_if, f_1, ex_pair, ex_trip, g_unpS, gs_consS, gs_nilS, g_nm, g_subS, sq_tup, sq_lst, List.set_cons_zero, List.set_cons_succ, List.length_cons, List.length_nil, List.length_map, true_and, and_true, b_bl, Bool.not_true, Bool.not_false, Bool.false_eq_true, if_false, if_true, r_ok, i_int, sl_tup, sl_lst, it_tup, it_lst, it_scr, it_word, it_row, it_way, w_0, w_s, decide_true, decide_false, n_tup, n_lst, n_scr, n_word, n_row, n_way, eq_int, ne_int, c_int, en_tup, en_lst, zp_tup, zp_lst, zp_mix, m_yes, t_lst, t_tup, bind_s, a_int, s_int, g_ii, g_ib, is_non, isnt_non, rv_tup, rv_lst, not_true_eq_false, ne_eq, Nat.zero_le, okStr, ok_ref at_end]
    refine lc_mapT (xs := w) (e := rowD) (g := fun r => .str (rowS r)) (li_ls _) (len_line (by omega)) (fun r hr => ?_) ?_
    · have ro := wk.row r hr
      have rl := ro.len
      try simp only [p_seqL, p_par, p_par3, p_asgN, p_asg, p_expr, p_ret, p_nil, p_pass, p_if, p_for, p_try, q_cons, q_nil, q_cb, q_cr, q_call, q_callK, q_prop, q_make, q_bm, q_var, q_c, q_op, q_un, q_b, q_andB, q_orB, q_notB, q_andV, q_orV, q_notV, q_if, q_chain, q_tup, q_lst, q_lstC, q_lc, q_lcC, q_lc2, q_itV, q_itA, q_sl, q_oN, q_oS, sl_0, sl_s, os_some, os_if, f_1, ex_pair, ex_trip, g_unpS, gs_consS, gs_nilS, g_nm, g_subS, sq_tup, sq_lst, List.set_cons_zero, List.set_cons_succ, List.length_cons, List.length_nil, List.length_map, true_and, and_true, b_bl, Bool.not_true, Bool.not_false, Bool.false_eq_true, if_false, if_true, r_ok, i_int, sl_tup, sl_lst, it_tup, it_lst, it_scr, it_word, it_row, it_way, w_0, w_s, decide_true, decide_false, n_tup, n_lst, n_scr, n_word, n_row, n_way, eq_int, ne_int, c_int, en_tup, en_lst, zp_tup, zp_lst, zp_mix, m_yes, t_lst, t_tup, bind_s, a_int, s_int, g_ii, g_ib, is_non, isnt_non, rv_tup, rv_lst, not_true_eq_false, ne_eq, Nat.zero_le, okStr]
      refine lc_mapT (xs := r) (e := .int) (g := fun i => .str (numS i)) (li_ls _) (len_line (by omega)) (fun i hi => ?_) ?_
      · try simp only [p_seqL, p_par, p_par3, p_asgN, p_asg, p_expr, p_ret, p_nil, p_pass, p_if, p_for, p_try, q_cons, q_nil, q_cb, q_cr, q_call, q_callK, q_prop, q_make, q_bm, q_var, q_c, q_op, q_un, q_b, q_andB, q_orB, q_notB, q_andV, q_orV, q_notV, q_if, q_chain, q_tup, q_lst, q_lstC, q_lc, q_lcC, q_lc2, q_itV, q_itA, q_sl, q_oN, q_oS, sl_0, sl_s, os_some, os_if, f_1, ex_pair, ex_trip, g_unpS, gs_consS, gs_nilS, g_nm, g_subS, sq_tup, sq_lst, List.set_cons_zero, List.set_cons_succ, List.length_cons, List.length_nil, List.length_map, true_and, and_true, b_bl, Bool.not_true, Bool.not_false, Bool.false_eq_true, if_false, if_true, r_ok, i_int, sl_tup, sl_lst, it_tup, it_lst, it_scr, it_word, it_row, it_way, w_0, w_s, decide_true, decide_false, n_tup, n_lst, n_scr, n_word, n_row, n_way, eq_int, ne_int, c_int, en_tup, en_lst, zp_tup, zp_lst, zp_mix, m_yes, t_lst, t_tup, bind_s, a_int, s_int, g_ii, g_ib, is_non, isnt_non, rv_tup, rv_lst, not_true_eq_false, ne_eq, Nat.zero_le, str_num (ro.in_ i hi).1 (ro.in_ i hi).2]
      have e1 : (r.map fun i => D.str (numS i)) = (r.map numS).map .str := by simp [List.map_map, Function.comp_def]
      have j2 := join_lst (a := ",") (ys := r.map numS) (B := 10) (fun y hy => by
        obtain ⟨i, hi, rfl⟩ := List.mem_map.mp hy
        exact num_len (ro.in_ i hi).1 (ro.in_ i hi).2) (by rw [l_cm, List.length_map]; omega) (S ++ [.lst ((pageL hs (ws.take k)).map .str)])
      rw [e1]
      try simp only [p_seqL, p_par, p_par3, p_asgN, p_asg, p_expr, p_ret, p_nil, p_pass, p_if, p_for, p_try, q_cons, q_nil, q_cb, q_cr, q_call, q_callK, q_prop, q_make, q_bm, q_var, q_c, q_op, q_un, q_b, q_andB, q_orB, q_notB, q_andV, q_orV, q_notV, q_if, q_chain, q_tup, q_lst, q_lstC, q_lc, q_lcC, q_lc2, q_itV, q_itA, q_sl, q_oN, q_oS, sl_0, sl_s, os_some, os_if, f_1, ex_pair, ex_trip, g_unpS, gs_consS, gs_nilS, g_nm, g_subS, sq_tup, sq_lst, List.set_cons_zero, List.set_cons_succ, List.length_cons, List.length_nil, List.length_map, true_and, and_true, b_bl, Bool.not_true, Bool.not_false, Bool.false_eq_true, if_false, if_true, r_ok, i_int, sl_tup, sl_lst, it_tup, it_lst, it_scr, it_word, it_row, it_way, w_0, w_s, decide_true, decide_false, n_tup, n_lst, n_scr, n_word, n_row, n_way, eq_int, ne_int, c_int, en_tup, en_lst, zp_tup, zp_lst, zp_mix, m_yes, t_lst, t_tup, bind_s, a_int, s_int, g_ii, g_ib, is_non, isnt_non, rv_tup, rv_lst, not_true_eq_false, ne_eq, Nat.zero_le, j2]
      rfl
    have e1 : (w.map fun r => D.str (rowS r)) = (w.map rowS).map .str := by simp [List.map_map, Function.comp_def]
    have j2 := join_lst (a := " ") (ys := w.map rowS) (B := 66) (fun y hy => by
      obtain ⟨i, hi, rfl⟩ := List.mem_map.mp hy
      exact row_slen (wk.row i hi) hn) (by rw [l_sp, List.length_map]; omega) (S ++ [.lst ((pageL hs (ws.take k)).map .str)])
    rw [e1]
    try simp only [p_seqL, p_par, p_par3, p_asgN, p_asg, p_expr, p_ret, p_nil, p_pass, p_if, p_for, p_try, q_cons, q_nil, q_cb, q_cr, q_call, q_callK, q_prop, q_make, q_bm, q_var, q_c, q_op, q_un, q_b, q_andB, q_orB, q_notB, q_andV, q_orV, q_notV, q_if, q_chain, q_tup, q_lst, q_lstC, q_lc, q_lcC, q_lc2, q_itV, q_itA, q_sl, q_oN, q_oS, sl_0, sl_s, os_some, os_if, f_1, ex_pair, ex_trip, g_unpS, gs_consS, gs_nilS, g_nm, g_subS, sq_tup, sq_lst, List.set_cons_zero, List.set_cons_succ, List.length_cons, List.length_nil, List.length_map, true_and, and_true, b_bl, Bool.not_true, Bool.not_false, Bool.false_eq_true, if_false, if_true, r_ok, i_int, sl_tup, sl_lst, it_tup, it_lst, it_scr, it_word, it_row, it_way, w_0, w_s, decide_true, decide_false, n_tup, n_lst, n_scr, n_word, n_row, n_way, eq_int, ne_int, c_int, en_tup, en_lst, zp_tup, zp_lst, zp_mix, m_yes, t_lst, t_tup, bind_s, a_int, s_int, g_ii, g_ib, is_non, isnt_non, rv_tup, rv_lst, not_true_eq_false, ne_eq, Nat.zero_le, j2]
    rw [app_end (by simp [pageL]; unfold lineN; omega), os_some]
    refine ⟨_, _, _, rfl, ?_⟩
    rw [List.take_add_one, hk]
    simp [pageL, wayS]
  · rintro en S' ⟨x, y, z, rfl, rfl⟩
    rw [List.take_length]
    have pj : fJoin (.str "\n") [.ref S.length] (S ++ [.lst ((pageL hs ws).map .str)]) = some (.str (pageS hs ws), S ++ [.lst ((pageL hs ws).map .str)]) := by
      have := page_join H hw hn h6 (S ++ [.lst ((pageL hs ws).map .str)])
      rw [← this]
      simp only [fJoin, rd_ref at_end]
      rfl
    rw [later_eq]
    try simp only [p_seqL, p_par, p_par3, p_asgN, p_asg, p_expr, p_ret, p_nil, p_pass, p_if, p_for, p_try, q_cons, q_nil, q_cb, q_cr, q_call, q_callK, q_prop, q_make, q_bm, q_var, q_c, q_op, q_un, q_b, q_andB, q_orB, q_notB, q_andV, q_orV, q_notV, q_if, q_chain, q_tup, q_lst, q_lstC, q_lc, q_lcC, q_lc2, q_itV, q_itA, q_sl, q_oN, q_oS, sl_0, sl_s, os_some, os_if, f_1, ex_pair, ex_trip, g_unpS, gs_consS, gs_nilS, g_nm, g_subS, sq_tup, sq_lst, List.set_cons_zero, List.set_cons_succ, List.length_cons, List.length_nil, List.length_map, true_and, and_true, b_bl, Bool.not_true, Bool.not_false, Bool.false_eq_true, if_false, if_true, r_ok, i_int, sl_tup, sl_lst, it_tup, it_lst, it_scr, it_word, it_row, it_way, w_0, w_s, decide_true, decide_false, n_tup, n_lst, n_scr, n_word, n_row, n_way, eq_int, ne_int, c_int, en_tup, en_lst, zp_tup, zp_lst, zp_mix, m_yes, t_lst, t_tup, bind_s, a_int, s_int, g_ii, g_ib, is_non, isnt_non, rv_tup, rv_lst, not_true_eq_false, ne_eq, Nat.zero_le, okStr, pj]
    exact ⟨nr_str _, by simp⟩
theorem pool_wd : ∀ h ∈ pool, h.length ≤ 8 ∧ 32 ∉ TL.tl h ∧ 10 ∉ TL.tl h := by
  intro h hh
  simp only [pool, List.mem_cons, List.not_mem_nil, or_false] at hh
  rcases hh with rfl | rfl | rfl | rfl | rfl | rfl | rfl | rfl <;> decide +kernel
structure Gd (c : List Str × List (List (List Int))) : Prop where
  H : Heads c.1
  W : Wd c.1
  hw : ∀ w ∈ c.2, WayOk c.1.length w
  w0 : c.2 ≠ []
  w4 : c.2.length ≤ 4
theorem wd_of {hs : List Str} (H : Heads hs) (hp : ∀ h ∈ hs, h ∈ pool) : Wd hs := ⟨H.ne, H.six, fun h hh => (pool_wd h (hp h hh)).1, fun h hh => (pool_wd h (hp h hh)).2⟩
def prD (c : List Str × List (List (List Int))) : D := .lst [.tup (c.1.map .str), .tup (c.2.map wayD)]
def coD (c : List Str × List (List (List Int))) : D := cncl c.1 c.2
theorem nr_pr (c : List Str × List (List (List Int))) : Nr (prD c) := nr_lst fun d hd => by
  simp only [List.mem_cons, List.not_mem_nil, or_false] at hd
  rcases hd with rfl | rfl
  · exact nr_tup (nr_map nr_str)
  · exact nr_tup (nr_map nr_way)

end Ag.k02

namespace Ag.k02
open PySem

theorem rb_ways {n : Nat} {ws : List (List (List Int))} (hw : ∀ w ∈ ws, WayOk n w) (hn : n ≤ 6) (h6 : ws.length ≤ 6) : Rb 3 20000 (.tup (ws.map wayD)) :=
  (rb_tup (k := 2) (B := 2000) (n := 6) (fun d hd => by
    obtain ⟨w, hm, rfl⟩ := List.mem_map.mp hd
    exact (rb_tup (k := 1) (B := 300) (n := 6) (fun d hd => by
      obtain ⟨r, hr, rfl⟩ := List.mem_map.mp hd
      have ro := (hw w hm).row r hr
      exact (rb_tup (k := 0) (B := 41) (n := 6) (fun d hd => by
        obtain ⟨i, hi, rfl⟩ := List.mem_map.mp hd
        have b := ro.in_ i hi
        exact rb_int (k := 40) (by decide) (by have e : (2 : Nat) ^ 40 = 1099511627776 := by decide
                                               omega) (by decide)) (by rw [List.length_map, ro.len]; exact hn)).up (by decide) (by decide)) (by rw [List.length_map, (hw w hm).len]; exact hn)).up (by decide) (by decide)) (by rw [List.length_map]; exact h6)).up (by decide) (by decide)
theorem bool_ok {hs : List Str} {ws : List (List (List Int))} (S : Sto) : boolF "Council" F_Councild_boold [cncl hs ws] S = .ok (.bl true) S := rfl
theorem rb_told {c : List Str × List (List (List Int))} (g : Gd c) : Rb 4 500000 (.lst [.tup (c.1.map .str), .tup (c.2.map wayD), .int (c.1.length : Int), .str (pageS c.1 c.2), .bl true, .bl true, .bl false]) := by
  have c6 : c.2.length ≤ 6 := by have := g.w4; omega
  have n6 := g.H.six
  refine (rb_lst (k := 3) (B := 40000) (n := 7) (fun d hd => ?_) (by simp)).up (by decide) (by decide)
  simp only [List.mem_cons, List.not_mem_nil, or_false] at hd
  rcases hd with rfl | rfl | rfl | rfl | rfl | rfl | rfl
  · exact (rb_tup (k := 0) (B := 82) (n := 6) (fun d hd => by
      obtain ⟨x, hx, rfl⟩ := List.mem_map.mp hd
      exact rb_str (n := 8) (fun c hc => tl_ok (g.H.ok x hx) hc) (g.W.len x hx)) (by rw [List.length_map]; exact n6)).up (by decide) (by decide)
  · exact (rb_ways g.hw n6 c6).up (by decide) (by decide)
  · exact (rb_int (k := 10) (by decide) (by have e : (2 : Nat) ^ 10 = 1024 := by decide
                                            omega) (by decide)).up (by decide) (by decide)
  · exact (rb_str (n := 3000) (fun z hz => page_sign g.H.ok g.hw hz) (page_slen g.W g.hw n6 c6)).up (by decide) (by decide)
  · exact ⟨.bool true, rfl, rfl, rfl, by simp [PyData.depth], by decide +kernel⟩
  · exact ⟨.bool true, rfl, rfl, rfl, by simp [PyData.depth], by decide +kernel⟩
  · exact ⟨.bool false, rfl, rfl, rfl, by simp [PyData.depth], by decide +kernel⟩
theorem right_ok {S : Sto} {i : Nat} (h : Jg S i) : (F_right_l [.ref i] S).sat fun v S' => v = .bl true ∧ Lk S S' i := by
  unfold F_right_l
  simp only [f_run, List.map_cons, List.map_nil, List.length_cons, List.length_nil, Nat.zero_add, Nat.reduceAdd, Nat.reduceSub, List.replicate_succ, List.replicate_zero, List.cons_append, List.nil_append]
  unfold s_right_l
  have r5 : ∀ S : Sto, rg1 [.int 5] S = some (rgIt 0 5) := fun S => rg1_len 5 S (by decide)
  try simp only [p_seqL, p_par, p_par3, p_asgN, p_asg, p_expr, p_ret, p_nil, p_pass, p_if, p_for, p_try, q_cons, q_nil, q_cb, q_cr, q_call, q_callK, q_prop, q_make, q_bm, q_var, q_c, q_op, q_un, q_b, q_andB, q_orB, q_notB, q_andV, q_orV, q_notV, q_if, q_chain, q_tup, q_lst, q_lstC, q_lc, q_lcC, q_lc2, q_itV, q_itA, q_sl, q_oN, q_oS, sl_0, sl_s, os_some, os_if, f_1, ex_pair, ex_trip, g_unpS, gs_consS, gs_nilS, g_nm, g_subS, sq_tup, sq_lst, List.set_cons_zero, List.set_cons_succ, List.length_cons, List.length_nil, List.length_map, true_and, and_true, b_bl, Bool.not_true, Bool.not_false, Bool.false_eq_true, if_false, if_true, r_ok, i_int, sl_tup, sl_lst, it_tup, it_lst, it_scr, it_word, it_row, it_way, w_0, w_s, decide_true, decide_false, n_tup, n_lst, n_scr, n_word, n_row, n_way, eq_int, ne_int, c_int, en_tup, en_lst, zp_tup, zp_lst, zp_mix, m_yes, t_lst, t_tup, bind_s, a_int, s_int, g_ii, g_ib, is_non, isnt_non, rv_tup, rv_lst, not_true_eq_false, ne_eq, Nat.zero_le, r5]
  refine for_T (li_rg0 5) (fun k en S' => ∃ x1 x2 x3 x4 x5 x6 x7, en = [some (.ref i), x1, x2, x3, x4, x5, x6, x7] ∧ Lk S S' i) ⟨none, none, none, none, none, none, none, rfl, Lk.refl h⟩ ?_ ?_
  · rintro k d en S1 hd hm ⟨x1, x2, x3, x4, x5, x6, x7, rfl, l1⟩
    try simp only [p_seqL, p_par, p_par3, p_asgN, p_asg, p_expr, p_ret, p_nil, p_pass, p_if, p_for, p_try, q_cons, q_nil, q_cb, q_cr, q_call, q_callK, q_prop, q_make, q_bm, q_var, q_c, q_op, q_un, q_b, q_andB, q_orB, q_notB, q_andV, q_orV, q_notV, q_if, q_chain, q_tup, q_lst, q_lstC, q_lc, q_lcC, q_lc2, q_itV, q_itA, q_sl, q_oN, q_oS, sl_0, sl_s, os_some, os_if, f_1, ex_pair, ex_trip, g_unpS, gs_consS, gs_nilS, g_nm, g_subS, sq_tup, sq_lst, List.set_cons_zero, List.set_cons_succ, List.length_cons, List.length_nil, List.length_map, true_and, and_true, b_bl, Bool.not_true, Bool.not_false, Bool.false_eq_true, if_false, if_true, r_ok, i_int, sl_tup, sl_lst, it_tup, it_lst, it_scr, it_word, it_row, it_way, w_0, w_s, decide_true, decide_false, n_tup, n_lst, n_scr, n_word, n_row, n_way, eq_int, ne_int, c_int, en_tup, en_lst, zp_tup, zp_lst, zp_mix, m_yes, t_lst, t_tup, bind_s, a_int, s_int, g_ii, g_ib, is_non, isnt_non, rv_tup, rv_lst, not_true_eq_false, ne_eq, Nat.zero_le]
    refine (pair_drawP l1.jg (by decide) (by decide)).mono ?_
    rintro v S2 ⟨⟨hs, ws, rfl, H, hp, _, hw, w0, w4⟩, l2⟩
    have g : Gd (hs, ws) := ⟨H, wd_of H hp, hw, w0, w4⟩
    have W : Wd hs := wd_of H hp
    have c6 : ws.length ≤ 6 := by omega
    have l12 := l1.trans l2
    have Sc := l12.jg.cl
    have mk := make_ok H hw w0 c6 Sc
    have pg := page_ok W hw H.six c6 Sc
    have rd := read_ok H W hw w0 c6 Sc
    have st := strF_ok W hw H.six c6 S2
    have i0 : fIx (.lst [cncl hs ws, cncl hs ws, cncl hs ws]) (.int 0) S2 = some (cncl hs ws) := ix_lst _ 0 S2
    have ad : fAdd (.lst [cncl hs ws, cncl hs ws, cncl hs ws]) (.lst [cncl hs ws, cncl hs ws]) S2 = some (.lst ((List.replicate 5 ()).map fun _ => cncl hs ws)) := rfl
    try simp only [p_seqL, p_par, p_par3, p_asgN, p_asg, p_expr, p_ret, p_nil, p_pass, p_if, p_for, p_try, q_cons, q_nil, q_cb, q_cr, q_call, q_callK, q_prop, q_make, q_bm, q_var, q_c, q_op, q_un, q_b, q_andB, q_orB, q_notB, q_andV, q_orV, q_notV, q_if, q_chain, q_tup, q_lst, q_lstC, q_lc, q_lcC, q_lc2, q_itV, q_itA, q_sl, q_oN, q_oS, sl_0, sl_s, os_some, os_if, f_1, ex_pair, ex_trip, g_unpS, gs_consS, gs_nilS, g_nm, g_subS, sq_tup, sq_lst, List.set_cons_zero, List.set_cons_succ, List.length_cons, List.length_nil, List.length_map, true_and, and_true, b_bl, Bool.not_true, Bool.not_false, Bool.false_eq_true, if_false, if_true, r_ok, i_int, sl_tup, sl_lst, it_tup, it_lst, it_scr, it_word, it_row, it_way, w_0, w_s, decide_true, decide_false, n_tup, n_lst, n_scr, n_word, n_row, n_way, eq_int, ne_int, c_int, en_tup, en_lst, zp_tup, zp_lst, zp_mix, m_yes, t_lst, t_tup, bind_s, a_int, s_int, g_ii, g_ib, is_non, isnt_non, rv_tup, rv_lst, not_true_eq_false, ne_eq, Nat.zero_le]
    rw [later_eq]
    try simp only [p_seqL, p_par, p_par3, p_asgN, p_asg, p_expr, p_ret, p_nil, p_pass, p_if, p_for, p_try, q_cons, q_nil, q_cb, q_cr, q_call, q_callK, q_prop, q_make, q_bm, q_var, q_c, q_op, q_un, q_b, q_andB, q_orB, q_notB, q_andV, q_orV, q_notV, q_if, q_chain, q_tup, q_lst, q_lstC, q_lc, q_lcC, q_lc2, q_itV, q_itA, q_sl, q_oN, q_oS, sl_0, sl_s, os_some, os_if, f_1, ex_pair, ex_trip, g_unpS, gs_consS, gs_nilS, g_nm, g_subS, sq_tup, sq_lst, List.set_cons_zero, List.set_cons_succ, List.length_cons, List.length_nil, List.length_map, true_and, and_true, b_bl, Bool.not_true, Bool.not_false, Bool.false_eq_true, if_false, if_true, r_ok, i_int, sl_tup, sl_lst, it_tup, it_lst, it_scr, it_word, it_row, it_way, w_0, w_s, decide_true, decide_false, n_tup, n_lst, n_scr, n_word, n_row, n_way, eq_int, ne_int, c_int, en_tup, en_lst, zp_tup, zp_lst, zp_mix, m_yes, t_lst, t_tup, bind_s, a_int, s_int, g_ii, g_ib, is_non, isnt_non, rv_tup, rv_lst, not_true_eq_false, ne_eq, Nat.zero_le, pg]
    rw [later_eq]
    have pk : pick [1, 0] [D.tup (ws.map wayD), D.tup (hs.map .str)] = [D.tup (hs.map .str), D.tup (ws.map wayD)] := rfl
    have pk1 : ∀ x : D, pick [0] [x] = [x] := fun _ => rfl
    try simp only [p_seqL, p_par, p_par3, p_asgN, p_asg, p_expr, p_ret, p_nil, p_pass, p_if, p_for, p_try, q_cons, q_nil, q_cb, q_cr, q_call, q_callK, q_prop, q_make, q_bm, q_var, q_c, q_op, q_un, q_b, q_andB, q_orB, q_notB, q_andV, q_orV, q_notV, q_if, q_chain, q_tup, q_lst, q_lstC, q_lc, q_lcC, q_lc2, q_itV, q_itA, q_sl, q_oN, q_oS, sl_0, sl_s, os_some, os_if, f_1, ex_pair, ex_trip, g_unpS, gs_consS, gs_nilS, g_nm, g_subS, sq_tup, sq_lst, List.set_cons_zero, List.set_cons_succ, List.length_cons, List.length_nil, List.length_map, true_and, and_true, b_bl, Bool.not_true, Bool.not_false, Bool.false_eq_true, if_false, if_true, r_ok, i_int, sl_tup, sl_lst, it_tup, it_lst, it_scr, it_word, it_row, it_way, w_0, w_s, decide_true, decide_false, n_tup, n_lst, n_scr, n_word, n_row, n_way, eq_int, ne_int, c_int, en_tup, en_lst, zp_tup, zp_lst, zp_mix, m_yes, t_lst, t_tup, bind_s, a_int, s_int, g_ii, g_ib, is_non, isnt_non, rv_tup, rv_lst, not_true_eq_false, ne_eq, Nat.zero_le, mk, q_makeK, pk, q_cm, rd]
    refine ⟨by decide, ?_⟩
    rw [later_eq]
    try simp only [p_seqL, p_par, p_par3, p_asgN, p_asg, p_expr, p_ret, p_nil, p_pass, p_if, p_for, p_try, q_cons, q_nil, q_cb, q_cr, q_call, q_callK, q_prop, q_make, q_bm, q_var, q_c, q_op, q_un, q_b, q_andB, q_orB, q_notB, q_andV, q_orV, q_notV, q_if, q_chain, q_tup, q_lst, q_lstC, q_lc, q_lcC, q_lc2, q_itV, q_itA, q_sl, q_oN, q_oS, sl_0, sl_s, os_some, os_if, f_1, ex_pair, ex_trip, g_unpS, gs_consS, gs_nilS, g_nm, g_subS, sq_tup, sq_lst, List.set_cons_zero, List.set_cons_succ, List.length_cons, List.length_nil, List.length_map, true_and, and_true, b_bl, Bool.not_true, Bool.not_false, Bool.false_eq_true, if_false, if_true, r_ok, i_int, sl_tup, sl_lst, it_tup, it_lst, it_scr, it_word, it_row, it_way, w_0, w_s, decide_true, decide_false, n_tup, n_lst, n_scr, n_word, n_row, n_way, eq_int, ne_int, c_int, en_tup, en_lst, zp_tup, zp_lst, zp_mix, m_yes, t_lst, t_tup, bind_s, a_int, s_int, g_ii, g_ib, is_non, isnt_non, rv_tup, rv_lst, not_true_eq_false, ne_eq, Nat.zero_le, q_cmK, pk1, rd, q_cm, i0, st, ad]
    refine ⟨by decide, ?_⟩
    refine for_T (xs := List.replicate 5 ()) (e := fun _ => cncl hs ws) (li_ls _) (fun k en S' => ∃ x4 x7, en = [some (.ref i), some (.int (d : Int)), some (.str (pageS hs ws)), some (.lst [cncl hs ws, cncl hs ws, cncl hs ws]), x4, some (.tup (hs.map .str)), some (.tup (ws.map wayD)), x7] ∧ S' = S2) ⟨_, _, rfl, rfl⟩ ?_ ?_
    · rintro k' _ en S' _ _ ⟨x4, x7, rfl, rfl⟩
      have eqo : ∀ z : Bool, eqF "Council" F_Councild_eqd z (cncl hs ws) (cncl hs ws) S' = .ok (.bl (z ^^ true)) S' := fun z => by
        rw [eqF_ok H.ok H.ok z S', decide_eq_true (And.intro rfl rfl)]
      have cl : clsD (cncl hs ws) S' = some ("Council" : Str) := rfl
      have mi : F_Council_minds [cncl hs ws] S' = .ok (.tup (hs.map .str)) S' := rfl
      have wy : F_Council_ways [cncl hs ws] S' = .ok (.tup (ws.map wayD)) S' := ways_ok _ _ _
      have ln : lenF "Council" F_Councild_lend [cncl hs ws] S' = .ok (.int (hs.length : Int)) S' := by
        unfold lenF
        simp only [cl, if_true, len_c]
        rw [if_pos ⟨by omega, by have := H.six; omega⟩]
      have bo := bool_ok (hs := hs) (ws := ws) S'
      have i0 : fIx (.lst [cncl hs ws, cncl hs ws, cncl hs ws]) (.int 0) S' = some (cncl hs ws) := ix_lst _ 0 S'
      have nt : ∀ x : Str, fNe (.str x) (.str x) S' = some (.bl false) := fun x => ne_text x S'
      have gl : gLen (.tup (hs.map .str)) S' = some (.int (hs.length : Int)) := by
        show some (D.int ((hs.map D.str).length : Int)) = _
        simp
      obtain ⟨rt, hrt⟩ := repr_rb (rb_told g) (by decide) (by decide) S'
      try simp only [p_seqL, p_par, p_par3, p_asgN, p_asg, p_expr, p_ret, p_nil, p_pass, p_if, p_for, p_try, q_cons, q_nil, q_cb, q_cr, q_call, q_callK, q_prop, q_make, q_bm, q_var, q_c, q_op, q_un, q_b, q_andB, q_orB, q_notB, q_andV, q_orV, q_notV, q_if, q_chain, q_tup, q_lst, q_lstC, q_lc, q_lcC, q_lc2, q_itV, q_itA, q_sl, q_oN, q_oS, sl_0, sl_s, os_some, os_if, f_1, ex_pair, ex_trip, g_unpS, gs_consS, gs_nilS, g_nm, g_subS, sq_tup, sq_lst, List.set_cons_zero, List.set_cons_succ, List.length_cons, List.length_nil, List.length_map, true_and, and_true, b_bl, Bool.not_true, Bool.not_false, Bool.false_eq_true, if_false, if_true, r_ok, i_int, sl_tup, sl_lst, it_tup, it_lst, it_scr, it_word, it_row, it_way, w_0, w_s, decide_true, decide_false, n_tup, n_lst, n_scr, n_word, n_row, n_way, eq_int, ne_int, c_int, en_tup, en_lst, zp_tup, zp_lst, zp_mix, m_yes, t_lst, t_tup, bind_s, a_int, s_int, g_ii, g_ib, is_non, isnt_non, rv_tup, rv_lst, not_true_eq_false, ne_eq, Nat.zero_le, cl, mi, wy, ln, st, bo, q_opR, i0, eqo, Bool.false_xor, Bool.true_xor, Bool.not_true]
      refine ⟨by decide, ?_⟩
      rw [later_eq]
      try simp only [p_seqL, p_par, p_par3, p_asgN, p_asg, p_expr, p_ret, p_nil, p_pass, p_if, p_for, p_try, q_cons, q_nil, q_cb, q_cr, q_call, q_callK, q_prop, q_make, q_bm, q_var, q_c, q_op, q_un, q_b, q_andB, q_orB, q_notB, q_andV, q_orV, q_notV, q_if, q_chain, q_tup, q_lst, q_lstC, q_lc, q_lcC, q_lc2, q_itV, q_itA, q_sl, q_oN, q_oS, sl_0, sl_s, os_some, os_if, f_1, ex_pair, ex_trip, g_unpS, gs_consS, gs_nilS, g_nm, g_subS, sq_tup, sq_lst, List.set_cons_zero, List.set_cons_succ, List.length_cons, List.length_nil, List.length_map, true_and, and_true, b_bl, Bool.not_true, Bool.not_false, Bool.false_eq_true, if_false, if_true, r_ok, i_int, sl_tup, sl_lst, it_tup, it_lst, it_scr, it_word, it_row, it_way, w_0, w_s, decide_true, decide_false, n_tup, n_lst, n_scr, n_word, n_row, n_way, eq_int, ne_int, c_int, en_tup, en_lst, zp_tup, zp_lst, zp_mix, m_yes, t_lst, t_tup, bind_s, a_int, s_int, g_ii, g_ib, is_non, isnt_non, rv_tup, rv_lst, not_true_eq_false, ne_eq, Nat.zero_le, gl, hrt, nt]
      exact ⟨by decide, _, _, rfl⟩
    · rintro en S' ⟨x4, x7, rfl, rfl⟩
      exact ⟨_, _, _, _, _, _, _, rfl, l12⟩
  · rintro en S' ⟨x1, x2, x3, x4, x5, x6, x7, rfl, l1⟩
    rw [later_eq]
    try simp only [p_seqL, p_par, p_par3, p_asgN, p_asg, p_expr, p_ret, p_nil, p_pass, p_if, p_for, p_try, q_cons, q_nil, q_cb, q_cr, q_call, q_callK, q_prop, q_make, q_bm, q_var, q_c, q_op, q_un, q_b, q_andB, q_orB, q_notB, q_andV, q_orV, q_notV, q_if, q_chain, q_tup, q_lst, q_lstC, q_lc, q_lcC, q_lc2, q_itV, q_itA, q_sl, q_oN, q_oS, sl_0, sl_s, os_some, os_if, f_1, ex_pair, ex_trip, g_unpS, gs_consS, gs_nilS, g_nm, g_subS, sq_tup, sq_lst, List.set_cons_zero, List.set_cons_succ, List.length_cons, List.length_nil, List.length_map, true_and, and_true, b_bl, Bool.not_true, Bool.not_false, Bool.false_eq_true, if_false, if_true, r_ok, i_int, sl_tup, sl_lst, it_tup, it_lst, it_scr, it_word, it_row, it_way, w_0, w_s, decide_true, decide_false, n_tup, n_lst, n_scr, n_word, n_row, n_way, eq_int, ne_int, c_int, en_tup, en_lst, zp_tup, zp_lst, zp_mix, m_yes, t_lst, t_tup, bind_s, a_int, s_int, g_ii, g_ib, is_non, isnt_non, rv_tup, rv_lst, not_true_eq_false, ne_eq, Nat.zero_le]
    exact l1

end Ag.k02

namespace Ag.k02
open PySem

theorem jug_ok {ns : List Int} {S : Sto} (hS : Cl S) (hl : ns.length ≤ 63) (k : Nat) : (F_jug_l [.scr (ns.map .int), .int (k : Int)] S).sat fun v S' => v = .ref S.length ∧ Jg S' S.length := by
  unfold F_jug_l
  rw [f_run]
  show (s_jug_l [some (.scr (ns.map .int)), some (.int (k : Int)), none, none, none] S).sat _ _
  unfold s_jug_l
  have m1 : mulOk 53 (k : Int) = true := by
    unfold mulOk
    rw [decide_eq_true (by decide)]; rfl
  have m2 : mulOk 37013 (k : Int) = true := by
    unfold mulOk
    rw [decide_eq_true (by decide)]; rfl
  have m3 : ∀ z : Int, mulOk z 59063 = true := fun z => mulOk_r (by decide)
  have rest : ∀ g : Int, (sSeq (sAsg (mOp fAdd (mC (.int 122949823)) (mOp fMul (mC (.int 37013)) (mVar 1))) (gNm 3))
      (sSeq (sFor (mItV (mOp fAdd (mLst (mCons (mVar 2) mNil)) (mSl (mVar 0) oNone (oSome (mC (.int 6)))))) (gNm 4) (sAsg (mOp fMod (mCB (f1 gInt) (mCons (mOp fAdd (mOp fMul (mVar 3) (mC (.int 59063))) (mVar 4)) mNil)) (mC (.int 2147483269))) (gNm 3)))
      (sRet (mLstC (mCons (mIf (mB (mOp fGe (mCB (f1 gAbs) (mCons (mVar 2) mNil)) (mOp fPow (mC (.int 10)) (mC (.int 18))))) (mCB (f1 gAbs) (mCons (mVar 2) mNil)) (mC (.int 0))) (mCons (mVar 3) (mCons (mC (.int 0)) mNil))))))
      [some (.scr (ns.map .int)), some (.int (k : Int)), some (.int g), none, none] S).sat (fun _ S' => D.non = .ref S.length ∧ Jg S' S.length) fun v S' => v = .ref S.length ∧ Jg S' S.length := fun g => by
    have ad : fAdd (.lst [.int g]) (.lst ((ns.map .int).take 6)) S = some (.lst ((g :: ns.take 6).map .int)) := by
      show (if 1 + ((ns.map D.int).take 6).length ≤ lineN then some (D.lst ([.int g] ++ (ns.map .int).take 6)) else none) = _
      rw [if_pos (by rw [List.length_take]; unfold lineN; omega)]
      simp [List.map_take]
    simp only [p_seq, p_asgN, q_op, q_c, q_var, sl_0, sl_s, os_some, fMul, m2, if_true, add_int, List.set_cons_zero, List.set_cons_succ, p_for, q_itV, q_lst, q_cons, q_nil, List.length_cons, List.length_nil, q_sl, q_oN, q_oS, intD, fSl, rdOf, Option.map_some, cut_6, ad, itOf]
    refine ⟨by decide, for_inv (li_ls _) (fun j en S' => ∃ (s : Int) (x : Option D), en = [some (.scr (ns.map .int)), some (.int (k : Int)), some (.int g), some (.int s), x] ∧ S' = S) ?_ ?_ ⟨_, none, rfl, rfl⟩⟩
    · rintro j d en S' hd ⟨s, x, rfl, rfl⟩
      obtain ⟨e, _, _, rfl⟩ := map_get hd
      simp only [g_nm, List.set_cons_zero, List.set_cons_succ, p_asgN, q_op, q_cb, q_cons, q_nil, q_c, q_var, sl_0, sl_s, os_some, fMul, m3, if_true, add_int, f1, gInt, fMod]
      simp only [show (0 : Int) < 2147483269 by decide, if_true, os_some]
      exact ⟨_, _, rfl, trivial⟩
    · rintro en S' ⟨s, x, rfl, rfl⟩
      have fin : ∀ a : Int, Jg (S' ++ [.lst [.int a, .int s, .int 0]]) S'.length := fun a => ⟨cl_app hS (bel_lst fun d hd => by
        simp only [List.mem_cons, List.not_mem_nil, or_false] at hd
        rcases hd with rfl | rfl | rfl <;> exact nr_int _), a, s, 0, by simp⟩
      simp only [p_ret, q_lstC, q_cons, q_nil, q_if, q_b, q_op, q_cb, q_c, q_var, sl_0, sl_s, os_some, f1, gAbs, fPow, os_if, fGe, cmpI, bOf, List.length_cons, List.length_nil]
      refine ⟨by decide, ?_⟩
      generalize (if g < 0 then -g else g) = ag
      by_cases hc : decide (10 ^ Int.toNat 18 ≤ ag) = true
      · rw [if_pos hc]; exact ⟨by decide, trivial, fin _⟩
      · rw [if_neg hc]; exact ⟨by decide, trivial, fin _⟩
  rw [p_seq, p_asgN]
  simp only [q_if, q_b, q_op, q_cb, q_cons, q_nil, q_c, q_var, sl_0, sl_s, os_some, f1, len_scr, List.length_map, fLt, cmpI, bOf, fMul, m1, if_true, add_int, List.set_cons_zero, List.set_cons_succ]
  by_cases hk : k < ns.length
  · have : decide ((k : Int) < (ns.length : Int)) = true := decide_eq_true (by omega)
    simp only [this, if_true, ix_scr]
    rw [show (ns.map D.int)[k]? = some (.int ns[k]) by rw [List.getElem?_map, List.getElem?_eq_getElem hk]; rfl, os_some]
    exact rest ns[k]
  · have : decide ((k : Int) < (ns.length : Int)) = false := decide_eq_false (by omega)
    simp only [this, Bool.false_eq_true, if_false]
    exact rest (53 * (k : Int) + 11)

theorem quiet_ok {S : Sto} {i : Nat} (h : Jg S i) : (F_quiet_l [.ref i] S).sat fun v S' => v = .bl true ∧ Lk S S' i := by
  unfold F_quiet_l
  simp only [f_run, List.map_cons, List.map_nil, List.length_cons, List.length_nil, Nat.zero_add, Nat.reduceAdd, Nat.reduceSub, List.replicate_succ, List.replicate_zero, List.cons_append, List.nil_append]
  unfold s_quiet_l
  simp only [p_seq, p_par, p_par3, p_asgN, p_asg, p_expr, p_ret, p_nil, p_pass, p_if, p_for, p_try, q_cons, q_nil, q_cb, q_cr, q_call, q_callK, q_prop, q_make, q_bm, q_var, q_c, q_op, q_un, q_b, q_andB, q_orB, q_notB, q_andV, q_orV, q_notV, q_if, q_chain, q_tup, q_lst, q_lstC, q_lc, q_lcC, q_lc2, q_itV, q_itA, q_sl, q_oN, q_oS, sl_0, sl_s, os_some, os_if, f_1, ex_pair, ex_trip, g_unpS, gs_consS, gs_nilS, g_nm, g_subS, sq_tup, sq_lst, List.set_cons_zero, List.set_cons_succ, List.length_cons, List.length_nil, List.length_map, true_and, and_true, b_bl, Bool.not_true, Bool.not_false, Bool.false_eq_true, if_false, if_true, r_ok, i_int, sl_tup, sl_lst, it_tup, it_lst, it_scr, it_word, it_row, it_way, w_0, w_s, decide_true, decide_false, n_tup, n_lst, n_scr, n_word, n_row, n_way, eq_int, ne_int, c_int, en_tup, en_lst, zp_tup, zp_lst, zp_mix, m_yes, t_lst, t_tup, bind_s, a_int, s_int, g_ii, g_ib, is_non, isnt_non, rv_tup, rv_lst, not_true_eq_false, ne_eq, Nat.zero_le]
  refine (right_ok h).mono ?_
  rintro v S1 ⟨rfl, l⟩
  simp only [p_seq, p_par, p_par3, p_asgN, p_asg, p_expr, p_ret, p_nil, p_pass, p_if, p_for, p_try, q_cons, q_nil, q_cb, q_cr, q_call, q_callK, q_prop, q_make, q_bm, q_var, q_c, q_op, q_un, q_b, q_andB, q_orB, q_notB, q_andV, q_orV, q_notV, q_if, q_chain, q_tup, q_lst, q_lstC, q_lc, q_lcC, q_lc2, q_itV, q_itA, q_sl, q_oN, q_oS, sl_0, sl_s, os_some, os_if, f_1, ex_pair, ex_trip, g_unpS, gs_consS, gs_nilS, g_nm, g_subS, sq_tup, sq_lst, List.set_cons_zero, List.set_cons_succ, List.length_cons, List.length_nil, List.length_map, true_and, and_true, b_bl, Bool.not_true, Bool.not_false, Bool.false_eq_true, if_false, if_true, r_ok, i_int, sl_tup, sl_lst, it_tup, it_lst, it_scr, it_word, it_row, it_way, w_0, w_s, decide_true, decide_false, n_tup, n_lst, n_scr, n_word, n_row, n_way, eq_int, ne_int, c_int, en_tup, en_lst, zp_tup, zp_lst, zp_mix, m_yes, t_lst, t_tup, bind_s, a_int, s_int, g_ii, g_ib, is_non, isnt_non, rv_tup, rv_lst, not_true_eq_false, ne_eq, Nat.zero_le]
  exact l
theorem law_good (ns : List Int) (hl : ns.length ≤ 63) : ∃ S, F_law [.scr (ns.map .int)] [] = .ok (.bl true) S := by
  suffices h : (F_law [.scr (ns.map .int)] []).sat fun v _ => v = .bl true by
    obtain ⟨v, S, e, rfl⟩ := h.eq
    exact ⟨S, e⟩
  unfold F_law
  rw [f_run]
  show (s_law [some (.scr (ns.map .int)), none] []).sat _ _
  unfold s_law
  obtain ⟨n, hn, h5⟩ : ∃ n : Nat, (if (if (5 : Int) < (ns.length : Int) then 5 else (ns.length : Int)) > 2 then (if (5 : Int) < (ns.length : Int) then 5 else (ns.length : Int)) else 2) = (n : Int) ∧ n ≤ 63 := by
    refine ⟨(if (if (5 : Int) < (ns.length : Int) then 5 else (ns.length : Int)) > 2 then (if (5 : Int) < (ns.length : Int) then 5 else (ns.length : Int)) else 2).toNat, ?_, ?_⟩ <;> split <;> (try split) <;> omega
  have r1 := rg1_len n ([] : Sto) (by omega)
  simp only [p_ret, q_cb, q_lc, q_itA, q_cons, q_nil, q_c, q_var, sl_0, sl_s, os_some, f1, len_scr, List.length_map, fMin2, fMax2, hn, r1]
  refine lc_inv (li_rg _ _) (fun k acc S' => Cl S' ∧ acc = List.replicate k (.bl true)) ?_ ?_ ⟨fun o ho => by simp at ho, rfl⟩
  · rintro k d acc S' hd ⟨hc, rfl⟩
    have hk : k < n := by
      have := (List.getElem?_eq_some_iff.mp hd).1
      simpa using this
    have ed : d = .int (k : Int) := by
      rw [List.getElem?_map, List.getElem?_range hk] at hd
      simpa using hd.symm
    subst ed
    simp only [wipeE, List.set_cons_zero, List.set_cons_succ, g_nm, mYes, r_ok, if_true, q_cons, q_nil, q_call, q_var, sl_0, sl_s, os_some, List.length_cons, List.length_nil, true_and]
    refine (jug_ok hc hl k).mono ?_
    rintro v S1 ⟨rfl, j1⟩
    refine (quiet_ok j1).mono ?_
    rintro v S2 ⟨rfl, l2⟩
    refine ⟨by rw [List.length_replicate]; unfold lineN; omega, l2.jg.cl, ?_⟩
    rw [List.replicate_succ']
  · rintro acc S' ⟨hc, rfl⟩
    rw [range_len]
    have := all_true n S'
    simp only [f1] at this
    simp only [this, os_some]


end Ag.k02

namespace Ag.k02
open PySem PySem.Spec PyProof.Rows L2
structure Kc (K : PySem.W.Frag) (mg : Str → Option Value) : Prop extends Kn fa fn ex K mg where
  iso : Iso K isoC isoT
  ex0 : cmB K "Council" "read" = true
  ex1 : PySem.W.findIn K (.ref (He.ga K "Council")) "__str__" = some (some (.ref (He.ma K (He.ga K "Council") "__str__"))) ∧ PySem.W.isFn K (.ref (He.ma K (He.ga K "Council") "__str__")) = true
  ex2 : PySem.W.findIn K (.ref (He.ga K "Council")) "__eq__" = some (some (.ref (He.ma K (He.ga K "Council") "__eq__"))) ∧ PySem.W.isFn K (.ref (He.ma K (He.ga K "Council") "__eq__")) = true
  ex3 : PySem.W.findIn K (.ref (He.ga K "Council")) "__ne__" = some (some (.builtin "object.__ne__")) ∧ PySem.W.mroIn K (He.ga K "Council") (.type "object") = some true
  ex4 : PySem.W.findIn K (.ref (He.ga K "Council")) "__bool__" = some (some (.ref (He.ma K (He.ga K "Council") "__bool__"))) ∧ PySem.W.isFn K (.ref (He.ma K (He.ga K "Council") "__bool__")) = true
  ex5 : PySem.W.findIn K (.ref (He.ga K "Council")) "__len__" = some (some (.ref (He.ma K (He.ga K "Council") "__len__"))) ∧ PySem.W.isFn K (.ref (He.ma K (He.ga K "Council") "__len__")) = true
  ex6 : ∃ p, PropOf K (He.ga K "Council") "ways" p (prG K "Council" "ways")
  ex7 : ∃ p, PropOf K (He.ga K "Council") "minds" p (prG K "Council" "minds")
theorem kc_of {K : PySem.W.Frag} {mg : Str → Option Value} (c : Kn fa fn ex K mg) : Kc K mg := by
  have h := c.t.ex
  simp only [ex, Bool.and_eq_true] at h
  exact { c with iso := isoB_ok h.1.1.1.1.1.1.1.1, ex0 := h.1.1.1.1.1.1.1.2, ex1 := ⟨He.eqO_ok (He.ba h.1.1.1.1.1.1.2).1, (He.ba h.1.1.1.1.1.1.2).2⟩, ex2 := ⟨He.eqO_ok (He.ba h.1.1.1.1.1.2).1, (He.ba h.1.1.1.1.1.2).2⟩, ex3 := neB_ok h.1.1.1.1.2, ex4 := ⟨He.eqO_ok (He.ba h.1.1.1.2).1, (He.ba h.1.1.1.2).2⟩, ex5 := ⟨He.eqO_ok (He.ba h.1.1.2).1, (He.ba h.1.1.2).2⟩, ex6 := propB_ok h.1.2, ex7 := propB_ok h.2 }
section
variable {P : Program} {w : World} {K : PySem.W.Frag} {mg : Str → Option Value} {base : Heap}
theorem sc_is_integer : FnScope N_is_integer ["value"] (defScope st_is_integer) := ⟨rfl, rfl, rfl, by decide +kernel, rfl, by decide +kernel, by decide +kernel⟩
theorem us_is_integer (C : Kc K mg) : ∃ fd, FnG P w K mg base 1 (df_is_integer.loc K) fd ["value"] (spOf K 1 F_is_integer) ∧ PySem.W.keepIn K (.ref (df_is_integer.loc K)) = true ∧ Binds K fd ["value"] [] ∧ FnAt K df_is_integer fd := by
  obtain ⟨fd, F⟩ := C.df 0 (d := df_is_integer) rfl
  refine ⟨fd, fn_ok F sc_is_integer fun cdv A outer s0 H E B => ?_, F.kp, F.bindsN fun _ _ _ _ _ _ us hl => match us, hl with | [_], _ => rfl, F⟩
  exact (ss_one (s_ret (e_and (e_cb (b_isi C.iso) rfl (C.free 9 rfl) bt_isinstance (a_cons (vr 0) (a_cons (g_ty (C.free 11 rfl) bt_int) a_nil))) (e_one (e_not (e_cb (b_isi C.iso) rfl (C.free 9 rfl) bt_isinstance (a_cons (vr 0) (a_cons (g_ty (C.free 12 rfl) bt_bool) a_nil))))))))
theorem sc_is_within : FnScope N_is_within ["value", "least", "most"] (defScope st_is_within) := ⟨rfl, rfl, rfl, by decide +kernel, rfl, by decide +kernel, by decide +kernel⟩
theorem us_is_within (C : Kc K mg) : ∃ fd, FnG P w K mg base 2 (df_is_within.loc K) fd ["value", "least", "most"] (spOf K 3 F_is_within) ∧ PySem.W.keepIn K (.ref (df_is_within.loc K)) = true ∧ Binds K fd ["value", "least", "most"] [] ∧ FnAt K df_is_within fd := by
  obtain ⟨fd0, G0, k0, b0, A0⟩ := us_is_integer (P := P) (w := w) (base := base) C
  obtain ⟨fd, F⟩ := C.df 1 (d := df_is_within) rfl
  refine ⟨fd, fn_ok F sc_is_within fun cdv A outer s0 H E B => ?_, F.kp, F.bindsN fun _ _ _ _ _ _ us hl => match us, hl with | [_, _, _], _ => rfl, F⟩
  exact (ss_one (s_ret (e_and (e_call B G0 (by decide) rfl (C.glo 13 rfl) k0 b0 (a_cons (vr 0) a_nil)) (e_one (e_chain o_le o_le (vr 1) (vr 0) (vr 2))))))
theorem sc_is_row : FnScope N_is_row ["value", "count"] (defScope st_is_row) := ⟨rfl, rfl, rfl, by decide +kernel, rfl, by decide +kernel, by decide +kernel⟩
theorem us_is_row (C : Kc K mg) : ∃ fd, FnG P w K mg base 3 (df_is_row.loc K) fd ["value", "count"] (spOf K 2 F_is_row) ∧ PySem.W.keepIn K (.ref (df_is_row.loc K)) = true ∧ Binds K fd ["value", "count"] [] ∧ FnAt K df_is_row fd := by
  obtain ⟨fd0, G0, k0, b0, A0⟩ := us_is_within (P := P) (w := w) (base := base) C
  obtain ⟨fd, F⟩ := C.df 2 (d := df_is_row) rfl
  refine ⟨fd, fn_ok F sc_is_row fun cdv A outer s0 H E B => ?_, F.kp, F.bindsN fun _ _ _ _ _ _ us hl => match us, hl with | [_, _], _ => rfl, F⟩
  exact (ss_cons (s_if (PW.pt (w_or (t_not (t_val (e_cb (b_isi C.iso) rfl (C.free 9 rfl) bt_isinstance (a_cons (vr 0) (a_cons (g_ty (C.free 10 rfl) bt_tuple) a_nil))))) (w_or1 (t_cmp (o_ne B.u64) (e_cb b_len rfl (C.free 3 rfl) bt_len (a_cons (vr 0) a_nil)) (vr 1) (nomark _))))) (ss_one (s_ret k_bl)) ss_nil)
  (ss_one (s_ret (e_and (e_cb (b_all B.calm) rfl (C.free 0 rfl) bt_all (a_cons (e_lc B.calm sc_is_row.nd (i_val (vr 0)) (own := [("weight", 2)]) (blk_ok (by kernel_rfl)) (fun _ _ _ _ _ => (gw_name (i := 2) (by decide) sc_is_row.nd rfl (by first | exact Or.inl rfl | exact Or.inr rfl))) (fun _ _ _ _ _ => ts_nil) (fun _ _ _ _ _ => (e_call (bd_blk B) G0 (by decide) rfl (C.glo 14 rfl) k0 b0 (a_cons (vr 2) (a_cons k_int (a_cons (g_int (C.int 15 rfl)) a_nil)))))) a_nil)) (e_one (e_cmp o_gt (e_cb (b_sum B.calm) rfl (C.free 16 rfl) bt_sum (a_cons (vr 0) a_nil)) k_int (nomark _)))))))
theorem sc_is_way : FnScope N_is_way ["value", "count"] (defScope st_is_way) := ⟨rfl, rfl, rfl, by decide +kernel, rfl, by decide +kernel, by decide +kernel⟩
theorem us_is_way (C : Kc K mg) : ∃ fd, FnG P w K mg base 4 (df_is_way.loc K) fd ["value", "count"] (spOf K 2 F_is_way) ∧ PySem.W.keepIn K (.ref (df_is_way.loc K)) = true ∧ Binds K fd ["value", "count"] [] ∧ FnAt K df_is_way fd := by
  obtain ⟨fd0, G0, k0, b0, A0⟩ := us_is_row (P := P) (w := w) (base := base) C
  obtain ⟨fd, F⟩ := C.df 3 (d := df_is_way) rfl
  refine ⟨fd, fn_ok F sc_is_way fun cdv A outer s0 H E B => ?_, F.kp, F.bindsN fun _ _ _ _ _ _ us hl => match us, hl with | [_, _], _ => rfl, F⟩
  exact (ss_one (s_ret (e_and (e_cb (b_isi C.iso) rfl (C.free 9 rfl) bt_isinstance (a_cons (vr 0) (a_cons (g_ty (C.free 10 rfl) bt_tuple) a_nil))) (e_and (e_cmp (o_eq B.u64) (e_cb b_len rfl (C.free 3 rfl) bt_len (a_cons (vr 0) a_nil)) (vr 1) (nomark _)) (e_one (e_cb (b_all B.calm) rfl (C.free 0 rfl) bt_all (a_cons (e_lc B.calm sc_is_way.nd (i_val (vr 0)) (own := [("row", 2)]) (blk_ok (by kernel_rfl)) (fun _ _ _ _ _ => (gw_name (i := 2) (by decide) sc_is_way.nd rfl (by first | exact Or.inl rfl | exact Or.inr rfl))) (fun _ _ _ _ _ => ts_nil) (fun _ _ _ _ _ => (e_call (bd_blk B) G0 (by decide) rfl (C.glo 17 rfl) k0 b0 (a_cons (vr 2) (a_cons (vr 1) a_nil))))) a_nil)))))))
theorem sc_wrong_way : FnScope N_wrong_way ["ways", "count"] (defScope st_wrong_way) := ⟨rfl, rfl, rfl, by decide +kernel, rfl, by decide +kernel, by decide +kernel⟩
theorem us_wrong_way (C : Kc K mg) : ∃ fd, FnG P w K mg base 5 (df_wrong_way.loc K) fd ["ways", "count"] (spOf K 2 F_wrong_way) ∧ PySem.W.keepIn K (.ref (df_wrong_way.loc K)) = true ∧ Binds K fd ["ways", "count"] [] ∧ FnAt K df_wrong_way fd := by
  obtain ⟨fd0, G0, k0, b0, A0⟩ := us_is_way (P := P) (w := w) (base := base) C
  obtain ⟨fd, F⟩ := C.df 4 (d := df_wrong_way) rfl
  refine ⟨fd, fn_ok F sc_wrong_way fun cdv A outer s0 H E B => ?_, F.kp, F.bindsN fun _ _ _ _ _ _ us hl => match us, hl with | [_, _], _ => rfl, F⟩
  exact (ss_cons (s_if (PW.pt (w_or (t_not (t_val (e_cb (b_isi C.iso) rfl (C.free 9 rfl) bt_isinstance (a_cons (vr 0) (a_cons (g_ty (C.free 10 rfl) bt_tuple) a_nil))))) (w_or1 (t_cmp (o_eq B.u64) (e_cb b_len rfl (C.free 3 rfl) bt_len (a_cons (vr 0) a_nil)) k_int (nomark _))))) (ss_one (s_ret (e_tup (a_cons k_non a_nil)))) ss_nil)
  (ss_cons (s_for B.hp B.calm (j_enum rfl (C.free 8 rfl) (a_cons (vr 0) a_nil)) (g_unp B.calm (gs_cons (g_name (i := 2) sc_wrong_way.nd rfl (by first | exact Or.inl rfl | exact Or.inr rfl)) (gs_cons (g_name (i := 3) sc_wrong_way.nd rfl (by first | exact Or.inl rfl | exact Or.inr rfl)) gs_nil))) (ss_one (s_if (PW.pt (w_or (t_not (t_val (e_call B G0 (by decide) rfl (C.glo 18 rfl) k0 b0 (a_cons (vr 3) (a_cons (vr 1) a_nil))))) (w_or1 (t_cmp o_ge (vr 2) (g_int (C.int 19 rfl)) (nomark _))))) (ss_one (s_ret (e_tup (a_cons (vr 2) a_nil)))) ss_nil)))
  (ss_one (s_ret (e_tup a_nil)))))
theorem sc_is_name : FnScope N_is_name ["value"] (defScope st_is_name) := ⟨rfl, rfl, rfl, by decide +kernel, rfl, by decide +kernel, by decide +kernel⟩
theorem us_is_name (C : Kc K mg) : ∃ fd, FnG P w K mg base 1 (df_is_name.loc K) fd ["value"] (spOf K 1 F_is_name) ∧ PySem.W.keepIn K (.ref (df_is_name.loc K)) = true ∧ Binds K fd ["value"] [] ∧ FnAt K df_is_name fd := by
  obtain ⟨fd, F⟩ := C.df 5 (d := df_is_name) rfl
  refine ⟨fd, fn_ok F sc_is_name fun cdv A outer s0 H E B => ?_, F.kp, F.bindsN fun _ _ _ _ _ _ us hl => match us, hl with | [_], _ => rfl, F⟩
  exact (ss_cons (s_if (PW.pt (w_or (t_not (t_val (e_cb (b_isi C.iso) rfl (C.free 9 rfl) bt_isinstance (a_cons (vr 0) (a_cons (g_ty (C.free 23 rfl) bt_str) a_nil))))) (w_or1 (t_not (t_chain o_le o_le k_int (e_cb b_len rfl (C.free 3 rfl) bt_len (a_cons (vr 0) a_nil)) (g_int (C.int 24 rfl))))))) (ss_one (s_ret k_bl)) ss_nil)
  (ss_one (s_ret (e_and (e_cmp (o_in B.u65) (e_ix x_ix (vr 0) k_int (fun _ _ => rfl)) (g_str (C.str 21 rfl)) rfl) (e_one (e_cb (b_all B.calm) rfl (C.free 0 rfl) bt_all (a_cons (e_lc B.calm sc_is_name.nd (i_val (vr 0)) (own := [("sign", 1)]) (blk_ok (by kernel_rfl)) (fun _ _ _ _ _ => (gw_name (i := 1) (by decide) sc_is_name.nd rfl (by first | exact Or.inl rfl | exact Or.inr rfl))) (fun _ _ _ _ _ => ts_nil) (fun _ _ _ _ _ => (e_or (e_cmp (o_in (bd_blk B).u65) (vr 1) (g_str (C.str 21 rfl)) rfl) (e_one (e_cmp (o_in (bd_blk B).u65) (vr 1) (g_str (C.str 22 rfl)) rfl))))) a_nil)))))))
theorem sc_wrong_mind : FnScope N_wrong_mind ["minds"] (defScope st_wrong_mind) := ⟨rfl, rfl, rfl, by decide +kernel, rfl, by decide +kernel, by decide +kernel⟩
theorem us_wrong_mind (C : Kc K mg) : ∃ fd, FnG P w K mg base 2 (df_wrong_mind.loc K) fd ["minds"] (spOf K 1 F_wrong_mind) ∧ PySem.W.keepIn K (.ref (df_wrong_mind.loc K)) = true ∧ Binds K fd ["minds"] [] ∧ FnAt K df_wrong_mind fd := by
  obtain ⟨fd0, G0, k0, b0, A0⟩ := us_is_name (P := P) (w := w) (base := base) C
  obtain ⟨fd, F⟩ := C.df 6 (d := df_wrong_mind) rfl
  refine ⟨fd, fn_ok F sc_wrong_mind fun cdv A outer s0 H E B => ?_, F.kp, F.bindsN fun _ _ _ _ _ _ us hl => match us, hl with | [_], _ => rfl, F⟩
  exact (ss_cons (s_if (PW.pt (w_or (t_not (t_val (e_cb (b_isi C.iso) rfl (C.free 9 rfl) bt_isinstance (a_cons (vr 0) (a_cons (g_ty (C.free 10 rfl) bt_tuple) a_nil))))) (w_or1 (t_cmp (o_eq B.u64) (e_cb b_len rfl (C.free 3 rfl) bt_len (a_cons (vr 0) a_nil)) k_int (nomark _))))) (ss_one (s_ret (e_tup (a_cons k_non a_nil)))) ss_nil)
  (ss_cons (s_for B.hp B.calm (j_enum rfl (C.free 8 rfl) (a_cons (vr 0) a_nil)) (g_unp B.calm (gs_cons (g_name (i := 1) sc_wrong_mind.nd rfl (by first | exact Or.inl rfl | exact Or.inr rfl)) (gs_cons (g_name (i := 2) sc_wrong_mind.nd rfl (by first | exact Or.inl rfl | exact Or.inr rfl)) gs_nil))) (ss_one (s_if (PW.pt (w_or (t_not (t_val (e_call B G0 (by decide) rfl (C.glo 25 rfl) k0 b0 (a_cons (vr 2) a_nil)))) (w_or (t_cmp o_ge (vr 1) (g_int (C.int 26 rfl)) (nomark _)) (w_or1 (t_cmp (o_in B.u65) (vr 2) (e_sl (vr 0) o_none (o_some (vr 1))) rfl))))) (ss_one (s_ret (e_tup (a_cons (vr 1) a_nil)))) ss_nil)))
  (ss_one (s_ret (e_tup a_nil)))))
theorem sc_Councild_initd : FnScope N_Councild_initd ["self", "minds", "ways"] (defScope st_Councild_initd) := ⟨rfl, rfl, rfl, by decide +kernel, rfl, by decide +kernel, by decide +kernel⟩
theorem us_Councild_initd (C : Kc K mg) : ∃ fd, FnG P w K mg base 6 (df_Councild_initd.loc K) fd ["self", "minds", "ways"] (spOf K 3 F_Councild_initd) ∧ PySem.W.keepIn K (.ref (df_Councild_initd.loc K)) = true ∧ Binds K fd ["self", "minds", "ways"] [] ∧ FnAt K df_Councild_initd fd := by
  obtain ⟨fd0, G0, k0, b0, A0⟩ := us_wrong_way (P := P) (w := w) (base := base) C
  obtain ⟨fd1, G1, k1, b1, A1⟩ := us_wrong_mind (P := P) (w := w) (base := base) C
  obtain ⟨fd, F⟩ := C.df 7 (d := df_Councild_initd) rfl
  refine ⟨fd, fn_ok F sc_Councild_initd fun cdv A outer s0 H E B => ?_, F.kp, F.bindsN fun _ _ _ _ _ _ us hl => match us, hl with | [_, _, _], _ => rfl, F⟩
  exact (ss_cons (s_set (i := 3) sc_Councild_initd.nd rfl (by first | exact Or.inl rfl | exact Or.inr rfl) (e_call B G1 (by decide) rfl (C.glo 27 rfl) k1 b1 (a_cons (vr 1) a_nil)))
  (ss_cons (s_if (t_cmp (o_ne B.u64) (vr 3) (e_tup a_nil) (nomark _)) (ss_one s_never) ss_nil)
  (ss_cons (s_set (i := 3) sc_Councild_initd.nd rfl (by first | exact Or.inl rfl | exact Or.inr rfl) (e_call B G0 (by decide) rfl (C.glo 20 rfl) k0 b0 (a_cons (vr 2) (a_cons (e_cb b_len rfl (C.free 3 rfl) bt_len (a_cons (vr 1) a_nil)) a_nil))))
  (ss_cons (s_if (t_cmp (o_ne B.u64) (vr 3) (e_tup a_nil) (nomark _)) (ss_one s_never) ss_nil)
  (ss_cons (s_fld (one_ ⟨He.cls_ok (C.ok 5 rfl), He.noat_ok (C.ok 7 rfl)⟩) (vr 0) (vr 1))
  (ss_one (s_fld (one_ ⟨He.cls_ok (C.ok 5 rfl), He.noat_ok (C.ok 6 rfl)⟩) (vr 0) (vr 2))))))))
theorem sc_read_number : FnScope N_read_number ["word"] (defScope st_read_number) := ⟨rfl, rfl, rfl, by decide +kernel, rfl, by decide +kernel, by decide +kernel⟩
theorem us_read_number (C : Kc K mg) : ∃ fd, FnG P w K mg base 1 (df_read_number.loc K) fd ["word"] (spOf K 1 F_read_number) ∧ PySem.W.keepIn K (.ref (df_read_number.loc K)) = true ∧ Binds K fd ["word"] [] ∧ FnAt K df_read_number fd := by
  obtain ⟨fd, F⟩ := C.df 8 (d := df_read_number) rfl
  refine ⟨fd, fn_ok F sc_read_number fun cdv A outer s0 H E B => ?_, F.kp, F.bindsN fun _ _ _ _ _ _ us hl => match us, hl with | [_], _ => rfl, F⟩
  exact (ss_cons (s_if (PW.pt (w_or (t_cmp (o_eq B.u64) (vr 0) k_str (nomark _)) (w_or (t_cmp o_gt (e_cb b_len rfl (C.free 3 rfl) bt_len (a_cons (vr 0) a_nil)) k_int (nomark _)) (w_or1 (t_not (t_val (e_cb (b_all B.calm) rfl (C.free 0 rfl) bt_all (a_cons (e_lc B.calm sc_read_number.nd (i_val (vr 0)) (own := [("sign", 2)]) (blk_ok (by kernel_rfl)) (fun _ _ _ _ _ => (gw_name (i := 2) (by decide) sc_read_number.nd rfl (by first | exact Or.inl rfl | exact Or.inr rfl))) (fun _ _ _ _ _ => ts_nil) (fun _ _ _ _ _ => (e_cmp (o_in (bd_blk B).u65) (vr 2) (g_str (C.str 22 rfl)) rfl))) a_nil)))))))) (ss_one (s_ret k_non)) ss_nil)
  (ss_cons (s_set (i := 1) sc_read_number.nd rfl (by first | exact Or.inl rfl | exact Or.inr rfl) (e_cty b_int rfl (C.free 11 rfl) bt_int (a_cons (vr 0) a_nil)))
  (ss_one (s_ret (e_if (t_cmp (o_eq B.u64) (e_cty b_str rfl (C.free 23 rfl) bt_str (a_cons (vr 1) a_nil)) (vr 0) (nomark _)) (vr 1) k_non)))))
theorem sc_read_way : FnScope N_read_way ["line"] (defScope st_read_way) := ⟨rfl, rfl, rfl, by decide +kernel, rfl, by decide +kernel, by decide +kernel⟩
theorem us_read_way (C : Kc K mg) : ∃ fd, FnG P w K mg base 2 (df_read_way.loc K) fd ["line"] (spOf K 1 F_read_way) ∧ PySem.W.keepIn K (.ref (df_read_way.loc K)) = true ∧ Binds K fd ["line"] [] ∧ FnAt K df_read_way fd := by
  obtain ⟨fd0, G0, k0, b0, A0⟩ := us_read_number (P := P) (w := w) (base := base) C
  obtain ⟨fd, F⟩ := C.df 9 (d := df_read_way) rfl
  refine ⟨fd, fn_ok F sc_read_way fun cdv A outer s0 H E B => ?_, F.kp, F.bindsN fun _ _ _ _ _ _ us hl => match us, hl with | [_], _ => rfl, F⟩
  exact (ss_one (s_ret (e_cty b_tup rfl (C.free 10 rfl) bt_tuple (a_cons (e_lc B.calm sc_read_way.nd (i_val (e_bm PySem.F.plainAttrs_str PySem.F.slot_str_split PySem.F.type_str_split m_split tv_str (vr 0) (a_cons k_str a_nil))) (own := [("part", 1)]) (blk_ok (by kernel_rfl)) (fun _ _ _ _ _ => (gw_name (i := 1) (by decide) sc_read_way.nd rfl (by first | exact Or.inl rfl | exact Or.inr rfl))) (fun _ _ _ _ _ => ts_nil) (fun _ _ _ _ _ => (e_cty b_tup rfl (C.free 10 rfl) bt_tuple (a_cons (e_lc (bd_blk B).calm sc_read_way.nd (i_val (e_bm PySem.F.plainAttrs_str PySem.F.slot_str_split PySem.F.type_str_split m_split tv_str (vr 1) (a_cons k_str a_nil))) (own := [("word", 2)]) (blk_ok (by kernel_rfl)) (fun _ _ _ _ _ => (gw_name (i := 2) (by decide) sc_read_way.nd rfl (by first | exact Or.inl rfl | exact Or.inr rfl))) (fun _ _ _ _ _ => ts_nil) (fun _ _ _ _ _ => (e_call (bd_blk (bd_blk B)) G0 (by decide) rfl (C.glo 29 rfl) k0 b0 (a_cons (vr 2) a_nil)))) a_nil)))) a_nil))))
theorem sc_read_council : FnScope N_read_council ["text"] (defScope st_read_council) := ⟨rfl, rfl, rfl, by decide +kernel, rfl, by decide +kernel, by decide +kernel⟩
theorem us_read_council (C : Kc K mg) : ∃ fd, FnG P w K mg base 6 (df_read_council.loc K) fd ["text"] (spOf K 1 F_read_council) ∧ PySem.W.keepIn K (.ref (df_read_council.loc K)) = true ∧ Binds K fd ["text"] [] ∧ FnAt K df_read_council fd := by
  obtain ⟨fd0, G0, k0, b0, A0⟩ := us_wrong_mind (P := P) (w := w) (base := base) C
  obtain ⟨fd1, G1, k1, b1, A1⟩ := us_wrong_way (P := P) (w := w) (base := base) C
  obtain ⟨fd2, G2, k2, b2, A2⟩ := us_read_way (P := P) (w := w) (base := base) C
  obtain ⟨fd, F⟩ := C.df 10 (d := df_read_council) rfl
  refine ⟨fd, fn_ok F sc_read_council fun cdv A outer s0 H E B => ?_, F.kp, F.bindsN fun _ _ _ _ _ _ us hl => match us, hl with | [_], _ => rfl, F⟩
  exact (ss_cons (s_if (t_not (t_val (e_cb (b_isi C.iso) rfl (C.free 9 rfl) bt_isinstance (a_cons (vr 0) (a_cons (g_ty (C.free 23 rfl) bt_str) a_nil))))) (ss_one (s_ret k_non)) ss_nil)
  (ss_cons (s_set (i := 1) sc_read_council.nd rfl (by first | exact Or.inl rfl | exact Or.inr rfl) (e_bm PySem.F.plainAttrs_str PySem.F.slot_str_split PySem.F.type_str_split m_split tv_str (vr 0) (a_cons k_str a_nil)))
  (ss_cons (s_par (i := 2) (j := 3) B.calm sc_read_council.nd rfl rfl (by decide) rfl rfl (a_cons (e_cty b_tup rfl (C.free 10 rfl) bt_tuple (a_cons (e_bm PySem.F.plainAttrs_str PySem.F.slot_str_split PySem.F.type_str_split m_split tv_str (e_ix x_ix (vr 1) k_int (fun _ _ => rfl)) (a_cons k_str a_nil)) a_nil)) (a_cons (e_cty b_tup rfl (C.free 10 rfl) bt_tuple (a_cons (e_lc B.calm sc_read_council.nd (i_val (e_sl (vr 1) (o_some k_int) o_none)) (own := [("line", 4)]) (blk_ok (by kernel_rfl)) (fun _ _ _ _ _ => (gw_name (i := 4) (by decide) sc_read_council.nd rfl (by first | exact Or.inl rfl | exact Or.inr rfl))) (fun _ _ _ _ _ => ts_nil) (fun _ _ _ _ _ => (e_call (bd_blk B) G2 (by decide) rfl (C.glo 30 rfl) k2 b2 (a_cons (vr 4) a_nil)))) a_nil)) a_nil)) rfl)
  (ss_cons (s_if (PW.pt (w_or (t_cmp (o_ne B.u64) (e_call B G0 (by decide) rfl (C.glo 27 rfl) k0 b0 (a_cons (vr 2) a_nil)) (e_tup a_nil) (nomark _)) (w_or1 (t_cmp (o_ne B.u64) (e_call B G1 (by decide) rfl (C.glo 20 rfl) k1 b1 (a_cons (vr 3) (a_cons (e_cb b_len rfl (C.free 3 rfl) bt_len (a_cons (vr 2) a_nil)) a_nil))) (e_tup a_nil) (nomark _))))) (ss_one (s_ret k_non)) ss_nil)
  (ss_one (s_ret (e_tup (a_cons (vr 2) (a_cons (vr 3) a_nil)))))))))
theorem sc_Council_read : FnScope N_Council_read ["cls", "text"] (defScope st_Council_read) := ⟨rfl, rfl, rfl, by decide +kernel, rfl, by decide +kernel, by decide +kernel⟩
theorem us_Council_read (C : Kc K mg) : ∃ fd, FnG P w K mg base 8 (df_Council_read.loc K) fd ["cls", "text"] (spOf K 2 F_Council_read) ∧ PySem.W.keepIn K (.ref (df_Council_read.loc K)) = true ∧ Binds K fd ["cls", "text"] [] ∧ FnAt K df_Council_read fd := by
  obtain ⟨fd0, G0, k0, b0, A0⟩ := us_Councild_initd (P := P) (w := w) (base := base) C
  obtain ⟨fd1, G1, k1, b1, A1⟩ := us_read_council (P := P) (w := w) (base := base) C
  obtain ⟨fd, F⟩ := C.df 11 (d := df_Council_read) rfl
  refine ⟨fd, fn_ok F sc_Council_read fun cdv A outer s0 H E B => ?_, F.kp, F.bindsN fun _ _ _ _ _ _ us hl => match us, hl with | [_, _], _ => rfl, F⟩
  exact (ss_cons (s_set (i := 2) sc_Council_read.nd rfl (by first | exact Or.inl rfl | exact Or.inr rfl) (e_call B G1 (by decide) rfl (C.glo 31 rfl) k1 b1 (a_cons (vr 1) a_nil)))
  (ss_cons (s_if (t_cmp o_is (vr 2) k_non (nomark _)) (ss_one s_never) ss_nil)
  (ss_one (s_ret (e_makeL (frz := true) (i := 0) B (He.mkr_ok (C.ok 28 rfl)) G0 (by decide) b0 (a_cons (e_ix x_ix (vr 2) k_int (fun _ _ => rfl)) (a_cons (e_ix x_ix (vr 2) k_int (fun _ _ => rfl)) a_nil)))))))
theorem sc_way_text : FnScope N_way_text ["way"] (defScope st_way_text) := ⟨rfl, rfl, rfl, by decide +kernel, rfl, by decide +kernel, by decide +kernel⟩
theorem us_way_text (C : Kc K mg) : ∃ fd, FnG P w K mg base 1 (df_way_text.loc K) fd ["way"] (spOf K 1 F_way_text) ∧ PySem.W.keepIn K (.ref (df_way_text.loc K)) = true ∧ Binds K fd ["way"] [] ∧ FnAt K df_way_text fd := by
  obtain ⟨fd, F⟩ := C.df 12 (d := df_way_text) rfl
  refine ⟨fd, fn_ok F sc_way_text fun cdv A outer s0 H E B => ?_, F.kp, F.bindsN fun _ _ _ _ _ _ us hl => match us, hl with | [_], _ => rfl, F⟩
  exact (ss_cons (s_set (i := 1) sc_way_text.nd rfl (by first | exact Or.inl rfl | exact Or.inr rfl) (e_lst a_nil))
  (ss_cons (s_for B.hp B.calm (i_val (vr 0)) (g_name (i := 2) sc_way_text.nd rfl (by first | exact Or.inl rfl | exact Or.inr rfl)) (ss_one (s_set (i := 1) sc_way_text.nd rfl (by first | exact Or.inl rfl | exact Or.inr rfl) (e_op o_add (vr 1) (e_lst (a_cons (e_bm PySem.F.plainAttrs_str PySem.F.slot_str_join PySem.F.type_str_join m_join tv_str k_str (a_cons (e_lc B.calm sc_way_text.nd (i_val (vr 2)) (own := [("weight", 3)]) (blk_ok (by kernel_rfl)) (fun _ _ _ _ _ => (gw_name (i := 3) (by decide) sc_way_text.nd rfl (by first | exact Or.inl rfl | exact Or.inr rfl))) (fun _ _ _ _ _ => ts_nil) (fun _ _ _ _ _ => (e_cty b_str rfl (C.free 23 rfl) bt_str (a_cons (vr 3) a_nil)))) a_nil)) a_nil))))))
  (ss_one (s_ret (e_bm PySem.F.plainAttrs_str PySem.F.slot_str_join PySem.F.type_str_join m_join tv_str k_str (a_cons (vr 1) a_nil))))))
theorem sc_lines_of : FnScope N_lines_of ["minds", "ways"] (defScope st_lines_of) := ⟨rfl, rfl, rfl, by decide +kernel, rfl, by decide +kernel, by decide +kernel⟩
theorem us_lines_of (C : Kc K mg) : ∃ fd, FnG P w K mg base 2 (df_lines_of.loc K) fd ["minds", "ways"] (spOf K 2 F_lines_of) ∧ PySem.W.keepIn K (.ref (df_lines_of.loc K)) = true ∧ Binds K fd ["minds", "ways"] [] ∧ FnAt K df_lines_of fd := by
  obtain ⟨fd0, G0, k0, b0, A0⟩ := us_way_text (P := P) (w := w) (base := base) C
  obtain ⟨fd, F⟩ := C.df 13 (d := df_lines_of) rfl
  refine ⟨fd, fn_ok F sc_lines_of fun cdv A outer s0 H E B => ?_, F.kp, F.bindsN fun _ _ _ _ _ _ us hl => match us, hl with | [_, _], _ => rfl, F⟩
  exact (ss_one (s_ret (e_op o_add (e_lst (a_cons (e_bm PySem.F.plainAttrs_str PySem.F.slot_str_join PySem.F.type_str_join m_join tv_str k_str (a_cons (vr 0) a_nil)) a_nil)) (e_lc B.calm sc_lines_of.nd (i_val (vr 1)) (own := [("way", 2)]) (blk_ok (by kernel_rfl)) (fun _ _ _ _ _ => (gw_name (i := 2) (by decide) sc_lines_of.nd rfl (by first | exact Or.inl rfl | exact Or.inr rfl))) (fun _ _ _ _ _ => ts_nil) (fun _ _ _ _ _ => (e_call (bd_blk B) G0 (by decide) rfl (C.glo 33 rfl) k0 b0 (a_cons (vr 2) a_nil)))))))
theorem sc_Councild_strd : FnScope N_Councild_strd ["self"] (defScope st_Councild_strd) := ⟨rfl, rfl, rfl, by decide +kernel, rfl, by decide +kernel, by decide +kernel⟩
theorem us_Councild_strd (C : Kc K mg) : ∃ fd, FnG P w K mg base 3 (df_Councild_strd.loc K) fd ["self"] (spOf K 1 F_Councild_strd) ∧ PySem.W.keepIn K (.ref (df_Councild_strd.loc K)) = true ∧ Binds K fd ["self"] [] ∧ FnAt K df_Councild_strd fd := by
  obtain ⟨fd0, G0, k0, b0, A0⟩ := us_lines_of (P := P) (w := w) (base := base) C
  obtain ⟨fd, F⟩ := C.df 14 (d := df_Councild_strd) rfl
  refine ⟨fd, fn_ok F sc_Councild_strd fun cdv A outer s0 H E B => ?_, F.kp, F.bindsN fun _ _ _ _ _ _ us hl => match us, hl with | [_], _ => rfl, F⟩
  exact (ss_cons (s_set (i := 1) sc_Councild_strd.nd rfl (by first | exact Or.inl rfl | exact Or.inr rfl) (e_call B G0 (by decide) rfl (C.glo 34 rfl) k0 b0 (a_cons (e_fld (one_ ⟨He.cls_ok (C.ok 5 rfl), He.noat_ok (C.ok 7 rfl)⟩) (vr 0)) (a_cons (e_fld (one_ ⟨He.cls_ok (C.ok 5 rfl), He.noat_ok (C.ok 6 rfl)⟩) (vr 0)) a_nil))))
  (ss_one (s_ret (e_bm PySem.F.plainAttrs_str PySem.F.slot_str_join PySem.F.type_str_join m_join tv_str k_str (a_cons (vr 1) a_nil)))))
theorem sc_Councild_eqd : FnScope N_Councild_eqd ["self", "other"] (defScope st_Councild_eqd) := ⟨rfl, rfl, rfl, by decide +kernel, rfl, by decide +kernel, by decide +kernel⟩
theorem us_Councild_eqd (C : Kc K mg) : ∃ fd, FnG P w K mg base 1 (df_Councild_eqd.loc K) fd ["self", "other"] (spOf K 2 F_Councild_eqd) ∧ PySem.W.keepIn K (.ref (df_Councild_eqd.loc K)) = true ∧ Binds K fd ["self", "other"] [] ∧ FnAt K df_Councild_eqd fd := by
  obtain ⟨fd, F⟩ := C.df 15 (d := df_Councild_eqd) rfl
  refine ⟨fd, fn_ok F sc_Councild_eqd fun cdv A outer s0 H E B => ?_, F.kp, F.bindsN fun _ _ _ _ _ _ us hl => match us, hl with | [_, _], _ => rfl, F⟩
  exact (ss_one (s_ret (e_and (e_cb (b_isi C.iso) rfl (C.free 9 rfl) bt_isinstance (a_cons (vr 1) (a_cons (g_cls (C.glo 32 rfl)) a_nil))) (e_and (e_cmp (o_eq B.u64) (e_fld (one_ ⟨He.cls_ok (C.ok 5 rfl), He.noat_ok (C.ok 7 rfl)⟩) (vr 0)) (e_fld (one_ ⟨He.cls_ok (C.ok 5 rfl), He.noat_ok (C.ok 7 rfl)⟩) (vr 1)) (nomark _)) (e_one (e_cmp (o_eq B.u64) (e_fld (one_ ⟨He.cls_ok (C.ok 5 rfl), He.noat_ok (C.ok 6 rfl)⟩) (vr 0)) (e_fld (one_ ⟨He.cls_ok (C.ok 5 rfl), He.noat_ok (C.ok 6 rfl)⟩) (vr 1)) (nomark _)))))))
theorem sc_Councild_boold : FnScope N_Councild_boold ["self"] (defScope st_Councild_boold) := ⟨rfl, rfl, rfl, by decide +kernel, rfl, by decide +kernel, by decide +kernel⟩
theorem us_Councild_boold (C : Kc K mg) : ∃ fd, FnG P w K mg base 1 (df_Councild_boold.loc K) fd ["self"] (spOf K 1 F_Councild_boold) ∧ PySem.W.keepIn K (.ref (df_Councild_boold.loc K)) = true ∧ Binds K fd ["self"] [] ∧ FnAt K df_Councild_boold fd := by
  obtain ⟨fd, F⟩ := C.df 16 (d := df_Councild_boold) rfl
  refine ⟨fd, fn_ok F sc_Councild_boold fun cdv A outer s0 H E B => ?_, F.kp, F.bindsN fun _ _ _ _ _ _ us hl => match us, hl with | [_], _ => rfl, F⟩
  exact (ss_one (s_ret k_bl))
theorem sc_Councild_lend : FnScope N_Councild_lend ["self"] (defScope st_Councild_lend) := ⟨rfl, rfl, rfl, by decide +kernel, rfl, by decide +kernel, by decide +kernel⟩
theorem us_Councild_lend (C : Kc K mg) : ∃ fd, FnG P w K mg base 1 (df_Councild_lend.loc K) fd ["self"] (spOf K 1 F_Councild_lend) ∧ PySem.W.keepIn K (.ref (df_Councild_lend.loc K)) = true ∧ Binds K fd ["self"] [] ∧ FnAt K df_Councild_lend fd := by
  obtain ⟨fd, F⟩ := C.df 17 (d := df_Councild_lend) rfl
  refine ⟨fd, fn_ok F sc_Councild_lend fun cdv A outer s0 H E B => ?_, F.kp, F.bindsN fun _ _ _ _ _ _ us hl => match us, hl with | [_], _ => rfl, F⟩
  exact (ss_one (s_ret (e_cb b_len rfl (C.free 3 rfl) bt_len (a_cons (e_fld (one_ ⟨He.cls_ok (C.ok 5 rfl), He.noat_ok (C.ok 7 rfl)⟩) (vr 0)) a_nil))))
theorem sc_Council_ways : FnScope N_Council_ways ["self"] (defScope st_Council_ways) := ⟨rfl, rfl, rfl, by decide +kernel, rfl, by decide +kernel, by decide +kernel⟩
theorem us_Council_ways (C : Kc K mg) : ∃ fd, FnG P w K mg base 1 (df_Council_ways.loc K) fd ["self"] (spOf K 1 F_Council_ways) ∧ PySem.W.keepIn K (.ref (df_Council_ways.loc K)) = true ∧ Binds K fd ["self"] [] ∧ FnAt K df_Council_ways fd := by
  obtain ⟨fd, F⟩ := C.df 18 (d := df_Council_ways) rfl
  refine ⟨fd, fn_ok F sc_Council_ways fun cdv A outer s0 H E B => ?_, F.kp, F.bindsN fun _ _ _ _ _ _ us hl => match us, hl with | [_], _ => rfl, F⟩
  exact (ss_one (s_ret (e_fld (one_ ⟨He.cls_ok (C.ok 5 rfl), He.noat_ok (C.ok 6 rfl)⟩) (vr 0))))
theorem sc_Council_minds : FnScope N_Council_minds ["self"] (defScope st_Council_minds) := ⟨rfl, rfl, rfl, by decide +kernel, rfl, by decide +kernel, by decide +kernel⟩
theorem us_Council_minds (C : Kc K mg) : ∃ fd, FnG P w K mg base 1 (df_Council_minds.loc K) fd ["self"] (spOf K 1 F_Council_minds) ∧ PySem.W.keepIn K (.ref (df_Council_minds.loc K)) = true ∧ Binds K fd ["self"] [] ∧ FnAt K df_Council_minds fd := by
  obtain ⟨fd, F⟩ := C.df 19 (d := df_Council_minds) rfl
  refine ⟨fd, fn_ok F sc_Council_minds fun cdv A outer s0 H E B => ?_, F.kp, F.bindsN fun _ _ _ _ _ _ us hl => match us, hl with | [_], _ => rfl, F⟩
  exact (ss_one (s_ret (e_fld (one_ ⟨He.cls_ok (C.ok 5 rfl), He.noat_ok (C.ok 7 rfl)⟩) (vr 0))))
theorem sc_page_l : FnScope N_page_l ["_law_heads_here", "_law_talks"] (defScope st_page_l) := ⟨rfl, rfl, rfl, by decide +kernel, rfl, by decide +kernel, by decide +kernel⟩
theorem us_page_l (C : Kc K mg) : ∃ fd, FnG P w K mg base 1 (df_page_l.loc K) fd ["_law_heads_here", "_law_talks"] (spOf K 2 F_page_l) ∧ PySem.W.keepIn K (.ref (df_page_l.loc K)) = true ∧ Binds K fd ["_law_heads_here", "_law_talks"] [] ∧ FnAt K df_page_l fd := by
  obtain ⟨fd, F⟩ := C.df 20 (d := df_page_l) rfl
  refine ⟨fd, fn_scop (fn_ok F sc_page_l fun cdv A outer s0 H E B => ?_), F.kp, F.bindsN fun _ _ _ _ _ _ us hl => match us, hl with | [_, _], _ => rfl, F⟩
  exact (ss_cons (s_set (i := 2) sc_page_l.nd rfl (by first | exact Or.inl rfl | exact Or.inr rfl) (e_lstC (a_cons (e_bm PySem.F.plainAttrs_str PySem.F.slot_str_join PySem.F.type_str_join m_join tv_str k_str (a_cons (vr 0) a_nil)) a_nil)))
  (ss_cons (s_for B.hp B.calm (i_val (vr 1)) (g_name (i := 3) sc_page_l.nd rfl (by first | exact Or.inl rfl | exact Or.inr rfl)) (ss_one (s_expr (e_bm PySem.F.plainAttrs_list PySem.F.slot_list_append PySem.F.type_list_append m_append tv_lst (vr 2) (a_cons (e_bm PySem.F.plainAttrs_str PySem.F.slot_str_join PySem.F.type_str_join m_join tv_str k_str (a_cons (e_lc B.calm sc_page_l.nd (i_val (vr 3)) (own := [("_law_row_here", 4)]) (blk_ok (by kernel_rfl)) (fun _ _ _ _ _ => (gw_name (i := 4) (by decide) sc_page_l.nd rfl (by first | exact Or.inl rfl | exact Or.inr rfl))) (fun _ _ _ _ _ => ts_nil) (fun _ _ _ _ _ => (e_bm PySem.F.plainAttrs_str PySem.F.slot_str_join PySem.F.type_str_join m_join tv_str k_str (a_cons (e_lc (bd_blk B).calm sc_page_l.nd (i_val (vr 4)) (own := [("_law_one", 5)]) (blk_ok (by kernel_rfl)) (fun _ _ _ _ _ => (gw_name (i := 5) (by decide) sc_page_l.nd rfl (by first | exact Or.inl rfl | exact Or.inr rfl))) (fun _ _ _ _ _ => ts_nil) (fun _ _ _ _ _ => (e_cty b_str rfl (C.free 23 rfl) bt_str (a_cons (vr 5) a_nil)))) a_nil)))) a_nil)) a_nil)))))
  (ss_one (s_ret (e_bm PySem.F.plainAttrs_str PySem.F.slot_str_join PySem.F.type_str_join m_join tv_str k_str (a_cons (vr 2) a_nil))))))
theorem sc_sip_l : FnScope N_sip_l ["_law_jug_here", "_law_most"] (defScope st_sip_l) := ⟨rfl, rfl, rfl, by decide +kernel, rfl, by decide +kernel, by decide +kernel⟩
theorem us_sip_l (C : Kc K mg) : ∃ fd, FnG P w K mg base 1 (df_sip_l.loc K) fd ["_law_jug_here", "_law_most"] (spOf K 2 F_sip_l) ∧ PySem.W.keepIn K (.ref (df_sip_l.loc K)) = true ∧ Binds K fd ["_law_jug_here", "_law_most"] [] ∧ FnAt K df_sip_l fd := by
  obtain ⟨fd, F⟩ := C.df 21 (d := df_sip_l) rfl
  refine ⟨fd, fn_ok F sc_sip_l fun cdv A outer s0 H E B => ?_, F.kp, F.bindsN fun _ _ _ _ _ _ us hl => match us, hl with | [_, _], _ => rfl, F⟩
  exact (ss_cons (s_if (t_cmp o_gt (e_ix x_ix (vr 0) k_int (fun _ _ => rfl)) k_int (nomark _)) (ss_cons (s_asg (e_cb b_divmod rfl (C.free 37 rfl) bt_divmod (a_cons (e_ix x_ix (vr 0) k_int (fun _ _ => rfl)) (a_cons (vr 1) a_nil))) (g_unp B.calm (gs_cons (g_sub set_ok (vr 0) k_int) (gs_cons (g_name (i := 2) sc_sip_l.nd rfl (by first | exact Or.inl rfl | exact Or.inr rfl)) gs_nil))))
  (ss_one (s_ret (vr 2)))) ss_nil)
  (ss_cons (s_asg (e_op o_add (e_ix x_ix (vr 0) k_int (fun _ _ => rfl)) k_int) (g_sub set_ok (vr 0) k_int))
  (ss_cons (s_asg (e_op o_mod (e_cty b_int rfl (C.free 11 rfl) bt_int (a_cons (e_op o_add (e_op o_mul (e_ix x_ix (vr 0) k_int (fun _ _ => rfl)) k_int) (e_op o_mul k_int (e_ix x_ix (vr 0) k_int (fun _ _ => rfl)))) a_nil)) k_int) (g_sub set_ok (vr 0) k_int))
  (ss_one (s_ret (e_op o_mod (e_cty b_int rfl (C.free 11 rfl) bt_int (a_cons (e_op o_div (e_ix x_ix (vr 0) k_int (fun _ _ => rfl)) k_int) a_nil)) (vr 1)))))))
theorem sc_row_l : FnScope N_row_l ["_law_jug_here", "_law_size"] (defScope st_row_l) := ⟨rfl, rfl, rfl, by decide +kernel, rfl, by decide +kernel, by decide +kernel⟩
theorem us_row_l (C : Kc K mg) : ∃ fd, FnG P w K mg base 2 (df_row_l.loc K) fd ["_law_jug_here", "_law_size"] (spOf K 2 F_row_l) ∧ PySem.W.keepIn K (.ref (df_row_l.loc K)) = true ∧ Binds K fd ["_law_jug_here", "_law_size"] [] ∧ FnAt K df_row_l fd := by
  obtain ⟨fd0, G0, k0, b0, A0⟩ := us_sip_l (P := P) (w := w) (base := base) C
  obtain ⟨fd, F⟩ := C.df 22 (d := df_row_l) rfl
  refine ⟨fd, fn_scop (fn_ok F sc_row_l fun cdv A outer s0 H E B => ?_), F.kp, F.bindsN fun _ _ _ _ _ _ us hl => match us, hl with | [_, _], _ => rfl, F⟩
  exact (ss_cons (s_setLcC (i := 2) B.calm sc_row_l.nd rfl rfl rfl (j_range1 rfl (C.free 4 rfl) (a_cons (vr 1) a_nil)) (own := [("_law_k", 3)]) (blk_ok (by kernel_rfl)) (fun _ _ _ _ _ => (gw_name (i := 3) (by decide) sc_row_l.nd rfl (by first | exact Or.inl rfl | exact Or.inr rfl))) (fun _ _ _ _ _ => ts_nil) (fun _ _ _ _ _ => (e_ix x_ix (e_lst (a_cons k_int (a_cons k_int (a_cons k_int (a_cons k_int (a_cons k_int (a_cons k_int (a_cons k_int a_nil)))))))) (e_call (bd_blk B) G0 (by decide) rfl (C.glo 38 rfl) k0 b0 (a_cons (vr 0) (a_cons k_int a_nil))) (fun _ _ => rfl))))
  (ss_cons (s_if (t_cmp (o_eq B.u64) (e_cb (b_sum B.calm) rfl (C.free 16 rfl) bt_sum (a_cons (vr 2) a_nil)) k_int (nomark _)) (ss_one (s_asg (e_ix x_ix (e_lst (a_cons k_int (a_cons k_int (a_cons (e_op o_pow k_int k_int) a_nil)))) (e_call B G0 (by decide) rfl (C.glo 38 rfl) k0 b0 (a_cons (vr 0) (a_cons k_int a_nil))) (fun _ _ => rfl)) (g_sub set_ok (vr 2) (e_call B G0 (by decide) rfl (C.glo 38 rfl) k0 b0 (a_cons (vr 0) (a_cons (vr 1) a_nil)))))) ss_nil)
  (ss_one (s_ret (e_cty b_tup rfl (C.free 10 rfl) bt_tuple (a_cons (vr 2) a_nil))))))
theorem sc_talk_l : FnScope N_talk_l ["_law_jug_here", "_law_size"] (defScope st_talk_l) := ⟨rfl, rfl, rfl, by decide +kernel, rfl, by decide +kernel, by decide +kernel⟩
theorem us_talk_l (C : Kc K mg) : ∃ fd, FnG P w K mg base 3 (df_talk_l.loc K) fd ["_law_jug_here", "_law_size"] (spOf K 2 F_talk_l) ∧ PySem.W.keepIn K (.ref (df_talk_l.loc K)) = true ∧ Binds K fd ["_law_jug_here", "_law_size"] [] ∧ FnAt K df_talk_l fd := by
  obtain ⟨fd0, G0, k0, b0, A0⟩ := us_row_l (P := P) (w := w) (base := base) C
  obtain ⟨fd, F⟩ := C.df 23 (d := df_talk_l) rfl
  refine ⟨fd, fn_ok F sc_talk_l fun cdv A outer s0 H E B => ?_, F.kp, F.bindsN fun _ _ _ _ _ _ us hl => match us, hl with | [_, _], _ => rfl, F⟩
  exact (ss_one (s_ret (e_cty b_tup rfl (C.free 10 rfl) bt_tuple (a_cons (e_lc B.calm sc_talk_l.nd (j_range1 rfl (C.free 4 rfl) (a_cons (vr 1) a_nil)) (own := [("_law_k", 2)]) (blk_ok (by kernel_rfl)) (fun _ _ _ _ _ => (gw_name (i := 2) (by decide) sc_talk_l.nd rfl (by first | exact Or.inl rfl | exact Or.inr rfl))) (fun _ _ _ _ _ => ts_nil) (fun _ _ _ _ _ => (e_call (bd_blk B) G0 (by decide) rfl (C.glo 39 rfl) k0 b0 (a_cons (vr 0) (a_cons (vr 1) a_nil))))) a_nil))))
theorem sc_pair_l : FnScope N_pair_l ["_law_jug_here", "_law_most_here"] (defScope st_pair_l) := ⟨rfl, rfl, rfl, by decide +kernel, rfl, by decide +kernel, by decide +kernel⟩
theorem us_pair_l (C : Kc K mg) : ∃ fd, FnG P w K mg base 4 (df_pair_l.loc K) fd ["_law_jug_here", "_law_most_here"] (spOf K 2 F_pair_l) ∧ PySem.W.keepIn K (.ref (df_pair_l.loc K)) = true ∧ Binds K fd ["_law_jug_here", "_law_most_here"] [] ∧ FnAt K df_pair_l fd := by
  obtain ⟨fd0, G0, k0, b0, A0⟩ := us_sip_l (P := P) (w := w) (base := base) C
  obtain ⟨fd1, G1, k1, b1, A1⟩ := us_talk_l (P := P) (w := w) (base := base) C
  obtain ⟨fd, F⟩ := C.df 24 (d := df_pair_l) rfl
  refine ⟨fd, fn_scop (fn_ok F sc_pair_l fun cdv A outer s0 H E B => ?_), F.kp, F.bindsN fun _ _ _ _ _ _ us hl => match us, hl with | [_, _], _ => rfl, F⟩
  exact (ss_cons (s_set (i := 2) sc_pair_l.nd rfl (by first | exact Or.inl rfl | exact Or.inr rfl) (e_op o_add k_int (e_call B G0 (by decide) rfl (C.glo 38 rfl) k0 b0 (a_cons (vr 0) (a_cons (vr 1) a_nil)))))
  (ss_cons (s_set (i := 3) sc_pair_l.nd rfl (by first | exact Or.inl rfl | exact Or.inr rfl) (e_lstC (a_cons k_str (a_cons k_str (a_cons k_str (a_cons k_str (a_cons k_str (a_cons k_str (a_cons k_str (a_cons k_str a_nil))))))))))
  (ss_cons (s_set (i := 4) sc_pair_l.nd rfl (by first | exact Or.inl rfl | exact Or.inr rfl) (e_lstC a_nil))
  (ss_cons (s_for B.hp B.calm (j_range1 rfl (C.free 4 rfl) (a_cons (vr 2) a_nil)) (g_name (i := 5) sc_pair_l.nd rfl (by first | exact Or.inl rfl | exact Or.inr rfl)) (ss_one (s_expr (e_bm PySem.F.plainAttrs_list PySem.F.slot_list_append PySem.F.type_list_append m_append tv_lst (vr 4) (a_cons (e_bm PySem.F.plainAttrs_list PySem.F.slot_list_pop PySem.F.type_list_pop m_popAt tv_lst (vr 3) (a_cons (e_call B G0 (by decide) rfl (C.glo 38 rfl) k0 b0 (a_cons (vr 0) (a_cons (e_cb b_len rfl (C.free 3 rfl) bt_len (a_cons (vr 3) a_nil)) a_nil))) a_nil)) a_nil)))))
  (ss_one (s_ret (e_lst (a_cons (e_cty b_tup rfl (C.free 10 rfl) bt_tuple (a_cons (vr 4) a_nil)) (a_cons (e_cty b_tup rfl (C.free 10 rfl) bt_tuple (a_cons (e_lc B.calm sc_pair_l.nd (j_range1 rfl (C.free 4 rfl) (a_cons (e_op o_add k_int (e_call B G0 (by decide) rfl (C.glo 38 rfl) k0 b0 (a_cons (vr 0) (a_cons k_int a_nil)))) a_nil)) (own := [("_law_k", 5)]) (blk_ok (by kernel_rfl)) (fun _ _ _ _ _ => (gw_name (i := 5) (by decide) sc_pair_l.nd rfl (by first | exact Or.inl rfl | exact Or.inr rfl))) (fun _ _ _ _ _ => ts_nil) (fun _ _ _ _ _ => (e_call (bd_blk B) G1 (by decide) rfl (C.glo 40 rfl) k1 b1 (a_cons (vr 0) (a_cons (vr 2) a_nil))))) a_nil)) a_nil)))))))))
theorem sc_right_l : FnScope N_right_l ["_law_jug_here"] (defScope st_right_l) := ⟨rfl, rfl, rfl, by decide +kernel, rfl, by decide +kernel, by decide +kernel⟩
theorem us_right_l (C : Kc K mg) : ∃ fd, FnG P w K mg base 9 (df_right_l.loc K) fd ["_law_jug_here"] (spOf K 1 F_right_l) ∧ PySem.W.keepIn K (.ref (df_right_l.loc K)) = true ∧ Binds K fd ["_law_jug_here"] [] ∧ FnAt K df_right_l fd := by
  obtain ⟨fd0, G0, k0, b0, A0⟩ := us_Council_read (P := P) (w := w) (base := base) C
  obtain ⟨fd1, G1, k1, b1, A1⟩ := us_Councild_strd (P := P) (w := w) (base := base) C
  obtain ⟨fd2, G2, k2, b2, A2⟩ := us_Councild_eqd (P := P) (w := w) (base := base) C
  obtain ⟨fd3, G3, k3, b3, A3⟩ := us_Councild_boold (P := P) (w := w) (base := base) C
  obtain ⟨fd4, G4, k4, b4, A4⟩ := us_Councild_lend (P := P) (w := w) (base := base) C
  obtain ⟨fd5, G5, k5, b5, A5⟩ := us_Council_ways (P := P) (w := w) (base := base) C
  obtain ⟨fd6, G6, k6, b6, A6⟩ := us_Council_minds (P := P) (w := w) (base := base) C
  obtain ⟨fd7, G7, k7, b7, A7⟩ := us_Councild_initd (P := P) (w := w) (base := base) C
  obtain ⟨fd8, G8, k8, b8, A8⟩ := us_page_l (P := P) (w := w) (base := base) C
  obtain ⟨fd9, G9, k9, b9, A9⟩ := us_pair_l (P := P) (w := w) (base := base) C
  have kw0 : ∀ v, KwB K fd0 ["cls", "text"] ["text"] [0] (v :: ·) := kwb_ofM A0 _ _ fun _ _ _ _ _ _ _ ws hl => match ws, hl with | [_], _ => rfl
  have kw1 : ∀ v, KwB K fd7 ["self", "minds", "ways"] ["ways", "minds"] [1, 0] (v :: ·) := kwb_ofM A7 _ _ fun _ _ _ _ _ _ _ ws hl => match ws, hl with | [_, _], _ => rfl
  obtain ⟨fd, F⟩ := C.df 25 (d := df_right_l) rfl
  refine ⟨fd, fn_ok F sc_right_l fun cdv A outer s0 H E B => ?_, F.kp, F.bindsN fun _ _ _ _ _ _ us hl => match us, hl with | [_], _ => rfl, F⟩
  exact (ss_cons (s_for B.hp B.calm (j_range1 rfl (C.free 4 rfl) (a_cons k_int a_nil)) (g_name (i := 1) sc_right_l.nd rfl (by first | exact Or.inl rfl | exact Or.inr rfl)) (ss_cons (s_asg (e_call B G9 (by decide) rfl (C.glo 41 rfl) k9 b9 (a_cons (vr 0) (a_cons k_int a_nil))) (g_unp B.calm (gs_cons (g_name (i := 5) sc_right_l.nd rfl (by first | exact Or.inl rfl | exact Or.inr rfl)) (gs_cons (g_name (i := 6) sc_right_l.nd rfl (by first | exact Or.inl rfl | exact Or.inr rfl)) gs_nil))))
  (ss_cons (s_set (i := 2) sc_right_l.nd rfl (by first | exact Or.inl rfl | exact Or.inr rfl) (e_call B G8 (by decide) rfl (C.glo 36 rfl) k8 b8 (a_cons (vr 5) (a_cons (vr 6) a_nil))))
  (ss_cons (s_set (i := 3) sc_right_l.nd rfl (by first | exact Or.inl rfl | exact Or.inr rfl) (e_lst (a_cons (e_make (frz := true) B (He.mkr_ok (C.ok 28 rfl)) G7 (by decide) rfl (C.glo 32 rfl) b7 (a_cons (vr 5) (a_cons (vr 6) a_nil))) (a_cons (e_makeK (frz := true) B (He.mkr_ok (C.ok 28 rfl)) G7 (by decide) rfl (C.glo 32 rfl) kw1 (k_cons (vr 6) (k_cons (vr 5) k_nil)) rfl) (a_cons (e_cm B (cmB_ok C.ex0) G0 (by decide) rfl (C.glo 32 rfl) b0 (a_cons (vr 2) a_nil)) a_nil)))))
  (ss_one (s_for B.hp B.calm (i_val (e_op o_add (vr 3) (e_lst (a_cons (e_cmK B (cmB_ok C.ex0) G0 (by decide) rfl (C.glo 32 rfl) kw0 (k_cons (vr 2) k_nil) rfl) (a_cons (e_cm B (cmB_ok C.ex0) G0 (by decide) rfl (C.glo 32 rfl) b0 (a_cons (e_ctr (b_strO B C.ex1.1 C.ex1.2 G1 (by decide) b1) rfl (C.free 23 rfl) bt_str (a_cons (e_ix x_ix (vr 3) k_int (fun _ _ => rfl)) a_nil)) a_nil)) a_nil))))) (g_name (i := 4) sc_right_l.nd rfl (by first | exact Or.inl rfl | exact Or.inr rfl)) (ss_cons (s_set (i := 7) sc_right_l.nd rfl (by first | exact Or.inl rfl | exact Or.inr rfl) (e_lst (a_cons (e_prop B (He.cls_ok (C.ok 5 rfl)) C.ex7.choose_spec G6 (by decide) b6 (vr 4)) (a_cons (e_prop B (He.cls_ok (C.ok 5 rfl)) C.ex6.choose_spec G5 (by decide) b5 (vr 4)) (a_cons (e_cr (b_lenO B C.ex5.1 C.ex5.2 G4 (by decide) b4) rfl (C.free 3 rfl) bt_len (a_cons (vr 4) a_nil)) (a_cons (e_ctr (b_strO B C.ex1.1 C.ex1.2 G1 (by decide) b1) rfl (C.free 23 rfl) bt_str (a_cons (vr 4) a_nil)) (a_cons (e_ctr (b_boolO B C.ex4.1 C.ex4.2 G3 (by decide) b3) rfl (C.free 12 rfl) bt_bool (a_cons (vr 4) a_nil)) (a_cons (e_cmpR (o_eqO B C.ex2.1 C.ex2.2 G2 (by decide) b2) (vr 4) (e_ix x_ix (vr 3) k_int (fun _ _ => rfl)) (nomark _)) (a_cons (e_cmpR (o_neO B C.ex3.1 C.ex3.2 C.ex2.1 C.ex2.2 G2 (by decide) b2) (vr 4) (e_ix x_ix (vr 3) k_int (fun _ _ => rfl)) (nomark _)) a_nil)))))))))
  (ss_one (s_if (t_cmp (o_ne B.u64) (e_cb (b_repr B) rfl (C.free 35 rfl) bt_repr (a_cons (vr 7) a_nil)) (e_cb (b_repr B) rfl (C.free 35 rfl) bt_repr (a_cons (e_lst (a_cons (vr 5) (a_cons (vr 6) (a_cons (e_cb b_len rfl (C.free 3 rfl) bt_len (a_cons (vr 5) a_nil)) (a_cons (vr 2) (a_cons k_bl (a_cons k_bl (a_cons k_bl a_nil)))))))) a_nil)) (nomark _)) (ss_one (s_ret k_bl)) ss_nil)))))))))
  (ss_one (s_ret k_bl)))
theorem sc_quiet_l : FnScope N_quiet_l ["_law_jug_here"] (defScope st_quiet_l) := ⟨rfl, rfl, rfl, by decide +kernel, rfl, by decide +kernel, by decide +kernel⟩
theorem us_quiet_l (C : Kc K mg) : ∃ fd, FnG P w K mg base 10 (df_quiet_l.loc K) fd ["_law_jug_here"] (spOf K 1 F_quiet_l) ∧ PySem.W.keepIn K (.ref (df_quiet_l.loc K)) = true ∧ Binds K fd ["_law_jug_here"] [] ∧ FnAt K df_quiet_l fd := by
  obtain ⟨fd0, G0, k0, b0, A0⟩ := us_right_l (P := P) (w := w) (base := base) C
  obtain ⟨fd, F⟩ := C.df 26 (d := df_quiet_l) rfl
  refine ⟨fd, fn_ok F sc_quiet_l fun cdv A outer s0 H E B => ?_, F.kp, F.bindsN fun _ _ _ _ _ _ us hl => match us, hl with | [_], _ => rfl, F⟩
  exact (ss_cons (s_tryQ (ss_one (s_set (i := 1) sc_quiet_l.nd rfl (by first | exact Or.inl rfl | exact Or.inr rfl) (e_call (bd_nox B) G0 (by decide) rfl (C.glo 42 rfl) k0 b0 (a_cons (vr 0) a_nil)))))
  (ss_one (s_ret (vr 1))))
theorem sc_jug_l : FnScope N_jug_l ["_law_script", "_law_at"] (defScope st_jug_l) := ⟨rfl, rfl, rfl, by decide +kernel, rfl, by decide +kernel, by decide +kernel⟩
theorem us_jug_l (C : Kc K mg) : ∃ fd, FnG P w K mg base 1 (df_jug_l.loc K) fd ["_law_script", "_law_at"] (spOf K 2 F_jug_l) ∧ PySem.W.keepIn K (.ref (df_jug_l.loc K)) = true ∧ Binds K fd ["_law_script", "_law_at"] [] ∧ FnAt K df_jug_l fd := by
  obtain ⟨fd, F⟩ := C.df 27 (d := df_jug_l) rfl
  refine ⟨fd, fn_ok F sc_jug_l fun cdv A outer s0 H E B => ?_, F.kp, F.bindsN fun _ _ _ _ _ _ us hl => match us, hl with | [_, _], _ => rfl, F⟩
  exact (ss_cons (s_set (i := 2) sc_jug_l.nd rfl (by first | exact Or.inl rfl | exact Or.inr rfl) (e_if (t_cmp o_lt (vr 1) (e_cb b_len rfl (C.free 3 rfl) bt_len (a_cons (vr 0) a_nil)) (nomark _)) (e_ix x_ix (vr 0) (vr 1) (fun _ _ => rfl)) (e_op o_add (e_op o_mul k_int (vr 1)) k_int)))
  (ss_cons (s_set (i := 3) sc_jug_l.nd rfl (by first | exact Or.inl rfl | exact Or.inr rfl) (e_op o_add k_int (e_op o_mul k_int (vr 1))))
  (ss_cons (s_for B.hp B.calm (i_val (e_op o_add (e_lst (a_cons (vr 2) a_nil)) (e_sl (vr 0) o_none (o_some k_int)))) (g_name (i := 4) sc_jug_l.nd rfl (by first | exact Or.inl rfl | exact Or.inr rfl)) (ss_one (s_set (i := 3) sc_jug_l.nd rfl (by first | exact Or.inl rfl | exact Or.inr rfl) (e_op o_mod (e_cty b_int rfl (C.free 11 rfl) bt_int (a_cons (e_op o_add (e_op o_mul (vr 3) k_int) (vr 4)) a_nil)) k_int))))
  (ss_one (s_ret (e_lstC (a_cons (e_if (t_cmp o_ge (e_cb b_abs rfl (C.free 44 rfl) bt_abs (a_cons (vr 2) a_nil)) (e_op o_pow k_int k_int) (nomark _)) (e_cb b_abs rfl (C.free 44 rfl) bt_abs (a_cons (vr 2) a_nil)) k_int) (a_cons (vr 3) (a_cons k_int a_nil)))))))))
theorem sc_law : FnScope N_law ["_law_script"] (defScope st_law) := ⟨rfl, rfl, rfl, by decide +kernel, rfl, by decide +kernel, by decide +kernel⟩
theorem us_law (C : Kc K mg) : ∃ fd, FnG P w K mg base 11 (df_law.loc K) fd ["_law_script"] (spOf K 1 F_law) ∧ PySem.W.keepIn K (.ref (df_law.loc K)) = true ∧ Binds K fd ["_law_script"] [] ∧ FnAt K df_law fd := by
  obtain ⟨fd0, G0, k0, b0, A0⟩ := us_quiet_l (P := P) (w := w) (base := base) C
  obtain ⟨fd1, G1, k1, b1, A1⟩ := us_jug_l (P := P) (w := w) (base := base) C
  obtain ⟨fd, F⟩ := C.df 28 (d := df_law) rfl
  refine ⟨fd, fn_ok F sc_law fun cdv A outer s0 H E B => ?_, F.kp, F.bindsN fun _ _ _ _ _ _ us hl => match us, hl with | [_], _ => rfl, F⟩
  exact (ss_one (s_ret (e_cb (b_all B.calm) rfl (C.free 0 rfl) bt_all (a_cons (e_lc B.calm sc_law.nd (j_range1 rfl (C.free 4 rfl) (a_cons (e_cb (b_max2 B.calm) rfl (C.free 1 rfl) bt_max (a_cons k_int (a_cons (e_cb (b_min2 B.calm) rfl (C.free 2 rfl) bt_min (a_cons (e_cb b_len rfl (C.free 3 rfl) bt_len (a_cons (vr 0) a_nil)) (a_cons k_int a_nil))) a_nil))) a_nil)) (own := [("_law_at", 1)]) (blk_ok (by kernel_rfl)) (fun _ _ _ _ _ => (gw_name (i := 1) (by decide) sc_law.nd rfl (by first | exact Or.inl rfl | exact Or.inr rfl))) (fun _ _ _ _ _ => ts_nil) (fun _ _ _ _ _ => (e_call (bd_blk B) G0 (by decide) rfl (C.glo 43 rfl) k0 b0 (a_cons (e_call (bd_blk B) G1 (by decide) rfl (C.glo 45 rfl) k1 b1 (a_cons (vr 0) (a_cons (vr 1) a_nil))) a_nil)))) a_nil))))
end
end Ag.k02

namespace Ag.k02
open PySem PySem.Spec PyProof.Rows L2
theorem fin {P : Program} {w : World} {K : PySem.W.Frag} {h : Heap} {mg : Str → Option Value} {f : Addr} (X : K.In h) (G : h.Ns mainGlobals mg) (hf : mg ("law" : Str) = some (.ref f)) (c : Told fa fn ex K) :
    ∃ (Kf : PySem.W.Frag) (fd : FuncData) (pr : Sp), Kf.In h ∧ (∀ (s : Shared) (u : Value), BindsTo s fd ⟨[u], []⟩ [("_law_script", u)]) ∧
      (∀ (A : Hp) (a : Addr) (ns : List Int), ns.length ≤ 63 → Only A → SqL Kf A a (ns.map V.int) → pr [.ref a] A (fun v _ => v = .bl true) fun _ _ _ => False) ∧
      ∀ low : Heap, Kf.In low → low.Ns mainGlobals mg → FnG P w Kf mg low 11 f fd ["_law_script"] pr := by
  have C := kc_of (kn_of X G c)
  have e := hf.symm.trans (He.glo_ok X G (c.fa (.glo "law") (by simp [fa])))
  cases e
  obtain ⟨fd, F⟩ := C.df 28 (d := df_law) rfl
  have b := FunD.bindsA (ps := ["_law_script"]) F fun _ _ _ _ _ _ us hl => match us, hl with | [_], _ => rfl
  refine ⟨K, fd, spOf K 1 F_law, X, fun s v => b s [v] rfl, fun A a ns hl ho sq => law_sp law_good hl ho sq, fun low KL GL => ?_⟩
  obtain ⟨fd2, G2, _, _, A2⟩ := us_law (P := P) (w := w) (base := low) C
  exact same_fd A2 F ▸ G2
end Ag.k02
open PySem PySem.W PySem.Calls PyProof.Rows
theorem PySem.Challenge.cw_alwaysagree_k02_councils_made_holds : PySem.Challenge.rw_alwaysagree_k02_councils_made.Holds := by
  w_on; o_law
  refine HandSHeadRun.head_any (r := OpenLaw.row PySem.Challenge.rw_alwaysagree_k02_councils_made) (q := view (OpenLaw.row PySem.Challenge.rw_alwaysagree_k02_councils_made).prog [38]) (H := Ag.k02.hk) (ob := Ag.k02.ob) (M := 20000) (loose := Ag.k02.loose) (d := HandSHeadRun.topDef (OpenLaw.row PySem.Challenge.rw_alwaysagree_k02_councils_made).prog 38) (kwd := [])
    Ag.k02.ob_eq (by kernel_rfl) (fun s => by kernel_rfl) Ag.k02.run (by kernel_rfl) (by kernel_rfl) (by kernel_rfl) (by rfl) (by first | assumption | decide +kernel) (by decide +kernel) ⟨rfl, rfl, rfl, rfl, rfl, by decide +kernel⟩ ?hw ?hc
  case hw => w_witness2
  case hc =>
    refine Ag.walk_G (l := PySem.Challenge.rw_alwaysagree_k02_councils_made) (n := 63) (lv := 11) (par := "_law_script") rfl (by decide) (by kernel_rfl) ⟨rfl, by decide, by decide⟩ ?F
    intro w mg fa h Y G hmg0
    obtain ⟨K, KX, c⟩ := Y
    have hmg : mg ("law" : PySem.Str) = some (.ref fa) := by
      have e : (HandSHeadRun.topDef (OpenLaw.row PySem.Challenge.rw_alwaysagree_k02_councils_made).prog 38).name = ("law" : PySem.Str) := by kernel_rfl
      rw [← e]
      exact hmg0
    exact Ag.k02.fin KX G hmg c
