import PyProof.Rows.All
import Wide.All
import OpenK.AllK
import Wide.FinOn
import PyProof.Rows.Many
import PyProof.Rows.Tup
import PyProof.DictList
import PyProof.DictKinds
import PyProof.RangeIter
import PyProof.Ns1
import PyProof.TupleOps
import OpenK.KLine
import PyProof.Rows.StrRules
import PyProof.Rows.RuleB_mul
import PyProof.Rows.RuleB_mod
import PyProof.Rows.RuleB_floordiv
import PyProof.Rows.RuleB_sub
import PyProof.Rows.RuleC_int
import PyProof.Rows.IntRules
import PyProof.EqKinds
import PyProof.EqAt
import PyProof.StrBlock2
import PyProof.P3Eq
import PyProof.IsRules
import PyProof.NeKinds
import PyProof.DictRoads
import PyProof.ListTruth
import PyProof.Rows.TupSub
import PyProof.Rows.StrTemp
import PyProof.Rules2
import PyProof.Rules3
import PyProof.Truth
import PyProof.Rows.TupMore
import PyProof.RulesDelMore
import PyProof.RulesAssignMore
import PyProof.IsiPairs
import PyProof.IsiHeapPairs
import PyProof.CallFns
import PyProof.ListIndexNeg
import PyProof.DictTruth
import PyProof.Methods
import PyProof.RaisesMany
import PyProof.Cells
import PyProof.WalksPairs
import PyProof.StrLoop
import PyProof.TupleIter
import PyProof.StrWalks
import PyProof.RangeFor
import PyProof.Rows.TupIter
import PyProof.CallRoads
import PyProof.PureCalls
import PyProof.FactsAll.list
import PyProof.FactsAll.dict
import PyProof.FactsAll.str
import PyProof.Rows.AttrNodeAny
import PyProof.AssignAttr
import PyProof.CompFree
import PyProof.WalksMore
import PyProof.ListOps
import PyProof.CompMap
import PyProof.IsiNone
import PyProof.ListCopy
import PyProof.WalkInts
import PyProof.ConsumeWalk
import PyProof.Rows.SortStr
import PyProof.StrCalls2
import PyProof.MeetsSeq
import PyProof.AutoSeq1
import PyProof.Rows.SortWalk
import PyProof.Rows.StrWeight2
import PyProof.SliceStr2
import PyProof.StrBlockI
import PyProof.Rows.TupAssign
import PyProof.StrCalls
import PySem.Challenge.RW_uf010010_01
set_option Elab.async false

namespace Mine
open PySem PySem.W PyProof.Rows
set_option maxRecDepth 100000
set_option maxHeartbeats 8000000
open_top hd01 for PySem.Challenge.rw_uf010010_01
end Mine


namespace Mine
open PySem PySem.Calls PyProof.Rows

/-- a value as the mini level sees it: immutable data are trees; what may change is a place in the mini heap -/
inductive V where
  | none
  | bool (b : Bool)
  | int (i : Int)
  | str (s : Str)
  | tup (vs : List V)
  | ref (l : Nat)
  | glob (x : Str)
  | mth (c x : Str)
  | type (n : String)
  | bi (id : String)
  | rng (n : Int)
  | exc (c : Str)
  | scr (xs : List Int)

inductive MObj where
  | list (vs : List V)
  | sdict (kvs : List (Str × V))
  | tdict (kvs : List ((Str × Int) × V))
  | inst (c : Str) (fs : List (Str × V))

abbrev Hp := List MObj
abbrev Inj := List (Addr × Addr)
def own (ι : Inj) : List Addr := ι.flatMap fun p => [p.1, p.2]

theorem mem_own {ι : Inj} {a : Addr} : a ∈ own ι ↔ ∃ p ∈ ι, a = p.1 ∨ a = p.2 := by
  simp [own]

theorem own_append (ι κ : Inj) : own (ι ++ κ) = own ι ++ own κ := by simp [own]

/-- what is said once of the law: its world, the heap ahead of the call, where a global name, a method and a class stand -/
structure Tp where
  prog : Program
  w : World
  b0 : Heap
  os : OsState
  K : PySem.W.Frag
  gv : Str → Option V
def Tp.g (T : Tp) (x : Str) : Option Value := (PySem.W.nsIn T.K mainGlobals x).join
def Tp.c (T : Tp) (x : Str) : Option Addr := match T.g x with | some (.ref a) => some a | _ => none
def Tp.m (T : Tp) (c x : Str) : Option Value := (T.c c).bind fun C => (PySem.W.findIn T.K (.ref C) x).join

def frozen (o : Obj) : Bool := o.cls == .type "tuple" || o.cls == .type "range"
/-- an iterator that a loop walks -/
def iterish (o : Obj) : Bool := match o.cls with
  | .type n => ["list_iterator", "tuple_iterator", "range_iterator", "longrange_iterator", "str_iterator", "str_ascii_iterator", "dict_keyiterator"].contains n
  | _ => false
/-- an object whose class nobody asks again -/
def loose (o : Obj) : Bool := match o.cls with
  | .type n => n != "frame"
  | _ => false
theorem loose_ref {o : Obj} {C : Addr} (h : o.cls = .ref C) : loose o = false := by simp [loose, h]
theorem loose_eq {o o' : Obj} (h : o'.cls = o.cls) : loose o' = loose o := by simp [loose, h]
theorem iterish_loose {o : Obj} (h : iterish o = true) : loose o = true := by
  unfold iterish at h; unfold loose
  split at h
  · rename_i n hn
    simp only [List.contains_iff_mem, List.mem_cons, List.not_mem_nil, or_false] at h
    rcases h with rfl | rfl | rfl | rfl | rfl | rfl | rfl <;> decide
  · cases h
theorem iterish_eq {o o' : Obj} (h : o'.cls = o.cls) : iterish o' = iterish o := by simp [iterish, h]

mutual
def VRel (T : Tp) (ι : Inj) (h : Heap) : V → Value → Prop
  | .none, v => v = .none
  | .bool b, v => v = .bool b
  | .int i, v => ∃ t, v = .int i t
  | .str s, v => ∃ t, v = .str s t
  | .tup vs, v => ∃ a items n, v = .ref a ∧ IsT h a items n ∧ VRels T ι h vs items.toList
  | .ref l, v => ∃ a d, v = .ref a ∧ ι[l]? = some (a, d)
  | .glob x, v => T.g x = some v
  | .mth c x, v => T.m c x = some v
  | .type n, v => v = .type n
  | .bi id, v => v = .builtin id
  | .rng n, v => ∃ a t1 t2 t3, v = .ref a ∧ IsRange h a 0 n 1 t1 t2 t3
  | .exc c, v => ∃ a o C, v = .ref a ∧ h.get? a = some o ∧ T.c c = some C ∧ o.cls = .ref C
  | .scr xs, v => ∃ a o items n, v = .ref a ∧ T.b0.get? a = some o ∧ o.cls = .type "list" ∧ o.data = .seq items n ∧ ∃ l : List (Int × Tok), items.toList = l.map (fun p => Value.int p.1 p.2) ∧ l.map (·.1) = xs
def VRels (T : Tp) (ι : Inj) (h : Heap) : List V → List Value → Prop
  | [], [] => True
  | v :: vs, x :: xs => VRel T ι h v x ∧ VRels T ι h vs xs
  | [], _ :: _ => False
  | _ :: _, [] => False
end

def ORelV (T : Tp) (ι : Inj) (h : Heap) : Option V → Option Value → Prop
  | none, none => True
  | some v, some x => VRel T ι h v x
  | _, _ => False

structure Mono (ι : Inj) (h : Heap) (ι' : Inj) (h' : Heap) : Prop where
  pre : ∃ κ, ι' = ι ++ κ
  cls : ∀ a o, h.get? a = some o → loose o = false → ∃ o', h'.get? a = some o' ∧ o'.cls = o.cls
  frz : ∀ a o, h.get? a = some o → frozen o = true → h'.get? a = some o

theorem Mono.refl (ι : Inj) (h : Heap) : Mono ι h ι h := ⟨⟨[], by simp⟩, fun _ o e _ => ⟨o, e, rfl⟩, fun _ _ e _ => e⟩
theorem Mono.trans {ι ι₁ ι₂ : Inj} {h h₁ h₂ : Heap} (x : Mono ι h ι₁ h₁) (y : Mono ι₁ h₁ ι₂ h₂) : Mono ι h ι₂ h₂ := by
  refine ⟨?_, fun a o e i => ?_, fun a o e f => y.frz a o (x.frz a o e f) f⟩
  · obtain ⟨κ, rfl⟩ := x.pre; obtain ⟨κ', rfl⟩ := y.pre; exact ⟨κ ++ κ', by simp⟩
  · obtain ⟨o₁, e₁, c₁⟩ := x.cls a o e i
    obtain ⟨o₂, e₂, c₂⟩ := y.cls a o₁ e₁ ((loose_eq c₁).trans i)
    exact ⟨o₂, e₂, c₂.trans c₁⟩
theorem Mono.get {ι ι' : Inj} {h h' : Heap} (x : Mono ι h ι' h') {l : Nat} {p : Addr × Addr} (e : ι[l]? = some p) : ι'[l]? = some p := by
  obtain ⟨κ, rfl⟩ := x.pre
  rw [List.getElem?_append_left]
  · exact e
  · exact (List.getElem?_eq_some_iff.mp e).1

mutual
theorem VRel.mono {T : Tp} {ι ι' : Inj} {h h' : Heap} (m : Mono ι h ι' h') : ∀ {v : V} {x : Value}, VRel T ι h v x → VRel T ι' h' v x
  | .none, _, e => e
  | .bool _, _, e => e
  | .int _, _, e => e
  | .str _, _, e => e
  | .tup _, _, e => by
    unfold VRel at e ⊢
    obtain ⟨a, items, n, e1, e2, e3⟩ := e
    exact ⟨a, items, n, e1, m.frz a _ e2 (by simp [frozen]), VRels.mono m e3⟩
  | .ref _, _, e => by
    unfold VRel at e ⊢
    obtain ⟨a, d, e1, e2⟩ := e
    exact ⟨a, d, e1, m.get e2⟩
  | .glob _, _, e => e
  | .mth _ _, _, e => e
  | .type _, _, e => e
  | .bi _, _, e => e
  | .rng _, _, e => by
    unfold VRel at e ⊢
    obtain ⟨a, t1, t2, t3, e1, e2⟩ := e
    exact ⟨a, t1, t2, t3, e1, m.frz a _ e2 (by simp [frozen])⟩
  | .exc _, _, e => by
    unfold VRel at e ⊢
    obtain ⟨a, o, C, e1, e2, e3, e4⟩ := e
    obtain ⟨o', e5, e6⟩ := m.cls a o e2 (loose_ref e4)
    exact ⟨a, o', C, e1, e5, e3, e6.trans e4⟩
  | .scr _, _, e => e
theorem VRels.mono {T : Tp} {ι ι' : Inj} {h h' : Heap} (m : Mono ι h ι' h') : ∀ {vs : List V} {xs : List Value}, VRels T ι h vs xs → VRels T ι' h' vs xs
  | [], [], _ => trivial
  | _ :: _, _ :: _, e => by
    unfold VRels at e ⊢
    exact ⟨VRel.mono m e.1, VRels.mono m e.2⟩
end

theorem ORelV.mono {T : Tp} {ι ι' : Inj} {h h' : Heap} (m : Mono ι h ι' h') : ∀ {v : Option V} {x : Option Value}, ORelV T ι h v x → ORelV T ι' h' v x
  | none, none, _ => trivial
  | some _, some _, e => VRel.mono m e

theorem VRels.length {T : Tp} {ι : Inj} {h : Heap} : ∀ {vs : List V} {xs : List Value}, VRels T ι h vs xs → xs.length = vs.length
  | [], [], _ => rfl
  | _ :: _, _ :: _, e => by unfold VRels at e; simp [VRels.length e.2]
theorem VRels.nil_iff {T : Tp} {ι : Inj} {h : Heap} {xs : List Value} : VRels T ι h [] xs ↔ xs = [] := by
  cases xs <;> simp [VRels]
theorem VRels.cons_iff {T : Tp} {ι : Inj} {h : Heap} {v : V} {vs : List V} {xs : List Value} : VRels T ι h (v :: vs) xs ↔ ∃ x r, xs = x :: r ∧ VRel T ι h v x ∧ VRels T ι h vs r := by
  cases xs with
  | nil => simp [VRels]
  | cons x r =>
    simp only [VRels, List.cons.injEq]
    constructor
    · rintro ⟨a, b⟩; exact ⟨x, r, ⟨rfl, rfl⟩, a, b⟩
    · rintro ⟨_, _, ⟨rfl, rfl⟩, a, b⟩; exact ⟨a, b⟩
theorem VRels.append {T : Tp} {ι : Inj} {h : Heap} : ∀ {vs us : List V} {xs ys : List Value}, VRels T ι h vs xs → VRels T ι h us ys → VRels T ι h (vs ++ us) (xs ++ ys)
  | [], _, [], _, _, e => e
  | _ :: _, _, _ :: _, _, d, e => by
    unfold VRels at d
    show VRels T ι h (_ :: (_ ++ _)) (_ :: (_ ++ _))
    unfold VRels
    exact ⟨d.1, VRels.append d.2 e⟩
theorem VRels.get {T : Tp} {ι : Inj} {h : Heap} : ∀ {vs : List V} {xs : List Value} {i : Nat} {v : V}, VRels T ι h vs xs → vs[i]? = some v → ∃ x, xs[i]? = some x ∧ VRel T ι h v x
  | _ :: _, _ :: _, 0, _, d, e => by
    unfold VRels at d
    simp only [List.getElem?_cons_zero, Option.some.injEq] at e ⊢
    exact ⟨_, rfl, e ▸ d.1⟩
  | _ :: _, _ :: _, i + 1, _, d, e => by
    unfold VRels at d
    simp only [List.getElem?_cons_succ] at e ⊢
    exact VRels.get d.2 e

/-- from (ι, h) on to (ι', h'): nothing that stood has turned but what is in the mini heap and in F -/
structure Ext (T : Tp) (F : List Addr) (ι : Inj) (h : Heap) (ι' : Inj) (h' : Heap) : Prop where
  pre : ∃ κ, ι' = ι ++ κ ∧ ∀ p ∈ κ, h.objs.size ≤ p.1 ∧ h.objs.size ≤ p.2
  size : h.objs.size ≤ h'.objs.size
  cls : ∀ a o, h.get? a = some o → loose o = false → ∃ o', h'.get? a = some o' ∧ o'.cls = o.cls
  frz : ∀ a o, h.get? a = some o → frozen o = true → h'.get? a = some o
  keep : ∀ a o, h.get? a = some o → a ∉ own ι → a ∉ F → o.cls ≠ .type "frame" → h'.get? a = some o
  frm : ∀ a o, h.get? a = some o → a ∉ own ι → a ∉ F → ∃ sl, h'.get? a = some { o with slots := sl }

theorem Ext.refl (T : Tp) (F : List Addr) (ι : Inj) (h : Heap) : Ext T F ι h ι h :=
  ⟨⟨[], by simp, by simp⟩, Nat.le_refl _, fun _ o e _ => ⟨o, e, rfl⟩, fun _ _ e _ => e, fun _ _ e _ _ _ => e, fun _ o e _ _ => ⟨o.slots, e⟩⟩

theorem Ext.mono {T : Tp} {F : List Addr} {ι ι' : Inj} {h h' : Heap} (x : Ext T F ι h ι' h') : Mono ι h ι' h' :=
  ⟨let ⟨κ, e, _⟩ := x.pre; ⟨κ, e⟩, x.cls, x.frz⟩

theorem Ext.not_own {T : Tp} {F : List Addr} {ι ι' : Inj} {h h' : Heap} (x : Ext T F ι h ι' h') {a : Addr} (hn : a ∉ own ι) (hl : a < h.objs.size) : a ∉ own ι' := by
  obtain ⟨κ, rfl, hk⟩ := x.pre
  rw [own_append, List.mem_append, not_or]
  refine ⟨hn, fun hm => ?_⟩
  obtain ⟨p, hp, e⟩ := mem_own.mp hm
  have := hk p hp
  rcases e with rfl | rfl
  · exact absurd this.1 (Nat.not_le.mpr hl)
  · exact absurd this.2 (Nat.not_le.mpr hl)

theorem Ext.trans {T : Tp} {F : List Addr} {ι ι₁ ι₂ : Inj} {h h₁ h₂ : Heap} (x : Ext T F ι h ι₁ h₁) (y : Ext T F ι₁ h₁ ι₂ h₂) : Ext T F ι h ι₂ h₂ := by
  refine ⟨?_, Nat.le_trans x.size y.size, fun a o e i => ?_, fun a o e f => y.frz a o (x.frz a o e f) f, fun a o e n f c => ?_, fun a o e n f => ?_⟩
  · obtain ⟨κ, rfl, hk⟩ := x.pre
    obtain ⟨κ', rfl, hk'⟩ := y.pre
    refine ⟨κ ++ κ', by simp, fun p hp => ?_⟩
    rcases List.mem_append.mp hp with hp | hp
    · exact hk p hp
    · exact ⟨Nat.le_trans x.size (hk' p hp).1, Nat.le_trans x.size (hk' p hp).2⟩
  · obtain ⟨o₁, e₁, c₁⟩ := x.cls a o e i
    obtain ⟨o₂, e₂, c₂⟩ := y.cls a o₁ e₁ ((loose_eq c₁).trans i)
    exact ⟨o₂, e₂, c₂.trans c₁⟩
  · exact y.keep a o (x.keep a o e n f c) (x.not_own n (Heap.lt_size e)) f c
  · obtain ⟨sl, e₁⟩ := x.frm a o e n f
    obtain ⟨sl', e₂⟩ := y.frm a _ e₁ (x.not_own n (Heap.lt_size e)) f
    exact ⟨sl', e₂⟩

theorem Ext.weaken {T : Tp} {F G : List Addr} {ι ι' : Inj} {h h' : Heap} (x : Ext T F ι h ι' h') (hFG : ∀ a ∈ F, a < h.objs.size → a ∈ G) : Ext T G ι h ι' h' :=
  ⟨x.pre, x.size, x.cls, x.frz, fun a o e n f c => x.keep a o e n (fun q => f (hFG a q (Heap.lt_size e))) c, fun a o e n f => x.frm a o e n (fun q => f (hFG a q (Heap.lt_size e)))⟩

/-- a new object at the heap's end -/
theorem Ext.push (T : Tp) (F : List Addr) (ι : Inj) (h : Heap) (o : Obj) : Ext T F ι h ι (h.push o) :=
  ⟨⟨[], by simp, by simp⟩, by rw [Heap.size_push]; omega, fun _ o e _ => ⟨o, Heap.get?_push_of_some _ e, rfl⟩, fun _ _ e _ => Heap.get?_push_of_some _ e, fun _ _ e _ _ _ => Heap.get?_push_of_some _ e,
    fun _ o e _ _ => ⟨o.slots, Heap.get?_push_of_some _ e⟩⟩

/-- all that stood stands -/
theorem Ext.of_keeps {T : Tp} {F : List Addr} {ι : Inj} {h h' : Heap} (hs : h.objs.size ≤ h'.objs.size) (k : ∀ b o, h.get? b = some o → h'.get? b = some o) : Ext T F ι h ι h' :=
  ⟨⟨[], by simp, by simp⟩, hs, fun _ o e _ => ⟨o, k _ _ e, rfl⟩, fun _ _ e _ => k _ _ e, fun _ _ e _ _ _ => k _ _ e, fun _ o e _ _ => ⟨o.slots, k _ _ e⟩⟩

/-- one object of the mini heap, or of F, has turned -/
theorem Ext.of_sameBut {T : Tp} {F : List Addr} {ι : Inj} {h h' : Heap} {a : Addr} {o o' : Obj} (hs : Heap.SameBut a h h') (ho : h.get? a = some o) (ho' : h'.get? a = some o') (hc : o'.cls = o.cls)
    (hf : frozen o = false) (hin : a ∈ own ι ∨ a ∈ F) : Ext T F ι h ι h' := by
  refine ⟨⟨[], by simp, by simp⟩, Nat.le_of_eq hs.1.symm, fun b x e _ => ?_, fun b x e f => ?_, fun b x e n f _ => ?_, fun b x e n f => ⟨x.slots, ?_⟩⟩
  · by_cases q : b = a
    · subst q; rw [ho] at e; cases e; exact ⟨o', ho', hc⟩
    · exact ⟨x, (hs.2 b q).trans e, rfl⟩
  · by_cases q : b = a
    · subst q; rw [ho] at e; cases e; rw [hf] at f; cases f
    · exact (hs.2 b q).trans e
  · by_cases q : b = a
    · subst q; rcases hin with q | q
      · exact absurd q n
      · exact absurd q f
    · exact (hs.2 b q).trans e
  · by_cases q : b = a
    · subst q; rcases hin with q | q
      · exact absurd q n
      · exact absurd q f
    · exact (hs.2 b q).trans e

end Mine

namespace Mine
open PySem PySem.Calls PyProof.Rows

/-- a namespace with its class told -/
def NsC (h : Heap) (a : Addr) (c : String) (m : Str → Option Value) : Prop :=
  ∃ o es ep, h.get? a = some o ∧ o.cls = .type c ∧ o.dict = none ∧ o.data = .dict es ep ∧ StrKeys es ∧ UniqKeys es ∧ ∀ name, nsFind es name = m name

theorem NsC.ns {h : Heap} {a : Addr} {c : String} {m} (x : NsC h a c m) : h.Ns a m := let ⟨o, es, ep, e, _, _, d, k, _, f⟩ := x; ⟨o, es, ep, e, d, k, f⟩
theorem NsC.lt {h : Heap} {a : Addr} {c : String} {m} (x : NsC h a c m) : a < h.objs.size := x.ns.lt
theorem NsC.of_slots {h h' : Heap} {a : Addr} {c : String} {m} (x : NsC h a c m) (k : ∀ o, h.get? a = some o → ∃ sl, h'.get? a = some { o with slots := sl }) : NsC h' a c m := by
  obtain ⟨o, es, ep, e, r⟩ := x
  obtain ⟨sl, e'⟩ := k o e
  exact ⟨_, es, ep, e', r⟩
theorem NsC.sameBut {h h' : Heap} {a b : Addr} {c : String} {m} (x : NsC h a c m) (hs : Heap.SameBut b h h') (hab : a ≠ b) : NsC h' a c m :=
  let ⟨o, es, ep, e, r⟩ := x; ⟨o, es, ep, (hs.2 a hab).trans e, r⟩

/-- a dict of at most n entries -/
def DSz (h : Heap) (a : Addr) (n : Nat) : Prop := ∀ o es ep, h.get? a = some o → o.data = .dict es ep → es.size ≤ n

section
variable {M : Model} {A : Around} {E : Value → Shared → Prop} {s : Shared}

theorem nsSetC {a : Addr} {c : String} {m} {name : Str} {v : Value} {Q : Unit → Shared → Prop} (hn : NsC s.heap a c m)
    (hQ : ∀ h', NsC h' a c (fun x => if x = name then some v else m x) → Heap.SameBut a s.heap h' → (∀ n, DSz s.heap a n → DSz h' a (if (m name).isSome then n else n + 1)) → Q () { s with heap := h', toks := s.toks + 1 }) :
    wpAny M A (nsSet a name v) Q E s := by
  intro Γ p _
  obtain ⟨o, es, ep, ho, hc, hdi, hd, hk, hu, hm⟩ := hn
  simp only [nsSet, strHash, Sem.wp_bind', Sem.wp_cmd_ask, Sem.wp_pure', Sem.wp_cmd_mkText]
  rw [Sem.wp_loadPart_of M Γ _ p { s with toks := s.toks + 1 } (o := o) _ ho]
  have hany : es.any (·.refKey) = false := by
    rw [Array.any_eq_false']; intro e he; obtain ⟨n, t, h⟩ := hk e he; simp [DictEntry.refKey, h]
  simp only [hd, aRefKeyMayBeTheName_eq, aRefKeyMayBeTheNameByArray, hany, Bool.and_false, Bool.false_eq_true, if_false, Sem.wp_cmd_updatePart]
  refine ⟨by rw [ho]; rfl, hQ _ ?_ (Heap.SameBut.update ..) fun n hz o' es' ep' ho' hd' => ?_⟩
  rotate_left
  · have h0 := hz _ _ _ ho hd
    have hf : nsFind es name = (es.find? (·.key.isStr name)).map (·.val) := rfl
    have hm' := hm name
    obtain ⟨c', d, dt, sl⟩ := o
    subst hd
    cases hi : es.findIdx? (·.key.isStr name) with
    | some i =>
      rw [Heap.get?_update_self _ ho (by simp only [Obj.putName_eq, Obj.putNameByArray, hi]; rfl)] at ho'
      cases ho'
      simp only [Obj.putName_eq, Obj.putNameByArray, hi, Data.dict.injEq] at hd'
      have : es'.size = es.size := by rw [← hd'.1]; simp
      have : n ≤ (if (m name).isSome then n else n + 1) := by split <;> omega
      omega
    | none =>
      rw [Heap.get?_update_self _ ho (by simp only [Obj.putName_eq, Obj.putNameByArray, hi]; rfl)] at ho'
      cases ho'
      simp only [Obj.putName_eq, Obj.putNameByArray, hi, Data.dict.injEq] at hd'
      have h1 : es'.size = es.size + 1 := by rw [← hd'.1]; simp
      have : m name = none := by
        rw [← hm', hf]
        rw [Array.findIdx?_eq_none_iff] at hi
        rw [Array.find?_eq_none.mpr (fun x hx => by simpa using hi x hx)]; rfl
      rw [this]; simp; omega
  obtain ⟨c', d, dt, sl⟩ := o
  subst hd
  cases hi : es.findIdx? (·.key.isStr name) with
  | some i =>
    refine ⟨_, _, ep, Heap.get?_update_self _ ho (by simp only [Obj.putName_eq, Obj.putNameByArray, hi]; rfl), by simp only [Obj.putName_eq, Obj.putNameByArray, hi]; exact hc, by simp only [Obj.putName_eq, Obj.putNameByArray, hi]; exact hdi, by simp only [Obj.putName_eq, Obj.putNameByArray, hi]; rfl, hk.modify _ _, hu.modify _ _, fun x => ?_⟩
    show _ = if x = name then some v else m x
    rw [← hm]; exact findBy_modify (fun n v => v.isStr n) Value.isStr_inj es name x v i hi
  | none =>
    refine ⟨_, _, ep + 1, Heap.get?_update_self _ ho (by simp only [Obj.putName_eq, Obj.putNameByArray, hi]; rfl), by simp only [Obj.putName_eq, Obj.putNameByArray, hi]; exact hc, by simp only [Obj.putName_eq, Obj.putNameByArray, hi]; exact hdi, by simp only [Obj.putName_eq, Obj.putNameByArray, hi]; rfl, hk.push _ _ _ _, hu.push _ _ _ _ hi, fun x => ?_⟩
    show _ = if x = name then some v else m x
    rw [← hm]
    exact findBy_push (fun n v => v.isStr n) es name x _ _ v (fun y => by
      show (name == y) = decide (y = name)
      by_cases h : y = name
      · subst h; simp
      · have : ¬ name = y := fun e => h e.symm
        simp [h, this]) hi
end

/-- a list of the program's own -/
def ListAt (h : Heap) (a : Addr) (items : List Value) : Prop := ∃ n, h.get? a = some ⟨.type "list", none, .seq items.toArray n, #[]⟩

def KVRel (T : Tp) (ι : Inj) (h : Heap) : List (Str × V) → List (Str × Value) → Prop
  | [], [] => True
  | (k, v) :: r, (k', x) :: q => k = k' ∧ VRel T ι h v x ∧ KVRel T ι h r q
  | _, _ => False

def ORel (T : Tp) (ι : Inj) (h : Heap) : MObj → Addr × Addr → Prop
  | .list vs, p => p.1 = p.2 ∧ ∃ items, ListAt h p.1 items ∧ VRels T ι h vs items
  | .sdict kvs, p => p.1 = p.2 ∧ ∃ rvs, h.DictOf (strKind T.prog T.w) p.1 rvs ∧ KVRel T ι h kvs rvs
  | .tdict _, _ => False
  | .inst c fs, p => ∃ C m sl, T.c c = some C ∧ h.get? p.1 = some ⟨.ref C, some p.2, .plain, sl⟩ ∧ NsC h p.2 "dict" m ∧ (∀ x, ORelV T ι h (fs.lookup x) (m x)) ∧ DSz h p.2 fs.length

structure Rep (T : Tp) (ι : Inj) (σ : Hp) (h : Heap) : Prop where
  len : ι.length = σ.length
  big : 10 ≤ T.b0.objs.size
  size : T.b0.objs.size ≤ h.objs.size
  base : ∀ a o, T.b0.get? a = some o → h.get? a = some o
  objs : ∀ (l : Nat) (o : MObj) (p : Addr × Addr), σ[l]? = some o → ι[l]? = some p → ORel T ι h o p
  fresh : ∀ p ∈ ι, T.b0.objs.size ≤ p.1 ∧ T.b0.objs.size ≤ p.2
  apart : ∀ (i j : Nat) (p q : Addr × Addr), ι[i]? = some p → ι[j]? = some q → i ≠ j → p.1 ≠ q.1 ∧ p.1 ≠ q.2 ∧ p.2 ≠ q.1 ∧ p.2 ≠ q.2

theorem KVRel.mono {T : Tp} {ι ι' : Inj} {h h' : Heap} (m : Mono ι h ι' h') : ∀ {kvs : List (Str × V)} {rvs : List (Str × Value)}, KVRel T ι h kvs rvs → KVRel T ι' h' kvs rvs
  | [], [], _ => trivial
  | _ :: _, _ :: _, e => ⟨e.1, VRel.mono m e.2.1, KVRel.mono m e.2.2⟩

theorem ORel.lt {T : Tp} {ι : Inj} {h : Heap} : ∀ {o : MObj} {p : Addr × Addr}, ORel T ι h o p → p.1 < h.objs.size ∧ p.2 < h.objs.size
  | .list _, _, ⟨e, _, ⟨_, x⟩, _⟩ => ⟨Heap.lt_size x, e ▸ Heap.lt_size x⟩
  | .sdict _, _, ⟨e, _, ⟨_, _, _, x, _⟩, _⟩ => ⟨Heap.lt_size x, e ▸ Heap.lt_size x⟩
  | .inst _ _, _, ⟨_, _, _, _, x, y, _⟩ => ⟨Heap.lt_size x, y.lt⟩

theorem Rep.get {T : Tp} {ι : Inj} {σ : Hp} {h : Heap} (r : Rep T ι σ h) {l : Nat} {o : MObj} (e : σ[l]? = some o) : ∃ p, ι[l]? = some p ∧ ORel T ι h o p := by
  have hl : l < ι.length := by rw [r.len]; exact (List.getElem?_eq_some_iff.mp e).1
  exact ⟨ι[l], List.getElem?_eq_getElem hl, r.objs l o _ e (List.getElem?_eq_getElem hl)⟩
theorem Rep.lt {T : Tp} {ι : Inj} {σ : Hp} {h : Heap} (r : Rep T ι σ h) {p : Addr × Addr} (hp : p ∈ ι) : p.1 < h.objs.size ∧ p.2 < h.objs.size := by
  obtain ⟨l, hl, rfl⟩ := List.getElem_of_mem hp
  have hl' : l < σ.length := by rw [← r.len]; exact hl
  exact (r.objs l σ[l] ι[l] (List.getElem?_eq_getElem hl') (List.getElem?_eq_getElem hl)).lt
theorem Rep.own_lt {T : Tp} {ι : Inj} {σ : Hp} {h : Heap} (r : Rep T ι σ h) {a : Addr} (ha : a ∈ own ι) : a < h.objs.size := by
  obtain ⟨p, hp, e⟩ := mem_own.mp ha
  rcases e with rfl | rfl
  · exact (r.lt hp).1
  · exact (r.lt hp).2
theorem Rep.own_ge {T : Tp} {ι : Inj} {σ : Hp} {h : Heap} (r : Rep T ι σ h) {a : Addr} (ha : a ∈ own ι) : T.b0.objs.size ≤ a := by
  obtain ⟨p, hp, e⟩ := mem_own.mp ha
  rcases e with rfl | rfl
  · exact (r.fresh p hp).1
  · exact (r.fresh p hp).2

/-- an object of the mini heap stands in a later heap that keeps its own one or two objects -/
theorem ORel.keeps {T : Tp} {ι ι' : Inj} {h h' : Heap} (m : Mono ι h ι' h') : ∀ {o : MObj} {p : Addr × Addr}, (∀ x, h.get? p.1 = some x → h'.get? p.1 = some x) → (∀ x, h.get? p.2 = some x → h'.get? p.2 = some x) → ORel T ι h o p → ORel T ι' h' o p
  | .list _, _, k, _, ⟨e, items, ⟨n, x⟩, r⟩ => ⟨e, items, ⟨n, k _ x⟩, r.mono m⟩
  | .sdict _, _, k, _, ⟨e, rvs, ⟨o, es, ep, x, r⟩, q⟩ => ⟨e, rvs, ⟨o, es, ep, k _ x, r⟩, q.mono m⟩
  | .inst _ _, _, k, k', ⟨C, mm, sl, c, x, y, r, dz⟩ => ⟨C, mm, sl, c, k _ x, (let ⟨o, es, ep, e, z⟩ := y; ⟨o, es, ep, k' _ e, z⟩), fun z => (r z).mono m, fun o es ep e hd => by
      obtain ⟨o', _, _, e', _⟩ := y
      have := k' _ e'
      rw [this] at e; cases e
      exact dz _ _ _ e' hd⟩

/-- the mini heap stands in a later heap that keeps all its objects -/
theorem Rep.keeps {T : Tp} {ι : Inj} {σ : Hp} {h h' : Heap} (r : Rep T ι σ h) (m : Mono ι h ι h') (hs : h.objs.size ≤ h'.objs.size) (hb : ∀ a o, T.b0.get? a = some o → h'.get? a = some o) (k : ∀ a ∈ own ι, ∀ o, h.get? a = some o → h'.get? a = some o) : Rep T ι σ h' where
  len := r.len
  big := r.big
  size := Nat.le_trans r.size hs
  base := hb
  objs := fun l o p e q => (r.objs l o p e q).keeps m (k _ (mem_own.mpr ⟨p, List.mem_of_getElem? q, .inl rfl⟩)) (k _ (mem_own.mpr ⟨p, List.mem_of_getElem? q, .inr rfl⟩))
  fresh := r.fresh
  apart := r.apart
theorem Rep.grow {T : Tp} {ι : Inj} {σ : Hp} {h h' : Heap} (r : Rep T ι σ h) (hs : h.objs.size ≤ h'.objs.size) (k : ∀ a o, h.get? a = some o → h'.get? a = some o) : Rep T ι σ h' :=
  r.keeps ⟨⟨[], by simp⟩, fun _ o e _ => ⟨o, k _ _ e, rfl⟩, fun _ _ e _ => k _ _ e⟩ hs (fun a o e => k _ _ (r.base a o e)) fun a _ o e => k a o e
theorem Rep.push {T : Tp} {ι : Inj} {σ : Hp} {h : Heap} (r : Rep T ι σ h) (o : Obj) : Rep T ι σ (h.push o) :=
  r.grow (by rw [Heap.size_push]; omega) fun _ _ e => Heap.get?_push_of_some _ e

/-- one object more -/
theorem Rep.more {T : Tp} {ι : Inj} {σ : Hp} {h : Heap} (r : Rep T ι σ h) {o : MObj} {p : Addr × Addr} (ho : ORel T (ι ++ [p]) h o p) (h1 : T.b0.objs.size ≤ p.1) (h2 : T.b0.objs.size ≤ p.2) (n1 : p.1 ∉ own ι) (n2 : p.2 ∉ own ι) :
    Rep T (ι ++ [p]) (σ ++ [o]) h where
  len := by simp [r.len]
  big := r.big
  size := r.size
  base := r.base
  objs := fun l x q e e' => by
    have m : Mono ι h (ι ++ [p]) h := ⟨⟨[p], rfl⟩, fun _ o e _ => ⟨o, e, rfl⟩, fun _ _ e _ => e⟩
    rcases Nat.lt_or_ge l σ.length with hl | hl
    · rw [List.getElem?_append_left hl] at e
      rw [List.getElem?_append_left (by rw [r.len]; exact hl)] at e'
      exact (r.objs l x q e e').keeps m (fun _ z => z) fun _ z => z
    · rw [List.getElem?_append_right hl] at e
      rw [List.getElem?_append_right (by rw [r.len]; exact hl), r.len] at e'
      rcases Nat.eq_zero_or_pos (l - σ.length) with z | z
      · rw [z] at e e'
        simp only [List.getElem?_cons_zero, Option.some.injEq] at e e'
        subst e e'; exact ho
      · rw [List.getElem?_eq_none (by simp; omega)] at e; cases e
  fresh := fun q hq => by
    rcases List.mem_append.mp hq with hq | hq
    · exact r.fresh q hq
    · cases List.mem_singleton.mp hq; exact ⟨h1, h2⟩
  apart := fun i j q q' e e' hij => by
    have key : ∀ (k : Nat) (x : Addr × Addr), (ι ++ [p])[k]? = some x → (k < ι.length ∧ ι[k]? = some x) ∨ (k = ι.length ∧ x = p) := fun k x e => by
      rcases Nat.lt_or_ge k ι.length with hl | hl
      · rw [List.getElem?_append_left hl] at e; exact .inl ⟨hl, e⟩
      · rw [List.getElem?_append_right hl] at e
        rcases Nat.eq_zero_or_pos (k - ι.length) with z | z
        · rw [z] at e; simp only [List.getElem?_cons_zero, Option.some.injEq] at e; exact .inr ⟨by omega, e.symm⟩
        · rw [List.getElem?_eq_none (by simp; omega)] at e; cases e
    have no : ∀ x : Addr × Addr, x ∈ ι → p.1 ≠ x.1 ∧ p.1 ≠ x.2 ∧ p.2 ≠ x.1 ∧ p.2 ≠ x.2 := fun x hx =>
      ⟨fun z => n1 (mem_own.mpr ⟨x, hx, .inl z⟩), fun z => n1 (mem_own.mpr ⟨x, hx, .inr z⟩), fun z => n2 (mem_own.mpr ⟨x, hx, .inl z⟩), fun z => n2 (mem_own.mpr ⟨x, hx, .inr z⟩)⟩
    rcases key i q e with ⟨hi, ei⟩ | ⟨hi, rfl⟩ <;> rcases key j q' e' with ⟨hj, ej⟩ | ⟨hj, rfl⟩
    · exact r.apart i j q q' ei ej hij
    · obtain ⟨a, b, c, d⟩ := no q (List.mem_of_getElem? ei)
      exact ⟨a.symm, c.symm, b.symm, d.symm⟩
    · exact no q' (List.mem_of_getElem? ej)
    · omega

/-- one object turned -/
theorem Rep.turn {T : Tp} {ι : Inj} {σ : Hp} {h h' : Heap} (r : Rep T ι σ h) {l : Nat} {p : Addr × Addr} {o : MObj} {a : Addr} (hp : ι[l]? = some p) (m : Mono ι h ι h') (hs : Heap.SameBut a h h') (ha : a = p.1 ∨ a = p.2)
    (ho : ORel T ι h' o p) : Rep T ι (σ.set l o) h' where
  len := by simp [r.len]
  big := r.big
  size := Nat.le_trans r.size (Nat.le_of_eq hs.1.symm)
  base := fun b x e => by
    have hne : b ≠ a := fun q => by
      have h1 := Heap.lt_size e
      have h2 := r.fresh p (List.mem_of_getElem? hp)
      rw [q] at h1
      rcases ha with ha | ha <;> rw [ha] at h1
      · exact absurd h2.1 (Nat.not_le.mpr h1)
      · exact absurd h2.2 (Nat.not_le.mpr h1)
    exact (hs.2 b hne).trans (r.base b x e)
  objs := fun k x q e e' => by
    by_cases hk : k = l
    · subst hk
      rw [hp] at e'; cases e'
      rw [List.getElem?_set_self (by rw [← r.len]; exact (List.getElem?_eq_some_iff.mp hp).1)] at e
      cases e; exact ho
    · rw [List.getElem?_set_ne (fun z => hk z.symm)] at e
      have := r.apart k l q p e' hp hk
      have keep : ∀ b, b = q.1 ∨ b = q.2 → ∀ z, h.get? b = some z → h'.get? b = some z := fun b hb z hz => (hs.2 b (fun y => by
        rcases ha with rfl | rfl <;> rcases hb with rfl | rfl <;> simp_all)).trans hz
      exact (r.objs k x q e e').keeps m (keep _ (.inl rfl)) (keep _ (.inr rfl))
  fresh := r.fresh
  apart := r.apart

end Mine

namespace Mine
open PySem PySem.Calls PyProof.Rows

abbrev Loc := Str → Option V
def upd (ρ : Loc) (x : Str) (v : Option V) : Loc := fun y => if y = x then v else ρ y

/-- the frames below, the room, and what is being handled -/
structure AOk (T : Tp) (A : Around) (fs : List Env) (d : Nat) (ι : Inj) (h : Heap) : Prop where
  frames : A.frames = some fs
  funs : ∀ e ∈ fs, e.scope.kind = .function ∧ ∃ L o es ep, e.frame = some L ∧ L ∉ own ι ∧ T.b0.objs.size ≤ L ∧ h.get? L = some o ∧ o.cls = .type "frame" ∧ o.data = .dict es ep
  depth : A.depth + d ≤ recursionLimit
  units : A.units + 10 * d + 50 ≤ cLine
  hd : A.handled = none

/-- the class of a frame's names: a comprehension's are a dict -/
def nsCls (env : Env) (c : String) : Prop := (c = "frame" ∨ c = "dict") ∧ (env.frame ≠ some env.locals → c = "dict")
/-- the names of the frame at hand -/
structure Frm (T : Tp) (env : Env) (F : List Addr) (ρ : Loc) (ι : Inj) (h : Heap) : Prop where
  kind : env.scope.kind = .function
  glb : env.globals = mainGlobals
  blt : env.builtins = builtinsNs
  ns : ∃ c m, nsCls env c ∧ NsC h env.locals c m ∧ ∀ x, env.kindOf x = some .local → ORelV T ι h (ρ x) (m x)
  cells : ∀ x, env.kindOf x = some .cell ∨ env.kindOf x = some .free → ∃ c o v, env.cells.lookup x = some c ∧ h.get? c = some o ∧ o.cls = .type "cell" ∧ o.data = .cell v ∧ ORelV T ι h (ρ x) v ∧ c ∉ own ι
  inj : ∀ x y c, (env.kindOf x = some .cell ∨ env.kindOf x = some .free) → (env.kindOf y = some .cell ∨ env.kindOf y = some .free) → env.cells.lookup x = some c → env.cells.lookup y = some c → x = y
  loc : env.locals ∈ F
  cin : ∀ x c, env.kindOf x = some .cell → env.cells.lookup x = some c → c ∈ F
  apart : ∀ a ∈ F, a ∉ own ι ∧ T.b0.objs.size ≤ a
  there : ∀ a ∈ F, ∃ o, h.get? a = some o ∧ frozen o = false ∧ iterish o = false

structure Inv (T : Tp) (A : Around) (fs : List Env) (d : Nat) (env : Env) (F : List Addr) (ρ : Loc) (ι : Inj) (σ : Hp) (s : Shared) : Prop where
  rep : Rep T ι σ s.heap
  aok : AOk T A fs d ι s.heap
  frm : Frm T env F ρ ι s.heap
  top : ∃ e r L, fs = e :: r ∧ e.frame = some L ∧ env.frame = some L
  gens : s.gens = #[]
  os : s.os = T.os

theorem AOk.ext {T : Tp} {A : Around} {fs : List Env} {d : Nat} {ι ι' : Inj} {h h' : Heap} {F : List Addr} (x : AOk T A fs d ι h) (e : Ext T F ι h ι' h')
    (hF : ∀ en ∈ fs, ∀ L, en.frame = some L → L ∈ F → ∃ o es ep, h'.get? L = some o ∧ o.data = .dict es ep) : AOk T A fs d ι' h' where
  frames := x.frames
  funs := fun en hen => by
    obtain ⟨k, L, o, es, ep, f, n, b, g, c, dd⟩ := x.funs en hen
    refine ⟨k, L, ?_⟩
    by_cases q : L ∈ F
    · obtain ⟨o', es', ep', g', d'⟩ := hF en hen L f q
      obtain ⟨o₂, g₂, c₂⟩ := e.cls L o g (by simp [loose, c])
      rw [g'] at g₂; cases g₂
      exact ⟨o', es', ep', f, e.not_own n (Heap.lt_size g), b, g', c₂.trans c, d'⟩
    · obtain ⟨sl, g'⟩ := e.frm L o g n q
      exact ⟨_, es, ep, f, e.not_own n (Heap.lt_size g), b, g', c, dd⟩
  depth := x.depth
  units := x.units
  hd := x.hd

theorem Frm.ext {T : Tp} {env : Env} {F : List Addr} {ρ : Loc} {ι ι' : Inj} {h h' : Heap} (x : Frm T env F ρ ι h) (e : Ext T [] ι h ι' h') : Frm T env F ρ ι' h' where
  kind := x.kind
  glb := x.glb
  blt := x.blt
  ns := by
    obtain ⟨c, m, hc, hn, r⟩ := x.ns
    exact ⟨c, m, hc, hn.of_slots fun o ho => e.frm _ o ho (x.apart _ x.loc).1 (by simp), fun y hy => (r y hy).mono e.mono⟩
  cells := fun y hy => by
    obtain ⟨c, o, v, e1, e2, e3, e4, e5, e6⟩ := x.cells y hy
    exact ⟨c, o, v, e1, e.keep c o e2 e6 (by simp) (by rw [e3]; simp), e3, e4, e5.mono e.mono, e.not_own e6 (Heap.lt_size e2)⟩
  inj := x.inj
  loc := x.loc
  cin := x.cin
  apart := fun a ha => by
    obtain ⟨o, ho, _, _⟩ := x.there a ha
    exact ⟨e.not_own (x.apart a ha).1 (Heap.lt_size ho), (x.apart a ha).2⟩
  there := fun a ha => by
    obtain ⟨o, ho, hf, hi⟩ := x.there a ha
    obtain ⟨sl, ho'⟩ := e.frm a o ho (x.apart a ha).1 (by simp)
    exact ⟨_, ho', by simpa [frozen] using hf, by simpa [iterish] using hi⟩

theorem Inv.ext {T : Tp} {A : Around} {fs : List Env} {d : Nat} {env : Env} {F : List Addr} {ρ : Loc} {ι ι' : Inj} {σ σ' : Hp} {s s' : Shared} (x : Inv T A fs d env F ρ ι σ s) (e : Ext T [] ι s.heap ι' s'.heap) (r : Rep T ι' σ' s'.heap)
    (hg : s'.gens = #[]) (ho : s'.os = T.os) : Inv T A fs d env F ρ ι' σ' s' :=
  ⟨r, x.aok.ext e (fun _ _ _ _ q => by simp at q), x.frm.ext e, x.top, hg, ho⟩

abbrev QE := V → Hp → Prop
abbrev QX := Str → Hp → Prop

/-- a traceback that was made behind lo -/
def TbAt (lo : Nat) (ea : Addr) (h : Heap) (v : Value) : Prop := ∃ tb ot ts, v = .ref tb ∧ lo ≤ tb ∧ tb ≠ ea ∧ h.get? tb = some ot ∧ ot.cls = .type "traceback" ∧ ot.data = .fields ts ∧ 3 < ts.size
/-- the exception e of the own class c is under way; it was made behind lo -/
def Fly (T : Tp) (lo : Nat) (ea : Addr) (c : Str) (h : Heap) : Prop :=
  ∃ C oe vs v, T.c c = some C ∧ lo ≤ ea ∧ h.get? ea = some oe ∧ oe.cls = .ref C ∧ oe.data = .fields vs ∧ 5 < vs.size ∧ vs[2]? = some .none ∧ vs[1]? = some v ∧ (v = .none ∨ TbAt lo ea h v)
/-- and it has its traceback -/
def FlyT (T : Tp) (lo : Nat) (ea : Addr) (c : Str) (h : Heap) : Prop :=
  ∃ C oe vs v, T.c c = some C ∧ lo ≤ ea ∧ h.get? ea = some oe ∧ oe.cls = .ref C ∧ oe.data = .fields vs ∧ 5 < vs.size ∧ vs[2]? = some .none ∧ vs[1]? = some v ∧ TbAt lo ea h v
theorem FlyT.fly {T : Tp} {lo : Nat} {ea : Addr} {c : Str} {h : Heap} (x : FlyT T lo ea c h) : Fly T lo ea c h :=
  let ⟨C, oe, vs, v, a, b, d, e, f, g, i, j, k⟩ := x; ⟨C, oe, vs, v, a, b, d, e, f, g, i, j, .inr k⟩

/-- behind a tree that hands on a value -/
def PostE (T : Tp) (F : List Addr) (Q : QE) (ι : Inj) (h : Heap) (x : Value) (s' : Shared) : Prop :=
  ∃ v σ' ι', Q v σ' ∧ VRel T ι' s'.heap v x ∧ Rep T ι' σ' s'.heap ∧ Ext T F ι h ι' s'.heap ∧ s'.gens = #[] ∧ s'.os = T.os
def PostX (T : Tp) (F : List Addr) (X : QX) (ι : Inj) (h : Heap) (x : Value) (s' : Shared) : Prop :=
  ∃ ea c σ' ι', x = .ref ea ∧ X c σ' ∧ Fly T h.objs.size ea c s'.heap ∧ ea ∉ own ι' ∧ Rep T ι' σ' s'.heap ∧ Ext T F ι h ι' s'.heap ∧ s'.gens = #[] ∧ s'.os = T.os

theorem PostE.trans {T : Tp} {F : List Addr} {Q : QE} {ι ι₁ : Inj} {h h₁ : Heap} {x : Value} {s' : Shared} (e : Ext T F ι h ι₁ h₁) (p : PostE T F Q ι₁ h₁ x s') : PostE T F Q ι h x s' :=
  let ⟨v, σ', ι', q, r, rp, e', g, o⟩ := p; ⟨v, σ', ι', q, r, rp, e.trans e', g, o⟩
theorem TbAt.lo {lo lo' : Nat} {ea : Addr} {h : Heap} {v : Value} (x : TbAt lo ea h v) (hl : lo' ≤ lo) : TbAt lo' ea h v :=
  let ⟨tb, ot, ts, a, b, r⟩ := x; ⟨tb, ot, ts, a, Nat.le_trans hl b, r⟩
theorem Fly.lo {T : Tp} {lo lo' : Nat} {ea : Addr} {c : Str} {h : Heap} (x : Fly T lo ea c h) (hl : lo' ≤ lo) : Fly T lo' ea c h := by
  obtain ⟨C, oe, vs, v, a, b, d, e, f, g, i, j, k⟩ := x
  exact ⟨C, oe, vs, v, a, Nat.le_trans hl b, d, e, f, g, i, j, k.imp id (·.lo hl)⟩
theorem PostX.trans {T : Tp} {F : List Addr} {X : QX} {ι ι₁ : Inj} {h h₁ : Heap} {x : Value} {s' : Shared} (e : Ext T F ι h ι₁ h₁) (p : PostX T F X ι₁ h₁ x s') : PostX T F X ι h x s' :=
  let ⟨ea, c, σ', ι', a, b, f, n, rp, e', g, o⟩ := p; ⟨ea, c, σ', ι', a, b, f.lo e.size, n, rp, e.trans e', g, o⟩
theorem PostE.mono {T : Tp} {F : List Addr} {Q Q' : QE} {ι : Inj} {h : Heap} {x : Value} {s' : Shared} (p : PostE T F Q ι h x s') (k : ∀ v σ, Q v σ → Q' v σ) : PostE T F Q' ι h x s' :=
  let ⟨v, σ', ι', q, r⟩ := p; ⟨v, σ', ι', k _ _ q, r⟩
theorem PostX.mono {T : Tp} {F : List Addr} {X X' : QX} {ι : Inj} {h : Heap} {x : Value} {s' : Shared} (p : PostX T F X ι h x s') (k : ∀ c σ, X c σ → X' c σ) : PostX T F X' ι h x s' :=
  let ⟨ea, c, σ', ι', a, b, r⟩ := p; ⟨ea, c, σ', ι', a, k _ _ b, r⟩

/-- the mini heap and the frames below, at a state -/
structure St (T : Tp) (A : Around) (fs : List Env) (d : Nat) (ι : Inj) (σ : Hp) (s : Shared) : Prop where
  rep : Rep T ι σ s.heap
  aok : AOk T A fs d ι s.heap
  gens : s.gens = #[]
  os : s.os = T.os
theorem Inv.st {T : Tp} {A : Around} {fs : List Env} {d : Nat} {env : Env} {F : List Addr} {ρ : Loc} {ι : Inj} {σ : Hp} {s : Shared} (x : Inv T A fs d env F ρ ι σ s) : St T A fs d ι σ s := ⟨x.rep, x.aok, x.gens, x.os⟩
theorem St.ext {T : Tp} {A : Around} {fs : List Env} {d : Nat} {ι ι' : Inj} {σ σ' : Hp} {s s' : Shared} (x : St T A fs d ι σ s) (e : Ext T [] ι s.heap ι' s'.heap) (r : Rep T ι' σ' s'.heap) (hg : s'.gens = #[]) (ho : s'.os = T.os) : St T A fs d ι' σ' s' :=
  ⟨r, x.aok.ext e (fun _ _ _ _ q => by simp at q), hg, ho⟩
theorem St.toks {T : Tp} {A : Around} {fs : List Env} {d : Nat} {ι : Inj} {σ : Hp} {s : Shared} (x : St T A fs d ι σ s) (t : Nat) : St T A fs d ι σ { s with toks := t } := ⟨x.rep, x.aok, x.gens, x.os⟩

section
variable {T : Tp} {A : Around} {fs : List Env} {d : Nat} {ι : Inj} {σ : Hp} {s : Shared} {F : List Addr}

/-- a value that needs no heap of its own, the heap as it was -/
theorem St.post {Q : QE} {v : V} {x : Value} (S : St T A fs d ι σ s) (q : Q v σ) (r : VRel T ι s.heap v x) (t : Nat) : PostE T F Q ι s.heap x { s with toks := t } :=
  ⟨v, σ, ι, q, r, S.rep, .refl .., S.gens, S.os⟩
theorem St.post0 {Q : QE} {v : V} {x : Value} (S : St T A fs d ι σ s) (q : Q v σ) (r : VRel T ι s.heap v x) : PostE T F Q ι s.heap x s :=
  ⟨v, σ, ι, q, r, S.rep, .refl .., S.gens, S.os⟩
/-- the heap has grown by things that the mini heap does not know -/
theorem St.grown {Q : QE} {v : V} {x : Value} {h' : Heap} {t : Nat} (S : St T A fs d ι σ s) (hs : s.heap.objs.size ≤ h'.objs.size) (k : ∀ b o, s.heap.get? b = some o → h'.get? b = some o) (q : Q v σ) (r : VRel T ι h' v x) :
    PostE T F Q ι s.heap x { s with heap := h', toks := t } :=
  ⟨v, σ, ι, q, r, S.rep.grow hs k, .of_keeps hs k, S.gens, S.os⟩
end

/-- an expression, at the mini level: from σ it comes to a value and a mini heap of Q, or raises by X -/
def EvOk (T : Tp) (d : Nat) (sc : Scope) (ρ : Loc) (X : QX) (e : Expr) (Q : QE) (σ : Hp) : Prop :=
  ∀ env A fs F ι s, env.scope = sc → Inv T A fs d env F ρ ι σ s → wpAny (model T.prog T.w) A (eval e env) (PostE T [] Q ι s.heap) (PostX T [] X ι s.heap) s

/-- behind a tree that hands on a truth -/
def PostB (T : Tp) (Q : Bool → Hp → Prop) (ι : Inj) (h : Heap) (b : Bool) (s' : Shared) : Prop :=
  ∃ σ' ι', Q b σ' ∧ Rep T ι' σ' s'.heap ∧ Ext T [] ι h ι' s'.heap ∧ s'.gens = #[] ∧ s'.os = T.os
theorem PostB.trans {T : Tp} {Q : Bool → Hp → Prop} {ι ι₁ : Inj} {h h₁ : Heap} {b : Bool} {s' : Shared} (e : Ext T [] ι h ι₁ h₁) (p : PostB T Q ι₁ h₁ b s') : PostB T Q ι h b s' :=
  let ⟨σ', ι', q, rp, e', g, o⟩ := p; ⟨σ', ι', q, rp, e.trans e', g, o⟩
/-- an expression as a test -/
def TsOk (T : Tp) (d : Nat) (sc : Scope) (ρ : Loc) (X : QX) (e : Expr) (Q : Bool → Hp → Prop) (σ : Hp) : Prop :=
  ∀ env A fs F ι s, env.scope = sc → Inv T A fs d env F ρ ι σ s → wpAny (model T.prog T.w) A (isTrue e env (eval e env)) (PostB T Q ι s.heap) (PostX T [] X ι s.heap) s

/-- several expressions, in their order -/
def PostL (T : Tp) (Q : List V → Hp → Prop) (ι : Inj) (h : Heap) (xs : List Value) (s' : Shared) : Prop :=
  ∃ vs σ' ι', Q vs σ' ∧ VRels T ι' s'.heap vs xs ∧ Rep T ι' σ' s'.heap ∧ Ext T [] ι h ι' s'.heap ∧ s'.gens = #[] ∧ s'.os = T.os
theorem PostL.trans {T : Tp} {Q : List V → Hp → Prop} {ι ι₁ : Inj} {h h₁ : Heap} {x : List Value} {s' : Shared} (e : Ext T [] ι h ι₁ h₁) (p : PostL T Q ι₁ h₁ x s') : PostL T Q ι h x s' :=
  let ⟨v, σ', ι', q, r, rp, e', g, o⟩ := p; ⟨v, σ', ι', q, r, rp, e.trans e', g, o⟩
def EvsOk (T : Tp) (d : Nat) (sc : Scope) (ρ : Loc) (X : QX) (es : List Expr) (Q : List V → Hp → Prop) (σ : Hp) : Prop :=
  ∀ env A fs F ι s, env.scope = sc → Inv T A fs d env F ρ ι σ s → wpAny (model T.prog T.w) A (spliced (es.map fun e => (false, eval e env))) (PostL T Q ι s.heap) (PostX T [] X ι s.heap) s

/-- a tree over some values -/
def OpOk (T : Tp) (d : Nat) (X : QX) (t : List Value → Sem Value) (args : List V) (Q : QE) (σ : Hp) : Prop :=
  ∀ A fs ι s xs, St T A fs d ι σ s → VRels T ι s.heap args xs → wpAny (model T.prog T.w) A (t xs) (PostE T [] Q ι s.heap) (PostX T [] X ι s.heap) s

/-- a call of a value -/
def CallOk (T : Tp) (d : Nat) (X : QX) (f : V) (args : List V) (Q : QE) (σ : Hp) : Prop :=
  ∀ A fs ι s fv xs, St T A fs d ι σ s → VRel T ι s.heap f fv → VRels T ι s.heap args xs → wpAny (model T.prog T.w) A (call fv xs) (PostE T [] Q ι s.heap) (PostX T [] X ι s.heap) s

theorem CallOk.mono {T : Tp} {d : Nat} {X X' : QX} {f : V} {args : List V} {Q Q' : QE} {σ : Hp} (h : CallOk T d X f args Q σ) (k : ∀ v σ, Q v σ → Q' v σ) (kx : ∀ c σ, X c σ → X' c σ) : CallOk T d X' f args Q' σ :=
  fun A fs ι s fv xs S hf hx => wpAny_mono (h A fs ι s fv xs S hf hx) (fun _ _ p => p.mono k) fun _ _ p => p.mono kx
theorem AOk.le {T : Tp} {A : Around} {fs : List Env} {d d' : Nat} {ι : Inj} {h : Heap} (x : AOk T A fs d' ι h) (hd : d ≤ d') : AOk T A fs d ι h :=
  ⟨x.frames, x.funs, by have := x.depth; omega, by have := x.units; omega, x.hd⟩
theorem St.le {T : Tp} {A : Around} {fs : List Env} {d d' : Nat} {ι : Inj} {σ : Hp} {s : Shared} (x : St T A fs d' ι σ s) (hd : d ≤ d') : St T A fs d ι σ s := ⟨x.rep, x.aok.le hd, x.gens, x.os⟩
theorem CallOk.le {T : Tp} {d d' : Nat} {X : QX} {f : V} {args : List V} {Q : QE} {σ : Hp} (h : CallOk T d X f args Q σ) (hd : d ≤ d') : CallOk T d' X f args Q σ :=
  fun A fs ι s fv xs S hf hx => h A fs ι s fv xs (S.le hd) hf hx

end Mine

namespace Mine
open PySem PySem.Calls PyProof.Rows

def BinOk (T : Tp) (d : Nat) (X : QX) (t : Value → Value → Sem Value) (a b : V) (Q : QE) (σ : Hp) : Prop :=
  ∀ A fs ι s x y, St T A fs d ι σ s → VRel T ι s.heap a x → VRel T ι s.heap b y → wpAny (model T.prog T.w) A (t x y) (PostE T [] Q ι s.heap) (PostX T [] X ι s.heap) s

def small64 (a : Int) : Prop := -(2 ^ 64) < a ∧ a < 2 ^ 64

section
variable {T : Tp} {A : Around} {fs : List Env} {d : Nat} {ι : Inj} {σ : Hp} {s : Shared} {F : List Addr}

theorem VRel.int_inv {i : Int} {x : Value} {h : Heap} (e : VRel T ι h (.int i) x) : ∃ t, x = .int i t := by unfold VRel at e; exact e
theorem VRel.str_inv {i : Str} {x : Value} {h : Heap} (e : VRel T ι h (.str i) x) : ∃ t, x = .str i t := by unfold VRel at e; exact e
theorem VRel.bool_inv {i : Bool} {x : Value} {h : Heap} (e : VRel T ι h (.bool i) x) : x = .bool i := by unfold VRel at e; exact e
theorem VRel.none_inv {x : Value} {h : Heap} (e : VRel T ι h .none x) : x = .none := by unfold VRel at e; exact e
theorem VRel.tup_inv {vs : List V} {x : Value} {h : Heap} (e : VRel T ι h (.tup vs) x) : ∃ a items n, x = .ref a ∧ IsT h a items n ∧ VRels T ι h vs items.toList := by unfold VRel at e; exact e
theorem VRel.ref_inv {l : Nat} {x : Value} {h : Heap} (e : VRel T ι h (.ref l) x) : ∃ a d, x = .ref a ∧ ι[l]? = some (a, d) := by unfold VRel at e; exact e
theorem VRel.int_mk {i : Int} {t : Tok} {h : Heap} : VRel T ι h (.int i) (.int i t) := by unfold VRel; exact ⟨t, rfl⟩
theorem VRel.str_mk {i : Str} {t : Tok} {h : Heap} : VRel T ι h (.str i) (.str i t) := by unfold VRel; exact ⟨t, rfl⟩
theorem VRel.bool_mk {i : Bool} {h : Heap} : VRel T ι h (.bool i) (.bool i) := by unfold VRel; rfl
theorem VRel.none_mk {h : Heap} : VRel T ι h .none .none := by unfold VRel; rfl

/-- a list of the mini heap, in the heap -/
theorem Rep.list_at {h : Heap} (r : Rep T ι σ h) {l : Nat} {vs : List V} {a : Addr} {d : Addr} (e : σ[l]? = some (.list vs)) (q : ι[l]? = some (a, d)) :
    ∃ items n, IsL h a items n ∧ VRels T ι h vs items.toList := by
  obtain ⟨_, items, ⟨n, hl⟩, hv⟩ := r.objs l _ _ e q
  exact ⟨items.toArray, n, hl, by simpa using hv⟩

/-- a new list onto the heap -/
theorem Rep.newList {h : Heap} (r : Rep T ι σ h) {vs : List V} {items : Array Value} (hv : VRels T ι h vs items.toList) :
    Rep T (ι ++ [(h.objs.size, h.objs.size)]) (σ ++ [.list vs]) (h.push { cls := .type "list", data := .seq items }) ∧ Ext T F ι h (ι ++ [(h.objs.size, h.objs.size)]) (h.push { cls := .type "list", data := .seq items }) ∧
      VRel T (ι ++ [(h.objs.size, h.objs.size)]) (h.push { cls := .type "list", data := .seq items }) (.ref σ.length) (.ref h.objs.size) := by
  have m : Mono ι h (ι ++ [(h.objs.size, h.objs.size)]) (h.push { cls := .type "list", data := .seq items }) := ⟨⟨_, rfl⟩, (Ext.push T F ι h _).cls, (Ext.push T F ι h _).frz⟩
  have no : h.objs.size ∉ own ι := fun q => absurd (r.own_lt q) (Nat.lt_irrefl _)
  refine ⟨(r.push _).more (p := (h.objs.size, h.objs.size)) ⟨rfl, items.toList, ⟨0, by simpa using IsL.new h items⟩, hv.mono m⟩ r.size r.size no no, ?_, ?_⟩
  · have e := Ext.push T F ι h { cls := .type "list", data := .seq items }
    exact ⟨⟨[(h.objs.size, h.objs.size)], rfl, by simp⟩, e.size, e.cls, e.frz, e.keep, e.frm⟩
  · unfold VRel
    exact ⟨h.objs.size, h.objs.size, rfl, by rw [← r.len]; simp⟩

theorem St.newList {Q : QE} {vs : List V} {items : Array Value} (S : St T A fs d ι σ s) (hv : VRels T ι s.heap vs items.toList) (q : Q (.ref σ.length) (σ ++ [.list vs])) {t : Nat} :
    PostE T F Q ι s.heap (.ref s.heap.objs.size) { s with heap := s.heap.push { cls := .type "list", data := .seq items }, toks := t } :=
  let ⟨a, b, c⟩ := S.rep.newList (F := F) hv
  ⟨_, _, _, q, c, a, b, S.gens, S.os⟩

/-- a new tuple onto the heap -/
theorem St.newTup {Q : QE} {vs : List V} {items : Array Value} (S : St T A fs d ι σ s) (hv : VRels T ι s.heap vs items.toList) (q : Q (.tup vs) σ) {t : Nat} :
    PostE T F Q ι s.heap (.ref s.heap.objs.size) { s with heap := s.heap.push { cls := .type "tuple", data := .seq items }, toks := t } := by
  refine ⟨_, _, _, q, ?_, S.rep.push _, .push .., S.gens, S.os⟩
  unfold VRel
  exact ⟨_, items, 0, rfl, IsT.new _ _, hv.mono (Ext.push T [] ι s.heap _).mono⟩
end

/-- the operators -/
def binVC (op : Operator) (a b : V) (Q : QE) (σ : Hp) : Prop :=
  match op, a, b with
  | .Add, .int x, .int y => Q (.int (x + y)) σ
  | .Sub, .int x, .int y => Q (.int (x - y)) σ
  | .Mult, .int x, .int y => (small64 x ∨ small64 y) ∧ Q (.int (x * y)) σ
  | .FloorDiv, .int x, .int y => y ≠ 0 ∧ y.natAbs < 1073741824 ∧ Q (.int (x.fdiv y)) σ
  | .Mod, .int x, .int y => y ≠ 0 ∧ Q (.int (x.fmod y)) σ
  | .Add, .str x, .str y => x.length + y.length ≤ sizeLine ∧ Q (.str (x ++ y)) σ
  | .Mult, .str x, .int n => MulOk x n ∧ Q (.str (Txt.mul x n)) σ
  | .Add, .ref l, .ref m => ∃ xs ys, σ[l]? = some (.list xs) ∧ σ[m]? = some (.list ys) ∧ xs.length + ys.length ≤ sizeLine ∧ Q (.ref σ.length) (σ ++ [.list (xs ++ ys)])
  | _, _, _ => False

theorem bin_ok {T : Tp} {d : Nat} {X : QX} {op : Operator} {a b : V} {Q : QE} {σ : Hp} (h : binVC op a b Q σ) : BinOk T d X (binaryOp op) a b Q σ := by
  intro A fs ι s x y S hx hy
  unfold binVC at h
  split at h
  · obtain ⟨t, rfl⟩ := hx.int_inv; obtain ⟨u, rfl⟩ := hy.int_inv
    exact PyProof.Rows.add_int (S.post h .int_mk _)
  · obtain ⟨t, rfl⟩ := hx.int_inv; obtain ⟨u, rfl⟩ := hy.int_inv
    exact sub_int' (S.post h .int_mk _)
  · obtain ⟨t, rfl⟩ := hx.int_inv; obtain ⟨u, rfl⟩ := hy.int_inv
    refine PyProof.Rows.mul_int (S.post h.2 .int_mk _) ?_
    rcases h.1 with q | q
    · exact .of_left (intBits_le_64 q.1 q.2)
    · exact .of_right (intBits_le_64 q.1 q.2)
  · obtain ⟨t, rfl⟩ := hx.int_inv; obtain ⟨u, rfl⟩ := hy.int_inv
    exact floordiv_int h.1 (S.post h.2.2 .int_mk _) (.inl (PyProof.noPylong_small h.2.1))
  · obtain ⟨t, rfl⟩ := hx.int_inv; obtain ⟨u, rfl⟩ := hy.int_inv
    exact mod_int' h.1 (S.post h.2 .int_mk _)
  · obtain ⟨t, rfl⟩ := hx.str_inv; obtain ⟨u, rfl⟩ := hy.str_inv
    exact PyProof.Rows.add_str (fun t' tk => S.post h.2 .str_mk _) h.1
  · obtain ⟨t, rfl⟩ := hx.str_inv; obtain ⟨u, rfl⟩ := hy.int_inv
    exact SB.mul h.1 fun t' k => S.post h.2 .str_mk _
  · obtain ⟨p, p', rfl, hp⟩ := hx.ref_inv; obtain ⟨q, q', rfl, hq⟩ := hy.ref_inv
    obtain ⟨xs, ys, e1, e2, e3, e4⟩ := h
    obtain ⟨i1, n1, l1, v1⟩ := S.rep.list_at e1 hp
    obtain ⟨i2, n2, l2, v2⟩ := S.rep.list_at e2 hq
    have s1 := v1.length; have s2 := v2.length
    refine P.add_list l1 l2 (S.newList (items := i1 ++ i2) (by simpa using v1.append v2) e4) ?_
    simp only [Array.length_toList] at s1 s2; omega
  · exact h.elim

end Mine

namespace Mine
open PySem PySem.Calls PyProof.Rows PySem.SeqAt

mutual
def noDict : PyData → Bool
  | .none | .bool _ | .int _ | .str _ => true
  | .list xs | .tuple xs => noDicts xs
  | .dict _ => false
def noDicts : List PyData → Bool
  | [] => true
  | x :: xs => noDict x && noDicts xs
end

mutual
/-- what a value holds, through the lists of the mini heap -/
def Deep (σ : Hp) : PyData → V → Prop
  | .none, v => v = .none
  | .bool b, v => v = .bool b
  | .int i, v => v = .int i
  | .str s, v => v = .str s
  | .tuple ds, v => ∃ vs, v = .tup vs ∧ Deeps σ ds vs
  | .list ds, v => ∃ l vs, v = .ref l ∧ σ[l]? = some (.list vs) ∧ Deeps σ ds vs
  | .dict _, _ => False
def Deeps (σ : Hp) : List PyData → List V → Prop
  | [], vs => vs = []
  | d :: ds, vs => ∃ v r, vs = v :: r ∧ Deep σ d v ∧ Deeps σ ds r
end

mutual
theorem Deep.noDict {σ : Hp} : ∀ {d : PyData} {v : V}, Deep σ d v → noDict d = true
  | .none, _, _ => by unfold Mine.noDict; rfl
  | .bool _, _, _ => by unfold Mine.noDict; rfl
  | .int _, _, _ => by unfold Mine.noDict; rfl
  | .str _, _, _ => by unfold Mine.noDict; rfl
  | .tuple _, _, h => by
    unfold Deep at h; obtain ⟨vs, _, h⟩ := h
    unfold Mine.noDict; exact Deeps.noDict h
  | .list _, _, h => by
    unfold Deep at h; obtain ⟨l, vs, _, _, h⟩ := h
    unfold Mine.noDict; exact Deeps.noDict h
  | .dict _, _, h => by unfold Deep at h; exact h.elim
theorem Deeps.noDict {σ : Hp} : ∀ {d : List PyData} {v : List V}, Deeps σ d v → noDicts d = true
  | [], _, _ => by unfold noDicts; rfl
  | _ :: _, _, h => by
    unfold Deeps at h; obtain ⟨v, r, _, h1, h2⟩ := h
    unfold noDicts; rw [Deep.noDict h1, Deeps.noDict h2]; rfl
end

mutual
theorem Deep.reads {T : Tp} {ι : Inj} {σ : Hp} {h : Heap} (R : Rep T ι σ h) : ∀ {d : PyData} {v : V} {x : Value}, Deep σ d v → VRel T ι h v x → ∃ as, Reads h x d as
  | .none, _, _, e, r => by unfold Deep at e; subst e; cases r.none_inv; exact ⟨_, .none⟩
  | .bool b, _, _, e, r => by unfold Deep at e; subst e; cases r.bool_inv; exact ⟨_, .bool b⟩
  | .int i, _, _, e, r => by unfold Deep at e; subst e; obtain ⟨t, rfl⟩ := r.int_inv; exact ⟨_, .int i t⟩
  | .str i, _, _, e, r => by unfold Deep at e; subst e; obtain ⟨t, rfl⟩ := r.str_inv; exact ⟨_, .str i t⟩
  | .tuple ds, _, _, e, r => by
    unfold Deep at e; obtain ⟨vs, rfl, e⟩ := e
    obtain ⟨a, items, n, rfl, ht, hv⟩ := r.tup_inv
    obtain ⟨as, ra⟩ := Deeps.reads R e hv
    exact ⟨as, .tuple ht rfl rfl ra⟩
  | .list ds, _, _, e, r => by
    unfold Deep at e; obtain ⟨l, vs, rfl, e1, e⟩ := e
    obtain ⟨a, d, rfl, hl⟩ := r.ref_inv
    obtain ⟨items, n, hL, hv⟩ := R.list_at e1 hl
    obtain ⟨as, ra⟩ := Deeps.reads R e hv
    exact ⟨a :: as, .list hL rfl rfl ra⟩
  | .dict _, _, _, e, _ => by unfold Deep at e; exact e.elim
theorem Deeps.reads {T : Tp} {ι : Inj} {σ : Hp} {h : Heap} (R : Rep T ι σ h) : ∀ {ds : List PyData} {vs : List V} {xs : List Value}, Deeps σ ds vs → VRels T ι h vs xs → ∃ as, ReadsAll h xs ds as
  | [], _, xs, e, r => by unfold Deeps at e; subst e; cases VRels.nil_iff.mp r; exact ⟨[], .nil⟩
  | d :: ds, _, xs, e, r => by
    unfold Deeps at e; obtain ⟨v, rr, rfl, e1, e2⟩ := e
    obtain ⟨x, ys, rfl, r1, r2⟩ := VRels.cons_iff.mp r
    obtain ⟨as, h1⟩ := Deep.reads R e1 r1
    obtain ⟨bs, h2⟩ := Deeps.reads R e2 r2
    exact ⟨as ++ bs, .cons h1 h2⟩
end

theorem readsAll_len {h : Heap} : ∀ {vs : List Value} {ds : List PyData} {as : List Addr}, ReadsAll h vs ds as → vs.length = ds.length
  | _, _, _, .nil => rfl
  | _, _, _, .cons _ r => by simp [readsAll_len r]
theorem readsAll_at {h : Heap} : ∀ {vs : List Value} {ds : List PyData} {as : List Addr}, ReadsAll h vs ds as → ∀ (j : Nat) (hj : j < vs.length), ∃ bs, Reads h vs[j] (ds.getD j .none) bs
  | _, _, _, .cons r _, 0, _ => ⟨_, by simpa using r⟩
  | _, _, _, .cons _ r, j + 1, hj => by
    obtain ⟨bs, q⟩ := readsAll_at r j (by simpa using hj)
    exact ⟨bs, by simpa using q⟩
theorem noDicts_at : ∀ {ds : List PyData}, noDicts ds = true → ∀ (j : Nat), noDict (ds.getD j .none) = true
  | [], _, _ => by simp [noDict]
  | d :: ds, h, 0 => by unfold noDicts at h; simpa using (Bool.and_eq_true_iff.mp h).1
  | d :: ds, h, j + 1 => by unfold noDicts at h; simpa using noDicts_at (Bool.and_eq_true_iff.mp h).2 j
theorem depth_at : ∀ (ds : List PyData) (j : Nat), (ds.getD j .none).depth ≤ PyData.depthAll ds
  | [], _ => by simp [PyData.depth]
  | d :: ds, 0 => by simp only [List.getD_cons_zero]; unfold PyData.depthAll; exact Nat.le_max_left _ _
  | d :: ds, j + 1 => by simp only [List.getD_cons_succ]; unfold PyData.depthAll; exact Nat.le_trans (depth_at ds j) (Nat.le_max_right _ _)
theorem eqvAll_range : ∀ (xs ys : List PyData), PyData.eqvAll xs ys = ((List.range (min xs.length ys.length)).all (fun j => PyData.eqv (xs.getD j .none) (ys.getD j .none)) && xs.length == ys.length)
  | [], [] => by simp [PyData.eqvAll]
  | [], _ :: _ => by simp [PyData.eqvAll]
  | _ :: _, [] => by simp [PyData.eqvAll]
  | x :: xs, y :: ys => by
    unfold PyData.eqvAll
    rw [eqvAll_range xs ys]
    simp only [List.length_cons, Nat.succ_eq_add_one, Nat.add_min_add_right, List.range_succ_eq_map, List.all_cons, List.getD_cons_zero, List.all_map, Function.comp_def, List.getD_cons_succ, Bool.and_assoc]
    congr 1; congr 1
    simp

mutual
theorem reads_det {h : Heap} : ∀ {d d' : PyData} {x : Value} {as bs : List Addr}, noDict d = true → Reads h x d as → Reads h x d' bs → d = d'
  | _, _, _, _, _, _, .none, r => by cases r; rfl
  | _, _, _, _, _, _, .bool b, r => by cases r; rfl
  | _, _, _, _, _, _, .int i t, r => by cases r; rfl
  | _, _, _, _, _, _, .str x t, r => by cases r; rfl
  | _, _, _, _, _, n, .list h1 c1 d1 r1, r => by
    cases r with
    | list h2 c2 d2 r2 => rw [h1] at h2; cases h2; rw [d1] at d2; cases d2; unfold noDict at n; rw [readsAll_det n r1 r2]
    | tuple h2 c2 d2 r2 => rw [h1] at h2; cases h2; exact absurd (c1.symm.trans c2) (by simp)
    | dict h2 c2 d2 r2 => rw [h1] at h2; cases h2; exact absurd (c1.symm.trans c2) (by simp)
  | _, _, _, _, _, n, .tuple h1 c1 d1 r1, r => by
    cases r with
    | list h2 c2 d2 r2 => rw [h1] at h2; cases h2; exact absurd (c1.symm.trans c2) (by simp)
    | tuple h2 c2 d2 r2 => rw [h1] at h2; cases h2; rw [d1] at d2; cases d2; unfold noDict at n; rw [readsAll_det n r1 r2]
    | dict h2 c2 d2 r2 => rw [h1] at h2; cases h2; exact absurd (c1.symm.trans c2) (by simp)
  | _, _, _, _, _, n, .dict _ _ _ _ _, _ => by simp [noDict] at n
theorem readsAll_det {h : Heap} : ∀ {d d' : List PyData} {x : List Value} {as bs : List Addr}, noDicts d = true → ReadsAll h x d as → ReadsAll h x d' bs → d = d'
  | _, _, _, _, _, _, .nil, r => by cases r; rfl
  | _, _, _, _, _, n, .cons r1 r2, r => by
    cases r with
    | cons q1 q2 =>
      unfold noDicts at n
      rw [reads_det (Bool.and_eq_true_iff.mp n).1 r1 q1, readsAll_det (Bool.and_eq_true_iff.mp n).2 r2 q2]
end
mutual
theorem eqv_refl : ∀ (d : PyData), noDict d = true → PyData.eqv d d = true
  | .none, _ => by simp [PyData.eqv]
  | .bool _, _ => by simp [PyData.eqv]
  | .int _, _ => by simp [PyData.eqv]
  | .str _, _ => by simp [PyData.eqv]
  | .list xs, n => by unfold PyData.eqv; unfold noDict at n; exact eqvAll_refl xs n
  | .tuple xs, n => by unfold PyData.eqv; unfold noDict at n; exact eqvAll_refl xs n
  | .dict _, n => by simp [noDict] at n
theorem eqvAll_refl : ∀ (d : List PyData), noDicts d = true → PyData.eqvAll d d = true
  | [], _ => by simp [PyData.eqvAll]
  | x :: xs, n => by
    unfold noDicts at n
    unfold PyData.eqvAll
    rw [eqv_refl x (Bool.and_eq_true_iff.mp n).1, eqvAll_refl xs (Bool.and_eq_true_iff.mp n).2]; rfl
end

theorem reads_list {h : Heap} {x : Value} {xs : List PyData} {as : List Addr} (r : Reads h x (.list xs) as) : ∃ a vs bs, x = .ref a ∧ h.IsList a vs ∧ ReadsAll h vs.toList xs bs := by
  cases r with | list h1 c1 d1 r1 => exact ⟨_, _, _, rfl, ⟨_, h1, c1, _, d1⟩, r1⟩
theorem reads_tuple {h : Heap} {x : Value} {xs : List PyData} {as : List Addr} (r : Reads h x (.tuple xs) as) : ∃ a vs bs, x = .ref a ∧ h.IsTuple a vs ∧ ReadsAll h vs.toList xs bs := by
  cases r with | tuple h1 c1 d1 r1 => exact ⟨_, _, _, rfl, ⟨_, h1, c1, _, d1⟩, r1⟩

/-- == of what two values hold: what richCompare gives, when the items are told -/
theorem rc_step {n : Nat} {A : Around} {s : Shared} (each : ∀ (da db : PyData) (x y : Value) (as bs : List Addr), da.depth < n → Reads s.heap x da as → Reads s.heap y db bs → noDict da = true → noDict db = true → EqAt A.in1 s x y (PyData.eqv da db))
    {da db : PyData} {x y : Value} {as bs : List Addr} (hn : da.depth ≤ n) (ra : Reads s.heap x da as) (rb : Reads s.heap y db bs) (na : noDict da = true) (nb : noDict db = true) (hu : A.units < cLine) :
    RcAt A s x y (PyData.eqv da db) := by
  have items : ∀ {vs vs2 : Array Value} {xs ys : List PyData} {a1 a2 : List Addr}, ReadsAll s.heap vs.toList xs a1 → ReadsAll s.heap vs2.toList ys a2 → PyData.depthAll xs < n → noDicts xs = true → noDicts ys = true →
      ∀ j (q1 : j < vs.size) (q2 : j < vs2.size), EqAt A.in1 s vs[j] vs2[j] (PyData.eqv (xs.getD j .none) (ys.getD j .none)) := fun r1 r2 hd n1 n2 j q1 q2 => by
    obtain ⟨b1, R1⟩ := readsAll_at r1 j (by simpa using q1)
    obtain ⟨b2, R2⟩ := readsAll_at r2 j (by simpa using q2)
    exact each _ _ _ _ _ _ (Nat.lt_of_le_of_lt (depth_at _ j) hd) (by simpa using R1) (by simpa using R2) (noDicts_at n1 j) (noDicts_at n2 j)
  match da, db with
  | .dict _, _ => simp [noDict] at na
  | _, .dict _ => simp [noDict] at nb
  | .none, .none => cases ra; cases rb; simp only [PyData.eqv]; exact RcAt.none_none
  | .none, .bool _ => cases ra; cases rb; simp only [PyData.eqv]; exact RcAt.none_bool _
  | .none, .int _ => cases ra; cases rb; simp only [PyData.eqv]; exact RcAt.none_int _ _
  | .none, .str _ => cases ra; cases rb; simp only [PyData.eqv]; exact RcAt.none_str _ _
  | .none, .list _ => cases ra; obtain ⟨b, vs, _, rfl, L, _⟩ := reads_list rb; simp only [PyData.eqv]; exact RcAt.none_list L hu
  | .none, .tuple _ => cases ra; obtain ⟨b, vs, _, rfl, L, _⟩ := reads_tuple rb; simp only [PyData.eqv]; exact RcAt.none_tuple L hu
  | .bool _, .none => cases ra; cases rb; simp only [PyData.eqv]; exact RcAt.bool_none _
  | .bool _, .bool _ => cases ra; cases rb; simp only [PyData.eqv]; exact RcAt.bool_bool _ _
  | .bool _, .int _ => cases ra; cases rb; simp only [PyData.eqv]; exact RcAt.bool_int _ _ _
  | .bool _, .str _ => cases ra; cases rb; simp only [PyData.eqv]; exact RcAt.bool_str _ _ _
  | .bool _, .list _ => cases ra; obtain ⟨b, vs, _, rfl, L, _⟩ := reads_list rb; simp only [PyData.eqv]; exact RcAt.bool_list _ L hu
  | .bool _, .tuple _ => cases ra; obtain ⟨b, vs, _, rfl, L, _⟩ := reads_tuple rb; simp only [PyData.eqv]; exact RcAt.bool_tuple _ L hu
  | .int _, .none => cases ra; cases rb; simp only [PyData.eqv]; exact RcAt.int_none _ _
  | .int _, .bool _ => cases ra; cases rb; simp only [PyData.eqv]; exact RcAt.int_bool _ _ _
  | .int _, .int _ => cases ra; cases rb; simp only [PyData.eqv]; exact RcAt.int_int _ _ _ _
  | .int _, .str _ => cases ra; cases rb; simp only [PyData.eqv]; exact RcAt.int_str _ _ _ _
  | .int _, .list _ => cases ra; obtain ⟨b, vs, _, rfl, L, _⟩ := reads_list rb; simp only [PyData.eqv]; exact RcAt.int_list _ _ L hu
  | .int _, .tuple _ => cases ra; obtain ⟨b, vs, _, rfl, L, _⟩ := reads_tuple rb; simp only [PyData.eqv]; exact RcAt.int_tuple _ _ L hu
  | .str _, .none => cases ra; cases rb; simp only [PyData.eqv]; exact RcAt.str_none _ _
  | .str _, .bool _ => cases ra; cases rb; simp only [PyData.eqv]; exact RcAt.str_bool _ _ _
  | .str _, .int _ => cases ra; cases rb; simp only [PyData.eqv]; exact RcAt.str_int _ _ _ _
  | .str _, .str _ => cases ra; cases rb; simp only [PyData.eqv]; exact RcAt.str_str _ _ _ _
  | .str _, .list _ => cases ra; obtain ⟨b, vs, _, rfl, L, _⟩ := reads_list rb; simp only [PyData.eqv]; exact RcAt.str_list _ _ L hu
  | .str _, .tuple _ => cases ra; obtain ⟨b, vs, _, rfl, L, _⟩ := reads_tuple rb; simp only [PyData.eqv]; exact RcAt.str_tuple _ _ L hu
  | .list _, .none => obtain ⟨b, vs, _, rfl, L, _⟩ := reads_list ra; cases rb; simp only [PyData.eqv]; exact RcAt.list_none L hu
  | .list _, .bool _ => obtain ⟨b, vs, _, rfl, L, _⟩ := reads_list ra; cases rb; simp only [PyData.eqv]; exact RcAt.list_bool _ L hu
  | .list _, .int _ => obtain ⟨b, vs, _, rfl, L, _⟩ := reads_list ra; cases rb; simp only [PyData.eqv]; exact RcAt.list_int _ _ L hu
  | .list _, .str _ => obtain ⟨b, vs, _, rfl, L, _⟩ := reads_list ra; cases rb; simp only [PyData.eqv]; exact RcAt.list_str _ _ L hu
  | .tuple _, .none => obtain ⟨b, vs, _, rfl, L, _⟩ := reads_tuple ra; cases rb; simp only [PyData.eqv]; exact RcAt.tuple_none L hu
  | .tuple _, .bool _ => obtain ⟨b, vs, _, rfl, L, _⟩ := reads_tuple ra; cases rb; simp only [PyData.eqv]; exact RcAt.tuple_bool _ L hu
  | .tuple _, .int _ => obtain ⟨b, vs, _, rfl, L, _⟩ := reads_tuple ra; cases rb; simp only [PyData.eqv]; exact RcAt.tuple_int _ _ L hu
  | .tuple _, .str _ => obtain ⟨b, vs, _, rfl, L, _⟩ := reads_tuple ra; cases rb; simp only [PyData.eqv]; exact RcAt.tuple_str _ _ L hu
  | .list _, .tuple _ => obtain ⟨a, vs, _, rfl, L, _⟩ := reads_list ra; obtain ⟨b, vs2, _, rfl, L2, _⟩ := reads_tuple rb; simp only [PyData.eqv]; exact RcAt.list_tuple L L2 hu
  | .tuple _, .list _ => obtain ⟨a, vs, _, rfl, L, _⟩ := reads_tuple ra; obtain ⟨b, vs2, _, rfl, L2, _⟩ := reads_list rb; simp only [PyData.eqv]; exact RcAt.tuple_list L L2 hu
  | .list xs, .list ys =>
    obtain ⟨a, vs, _, rfl, L, r1⟩ := reads_list ra; obtain ⟨b, vs2, _, rfl, L2, r2⟩ := reads_list rb
    unfold noDict at na nb
    simp only [PyData.eqv]
    rw [eqvAll_range]
    have z1 := readsAll_len r1
    have z2 := readsAll_len r2
    simp only [Array.length_toList] at z1 z2
    have it := items r1 r2 (by unfold PyData.depth at hn; omega) na nb
    by_cases hz : vs.size = vs2.size
    · have := RcAt.lists (A := A) L L2 hz hu it
      have e1 : xs.length = ys.length := by omega
      rw [z1] at this
      rw [show ((List.range (min xs.length ys.length)).all (fun j => PyData.eqv (xs.getD j .none) (ys.getD j .none)) && xs.length == ys.length) = (List.range xs.length).all (fun j => PyData.eqv (xs.getD j .none) (ys.getD j .none)) by rw [e1]; simp]
      exact this
    · have hne : ¬ xs.length = ys.length := by omega
      rw [show ((List.range (min xs.length ys.length)).all (fun j => PyData.eqv (xs.getD j .none) (ys.getD j .none)) && xs.length == ys.length) = false by simp [hne]]
      exact RcAt.lists_lengths (A := A) L L2 (by simpa using hz) hu
  | .tuple xs, .tuple ys =>
    obtain ⟨a, vs, _, rfl, L, r1⟩ := reads_tuple ra; obtain ⟨b, vs2, _, rfl, L2, r2⟩ := reads_tuple rb
    unfold noDict at na nb
    simp only [PyData.eqv]
    rw [eqvAll_range]
    have z1 := readsAll_len r1
    have z2 := readsAll_len r2
    simp only [Array.length_toList] at z1 z2
    have it := items r1 r2 (by unfold PyData.depth at hn; omega) na nb
    have := RcAt.tuples (A := A) L L2 hu it
    rw [z1, z2] at this
    exact this

/-- != likewise -/
theorem rcne_step {n : Nat} {A : Around} {s : Shared} (each : ∀ (da db : PyData) (x y : Value) (as bs : List Addr), da.depth < n → Reads s.heap x da as → Reads s.heap y db bs → noDict da = true → noDict db = true → EqAt A.in1 s x y (PyData.eqv da db))
    {da db : PyData} {x y : Value} {as bs : List Addr} (hn : da.depth ≤ n) (ra : Reads s.heap x da as) (rb : Reads s.heap y db bs) (na : noDict da = true) (nb : noDict db = true) (hu : A.units < cLine) :
    RcNeAt A s x y (!PyData.eqv da db) := by
  have items : ∀ {vs vs2 : Array Value} {xs ys : List PyData} {a1 a2 : List Addr}, ReadsAll s.heap vs.toList xs a1 → ReadsAll s.heap vs2.toList ys a2 → PyData.depthAll xs < n → noDicts xs = true → noDicts ys = true →
      ∀ j (q1 : j < vs.size) (q2 : j < vs2.size), EqAt A.in1 s vs[j] vs2[j] (PyData.eqv (xs.getD j .none) (ys.getD j .none)) := fun r1 r2 hd n1 n2 j q1 q2 => by
    obtain ⟨b1, R1⟩ := readsAll_at r1 j (by simpa using q1)
    obtain ⟨b2, R2⟩ := readsAll_at r2 j (by simpa using q2)
    exact each _ _ _ _ _ _ (Nat.lt_of_le_of_lt (depth_at _ j) hd) (by simpa using R1) (by simpa using R2) (noDicts_at n1 j) (noDicts_at n2 j)
  match da, db with
  | .dict _, _ => simp [noDict] at na
  | _, .dict _ => simp [noDict] at nb
  | .none, .none => cases ra; cases rb; simp only [PyData.eqv, Bool.not_false, Bool.not_true]; exact RcNeAt.none_none
  | .none, .bool _ => cases ra; cases rb; simp only [PyData.eqv, Bool.not_false, Bool.not_true]; exact RcNeAt.none_bool _
  | .none, .int _ => cases ra; cases rb; simp only [PyData.eqv, Bool.not_false, Bool.not_true]; exact RcNeAt.none_int _ _
  | .none, .str _ => cases ra; cases rb; simp only [PyData.eqv, Bool.not_false, Bool.not_true]; exact RcNeAt.none_str _ _
  | .none, .list _ => cases ra; obtain ⟨b, vs, _, rfl, L, _⟩ := reads_list rb; simp only [PyData.eqv, Bool.not_false, Bool.not_true]; exact RcNeAt.none_list L hu
  | .none, .tuple _ => cases ra; obtain ⟨b, vs, _, rfl, L, _⟩ := reads_tuple rb; simp only [PyData.eqv, Bool.not_false, Bool.not_true]; exact RcNeAt.none_tuple L hu
  | .bool _, .none => cases ra; cases rb; simp only [PyData.eqv, Bool.not_false, Bool.not_true]; exact RcNeAt.bool_none _
  | .bool _, .bool _ => cases ra; cases rb; simp only [PyData.eqv, Bool.not_false, Bool.not_true]; exact RcNeAt.bool_bool _ _
  | .bool _, .int _ => cases ra; cases rb; simp only [PyData.eqv, Bool.not_false, Bool.not_true]; exact RcNeAt.bool_int _ _ _
  | .bool _, .str _ => cases ra; cases rb; simp only [PyData.eqv, Bool.not_false, Bool.not_true]; exact RcNeAt.bool_str _ _ _
  | .bool _, .list _ => cases ra; obtain ⟨b, vs, _, rfl, L, _⟩ := reads_list rb; simp only [PyData.eqv, Bool.not_false, Bool.not_true]; exact RcNeAt.bool_list _ L hu
  | .bool _, .tuple _ => cases ra; obtain ⟨b, vs, _, rfl, L, _⟩ := reads_tuple rb; simp only [PyData.eqv, Bool.not_false, Bool.not_true]; exact RcNeAt.bool_tuple _ L hu
  | .int _, .none => cases ra; cases rb; simp only [PyData.eqv, Bool.not_false, Bool.not_true]; exact RcNeAt.int_none _ _
  | .int _, .bool _ => cases ra; cases rb; simp only [PyData.eqv, Bool.not_false, Bool.not_true]; exact RcNeAt.int_bool _ _ _
  | .int _, .int _ => cases ra; cases rb; simp only [PyData.eqv, Bool.not_false, Bool.not_true]; exact RcNeAt.int_int _ _ _ _
  | .int _, .str _ => cases ra; cases rb; simp only [PyData.eqv, Bool.not_false, Bool.not_true]; exact RcNeAt.int_str _ _ _ _
  | .int _, .list _ => cases ra; obtain ⟨b, vs, _, rfl, L, _⟩ := reads_list rb; simp only [PyData.eqv, Bool.not_false, Bool.not_true]; exact RcNeAt.int_list _ _ L hu
  | .int _, .tuple _ => cases ra; obtain ⟨b, vs, _, rfl, L, _⟩ := reads_tuple rb; simp only [PyData.eqv, Bool.not_false, Bool.not_true]; exact RcNeAt.int_tuple _ _ L hu
  | .str _, .none => cases ra; cases rb; simp only [PyData.eqv, Bool.not_false, Bool.not_true]; exact RcNeAt.str_none _ _
  | .str _, .bool _ => cases ra; cases rb; simp only [PyData.eqv, Bool.not_false, Bool.not_true]; exact RcNeAt.str_bool _ _ _
  | .str _, .int _ => cases ra; cases rb; simp only [PyData.eqv, Bool.not_false, Bool.not_true]; exact RcNeAt.str_int _ _ _ _
  | .str _, .str _ => cases ra; cases rb; simp only [PyData.eqv, Bool.not_false, Bool.not_true]; exact RcNeAt.str_str _ _ _ _
  | .str _, .list _ => cases ra; obtain ⟨b, vs, _, rfl, L, _⟩ := reads_list rb; simp only [PyData.eqv, Bool.not_false, Bool.not_true]; exact RcNeAt.str_list _ _ L hu
  | .str _, .tuple _ => cases ra; obtain ⟨b, vs, _, rfl, L, _⟩ := reads_tuple rb; simp only [PyData.eqv, Bool.not_false, Bool.not_true]; exact RcNeAt.str_tuple _ _ L hu
  | .list _, .none => obtain ⟨b, vs, _, rfl, L, _⟩ := reads_list ra; cases rb; simp only [PyData.eqv, Bool.not_false, Bool.not_true]; exact RcNeAt.list_none L hu
  | .list _, .bool _ => obtain ⟨b, vs, _, rfl, L, _⟩ := reads_list ra; cases rb; simp only [PyData.eqv, Bool.not_false, Bool.not_true]; exact RcNeAt.list_bool _ L hu
  | .list _, .int _ => obtain ⟨b, vs, _, rfl, L, _⟩ := reads_list ra; cases rb; simp only [PyData.eqv, Bool.not_false, Bool.not_true]; exact RcNeAt.list_int _ _ L hu
  | .list _, .str _ => obtain ⟨b, vs, _, rfl, L, _⟩ := reads_list ra; cases rb; simp only [PyData.eqv, Bool.not_false, Bool.not_true]; exact RcNeAt.list_str _ _ L hu
  | .tuple _, .none => obtain ⟨b, vs, _, rfl, L, _⟩ := reads_tuple ra; cases rb; simp only [PyData.eqv, Bool.not_false, Bool.not_true]; exact RcNeAt.tuple_none L hu
  | .tuple _, .bool _ => obtain ⟨b, vs, _, rfl, L, _⟩ := reads_tuple ra; cases rb; simp only [PyData.eqv, Bool.not_false, Bool.not_true]; exact RcNeAt.tuple_bool _ L hu
  | .tuple _, .int _ => obtain ⟨b, vs, _, rfl, L, _⟩ := reads_tuple ra; cases rb; simp only [PyData.eqv, Bool.not_false, Bool.not_true]; exact RcNeAt.tuple_int _ _ L hu
  | .tuple _, .str _ => obtain ⟨b, vs, _, rfl, L, _⟩ := reads_tuple ra; cases rb; simp only [PyData.eqv, Bool.not_false, Bool.not_true]; exact RcNeAt.tuple_str _ _ L hu
  | .list _, .tuple _ => obtain ⟨a, vs, _, rfl, L, _⟩ := reads_list ra; obtain ⟨b, vs2, _, rfl, L2, _⟩ := reads_tuple rb; simp only [PyData.eqv, Bool.not_false, Bool.not_true]; exact RcNeAt.list_tuple L L2 hu
  | .tuple _, .list _ => obtain ⟨a, vs, _, rfl, L, _⟩ := reads_tuple ra; obtain ⟨b, vs2, _, rfl, L2, _⟩ := reads_list rb; simp only [PyData.eqv, Bool.not_false, Bool.not_true]; exact RcNeAt.tuple_list L L2 hu
  | .list xs, .list ys =>
    obtain ⟨a, vs, _, rfl, L, r1⟩ := reads_list ra; obtain ⟨b, vs2, _, rfl, L2, r2⟩ := reads_list rb
    unfold noDict at na nb
    simp only [PyData.eqv]
    rw [eqvAll_range]
    have z1 := readsAll_len r1
    have z2 := readsAll_len r2
    simp only [Array.length_toList] at z1 z2
    have it := items r1 r2 (by unfold PyData.depth at hn; omega) na nb
    by_cases hz : vs.size = vs2.size
    · have := RcNeAt.lists (A := A) L L2 hz hu it
      have e1 : xs.length = ys.length := by omega
      rw [z1] at this
      rw [show ((List.range (min xs.length ys.length)).all (fun j => PyData.eqv (xs.getD j .none) (ys.getD j .none)) && xs.length == ys.length) = (List.range xs.length).all (fun j => PyData.eqv (xs.getD j .none) (ys.getD j .none)) by rw [e1]; simp]
      exact this
    · have hne : ¬ xs.length = ys.length := by omega
      rw [show ((List.range (min xs.length ys.length)).all (fun j => PyData.eqv (xs.getD j .none) (ys.getD j .none)) && xs.length == ys.length) = false by simp [hne]]
      simp only [Bool.not_false]
      exact RcNeAt.lists_lengths (A := A) L L2 (by simpa using hz) hu
  | .tuple xs, .tuple ys =>
    obtain ⟨a, vs, _, rfl, L, r1⟩ := reads_tuple ra; obtain ⟨b, vs2, _, rfl, L2, r2⟩ := reads_tuple rb
    unfold noDict at na nb
    simp only [PyData.eqv]
    rw [eqvAll_range]
    have z1 := readsAll_len r1
    have z2 := readsAll_len r2
    simp only [Array.length_toList] at z1 z2
    have it := items r1 r2 (by unfold PyData.depth at hn; omega) na nb
    have := RcNeAt.tuples (A := A) L L2 hu it
    rw [z1, z2] at this
    exact this

theorem eq_of_rc {A : Around} {s : Shared} {da db : PyData} {x y : Value} {as bs : List Addr} (ra : Reads s.heap x da as) (rb : Reads s.heap y db bs) (na : noDict da = true) (h : RcAt A s x y (PyData.eqv da db)) : EqAt A s x y (PyData.eqv da db) := by
  by_cases hxy : x = y
  · subst hxy
    rw [← reads_det na ra rb, eqv_refl _ na]; exact EqAt.same _
  · intro prog w E Q hq
    unfold eqBool
    refine wpAny_holding ?_
    refine wpAny_ite_split (fun hab => absurd (eq_of_beq hab) hxy) (fun _ => ?_)
    cases ra <;> exact wpAny_bind (h prog w E _ (wpAny_truthy_bool hq))

theorem eq_at : ∀ (n : Nat) (da db : PyData) (A : Around) (s : Shared) (x y : Value) (as bs : List Addr), da.depth < n → Reads s.heap x da as → Reads s.heap y db bs → noDict da = true → noDict db = true → A.units + n < cLine →
    EqAt A s x y (PyData.eqv da db) := by
  intro n
  induction n with
  | zero => intro da db A s x y as bs hn; exact absurd hn (Nat.not_lt_zero _)
  | succ n ih =>
    intro da db A s x y as bs hn ra rb na nb hu
    exact eq_of_rc ra rb na (rc_step (n := n) (fun da' db' x' y' as' bs' hd ra' rb' na' nb' => ih da' db' A.in1 s x' y' as' bs' hd ra' rb' na' nb' (by show A.units + 1 + n < cLine; omega)) (Nat.le_of_lt_succ hn) ra rb na nb (by omega))
theorem rc_at {da db : PyData} {A : Around} {s : Shared} {x y : Value} {as bs : List Addr} (ra : Reads s.heap x da as) (rb : Reads s.heap y db bs) (na : noDict da = true) (nb : noDict db = true) (hu : A.units + da.depth + 1 < cLine) : RcAt A s x y (PyData.eqv da db) :=
  rc_step (n := da.depth) (fun da' db' x' y' as' bs' hd ra' rb' na' nb' => eq_at da.depth da' db' A.in1 s x' y' as' bs' hd ra' rb' na' nb' (by show A.units + 1 + da.depth < cLine; omega)) (Nat.le_refl _) ra rb na nb (by omega)
theorem rcne_at {da db : PyData} {A : Around} {s : Shared} {x y : Value} {as bs : List Addr} (ra : Reads s.heap x da as) (rb : Reads s.heap y db bs) (na : noDict da = true) (nb : noDict db = true) (hu : A.units + da.depth + 1 < cLine) : RcNeAt A s x y (!PyData.eqv da db) :=
  rcne_step (n := da.depth) (fun da' db' x' y' as' bs' hd ra' rb' na' nb' => eq_at da.depth da' db' A.in1 s x' y' as' bs' hd ra' rb' na' nb' (by show A.units + 1 + da.depth < cLine; omega)) (Nat.le_refl _) ra rb na nb (by omega)

end Mine

namespace Mine
open PySem PySem.Calls PyProof.Rows PySem.SeqAt

/-- «not in» by «in» -/
theorem notIn_of {M : Model} {A : Around} {E : Value → Shared → Prop} {s : Shared} {x y : Value} {Q : Value → Shared → Prop} (h : wpAny M A (compareOp .In x y) (fun v s' => ∀ b, v = .bool b → Q (.bool (!b)) s') E s) :
    wpAny M A (compareOp .NotIn x y) Q E s := fun Γ p hΓ => by
  have h' := h Γ p hΓ
  change Sem.wp M Γ (contains y x >>= fun r => pure (Value.bool r)) _ _ p s at h'
  show Sem.wp M Γ (contains y x >>= fun r => pure (Value.bool !r)) _ _ p s
  rw [Sem.wp_bind'] at h' ⊢
  exact Sem.wp_mono M Γ _ (fun r _ _ q => q r rfl) (fun _ _ _ q => q) _ _ h'

def isNoneV : V → Option Bool
  | .none => some true
  | .bool _ | .int _ | .str _ | .tup _ | .ref _ | .exc _ => some false
  | _ => none
def isBoolV (b : Bool) : V → Option Bool
  | .bool c => some (c == b)
  | .none | .int _ | .str _ | .tup _ | .ref _ | .exc _ => some false
  | _ => none

/-- x in y, two texts -/
def strIn (x y : Str) : Bool := !(Builtin.Str.occurrences y x 0 y.length 1).isEmpty

def inVC (neg : Bool) (a b : V) (Q : QE) (σ : Hp) : Prop :=
  match a, b with
  | .str x, .str y => Q (.bool (neg != strIn x y)) σ
  | a, .ref l =>
    (∃ vs ds d, σ[l]? = some (.list vs) ∧ Deeps σ ds vs ∧ Deep σ d a ∧ PyData.depthAll ds ≤ 40 ∧ Q (.bool (neg != ds.any fun y => PyData.eqv y d)) σ) ∨
    (∃ kvs k, σ[l]? = some (.sdict kvs) ∧ a = .str k ∧ Q (.bool (neg != kvs.any fun kv => kv.1 = k)) σ)
  | _, _ => False

def cmpVC (op : CmpOp) (a b : V) (Q : QE) (σ : Hp) : Prop :=
  match op, a, b with
  | .Lt, .int x, .int y => Q (.bool (decide (x < y))) σ
  | .LtE, .int x, .int y => Q (.bool (decide (x ≤ y))) σ
  | .Gt, .int x, .int y => Q (.bool (decide (y < x))) σ
  | .GtE, .int x, .int y => Q (.bool (decide (y ≤ x))) σ
  | .Eq, .int x, .int y => Q (.bool (x == y)) σ
  | .NotEq, .int x, .int y => Q (.bool (x != y)) σ
  | .Eq, .str x, .str y => Q (.bool (x == y)) σ
  | .NotEq, .str x, .str y => Q (.bool (x != y)) σ
  | .Eq, a, b => ∃ da db, Deep σ da a ∧ Deep σ db b ∧ da.depth ≤ 40 ∧ Q (.bool (PyData.eqv da db)) σ
  | .NotEq, a, b => ∃ da db, Deep σ da a ∧ Deep σ db b ∧ da.depth ≤ 40 ∧ Q (.bool (!PyData.eqv da db)) σ
  | .Is, a, .none => ∃ r, isNoneV a = some r ∧ Q (.bool r) σ
  | .IsNot, a, .none => ∃ r, isNoneV a = some r ∧ Q (.bool (!r)) σ
  | .Is, a, .bool b => ∃ r, isBoolV b a = some r ∧ Q (.bool r) σ
  | .IsNot, a, .bool b => ∃ r, isBoolV b a = some r ∧ Q (.bool (!r)) σ
  | .In, a, b => inVC false a b Q σ
  | .NotIn, a, b => inVC true a b Q σ
  | _, _, _ => False

section
variable {T : Tp} {A : Around} {fs : List Env} {d : Nat} {ι : Inj} {σ : Hp} {s : Shared}

theorem is_none {a : V} {x : Value} {h : Heap} {r : Bool} (e : isNoneV a = some r) (v : VRel T ι h a x) : plainIs x .none = true ∧ (x == .none) = r := by
  cases a <;> simp only [isNoneV, Option.some.injEq, reduceCtorEq] at e <;> subst e
  · cases v.none_inv; exact ⟨rfl, rfl⟩
  · cases v.bool_inv; exact ⟨rfl, rfl⟩
  · obtain ⟨t, rfl⟩ := v.int_inv; exact ⟨rfl, rfl⟩
  · obtain ⟨t, rfl⟩ := v.str_inv; exact ⟨rfl, rfl⟩
  · obtain ⟨a, _, _, rfl, _⟩ := v.tup_inv; exact ⟨rfl, rfl⟩
  · obtain ⟨a, _, rfl, _⟩ := v.ref_inv; exact ⟨rfl, rfl⟩
  · unfold VRel at v; obtain ⟨a, _, _, rfl, _⟩ := v; exact ⟨rfl, rfl⟩
theorem is_bool {a : V} {x : Value} {h : Heap} {b r : Bool} (e : isBoolV b a = some r) (v : VRel T ι h a x) : plainIs x (.bool b) = true ∧ (x == .bool b) = r := by
  cases a <;> simp only [isBoolV, Option.some.injEq, reduceCtorEq] at e <;> subst e
  · cases v.none_inv; exact ⟨rfl, rfl⟩
  · cases v.bool_inv; refine ⟨rfl, ?_⟩; rename_i c; cases b <;> cases c <;> rfl
  · obtain ⟨t, rfl⟩ := v.int_inv; exact ⟨rfl, rfl⟩
  · obtain ⟨t, rfl⟩ := v.str_inv; exact ⟨rfl, rfl⟩
  · obtain ⟨a, _, _, rfl, _⟩ := v.tup_inv; exact ⟨rfl, rfl⟩
  · obtain ⟨a, _, rfl, _⟩ := v.ref_inv; exact ⟨rfl, rfl⟩
  · unfold VRel at v; obtain ⟨a, _, _, rfl, _⟩ := v; exact ⟨rfl, rfl⟩

theorem KVRel.lookup {h : Heap} : ∀ {kvs : List (Str × V)} {rvs : List (Str × Value)} (k : Str), KVRel T ι h kvs rvs → ORelV T ι h ((kvs.find? fun kv => kv.1 = k).map (·.2)) (valueAt rvs k)
  | [], [], _, _ => trivial
  | (k1, v1) :: r, (k2, x2) :: q, k, e => by
    obtain ⟨rfl, e2, e3⟩ := e
    unfold valueAt
    by_cases hk : k1 = k
    · simp only [hk, List.find?_cons, decide_true, Option.map_some]; exact e2
    · simp only [List.find?_cons, hk, decide_false]; exact KVRel.lookup k e3
theorem KVRel.isSome {h : Heap} {kvs : List (Str × V)} {rvs : List (Str × Value)} {k : Str} (e : KVRel T ι h kvs rvs) : (valueAt rvs k).isSome = kvs.any fun kv => kv.1 = k := by
  have := e.lookup k
  have e2 : (kvs.find? fun kv => decide (kv.1 = k)).isSome = kvs.any fun kv => decide (kv.1 = k) := by
    rw [Bool.eq_iff_iff, List.find?_isSome, List.any_eq_true]
  rw [← e2]
  revert this
  cases (kvs.find? fun kv => decide (kv.1 = k)) <;> cases valueAt rvs k <;> simp [ORelV]

theorem Rep.sdict_at {h : Heap} (r : Rep T ι σ h) {l : Nat} {kvs : List (Str × V)} {a d : Addr} (e : σ[l]? = some (.sdict kvs)) (q : ι[l]? = some (a, d)) :
    ∃ rvs, h.DictOf (strKind T.prog T.w) a rvs ∧ KVRel T ι h kvs rvs ∧ (a == sysModules) = false := by
  obtain ⟨_, rvs, hd, hv⟩ := r.objs l _ _ e q
  refine ⟨rvs, hd, hv, ?_⟩
  have h1 := (r.fresh _ (List.mem_of_getElem? q)).1
  have h2 := r.big
  simp only [beq_eq_false_iff_ne, ne_eq]
  intro hq
  have : (sysModules : Nat) = 1 := rfl
  rw [hq] at h1
  have h3 : T.b0.objs.size ≤ 1 := h1
  omega

theorem items_eqAt' {A : Around} {s : Shared} {vs : List Value} {ds : List PyData} {as bs : List Addr} {x : Value} {d : PyData} (ra : ReadsAll s.heap vs ds as) (rx : Reads s.heap x d bs) (na : noDicts ds = true) (nx : noDict d = true)
    (hu : A.units + PyData.depthAll ds + 1 < cLine) : ∃ e : Value → Bool, (∀ y ∈ vs, EqAt A s y x (e y)) ∧ vs.any e = ds.any fun y => PyData.eqv y d := by
  classical
  have det : ∀ y ∈ vs, ∃ d' cs, Reads s.heap y d' cs ∧ noDict d' = true ∧ d'.depth ≤ PyData.depthAll ds := fun y hy => by
    obtain ⟨j, hj, rfl⟩ := List.getElem_of_mem hy
    obtain ⟨cs, r⟩ := readsAll_at ra j hj
    exact ⟨_, cs, r, noDicts_at na j, depth_at ds j⟩
  refine ⟨fun y => if h : ∃ d' cs, Reads s.heap y d' cs ∧ noDict d' = true then PyData.eqv h.choose d else false, fun y hy => ?_, ?_⟩
  · obtain ⟨d', cs, r, n, dp⟩ := det y hy
    have hex : ∃ d' cs, Reads s.heap y d' cs ∧ noDict d' = true := ⟨d', cs, r, n⟩
    simp only [hex, dif_pos]
    obtain ⟨cs', r', n'⟩ := hex.choose_spec
    rw [← reads_det n r r']
    exact eq_at (d'.depth + 1) d' d A s y x cs bs (Nat.lt_succ_self _) r rx n nx (by omega)
  · clear det hu
    induction ds generalizing vs as with
    | nil => cases ra; rfl
    | cons d1 ds ih =>
      cases ra with
      | @cons v vs' _ _ as' bs' r1 r2 =>
        unfold noDicts at na
        have n1 := (Bool.and_eq_true_iff.mp na).1
        rw [List.any_cons, List.any_cons, ih r2 (Bool.and_eq_true_iff.mp na).2]
        congr 1
        have hex : ∃ d' cs, Reads s.heap v d' cs ∧ noDict d' = true := ⟨d1, _, r1, n1⟩
        simp only [hex, dif_pos]
        obtain ⟨cs', r', n'⟩ := hex.choose_spec
        rw [← reads_det n1 r1 r']
end

theorem cmp_ok {T : Tp} {d : Nat} {X : QX} {op : CmpOp} {a b : V} {Q : QE} {σ : Hp} (h : cmpVC op a b Q σ) : BinOk T d X (compareOp op) a b Q σ := by
  intro A fs ι s x y S hx hy
  have hun := S.aok.units
  have inn : ∀ {neg : Bool} {a b : V}, inVC neg a b Q σ → VRel T ι s.heap a x → VRel T ι s.heap b y → wpAny (model T.prog T.w) A (compareOp (if neg then .NotIn else .In) x y) (PostE T [] Q ι s.heap) (PostX T [] X ι s.heap) s := by
    intro neg a b h hx hy
    unfold inVC at h
    split at h
    · obtain ⟨t, rfl⟩ := hx.str_inv; obtain ⟨u, rfl⟩ := hy.str_inv
      cases neg
      · exact in_str (S.post0 (by simpa [strIn] using h) .bool_mk)
      · exact notIn_str (S.post0 (by simpa [strIn] using h) .bool_mk)
    · obtain ⟨p, p', rfl, hp⟩ := hy.ref_inv
      rcases h with ⟨vs, ds, d, e1, e2, e3, e4, q⟩ | ⟨kvs, k, e1, rfl, q⟩
      · obtain ⟨items, n, hl, hv⟩ := S.rep.list_at e1 hp
        obtain ⟨as, ra⟩ := e2.reads S.rep hv
        obtain ⟨bs, rx⟩ := e3.reads S.rep hx
        obtain ⟨e, he, hs⟩ := items_eqAt' (A := A.in1) ra rx e2.noDict e3.noDict (by show A.units + 1 + PyData.depthAll ds + 1 < cLine; omega)
        rw [← hs] at q
        cases neg
        · refine in_listAt e hl.isList (fun z hz => he z (by simpa using hz)) (S.post0 (v := .bool _) ?_ .bool_mk)
          rw [← Array.any_toList]; simpa using q
        · refine notIn_listAt e hl.isList (fun z hz => he z (by simpa using hz)) (S.post0 (v := .bool _) ?_ .bool_mk)
          rw [← Array.any_toList]; simpa using q
      · obtain ⟨t, rfl⟩ := hx.str_inv
        obtain ⟨rvs, hd, hv, ns⟩ := S.rep.sdict_at e1 hp
        rw [← hv.isSome] at q
        cases neg
        · exact wpAny_in_of (knd := strKind T.prog T.w) (k := k) (by simp [PySem.strKind, Value.isStrOf]) ns hd.mapOf (S.post (by simpa using q) .bool_mk _)
        · exact notIn_of (wpAny_in_of (knd := strKind T.prog T.w) (k := k) (by simp [PySem.strKind, Value.isStrOf]) ns hd.mapOf fun b hb => by cases hb; exact S.post (by simpa using q) .bool_mk _)
    · exact h.elim
  unfold cmpVC at h
  split at h
  · obtain ⟨t, rfl⟩ := hx.int_inv; obtain ⟨u, rfl⟩ := hy.int_inv; exact lt_int (S.post0 h .bool_mk)
  · obtain ⟨t, rfl⟩ := hx.int_inv; obtain ⟨u, rfl⟩ := hy.int_inv; exact le_int (S.post0 h .bool_mk)
  · obtain ⟨t, rfl⟩ := hx.int_inv; obtain ⟨u, rfl⟩ := hy.int_inv; exact gt_int (S.post0 h .bool_mk)
  · obtain ⟨t, rfl⟩ := hx.int_inv; obtain ⟨u, rfl⟩ := hy.int_inv; exact ge_int (S.post0 h .bool_mk)
  · obtain ⟨t, rfl⟩ := hx.int_inv; obtain ⟨u, rfl⟩ := hy.int_inv; exact PyProof.Rows.eq_int (S.post0 h .bool_mk)
  · obtain ⟨t, rfl⟩ := hx.int_inv; obtain ⟨u, rfl⟩ := hy.int_inv; exact ne_int (S.post0 h .bool_mk)
  · obtain ⟨t, rfl⟩ := hx.str_inv; obtain ⟨u, rfl⟩ := hy.str_inv; exact PyProof.Rows.eq_str (S.post0 h .bool_mk)
  · obtain ⟨t, rfl⟩ := hx.str_inv; obtain ⟨u, rfl⟩ := hy.str_inv; exact ne_str (S.post0 h .bool_mk)
  · obtain ⟨da, db, e1, e2, e3, q⟩ := h
    obtain ⟨as, ra⟩ := e1.reads S.rep hx
    obtain ⟨bs, rb⟩ := e2.reads S.rep hy
    exact rc_at ra rb e1.noDict e2.noDict (by omega) _ _ _ _ (S.post0 q .bool_mk)
  · obtain ⟨da, db, e1, e2, e3, q⟩ := h
    obtain ⟨as, ra⟩ := e1.reads S.rep hx
    obtain ⟨bs, rb⟩ := e2.reads S.rep hy
    exact rcne_at ra rb e1.noDict e2.noDict (by omega) _ _ _ _ (S.post0 q .bool_mk)
  · obtain ⟨r, e, q⟩ := h
    cases hy.none_inv
    obtain ⟨e1, e2⟩ := is_none e hx
    exact wpAny_is_plain e1 (S.post0 (by rw [e2]; exact q) .bool_mk)
  · obtain ⟨r, e, q⟩ := h
    cases hy.none_inv
    obtain ⟨e1, e2⟩ := is_none e hx
    exact wpAny_isNot_plain e1 (S.post0 (by rw [e2]; exact q) .bool_mk)
  · obtain ⟨r, e, q⟩ := h
    cases hy.bool_inv
    obtain ⟨e1, e2⟩ := is_bool e hx
    exact wpAny_is_plain e1 (S.post0 (by rw [e2]; exact q) .bool_mk)
  · obtain ⟨r, e, q⟩ := h
    cases hy.bool_inv
    obtain ⟨e1, e2⟩ := is_bool e hx
    exact wpAny_isNot_plain e1 (S.post0 (by rw [e2]; exact q) .bool_mk)
  · exact inn h hx hy
  · exact inn h hx hy
  · exact h.elim

end Mine

namespace Mine
open PySem PySem.Calls PyProof.Rows PySem.SeqAt

/-- the static facts of the top -/
structure TopOk (T : Tp) : Prop where
  X0 : T.K.In T.b0
  lim : T.b0.NoLimit
  gl : ∀ x v, T.gv x = some v → ∃ V mg mb, T.b0.Ns mainGlobals mg ∧ T.b0.Ns builtinsNs mb ∧ (mg x = some V ∨ (mg x = none ∧ mb x = some V)) ∧ VRel T [] T.b0 v V

def isVar (sc : Scope) (x : Str) : Bool := match sc.names.lookup x with
  | some .local | some .cell | some .free => true
  | _ => false
def scOk (sc : Scope) : Bool := sc.names.all fun p => !(p.1 == ("__debug__" : Str)) && !(p.1 == ("__classdict__" : Str))

theorem not_debug {sc : Scope} {x : Str} {k : NameKind} (h : scOk sc = true) (e : sc.names.lookup x = some k) : (x == ("__debug__" : Str)) = false ∧ (x == ("__classdict__" : Str)) = false := by
  unfold scOk at h
  have : ∀ l : List (Str × NameKind), (l.all fun p => !(p.1 == ("__debug__" : Str)) && !(p.1 == ("__classdict__" : Str))) = true → l.lookup x = some k → (x == ("__debug__" : Str)) = false ∧ (x == ("__classdict__" : Str)) = false := by
    intro l
    induction l with
    | nil => intro _ e; cases e
    | cons p r ih =>
      intro h e
      simp only [List.all_cons, Bool.and_eq_true, Bool.not_eq_true'] at h
      rw [List.lookup_cons] at e
      by_cases q : (x == p.1) = true
      · rw [beq_iff_eq.mp q]; exact h.1
      · rw [Bool.not_eq_true] at q; rw [q] at e
        exact ih (by simpa using h.2) e
  exact this _ h e

def noStar : List Expr → Bool
  | [] => true
  | .Starred _ _ :: _ => false
  | _ :: r => noStar r
theorem starEach_eq {env : Env} {pos : Pos} : ∀ {es : List Expr}, noStar es = true → backTo pos (starEach es env) = es.map fun e => (false, eval e env)
  | [], _ => rfl
  | e :: r, h => by
    have ih := starEach_eq (env := env) (pos := pos) (es := r) (by cases e <;> first | exact h | cases h)
    cases e <;> first | (cases h; done) | (show (false, _) :: backTo pos (starEach r env) = (false, _) :: r.map _; rw [ih]; rfl)

section
variable {T : Tp} {d : Nat} {sc : Scope} {ρ : Loc} {X : QX} {Q : QE} {σ : Hp}

theorem Inv.next {A : Around} {fs : List Env} {env : Env} {F : List Addr} {ι ι' : Inj} {σ' : Hp} {s s' : Shared} (I : Inv T A fs d env F ρ ι σ s) (e : Ext T [] ι s.heap ι' s'.heap) (r : Rep T ι' σ' s'.heap) (g : s'.gens = #[]) (o : s'.os = T.os) : Inv T A fs d env F ρ ι' σ' s' := I.ext e r g o

/-- one expression, then a tree over its value -/
theorem EvOk.bind {e : Expr} {t : Value → Sem Value} {Q' : QE} {env : Env} {A : Around} {fs : List Env} {F : List Addr} {ι : Inj} {s : Shared} (hsc : env.scope = sc) (I : Inv T A fs d env F ρ ι σ s)
    (h : EvOk T d sc ρ X e Q' σ)
    (k : ∀ v σ₁ ι₁ s₁ x, Q' v σ₁ → VRel T ι₁ s₁.heap v x → Inv T A fs d env F ρ ι₁ σ₁ s₁ → Ext T [] ι s.heap ι₁ s₁.heap → wpAny (model T.prog T.w) A (t x) (PostE T [] Q ι₁ s₁.heap) (PostX T [] X ι₁ s₁.heap) s₁) :
    wpAny (model T.prog T.w) A (eval e env) (fun x s₁ => wpAny (model T.prog T.w) A (t x) (PostE T [] Q ι s.heap) (PostX T [] X ι s.heap) s₁) (PostX T [] X ι s.heap) s :=
  wpAny_mono (h env A fs F ι s hsc I) (fun x s₁ p => by
    obtain ⟨v, σ₁, ι₁, q, r, rp, ex, g, o⟩ := p
    exact wpAny_mono (k v σ₁ ι₁ s₁ x q r (I.ext ex rp g o) ex) (fun _ _ p => p.trans ex) fun _ _ p => p.trans ex) fun _ _ p => p

theorem EvOk.mono {e : Expr} {Q' : QE} {X' : QX} (h : EvOk T d sc ρ X e Q σ) (k : ∀ v σ, Q v σ → Q' v σ) (kx : ∀ c σ, X c σ → X' c σ) : EvOk T d sc ρ X' e Q' σ :=
  fun env A fs F ι s hsc I => wpAny_mono (h env A fs F ι s hsc I) (fun _ _ p => p.mono k) fun _ _ p => p.mono kx

theorem EvOk.none {k pos} (h : Q .none σ) : EvOk T d sc ρ X (.Constant .none k pos) Q σ := fun _ _ _ _ _ _ _ I => wpAny_Constant_none (I.st.post0 h .none_mk)
theorem EvOk.bool {b k pos} (h : Q (.bool b) σ) : EvOk T d sc ρ X (.Constant (.bool b) k pos) Q σ := fun _ _ _ _ _ _ _ I => wpAny_Constant_bool (I.st.post0 h .bool_mk)
theorem EvOk.int {i k pos} (h : Q (.int i) σ) : EvOk T d sc ρ X (.Constant (.int i) k pos) Q σ := fun _ _ _ _ _ _ _ I => wpAny_Constant_int (I.st.post h .int_mk _)
theorem EvOk.str {i k pos} (h : Q (.str i) σ) : EvOk T d sc ρ X (.Constant (.str i) k pos) Q σ := fun _ _ _ _ _ _ _ I => wpAny_Constant_str (I.st.post h .str_mk _)

theorem cellGet_ {M : Model} {A : Around} {E : Value → Shared → Prop} {s : Shared} {a : Addr} {o : Obj} {v : Option Value} {Q : Option Value → Shared → Prop} (ho : s.heap.get? a = some o) (hd : o.data = .cell v) (h : Q v s) : wpAny M A (cellGet a) Q E s := by
  unfold cellGet; refine wpAny_bind (wpAny_load ho ?_); rw [hd]; exact wpAny_pure h

theorem EvOk.var {x : Str} {pos : Pos} {v : V} (h : Q v σ) (hv : ρ x = some v) (hk : isVar sc x = true) (ho : scOk sc = true) : EvOk T d sc ρ X (.Name x pos) Q σ := by
  intro env A fs F ι s hsc I
  subst hsc
  unfold isVar at hk
  have kd : env.kindOf x = env.scope.names.lookup x := rfl
  have hkind := I.frm.kind
  split at hk
  · rename_i hk'
    obtain ⟨c, m, _, hn, hr⟩ := I.frm.ns
    have r := hr x (kd.trans hk')
    rw [hv] at r
    cases hm : m x with
    | none => rw [hm] at r; exact r.elim
    | some y =>
      rw [hm] at r
      exact wpAny_Name (wpAny_loadName_local hkind (kd.trans hk') hn.ns hm (I.st.post0 h r)) (not_debug ho hk').1
  · rename_i hk'
    obtain ⟨c, o, y, e1, e2, _, e4, r, _⟩ := I.frm.cells x (.inl (kd.trans hk'))
    rw [hv] at r
    cases y with
    | none => exact r.elim
    | some y =>
      refine wpAny_Name ?_ (not_debug ho hk').1
      unfold loadName
      simp only [Env.blockKind, hkind, kd, hk', ScopeKind.isAnnotationScope, Bool.false_and, Bool.false_eq_true, if_false, cellOf, e1]
      exact wpAny_bind (wpAny_pure (wpAny_bind (cellGet_ e2 e4 (wpAny_pure (I.st.post0 h r)))))
  · rename_i hk'
    obtain ⟨c, o, y, e1, e2, _, e4, r, _⟩ := I.frm.cells x (.inr (kd.trans hk'))
    rw [hv] at r
    cases y with
    | none => exact r.elim
    | some y =>
      refine wpAny_Name ?_ (not_debug ho hk').1
      unfold loadName
      simp only [Env.blockKind, hkind, kd, hk', ScopeKind.isAnnotationScope, Bool.false_and, Bool.false_eq_true, if_false, cellOf, e1, (not_debug ho hk').2]
      exact wpAny_bind (wpAny_pure (wpAny_bind (cellGet_ e2 e4 (wpAny_pure (I.st.post0 h r)))))
  · cases hk

theorem VRel.up {ι : Inj} {h : Heap} {v : V} {x : Value} (R : Rep T ι σ h) (r : VRel T [] T.b0 v x) : VRel T ι h v x :=
  r.mono ⟨⟨ι, rfl⟩, fun _ o e _ => ⟨o, R.base _ _ e, rfl⟩, fun _ _ e _ => R.base _ _ e⟩

theorem EvOk.glob {x : Str} {pos : Pos} {v : V} (TO : TopOk T) (h : Q v σ) (hv : T.gv x = some v) (hk : sc.names.lookup x = some .globalImplicit) (ho : scOk sc = true) : EvOk T d sc ρ X (.Name x pos) Q σ := by
  intro env A fs F ι s hsc I
  subst hsc
  obtain ⟨V, mg, mb, n1, n2, hm, r⟩ := TO.gl x v hv
  have N1 := n1.keeps I.rep.base
  have N2 := n2.keeps I.rep.base
  have p := I.st.post0 (F := []) h (r.up I.rep)
  refine Name_function_global I.frm.kind hk ?_ (not_debug ho hk).1
  rw [← I.frm.glb] at N1
  rw [← I.frm.blt] at N2
  rcases hm with hm | ⟨hm, hb⟩
  · exact loadGlobal_global N1 hm p
  · exact loadGlobal_builtin N1 hm N2 hb p

theorem EvOk.bin {l r : Expr} {op : Operator} {pos : Pos} (h : EvOk T d sc ρ X l (fun a σ₁ => EvOk T d sc ρ X r (fun b σ₂ => binVC op a b Q σ₂) σ₁) σ) : EvOk T d sc ρ X (.BinOp l op r pos) Q σ := by
  intro env A fs F ι s hsc I
  refine wpAny_BinOp (wpAny_mono (h env A fs F ι s hsc I) (fun x s₁ p => ?_) fun _ _ p => p)
  obtain ⟨v, σ₁, ι₁, q, rv, rp, ex, g, o⟩ := p
  have I₁ := I.ext ex rp g o
  refine wpAny_mono (q env A fs F ι₁ s₁ hsc I₁) (fun y s₂ p => ?_) fun _ _ p => p.trans ex
  obtain ⟨v₂, σ₂, ι₂, q₂, rv₂, rp₂, ex₂, g₂, o₂⟩ := p
  have I₂ := I₁.ext ex₂ rp₂ g₂ o₂
  exact wpAny_mono (bin_ok q₂ A fs ι₂ s₂ x y I₂.st (rv.mono ex₂.mono) rv₂) (fun _ _ p => p.trans (ex.trans ex₂)) fun _ _ p => p.trans (ex.trans ex₂)

theorem EvOk.cmp {l r : Expr} {op : CmpOp} {pos : Pos} (h : EvOk T d sc ρ X l (fun a σ₁ => EvOk T d sc ρ X r (fun b σ₂ => cmpVC op a b Q σ₂) σ₁) σ) (hm : behindInMarks op r = false) : EvOk T d sc ρ X (.Compare l [op] [r] pos) Q σ := by
  intro env A fs F ι s hsc I
  refine wpAny_Compare1 (wpAny_mono (h env A fs F ι s hsc I) (fun x s₁ p => ?_) fun _ _ p => p) hm
  obtain ⟨v, σ₁, ι₁, q, rv, rp, ex, g, o⟩ := p
  have I₁ := I.ext ex rp g o
  refine wpAny_mono (q env A fs F ι₁ s₁ hsc I₁) (fun y s₂ p => ?_) fun _ _ p => p.trans ex
  obtain ⟨v₂, σ₂, ι₂, q₂, rv₂, rp₂, ex₂, g₂, o₂⟩ := p
  have I₂ := I₁.ext ex₂ rp₂ g₂ o₂
  exact wpAny_mono (cmp_ok q₂ A fs ι₂ s₂ x y I₂.st (rv.mono ex₂.mono) rv₂) (fun _ _ p => p.trans (ex.trans ex₂)) fun _ _ p => p.trans (ex.trans ex₂)

/-- the truth of a value -/
def truthV (v : V) (σ : Hp) : Option Bool := match v with
  | .bool b => some b
  | .none => some false
  | .int i => some (i != 0)
  | .ref l => (match σ[l]? with | some (.list vs) => if vs.length < 1000000000 then some (!vs.isEmpty) else none | _ => none)
  | _ => none

theorem truth_ok {A : Around} {fs : List Env} {ι : Inj} {s : Shared} {v : V} {x : Value} {b : Bool} {Q : Bool → Hp → Prop} (S : St T A fs d ι σ s) (r : VRel T ι s.heap v x) (e : truthV v σ = some b) (q : Q b σ) :
    wpAny (model T.prog T.w) A (truthy x) (PostB T Q ι s.heap) (PostX T [] X ι s.heap) s := by
  have fin : ∀ t, PostB T Q ι s.heap b { s with toks := t } := fun t => ⟨σ, ι, q, S.rep, .refl .., S.gens, S.os⟩
  cases v <;> simp only [truthV, reduceCtorEq, Option.some.injEq] at e
  · cases r.none_inv; subst e; exact wpAny_pure (fin s.toks)
  · cases r.bool_inv; subst e; exact wpAny_truthy_bool (fin s.toks)
  · obtain ⟨t, rfl⟩ := r.int_inv; subst e; exact P.truthy_int (fin s.toks)
  · obtain ⟨a, d', rfl, hl⟩ := r.ref_inv
    split at e
    · rename_i vs hvs
      split at e
      · rename_i hlt
        simp only [Option.some.injEq] at e
        obtain ⟨items, n, hL, hv⟩ := S.rep.list_at hvs hl
        have hlen := hv.length
        simp only [Array.length_toList] at hlen
        refine wpAny_truthy_list hL.isList (by omega) ?_
        have : (!items.isEmpty) = b := by
          rw [← e]; congr 1
          rw [Bool.eq_iff_iff, Array.isEmpty_iff_size_eq_zero, List.isEmpty_iff_length_eq_zero, hlen]
        rw [this]; exact fin _
      · cases e
    · cases e
end

end Mine

namespace Mine
open PySem PySem.Calls PyProof.Rows PySem.SeqAt

section
variable {T : Tp} {d : Nat} {sc : Scope} {ρ : Loc} {X : QX} {Q : QE} {B : Bool → Hp → Prop} {σ : Hp}

theorem TsOk.cmp {l r : Expr} {op : CmpOp} {pos : Pos} (h : EvOk T d sc ρ X l (fun a σ₁ => EvOk T d sc ρ X r (fun b σ₂ => cmpVC op a b (fun v σ₃ => ∃ c, v = .bool c ∧ B c σ₃) σ₂) σ₁) σ) (hm : behindInMarks op r = false) : TsOk T d sc ρ X (.Compare l [op] [r] pos) B σ := by
  intro env A fs F ι s hsc I
  refine wpAny_isTrue_Compare1 (wpAny_mono (h env A fs F ι s hsc I) (fun x s₁ p => ?_) fun _ _ p => p) hm
  obtain ⟨v, σ₁, ι₁, q, rv, rp, ex, g, o⟩ := p
  have I₁ := I.ext ex rp g o
  refine wpAny_mono (q env A fs F ι₁ s₁ hsc I₁) (fun y s₂ p => ?_) fun _ _ p => p.trans ex
  obtain ⟨v₂, σ₂, ι₂, q₂, rv₂, rp₂, ex₂, g₂, o₂⟩ := p
  have I₂ := I₁.ext ex₂ rp₂ g₂ o₂
  refine wpAny_mono (cmp_ok q₂ A fs ι₂ s₂ x y I₂.st (rv.mono ex₂.mono) rv₂) (fun z s₃ p => ?_) fun _ _ p => p.trans (ex.trans ex₂)
  obtain ⟨v₃, σ₃, ι₃, ⟨c, rfl, q₃⟩, rv₃, rp₃, ex₃, g₃, o₃⟩ := p
  cases rv₃.bool_inv
  exact wpAny_truthy_bool ⟨σ₃, ι₃, q₃, rp₃, (ex.trans ex₂).trans ex₃, g₃, o₃⟩

theorem TsOk.not {x : Expr} {pos : Pos} (h : TsOk T d sc ρ X x (fun b σ₁ => B (!b) σ₁) σ) : TsOk T d sc ρ X (.UnaryOp .Not x pos) B σ := by
  intro env A fs F ι s hsc I
  exact wpAny_isTrue_Not (wpAny_mono (h env A fs F ι s hsc I) (fun b s₁ p => p) fun _ _ p => p)

/-- and, or of tests -/
def AllOk (T : Tp) (d : Nat) (sc : Scope) (ρ : Loc) (X : QX) (op : BoolOp) (es : List Expr) (B : Bool → Hp → Prop) (σ : Hp) : Prop :=
  ∀ env A fs F ι s, env.scope = sc → Inv T A fs d env F ρ ι σ s → wpAny (model T.prog T.w) A (allTrue op es env) (PostB T B ι s.heap) (PostX T [] X ι s.heap) s
theorem TsOk.bool {op : BoolOp} {es : List Expr} {pos : Pos} (h : AllOk T d sc ρ X op es B σ) : TsOk T d sc ρ X (.BoolOp op es pos) B σ :=
  fun env A fs F ι s hsc I => wpAny_isTrue_BoolOp (h env A fs F ι s hsc I)
theorem PostB.here {A : Around} {fs : List Env} {ι : Inj} {s : Shared} {b : Bool} (S : St T A fs d ι σ s) (q : B b σ) : PostB T B ι s.heap b s := ⟨σ, ι, q, S.rep, .refl .., S.gens, S.os⟩
theorem AllOk.and_nil (q : B true σ) : AllOk T d sc ρ X .And [] B σ := fun _ _ _ _ _ _ _ I => wpAny_allTrue_And_nil (.here I.st q)
theorem AllOk.or_nil (q : B false σ) : AllOk T d sc ρ X .Or [] B σ := fun _ _ _ _ _ _ _ I => wpAny_allTrue_Or_nil (.here I.st q)
theorem AllOk.and_cons {x : Expr} {r : List Expr} (h : TsOk T d sc ρ X x (fun b σ₁ => if b then AllOk T d sc ρ X .And r B σ₁ else B false σ₁) σ) : AllOk T d sc ρ X .And (x :: r) B σ := by
  intro env A fs F ι s hsc I
  refine wpAny_allTrue_And_cons (wpAny_mono (h env A fs F ι s hsc I) (fun b s₁ p => ?_) fun _ _ p => p)
  obtain ⟨σ₁, ι₁, q, rp, ex, g, o⟩ := p
  cases b
  · exact ⟨σ₁, ι₁, q, rp, ex, g, o⟩
  · exact wpAny_mono (q env A fs F ι₁ s₁ hsc (I.ext ex rp g o)) (fun _ _ p => p.trans ex) fun _ _ p => p.trans ex
theorem AllOk.or_cons {x : Expr} {r : List Expr} (h : TsOk T d sc ρ X x (fun b σ₁ => if b then B true σ₁ else AllOk T d sc ρ X .Or r B σ₁) σ) : AllOk T d sc ρ X .Or (x :: r) B σ := by
  intro env A fs F ι s hsc I
  refine wpAny_allTrue_Or_cons (wpAny_mono (h env A fs F ι s hsc I) (fun b s₁ p => ?_) fun _ _ p => p)
  obtain ⟨σ₁, ι₁, q, rp, ex, g, o⟩ := p
  cases b
  · exact wpAny_mono (q env A fs F ι₁ s₁ hsc (I.ext ex rp g o)) (fun _ _ p => p.trans ex) fun _ _ p => p.trans ex
  · exact ⟨σ₁, ι₁, q, rp, ex, g, o⟩

/-- a test that is no comparison, not, and, or, if -/
def plainTest : Expr → Bool
  | .UnaryOp .Not _ _ | .BoolOp .. | .IfExp .. | .Compare .. => false
  | _ => true
theorem TsOk.val {e : Expr} (h : EvOk T d sc ρ X e (fun v σ₁ => ∃ b, truthV v σ₁ = some b ∧ B b σ₁) σ) (hp : plainTest e = true) : TsOk T d sc ρ X e B σ := by
  intro env A fs F ι s hsc I
  refine wpAny_isTrue_value (wpAny_mono (h env A fs F ι s hsc I) (fun x s₁ p => ?_) fun _ _ p => p) ?_
  · obtain ⟨v, σ₁, ι₁, ⟨b, e1, q⟩, rv, rp, ex, g, o⟩ := p
    exact wpAny_mono (truth_ok (I.ext ex rp g o).st rv e1 q) (fun _ _ p => p.trans ex) fun _ _ p => p.trans ex
  · cases e <;> first | rfl | (cases hp; done) | skip
    rename_i op x pos
    cases op <;> first | rfl | cases hp

/-- l op1 m op2 r as a test -/
theorem TsOk.cmp2 {l m r : Expr} {op1 op2 : CmpOp} {pos : Pos} (h : EvOk T d sc ρ X l (fun a σ₁ => EvOk T d sc ρ X m (fun b σ₂ => cmpVC op1 a b (fun v σ₃ => ∃ c, v = .bool c ∧ (if c then EvOk T d sc ρ X r (fun w σ₄ => cmpVC op2 b w (fun v σ₅ => ∃ c, v = .bool c ∧ B c σ₅) σ₄) σ₃ else B false σ₃)) σ₂) σ₁) σ)
    (hm : behindInMarks op2 r = false) : TsOk T d sc ρ X (.Compare l [op1, op2] [m, r] pos) B σ := by
  intro env A fs F ι s hsc I
  show wpAny _ _ (eval l env >>= fun a => testChain pos a [op1, op2] [eval m env, markedBehindIn op2 r (eval r env)]) _ _ _
  rw [markedBehindIn_of_false hm]
  refine wpAny_bind (wpAny_mono (h env A fs F ι s hsc I) (fun x s₁ p => ?_) fun _ _ p => p)
  obtain ⟨v, σ₁, ι₁, q, rv, rp, ex, g, o⟩ := p
  have I₁ := I.ext ex rp g o
  unfold testChain
  refine wpAny_bind (wpAny_holding (wpAny_mono (q env A fs F ι₁ s₁ hsc I₁) (fun y s₂ p => ?_) fun _ _ p => p.trans ex))
  obtain ⟨v₂, σ₂, ι₂, q₂, rv₂, rp₂, ex₂, g₂, o₂⟩ := p
  have I₂ := I₁.ext ex₂ rp₂ g₂ o₂
  refine wpAny_bind (wpAny_standAt (wpAny_bind (wpAny_holding (wpAny_mono (cmp_ok q₂ A fs ι₂ s₂ x y I₂.st (rv.mono ex₂.mono) rv₂) (fun z s₃ p => ?_) fun _ _ p => p.trans (ex.trans ex₂)))))
  obtain ⟨v₃, σ₃, ι₃, ⟨c, rfl, q₃⟩, rv₃, rp₃, ex₃, g₃, o₃⟩ := p
  cases rv₃.bool_inv
  have I₃ := I₂.ext ex₃ rp₃ g₃ o₃
  have ex123 := (ex.trans ex₂).trans ex₃
  refine wpAny_bind (wpAny_release (wpAny_bind (wpAny_holding (wpAny_truthy_bool ?_))))
  cases c
  · exact wpAny_pure ⟨σ₃, ι₃, q₃, rp₃, ex123, g₃, o₃⟩
  · show wpAny _ _ (testChain pos y [op2] [eval r env]) _ _ _
    unfold testChain
    refine wpAny_bind (wpAny_holding (wpAny_mono (q₃ env A fs F ι₃ s₃ hsc I₃) (fun u s₄ p => ?_) fun _ _ p => p.trans ex123))
    obtain ⟨v₄, σ₄, ι₄, q₄, rv₄, rp₄, ex₄, g₄, o₄⟩ := p
    have I₄ := I₃.ext ex₄ rp₄ g₄ o₄
    have ex1234 := ex123.trans ex₄
    refine wpAny_bind (wpAny_standAt (wpAny_bind (wpAny_operateT (wpAny_mono (cmp_ok q₄ A fs ι₄ s₄ y u I₄.st (rv₂.mono (ex₃.trans ex₄).mono) rv₄) (fun z s₅ p => ?_) fun _ _ p => p.trans ex1234))))
    obtain ⟨v₅, σ₅, ι₅, ⟨c, rfl, q₅⟩, rv₅, rp₅, ex₅, g₅, o₅⟩ := p
    cases rv₅.bool_inv
    exact wpAny_holding (wpAny_truthy_bool ⟨σ₅, ι₅, q₅, rp₅, ex1234.trans ex₅, g₅, o₅⟩)

/-- the same as a value -/
theorem EvOk.cmp2 {l m r : Expr} {op1 op2 : CmpOp} {pos : Pos} (h : EvOk T d sc ρ X l (fun a σ₁ => EvOk T d sc ρ X m (fun b σ₂ => cmpVC op1 a b (fun v σ₃ => ∃ c, v = .bool c ∧ (if c then EvOk T d sc ρ X r (fun w σ₄ => cmpVC op2 b w Q σ₄) σ₃ else Q (.bool false) σ₃)) σ₂) σ₁) σ)
    (hm : behindInMarks op2 r = false) : EvOk T d sc ρ X (.Compare l [op1, op2] [m, r] pos) Q σ := by
  intro env A fs F ι s hsc I
  show wpAny _ _ (eval l env >>= fun a => compareChain pos a [op1, op2] [eval m env, markedBehindIn op2 r (eval r env)]) _ _ _
  rw [markedBehindIn_of_false hm]
  refine wpAny_bind (wpAny_mono (h env A fs F ι s hsc I) (fun x s₁ p => ?_) fun _ _ p => p)
  obtain ⟨v, σ₁, ι₁, q, rv, rp, ex, g, o⟩ := p
  have I₁ := I.ext ex rp g o
  unfold compareChain
  refine wpAny_bind (wpAny_holding (wpAny_mono (q env A fs F ι₁ s₁ hsc I₁) (fun y s₂ p => ?_) fun _ _ p => p.trans ex))
  obtain ⟨v₂, σ₂, ι₂, q₂, rv₂, rp₂, ex₂, g₂, o₂⟩ := p
  have I₂ := I₁.ext ex₂ rp₂ g₂ o₂
  refine wpAny_bind (wpAny_standAt (wpAny_bind (wpAny_holding (wpAny_mono (cmp_ok q₂ A fs ι₂ s₂ x y I₂.st (rv.mono ex₂.mono) rv₂) (fun z s₃ p => ?_) fun _ _ p => p.trans (ex.trans ex₂)))))
  obtain ⟨v₃, σ₃, ι₃, ⟨c, rfl, q₃⟩, rv₃, rp₃, ex₃, g₃, o₃⟩ := p
  cases rv₃.bool_inv
  have I₃ := I₂.ext ex₃ rp₃ g₃ o₃
  have ex123 := (ex.trans ex₂).trans ex₃
  refine wpAny_bind (wpAny_release (wpAny_bind (wpAny_holding (wpAny_truthy_bool ?_))))
  cases c
  · exact wpAny_pure ⟨_, σ₃, ι₃, q₃, .bool_mk, rp₃, ex123, g₃, o₃⟩
  · show wpAny _ _ (compareChain pos y [op2] [eval r env]) _ _ _
    unfold compareChain
    refine wpAny_bind (wpAny_holding (wpAny_mono (q₃ env A fs F ι₃ s₃ hsc I₃) (fun u s₄ p => ?_) fun _ _ p => p.trans ex123))
    obtain ⟨v₄, σ₄, ι₄, q₄, rv₄, rp₄, ex₄, g₄, o₄⟩ := p
    have I₄ := I₃.ext ex₄ rp₄ g₄ o₄
    have ex1234 := ex123.trans ex₄
    exact wpAny_bind (wpAny_standAt (wpAny_operateT (wpAny_mono (cmp_ok q₄ A fs ι₄ s₄ y u I₄.st (rv₂.mono (ex₃.trans ex₄).mono) rv₄) (fun z s₅ p => p.trans ex1234) fun _ _ p => p.trans ex1234)))

theorem EvOk.not {x : Expr} {pos : Pos} (h : EvOk T d sc ρ X x (fun v σ₁ => ∃ b, truthV v σ₁ = some b ∧ Q (.bool (!b)) σ₁) σ) : EvOk T d sc ρ X (.UnaryOp .Not x pos) Q σ := by
  intro env A fs F ι s hsc I
  refine wpAny_UnaryOp (wpAny_mono (h env A fs F ι s hsc I) (fun x s₁ p => ?_) fun _ _ p => p)
  obtain ⟨v, σ₁, ι₁, ⟨b, e1, q⟩, rv, rp, ex, g, o⟩ := p
  refine not_value (wpAny_mono (truth_ok (Q := fun c σ' => Q (.bool (!c)) σ') (I.ext ex rp g o).st rv e1 q) (fun c s₂ p => ?_) fun _ _ p => p.trans ex)
  obtain ⟨σ₂, ι₂, q₂, rp₂, ex₂, g₂, o₂⟩ := p
  exact ⟨_, σ₂, ι₂, q₂, .bool_mk, rp₂, ex.trans ex₂, g₂, o₂⟩
theorem EvOk.neg {x : Expr} {pos : Pos} (h : EvOk T d sc ρ X x (fun v σ₁ => ∃ i, v = .int i ∧ Q (.int (-i)) σ₁) σ) : EvOk T d sc ρ X (.UnaryOp .USub x pos) Q σ := by
  intro env A fs F ι s hsc I
  refine wpAny_UnaryOp (wpAny_mono (h env A fs F ι s hsc I) (fun x s₁ p => ?_) fun _ _ p => p)
  obtain ⟨v, σ₁, ι₁, ⟨i, rfl, q⟩, rv, rp, ex, g, o⟩ := p
  obtain ⟨t, rfl⟩ := rv.int_inv
  exact P.neg_int (((I.ext ex rp g o).st.post q .int_mk _).trans ex)

/-- and, or as values -/
def BoolsOk (T : Tp) (d : Nat) (sc : Scope) (ρ : Loc) (X : QX) (op : BoolOp) (es : List Expr) (Q : QE) (σ : Hp) : Prop :=
  ∀ env A fs F ι s pos, env.scope = sc → Inv T A fs d env F ρ ι σ s → wpAny (model T.prog T.w) A (boolOp pos op (evalEach es env)) (PostE T [] Q ι s.heap) (PostX T [] X ι s.heap) s
theorem EvOk.bools {op : BoolOp} {es : List Expr} {pos : Pos} (h : BoolsOk T d sc ρ X op es Q σ) : EvOk T d sc ρ X (.BoolOp op es pos) Q σ :=
  fun env A fs F ι s hsc I => h env A fs F ι s pos hsc I
theorem BoolsOk.one {op : BoolOp} {x : Expr} (h : EvOk T d sc ρ X x Q σ) : BoolsOk T d sc ρ X op [x] Q σ :=
  fun env A fs F ι s _ hsc I => h env A fs F ι s hsc I
theorem BoolsOk.and {x y : Expr} {r : List Expr} (h : EvOk T d sc ρ X x (fun v σ₁ => ∃ b, truthV v σ₁ = some b ∧ (if b then BoolsOk T d sc ρ X .And (y :: r) Q σ₁ else Q v σ₁)) σ) : BoolsOk T d sc ρ X .And (x :: y :: r) Q σ := by
  intro env A fs F ι s pos hsc I
  show wpAny _ _ (eval x env >>= fun v => standAt pos >>= fun _ => holding [v] (truthy v) >>= fun t => match BoolOp.And, t with
    | .And, false | .Or, true => pure v
    | _, _ => boolOp pos .And (evalEach (y :: r) env)) _ _ _
  refine wpAny_bind (wpAny_mono (h env A fs F ι s hsc I) (fun x s₁ p => ?_) fun _ _ p => p)
  obtain ⟨v, σ₁, ι₁, ⟨b, e1, q⟩, rv, rp, ex, g, o⟩ := p
  have I₁ := I.ext ex rp g o
  refine wpAny_bind (wpAny_standAt (wpAny_bind (wpAny_holding (wpAny_mono (truth_ok (Q := fun c σ' => c = b ∧ σ' = σ₁) I₁.st rv e1 ⟨rfl, rfl⟩) (fun c s₂ p => ?_) fun _ _ p => p.trans ex))))
  obtain ⟨σ₂, ι₂, ⟨rfl, rfl⟩, rp₂, ex₂, g₂, o₂⟩ := p
  cases c
  · exact wpAny_pure ⟨v, σ₂, ι₂, q, rv.mono ex₂.mono, rp₂, ex.trans ex₂, g₂, o₂⟩
  · exact wpAny_mono (q env A fs F ι₂ s₂ pos hsc (I₁.ext ex₂ rp₂ g₂ o₂)) (fun _ _ p => p.trans (ex.trans ex₂)) fun _ _ p => p.trans (ex.trans ex₂)
theorem BoolsOk.or {x y : Expr} {r : List Expr} (h : EvOk T d sc ρ X x (fun v σ₁ => ∃ b, truthV v σ₁ = some b ∧ (if b then Q v σ₁ else BoolsOk T d sc ρ X .Or (y :: r) Q σ₁)) σ) : BoolsOk T d sc ρ X .Or (x :: y :: r) Q σ := by
  intro env A fs F ι s pos hsc I
  show wpAny _ _ (eval x env >>= fun v => standAt pos >>= fun _ => holding [v] (truthy v) >>= fun t => match BoolOp.Or, t with
    | .And, false | .Or, true => pure v
    | _, _ => boolOp pos .Or (evalEach (y :: r) env)) _ _ _
  refine wpAny_bind (wpAny_mono (h env A fs F ι s hsc I) (fun x s₁ p => ?_) fun _ _ p => p)
  obtain ⟨v, σ₁, ι₁, ⟨b, e1, q⟩, rv, rp, ex, g, o⟩ := p
  have I₁ := I.ext ex rp g o
  refine wpAny_bind (wpAny_standAt (wpAny_bind (wpAny_holding (wpAny_mono (truth_ok (Q := fun c σ' => c = b ∧ σ' = σ₁) I₁.st rv e1 ⟨rfl, rfl⟩) (fun c s₂ p => ?_) fun _ _ p => p.trans ex))))
  obtain ⟨σ₂, ι₂, ⟨rfl, rfl⟩, rp₂, ex₂, g₂, o₂⟩ := p
  cases c
  · exact wpAny_mono (q env A fs F ι₂ s₂ pos hsc (I₁.ext ex₂ rp₂ g₂ o₂)) (fun _ _ p => p.trans (ex.trans ex₂)) fun _ _ p => p.trans (ex.trans ex₂)
  · exact wpAny_pure ⟨v, σ₂, ι₂, q, rv.mono ex₂.mono, rp₂, ex.trans ex₂, g₂, o₂⟩

/-- displays -/
theorem EvsOk.nil {L : List V → Hp → Prop} (q : L [] σ) : EvsOk T d sc ρ X [] L σ := fun _ _ _ _ ι _ _ I => wpAny_pure ⟨[], σ, ι, q, VRels.nil_iff.mpr rfl, I.rep, .refl .., I.gens, I.os⟩
theorem EvsOk.cons {L : List V → Hp → Prop} {e : Expr} {r : List Expr} (h : EvOk T d sc ρ X e (fun v σ₁ => EvsOk T d sc ρ X r (fun vs σ₂ => L (v :: vs) σ₂) σ₁) σ) : EvsOk T d sc ρ X (e :: r) L σ := by
  intro env A fs F ι s hsc I
  refine spliced_cons (wpAny_mono (h env A fs F ι s hsc I) (fun x s₁ p => ?_) fun _ _ p => p)
  obtain ⟨v, σ₁, ι₁, q, rv, rp, ex, g, o⟩ := p
  refine wpAny_mono (q env A fs F ι₁ s₁ hsc (I.ext ex rp g o)) (fun xs s₂ p => ?_) fun _ _ p => p.trans ex
  obtain ⟨vs, σ₂, ι₂, q₂, rvs, rp₂, ex₂, g₂, o₂⟩ := p
  exact ⟨v :: vs, σ₂, ι₂, q₂, VRels.cons_iff.mpr ⟨_, _, rfl, rv.mono ex₂.mono, rvs⟩, rp₂, ex.trans ex₂, g₂, o₂⟩
theorem EvOk.tup {es : List Expr} {k : Nat} {pos : Pos} (h : EvsOk T d sc ρ X es (fun vs σ₁ => vs.length ≤ sizeLine ∧ Q (.tup vs) σ₁) σ) (ns : noStar es = true) : EvOk T d sc ρ X (.Tuple es k pos) Q σ := by
  intro env A fs F ι s hsc I
  refine wpAny_Tuple ?_
  rw [starEach_eq ns]
  refine wpAny_mono (h env A fs F ι s hsc I) (fun xs s₁ p => ?_) fun _ _ p => p
  obtain ⟨vs, σ₁, ι₁, ⟨hl, q⟩, rv, rp, ex, g, o⟩ := p
  exact ⟨by rw [rv.length]; exact hl, ((I.ext ex rp g o).st.newTup (items := xs.toArray) (by simpa using rv) q (t := s₁.toks)).trans ex⟩
theorem EvOk.list {es : List Expr} {pos : Pos} (h : EvsOk T d sc ρ X es (fun vs σ₁ => vs.length ≤ sizeLine ∧ Q (.ref σ₁.length) (σ₁ ++ [.list vs])) σ) (ns : noStar es = true) : EvOk T d sc ρ X (.List es pos) Q σ := by
  intro env A fs F ι s hsc I
  refine wpAny_List ?_
  rw [starEach_eq ns]
  refine wpAny_mono (h env A fs F ι s hsc I) (fun xs s₁ p => ?_) fun _ _ p => p
  obtain ⟨vs, σ₁, ι₁, ⟨hl, q⟩, rv, rp, ex, g, o⟩ := p
  exact ⟨by rw [rv.length]; exact hl, ((I.ext ex rp g o).st.newList (items := xs.toArray) (by simpa using rv) q (t := s₁.toks)).trans ex⟩
end

end Mine

namespace Mine
open PySem PySem.Calls PyProof.Rows PySem.SeqAt

def sm63 (k : Int) : Prop := -(2 ^ 63) ≤ k ∧ k < 2 ^ 63

/-- o[i] -/
def itemVC (o i : V) (Q : QE) (σ : Hp) : Prop :=
  match o, i with
  | .tup vs, .int k => ∃ j v, seqIndex? k vs.length = some j ∧ vs[j]? = some v ∧ sm63 k ∧ Q v σ
  | .ref l, .int k => ∃ vs j v, σ[l]? = some (.list vs) ∧ seqIndex? k vs.length = some j ∧ vs[j]? = some v ∧ sm63 k ∧ Q v σ
  | .str s, .int k => ∃ c, (seqIndex? k s.length).bind (s.cps[·]?) = some c ∧ sm63 k ∧ Q (.str ⟨#[c]⟩) σ
  | .scr xs, .int k => ∃ i, 0 ≤ k ∧ k < 2 ^ 63 ∧ xs[k.toNat]? = some i ∧ Q (.int i) σ
  | .ref l, .str x => ∃ kvs v, σ[l]? = some (.sdict kvs) ∧ (kvs.find? fun kv => kv.1 = x).map (·.2) = some v ∧ Q v σ
  | _, _ => False

def notSlice : Expr → Bool
  | .Slice .. => false
  | _ => true
theorem subscripted_eq {slice : Expr} {o i : Value} (h : notSlice slice = true) : subscripted slice false o i = operate [o, i] (getItem o i) := by
  cases slice <;> first | rfl | cases h

section
variable {T : Tp} {d : Nat} {sc : Scope} {ρ : Loc} {X : QX} {Q : QE} {σ : Hp}

theorem seqIndex_inv {k : Int} {n j : Nat} (h : seqIndex? k n = some j) : (0 ≤ k ∧ j = k.toNat) ∨ (k < 0 ∧ -(n : Int) ≤ k ∧ j = (k + n).toNat) := by
  unfold seqIndex? at h
  by_cases hk : k < 0
  · right
    simp only [hk, if_true] at h
    split at h
    · rename_i hb
      simp only [Bool.and_eq_true, decide_eq_true_eq] at hb
      simp only [Option.some.injEq] at h
      exact ⟨hk, by omega, h.symm⟩
    · cases h
  · left
    simp only [hk, if_false] at h
    split at h
    · simp only [Option.some.injEq] at h; exact ⟨by omega, h.symm⟩
    · cases h

theorem item_ok {A : Around} {fs : List Env} {ι : Inj} {s : Shared} {o i : V} {x y : Value} {value slice : Expr} (S : St T A fs d ι σ s) (rx : VRel T ι s.heap o x) (ry : VRel T ι s.heap i y) (h : itemVC o i Q σ) (ns : notSlice slice = true) :
    wpAny (model T.prog T.w) A (subscriptTail value slice x y) (PostE T [] Q ι s.heap) (PostX T [] X ι s.heap) s := by
  unfold itemVC at h
  split at h
  · obtain ⟨j, v, e1, e2, e3, q⟩ := h
    obtain ⟨a, items, n, rfl, ht, hv⟩ := rx.tup_inv
    obtain ⟨t, rfl⟩ := ry.int_inv
    obtain ⟨z, hz, rz⟩ := hv.get e2
    have hl := hv.length
    simp only [Array.length_toList] at hl
    refine tail_any ⟨_, ht, rfl⟩ PySem.F.slot_tuple_getitem.lookup (P.getItem_tuple ht e3.1 e3.2 (by rw [hl]; exact e1) (by simpa using hz) (S.post0 q rz)) (subscripted_eq ns)
  · obtain ⟨vs, j, v, e0, e1, e2, e3, q⟩ := h
    obtain ⟨a, d', rfl, hl⟩ := rx.ref_inv
    obtain ⟨t, rfl⟩ := ry.int_inv
    obtain ⟨items, n, hL, hv⟩ := S.rep.list_at e0 hl
    obtain ⟨z, hz, rz⟩ := hv.get e2
    have hln := hv.length
    simp only [Array.length_toList] at hln
    refine tail_any ⟨_, hL, rfl⟩ PySem.F.slot_list_getitem.lookup ?_ (subscripted_eq ns)
    rcases seqIndex_inv e1 with ⟨k0, rfl⟩ | ⟨k0, k1, rfl⟩
    · exact wpAny_getItem_list hL.isList k0 e3.2 (by simpa using hz) (S.post0 q rz)
    · exact wpAny_getItem_list_neg hL.isList k0 (by rw [hln]; exact k1) e3.1 (by rw [hln]; simpa using hz) (S.post0 q rz)
  · obtain ⟨c, e1, e3, q⟩ := h
    obtain ⟨t, rfl⟩ := rx.str_inv
    obtain ⟨u, rfl⟩ := ry.int_inv
    refine tail_any (T := "str") rfl PySem.F.slot_str_getitem.lookup (PyProof.Rows.getItem_str ?_ e1 (S.post q .str_mk _)) (subscripted_eq ns)
    obtain ⟨a, b⟩ := e3
    simp only [Bool.or_eq_false_iff, decide_eq_false_iff_not]
    constructor <;> omega
  · obtain ⟨i, k0, k1, e1, q⟩ := h
    unfold VRel at rx
    obtain ⟨a, ob, items, n, rfl, ho, hc, hd, l, hl, rfl⟩ := rx
    obtain ⟨t, rfl⟩ := ry.int_inv
    have ho' := S.rep.base _ _ ho
    refine tail_any ⟨_, ho', hc⟩ PySem.F.slot_list_getitem.lookup ?_ (subscripted_eq ns)
    rw [List.getElem?_map] at e1
    obtain ⟨p, hp, rfl⟩ := Option.map_eq_some_iff.mp e1
    refine wpAny_getItem_list (x := .int p.1 p.2) ⟨_, ho', hc, n, hd⟩ k0 k1 ?_ (S.post0 q .int_mk)
    rw [← Array.getElem?_toList, hl, List.getElem?_map, hp]; rfl
  · obtain ⟨kvs, v, e0, e1, q⟩ := h
    obtain ⟨a, d', rfl, hl⟩ := rx.ref_inv
    obtain ⟨t, rfl⟩ := ry.str_inv
    obtain ⟨rvs, hd, hv, ns'⟩ := S.rep.sdict_at e0 hl
    rename_i l0 k
    clear ns'
    have r := hv.lookup k
    rw [e1] at r
    cases hm : valueAt rvs k with
    | none => rw [hm] at r; exact r.elim
    | some z =>
      rw [hm] at r
      exact tail_any hd.mapOf.typeIs PySem.F.slot_dict_getitem.lookup (wpAny_getItem_of (knd := strKind T.prog T.w) (k := k) (by simp [PySem.strKind, Value.isStrOf]) hd.mapOf hm (S.post q r _)) (subscripted_eq ns)
  · exact h.elim

theorem EvOk.item {value slice : Expr} {pos : Pos} (h : EvOk T d sc ρ X value (fun o σ₁ => EvOk T d sc ρ X slice (fun i σ₂ => itemVC o i Q σ₂) σ₁) σ) (ns : notSlice slice = true) : EvOk T d sc ρ X (.Subscript value slice pos) Q σ := by
  intro env A fs F ι s hsc I
  refine Subscript_ (wpAny_mono (h env A fs F ι s hsc I) (fun x s₁ p => ?_) fun _ _ p => p)
  obtain ⟨v, σ₁, ι₁, q, rv, rp, ex, g, o⟩ := p
  have I₁ := I.ext ex rp g o
  refine wpAny_mono (q env A fs F ι₁ s₁ hsc I₁) (fun y s₂ p => ?_) fun _ _ p => p.trans ex
  obtain ⟨v₂, σ₂, ι₂, q₂, rv₂, rp₂, ex₂, g₂, o₂⟩ := p
  have I₂ := I₁.ext ex₂ rp₂ g₂ o₂
  exact wpAny_mono (item_ok I₂.st (rv.mono ex₂.mono) rv₂ q₂ ns) (fun _ _ p => p.trans (ex.trans ex₂)) fun _ _ p => p.trans (ex.trans ex₂)

/-- f(..), f by its name -/
def callable : V → Bool
  | .bi _ | .type _ => true
  | _ => false
/-- what a value that is called is kept by -/
def KeepsIn (T : Tp) (f : V) : Prop := callable f = true ∨ ∀ v, (∃ x, f = .glob x ∧ T.g x = some v) ∨ (∃ c x, f = .mth c x ∧ T.m c x = some v) → PySem.W.keepIn T.K v = true

theorem keeps_any {f : V} {fv : Value} {ι : Inj} {h : Heap} {M : Model} (hk : KeepsIn T f) (r : VRel T ι h f fv) (hc : callable f = true ∨ (∃ x, f = .glob x) ∨ (∃ c x, f = .mth c x)) :
    ∀ h', T.K.In h' → ∃ k, (k = Keeper.frame ∨ k = Keeper.machine ∨ k = Keeper.boundFrame) ∧ PySem.W.Looks M h' (keeperOf fv) k := by
  intro h' X'
  have triv : (∀ a, fv ≠ .ref a) → ∃ k, (k = Keeper.frame ∨ k = Keeper.machine ∨ k = Keeper.boundFrame) ∧ PySem.W.Looks M h' (keeperOf fv) k := fun ne =>
    ⟨.machine, .inr (.inl rfl), PySem.W.Looks.of_pure (by cases fv <;> first | rfl | exact absurd rfl (ne _))⟩
  have key : PySem.W.keepIn T.K fv = true → ∃ k, (k = Keeper.frame ∨ k = Keeper.machine ∨ k = Keeper.boundFrame) ∧ PySem.W.Looks M h' (keeperOf fv) k := fun e => PySem.W.keeps_K e h' X'
  rcases hc with hc | ⟨x, rfl⟩ | ⟨c, x, rfl⟩
  · cases f <;> first | (cases hc; done) | skip
    · unfold VRel at r; subst r; exact triv fun a e => by cases e
    · unfold VRel at r; subst r; exact triv fun a e => by cases e
  · unfold VRel at r
    rcases hk with hk | hk
    · cases hk
    · exact key (hk fv (.inl ⟨x, rfl, r⟩))
  · unfold VRel at r
    rcases hk with hk | hk
    · cases hk
    · exact key (hk fv (.inr ⟨c, x, rfl, r⟩))

theorem evalArgs_list {M : Model} {A : Around} {E : Value → Shared → Prop} {s : Shared} {f : Value} {env : Env} {es : List Expr} {Q : Args → Shared → Prop}
    (h : wpAny M A (spliced (es.map fun e => (false, eval e env))) (fun vs s' => Q ⟨vs, []⟩ s') E s) : wpAny M A (evalArgs f true (es.map fun e => (false, eval e env)) []) Q E s := by
  cases es with
  | nil =>
    unfold evalArgs
    show wpAny M A (spliced [] >>= _) Q E s
    refine wpAny_bind (wpAny_mono h (fun vs s' h' => ?_) fun _ _ x => x)
    refine wpAny_holding ?_
    exact wpAny_bind (wpAny_pure (wpAny_bind (wpAny_pure (wpAny_pure h'))))
  | cons e r => exact evalArgs_plain h

theorem EvOk.call {x : Str} {np pos : Pos} {args : List Expr} (TO : TopOk T) (ns : noStar args = true)
    (h : EvOk T d sc ρ X (.Name x np) (fun f σ₁ => (callable f = true ∨ (∃ x, f = .glob x) ∨ (∃ c x, f = .mth c x)) ∧ KeepsIn T f ∧ EvsOk T d sc ρ X args (fun vs σ₂ => CallOk T d X f vs Q σ₂) σ₁) σ) :
    EvOk T d sc ρ X (.Call (.Name x np) args [] pos) Q σ := by
  intro env A fs F ι s hsc I
  rw [arm_eval_Call_Name']
  refine wpAny_bind (wpAny_mono (h env A fs F ι s hsc I) (fun fv s₁ p => ?_) fun _ _ p => p)
  obtain ⟨f, σ₁, ι₁, ⟨hc, hk, q⟩, rv, rp, ex, g, o⟩ := p
  have I₁ := I.ext ex rp g o
  rw [starEach_eq ns]
  refine PySem.W.callWith_of (P := T.K.In) (by rw [show backToKw pos (keywordEach [] env) = [] from rfl]; simp) (keeps_any hk rv hc) (evalArgs_list (wpAny_mono (q env A fs F ι₁ s₁ hsc I₁) (fun xs s₂ p => ?_) fun _ _ p => p.trans ex))
  obtain ⟨vs, σ₂, ι₂, q₂, rvs, rp₂, ex₂, g₂, o₂⟩ := p
  have I₂ := I₁.ext ex₂ rp₂ g₂ o₂
  refine ⟨TO.X0.keeps I₂.rep.base, ?_⟩
  exact wpAny_mono (q₂ A fs ι₂ s₂ fv xs I₂.st (rv.mono ex₂.mono) rvs) (fun _ _ p => p.trans (ex.trans ex₂)) fun _ _ p => p.trans (ex.trans ex₂)
end

end Mine

namespace Mine
open PySem PySem.Calls PyProof.Rows PySem.SeqAt

/-- what noting an exception ea that was made behind lo may turn -/
structure Touch (S : List Addr) (lo : Nat) (ea : Addr) (h h' : Heap) : Prop where
  size : h.objs.size ≤ h'.objs.size
  cls : ∀ a o, h.get? a = some o → ∃ o', h'.get? a = some o' ∧ o'.cls = o.cls
  keep : ∀ a o, h.get? a = some o → a ≠ ea → (a < lo ∨ o.cls ≠ .type "traceback") → a ∉ S → h'.get? a = some o
  frm : ∀ a o, h.get? a = some o → a ≠ ea → (a < lo ∨ o.cls ≠ .type "traceback") → ∃ sl, h'.get? a = some { o with slots := sl }

theorem Touch.refl {S lo ea} (h : Heap) : Touch S lo ea h h := ⟨Nat.le_refl _, fun _ o e => ⟨o, e, rfl⟩, fun _ _ e _ _ _ => e, fun _ o e _ _ => ⟨o.slots, e⟩⟩
theorem Touch.trans {S lo ea} {h h₁ h₂ : Heap} (x : Touch S lo ea h h₁) (y : Touch S lo ea h₁ h₂) : Touch S lo ea h h₂ where
  size := Nat.le_trans x.size y.size
  cls := fun a o e => let ⟨o₁, e₁, c₁⟩ := x.cls a o e; let ⟨o₂, e₂, c₂⟩ := y.cls a o₁ e₁; ⟨o₂, e₂, c₂.trans c₁⟩
  keep := fun a o e n c s => y.keep a o (x.keep a o e n c s) n c s
  frm := fun a o e n c => let ⟨_, e₁⟩ := x.frm a o e n c; let ⟨sl, e₂⟩ := y.frm a _ e₁ n c; ⟨sl, e₂⟩
theorem Touch.of_slots {S lo ea} {h h' : Heap} (x : Heap.SlotsOnly S h h') : Touch S lo ea h h' where
  size := Nat.le_of_eq x.1.symm
  cls := fun a o e => let ⟨_, e₁⟩ := x.2.2 a o e; ⟨_, e₁, rfl⟩
  keep := fun a o e _ _ s => (x.2.1 a s).trans e
  frm := fun a o e _ _ => x.2.2 a o e
theorem Touch.of_push {S lo ea} (h : Heap) (o : Obj) : Touch S lo ea h (h.push o) :=
  ⟨by rw [Heap.size_push]; omega, fun _ o e => ⟨o, Heap.get?_push_of_some _ e, rfl⟩, fun _ _ e _ _ _ => Heap.get?_push_of_some _ e, fun _ o e _ _ => ⟨o.slots, Heap.get?_push_of_some _ e⟩⟩
theorem Touch.of_set {S} {lo : Nat} {ea : Addr} {h : Heap} {a : Addr} {o : Obj} {vs : Array Value} (ho : h.get? a = some o) (hd : o.data = .fields vs) (f : Array Value → Array Value) (ha : a = ea ∨ (lo ≤ a ∧ o.cls = .type "traceback")) :
    Touch S lo ea h (h.update a (Obj.mapFields f)) := by
  have hself := Heap.get?_update_self (Obj.mapFields f) ho (Obj.isFreed_of_fields (Obj.data_mapFields hd f))
  have ne : ∀ b x, h.get? b = some x → b ≠ ea → (b < lo ∨ x.cls ≠ .type "traceback") → b ≠ a := fun b x hb n c q => by
    subst q
    rcases ha with ha | ⟨ha, hc⟩
    · exact n ha
    · rw [ho] at hb; cases hb
      rcases c with c | c
      · exact absurd c (Nat.not_lt.mpr ha)
      · exact c hc
  refine ⟨Nat.le_of_eq (Heap.size_after_update ..).symm, fun b x hb => ?_, fun b x hb n c _ => ?_, fun b x hb n c => ⟨x.slots, ?_⟩⟩
  · by_cases q : b = a
    · subst q; rw [ho] at hb; cases hb; exact ⟨_, hself, Obj.cls_mapFields _ _⟩
    · exact ⟨x, (Heap.get?_update_other h _ (Ne.symm q)).trans hb, rfl⟩
  · exact (Heap.get?_update_other h _ (Ne.symm (ne b x hb n c))).trans hb
  · exact (Heap.get?_update_other h _ (Ne.symm (ne b x hb n c))).trans hb

def frs (fs : List Env) : List Addr := fs.filterMap (·.frame)

section
variable {T : Tp} {A : Around} {fs : List Env} {d : Nat} {ι : Inj} {σ : Hp} {s : Shared} {F : List Addr} {env : Env} {ρ : Loc} {lo : Nat} {ea : Addr} {c : Str}

theorem AOk.mem {h : Heap} (x : AOk T A fs d ι h) {a : Addr} (ha : a ∈ frs fs) : a ∉ own ι ∧ T.b0.objs.size ≤ a ∧ ∃ o es ep, h.get? a = some o ∧ o.cls = .type "frame" ∧ o.data = .dict es ep := by
  obtain ⟨e, he, hf⟩ := List.mem_filterMap.mp ha
  obtain ⟨_, L, o, es, ep, f, n, b, g, c, dd⟩ := x.funs e he
  rw [hf] at f; cases f
  exact ⟨n, b, o, es, ep, g, c, dd⟩

theorem Rep.own_cls {h : Heap} (r : Rep T ι σ h) {a : Addr} (ha : a ∈ own ι) {o : Obj} (ho : h.get? a = some o) : o.cls ≠ .type "traceback" ∧ o.cls ≠ .type "frame" := by
  obtain ⟨p, hp, e⟩ := mem_own.mp ha
  obtain ⟨l, hl, rfl⟩ := List.getElem_of_mem hp
  have hl' : l < σ.length := by rw [← r.len]; exact hl
  have := r.objs l σ[l] ι[l] (List.getElem?_eq_getElem hl') (List.getElem?_eq_getElem hl)
  cases hm : σ[l] <;> rw [hm] at this
  · obtain ⟨e1, _, ⟨_, x⟩, _⟩ := this
    have : h.get? a = h.get? (ι[l]).1 := by rcases e with rfl | rfl <;> simp [e1]
    rw [this, x] at ho; cases ho; simp
  · obtain ⟨e1, _, ⟨o', _, _, x, ex, _⟩, _⟩ := this
    have : h.get? a = h.get? (ι[l]).1 := by rcases e with rfl | rfl <;> simp [e1]
    rw [this, x] at ho; cases ho; rw [ex.1]; simp
  · exact this.elim
  · obtain ⟨C, m, sl, _, x, ⟨o', _, _, y, yc, _⟩, _⟩ := this
    rcases e with rfl | rfl
    · rw [x] at ho; cases ho; simp
    · rw [y] at ho; cases ho; rw [yc]; simp

theorem Touch.mono {S : List Addr} {h h' : Heap} (t : Touch S lo ea h h') (hS : ∀ a ∈ S, ∃ o, h.get? a = some o ∧ o.cls = .type "frame") (he : ∃ o C, h.get? ea = some o ∧ o.cls = .ref C) (ι : Inj) : Mono ι h ι h' where
  pre := ⟨[], by simp⟩
  cls := fun a o e _ => t.cls a o e
  frz := fun a o ho hf => t.keep a o ho (fun q => by
      obtain ⟨o', C, g, gc⟩ := he
      subst q; rw [ho] at g; cases g
      simp [frozen, gc] at hf) (.inr fun q => by simp [frozen, q] at hf) fun q => by
      obtain ⟨o', g, gc⟩ := hS a q
      rw [ho] at g; cases g
      simp [frozen, gc] at hf

theorem Rep.touch {S : List Addr} {h h' : Heap} (r : Rep T ι σ h) (t : Touch S lo ea h h') (hS : ∀ a ∈ S, a ∉ own ι ∧ T.b0.objs.size ≤ a ∧ ∃ o, h.get? a = some o ∧ o.cls = .type "frame") (he : ∃ o C, h.get? ea = some o ∧ o.cls = .ref C)
    (hn : ea ∉ own ι) (hl : T.b0.objs.size ≤ lo) (hle : lo ≤ ea) : Rep T ι σ h' :=
  r.keeps (t.mono (fun a ha => (hS a ha).2.2) he ι) t.size
    (fun a o e => t.keep a o (r.base a o e) (fun q => by
      have := Heap.lt_size e; rw [q] at this
      exact absurd (Nat.le_trans hl hle) (Nat.not_le.mpr this)) (.inl (Nat.lt_of_lt_of_le (Heap.lt_size e) hl)) fun q => absurd (hS a q).2.1 (Nat.not_le.mpr (Heap.lt_size e)))
    fun a ha o e => t.keep a o e (fun q => hn (q ▸ ha)) (.inr (r.own_cls ha e).1) fun q => (hS a q).1 ha

theorem Ext.touch {S : List Addr} {ι' : Inj} {h₀ h h' : Heap} (x : Ext T F ι h₀ ι' h) (t : Touch S h₀.objs.size ea h h') (hS : ∀ a ∈ S, ∃ o, h.get? a = some o ∧ o.cls = .type "frame") (hle : h₀.objs.size ≤ ea) : Ext T F ι h₀ ι' h' where
  pre := x.pre
  size := Nat.le_trans x.size t.size
  cls := fun a o e i => let ⟨o₁, e₁, c₁⟩ := x.cls a o e i; let ⟨o₂, e₂, c₂⟩ := t.cls a o₁ e₁; ⟨o₂, e₂, c₂.trans c₁⟩
  frz := fun a o e f => t.keep a o (x.frz a o e f) (fun q => absurd (Heap.lt_size e) (Nat.not_lt.mpr (q ▸ hle))) (.inl (Heap.lt_size e)) fun q => by
    obtain ⟨o', g, gc⟩ := hS a q
    rw [x.frz a o e f] at g; cases g
    simp [frozen, gc] at f
  keep := fun a o e n f c => t.keep a o (x.keep a o e n f c) (fun q => absurd (Heap.lt_size e) (Nat.not_lt.mpr (q ▸ hle))) (.inl (Heap.lt_size e)) fun q => by
    obtain ⟨o', g, gc⟩ := hS a q
    rw [x.keep a o e n f c] at g; cases g
    exact c gc
  frm := fun a o e n f => by
    obtain ⟨sl, e₁⟩ := x.frm a o e n f
    obtain ⟨sl', e₂⟩ := t.frm a _ e₁ (fun q => absurd (Heap.lt_size e) (Nat.not_lt.mpr (q ▸ hle))) (.inl (Heap.lt_size e))
    exact ⟨sl', e₂⟩

theorem AOk.touch {S : List Addr} {h h' : Heap} (x : AOk T A fs d ι h) (t : Touch S lo ea h h') (he : ∃ o vs, h.get? ea = some o ∧ o.data = .fields vs) : AOk T A fs d ι h' where
  frames := x.frames
  funs := fun e hm => by
    obtain ⟨k, L, o, es, ep, f, n, b, g, c, dd⟩ := x.funs e hm
    obtain ⟨sl, e₁⟩ := t.frm L o g (fun q => by
      obtain ⟨o', vs, g', d'⟩ := he
      rw [← q, g] at g'; cases g'; rw [dd] at d'; cases d') (.inr (by rw [c]; simp))
    exact ⟨k, L, _, es, ep, f, n, b, e₁, c, dd⟩
  depth := x.depth
  units := x.units
  hd := x.hd

theorem Frm.touch {S : List Addr} {h h' : Heap} (x : Frm T env F ρ ι h) (t : Touch S lo ea h h') (he : ∃ o C vs, h.get? ea = some o ∧ o.cls = .ref C ∧ o.data = .fields vs) (hS : ∀ a ∈ S, ∃ o, h.get? a = some o ∧ o.cls = .type "frame") : Frm T env F ρ ι h' := by
  obtain ⟨oe, C, vs, e1, e2, e3⟩ := he
  have m := t.mono hS ⟨oe, C, e1, e2⟩ ι
  refine ⟨x.kind, x.glb, x.blt, ?_, fun y hy => ?_, x.inj, x.loc, x.cin, x.apart, fun a ha => ?_⟩
  · obtain ⟨cl, mm, hc, hn, r⟩ := x.ns
    refine ⟨cl, mm, hc, hn.of_slots fun o ho => ?_, fun y hy => (r y hy).mono m⟩
    obtain ⟨o', es, ep, g, gc, _, gd, _⟩ := hn
    rw [ho] at g; cases g
    refine t.frm _ o ho (fun q => ?_) (.inr ?_)
    · rw [q, e1] at ho; cases ho; rw [e3] at gd; cases gd
    · rw [gc]; rcases hc.1 with rfl | rfl <;> simp
  · obtain ⟨cc, o, v, f1, f2, f3, f4, f5, f6⟩ := x.cells y hy
    refine ⟨cc, o, v, f1, t.keep cc o f2 (fun q => ?_) (.inr (by rw [f3]; simp)) (fun q => ?_), f3, f4, f5.mono m, f6⟩
    · rw [q, e1] at f2; cases f2; rw [e3] at f4; cases f4
    · obtain ⟨o', g, gc⟩ := hS cc q
      rw [f2] at g; cases g; rw [f3] at gc; simp at gc
  · obtain ⟨o, ho, hf, hi⟩ := x.there a ha
    obtain ⟨o', ho', hc⟩ := t.cls a o ho
    exact ⟨o', ho', by simpa [frozen, hc] using hf, (iterish_eq hc).trans hi⟩

theorem Fly.there {h : Heap} (x : Fly T lo ea c h) : ∃ o C vs, h.get? ea = some o ∧ o.cls = .ref C ∧ o.data = .fields vs := let ⟨C, oe, vs, _, _, _, d, e, f, _⟩ := x; ⟨oe, C, vs, d, e, f⟩

theorem Inv.touch {h' : Heap} (I : Inv T A fs d env F ρ ι σ s) (t : Touch (frs fs) lo ea s.heap h') (f : Fly T lo ea c s.heap) (hn : ea ∉ own ι) (hl : T.b0.objs.size ≤ lo) (hle : lo ≤ ea) : Inv T A fs d env F ρ ι σ { s with heap := h' } := by
  have hS : ∀ a ∈ frs fs, a ∉ own ι ∧ T.b0.objs.size ≤ a ∧ ∃ o, s.heap.get? a = some o ∧ o.cls = .type "frame" := fun a ha => let ⟨a1, a2, o, _, _, a3, a4, _⟩ := I.aok.mem ha; ⟨a1, a2, o, a3, a4⟩
  obtain ⟨o, C, vs, e1, e2, e3⟩ := f.there
  exact ⟨I.rep.touch t hS ⟨o, C, e1, e2⟩ hn hl hle, I.aok.touch t ⟨o, vs, e1, e3⟩, I.frm.touch t ⟨o, C, vs, e1, e2, e3⟩ fun a ha => (hS a ha).2.2, I.top, I.gens, I.os⟩

theorem AOk.funFrames {h : Heap} (x : AOk T A fs d ι h) : h.FunFrames T.b0 fs := by
  have : ∀ l : List Env, (∀ e ∈ l, e ∈ fs) → h.FunFrames T.b0 l := by
    intro l
    induction l with
    | nil => intro _; trivial
    | cons e r ih =>
      intro hl
      obtain ⟨k, L, o, es, ep, f, n, b, g, c, dd⟩ := x.funs e (hl e List.mem_cons_self)
      exact ⟨by rw [k]; decide, ⟨L, o, f, Heap.get?_none_of_le b, g, fun vs q => by rw [dd] at q; cases q⟩, ih fun y hy => hl y (List.mem_cons_of_mem _ hy)⟩
  exact this fs fun _ h => h

theorem frameOf_top {M : Model} {E : Value → Shared → Prop} {e : Env} {r : List Env} {L : Addr} {base : Heap} {Q : Value → Shared → Prop} (hfr : A.frames = some (e :: r)) (hl : s.heap.FunFrames base (e :: r)) (hf : e.frame = some L) (hv : env.frame = some L)
    (h : ∀ h', Heap.SlotsOnly (frs (e :: r)) s.heap h' → Q (.ref L) { s with heap := h' }) : wpAny M A (PySem.frameOf env) Q E s := by
  unfold PySem.frameOf
  refine wpAny_bind (wpAny_frameEnvs hfr ?_)
  have hdw : ((e :: r).dropWhile fun x => x.frame != env.frame) = e :: r := by simp [List.dropWhile, hf, hv]
  rw [hdw]
  unfold frameObject
  refine wpAny_bind (wpAny_bind (wpAny_readyFrames_fun hl fun h₁ hs₁ => wpAny_pure ?_))
  rw [hf]
  exact wpAny_pure (h h₁ hs₁)

theorem entry_ok {M : Model} {E : Value → Shared → Prop} {e : Env} {r : List Env} {L : Addr} {base : Heap} {head : Value} {hadNext : Bool} {Q : Unit → Shared → Prop} {oe : Obj} {vs : Array Value} (hfr : A.frames = some (e :: r)) (hl : s.heap.FunFrames base (e :: r))
    (hf : e.frame = some L) (hv : env.frame = some L) (he : s.heap.get? ea = some oe) (hd : oe.data = .fields vs) (hsz : 1 < vs.size) (hlo : lo ≤ s.heap.objs.size)
    (h : ∀ h' tb, Touch (frs (e :: r)) lo ea s.heap h' → (∃ oe', h'.get? ea = some oe' ∧ oe'.cls = oe.cls ∧ oe'.data = .fields (vs.setIfInBounds 1 (.ref tb))) → TbAt lo ea h' (.ref tb) → Q () { s with heap := h' }) :
    wpAny M A (do let a ← PySem.frameOf env; let pl ← entryPlaceOf L hadNext; let b ← EntryCells.newEntry head a .none (rawInt L) .none pl; setField (.ref ea) 1 b) Q E s := by
  have hene : ea ∉ frs (e :: r) := fun hm => by
    obtain ⟨_, o, ho, hnf⟩ := hl.mem hm
    rw [he] at ho; injection ho with ho; subst ho; exact hnf vs hd
  refine wpAny_bind (frameOf_top hfr hl hf hv fun h₁ hs₁ => ?_)
  refine wpAny_bind (wpAny_entryPlaceOf fun pl hpl => ?_)
  unfold EntryCells.newEntry newFields
  refine wpAny_bind (wpAny_newObj_type ?_ (hpl.sizeOk5 _ _ _ _ _))
  have he₁ : h₁.get? ea = some oe := (hs₁.2.1 ea hene).trans he
  have he₂ := Heap.get?_push_of_some (h := h₁) { cls := .type "traceback", dict := none, data := .fields ([head, .ref L, .none, rawInt L, .none] ++ (if pl.isEmpty then List.replicate 6 Value.none else pl)).toArray } he₁
  refine wpAny_setField he₂ hd hsz ?_
  have hTe : h₁.objs.size ≠ ea := Nat.ne_of_gt (Heap.lt_size he₁)
  have hd₃ := Obj.data_mapFields hd (·.setIfInBounds 1 (Value.ref h₁.objs.size))
  have he₃ := Heap.get?_update_self (Obj.mapFields (·.setIfInBounds 1 (Value.ref h₁.objs.size))) he₂ (Obj.isFreed_of_fields hd₃)
  have hT₃ := (Heap.get?_update_other (h₁.push { cls := .type "traceback", dict := none, data := .fields ([head, .ref L, .none, rawInt L, .none] ++ (if pl.isEmpty then List.replicate 6 Value.none else pl)).toArray })
    (Obj.mapFields (·.setIfInBounds 1 (Value.ref h₁.objs.size))) (Ne.symm hTe)).trans (Heap.get?_push_size h₁ rfl)
  refine h _ h₁.objs.size (((Touch.of_slots hs₁).trans (.of_push ..)).trans (.of_set he₂ hd _ (.inl rfl))) ⟨_, he₃, Obj.cls_mapFields _ _, hd₃⟩ ⟨_, _, _, rfl, ?_, hTe, hT₃, rfl, rfl, ?_⟩
  · rw [hs₁.1]; exact hlo
  · simp only [List.size_toArray, List.length_append, List.length_cons, List.length_nil]; omega

theorem note_ok {M : Model} {E : Value → Shared → Prop} {Q : Unit → Shared → Prop} (I : Inv T A fs d env F ρ ι σ s) (f : Fly T lo ea c s.heap) (hlo : lo ≤ s.heap.objs.size)
    (h : ∀ h', Touch (frs fs) lo ea s.heap h' → FlyT T lo ea c h' → Q () { s with heap := h' }) : wpAny M A (noteFrame (.ref ea) env) Q E s := by
  obtain ⟨e, r, L, rfl, hf, hv⟩ := I.top
  obtain ⟨C, oe, vs, v, f1, f2, f3, f4, f5, f6, f7, f8, f9⟩ := f
  unfold noteFrame
  simp only [hv]
  refine wpAny_bind (wpAny_field f3 f5 f8 ?_)
  have fin : ∀ (s' : Shared) (head : Value) (hn : Bool), s'.heap.get? ea = some oe → s'.heap.FunFrames T.b0 (e :: r) → lo ≤ s'.heap.objs.size → (∀ h', Touch (frs (e :: r)) lo ea s'.heap h' → FlyT T lo ea c h' → Q () { s' with heap := h' }) →
      wpAny M A (do let a ← PySem.frameOf env; let pl ← entryPlaceOf L hn; let b ← EntryCells.newEntry head a .none (rawInt L) .none pl; setField (.ref ea) 1 b) Q E s' := fun s' head hn g1 g2 g3 k =>
    entry_ok I.aok.frames g2 hf hv g1 f5 (by omega) g3 fun h' tb t o tb' => k h' t (by
      obtain ⟨oe', o1, o2, o3⟩ := o
      refine ⟨C, oe', _, .ref tb, f1, f2, o1, o2.trans f4, o3, by simpa using f6, ?_, ?_, tb'⟩
      · rw [Array.getElem?_setIfInBounds_ne (by decide)]; exact f7
      · rw [Array.getElem?_setIfInBounds_self_of_lt (by omega)])
  rcases f9 with rfl | ⟨tb, ot, ts, rfl, t2, t3, t4, t5, t6, t7⟩
  · rw [if_neg (by decide)]
    exact fin s _ _ f3 I.aok.funFrames hlo h
  · rw [if_pos (show (Value.ref tb != Value.none) = true from by simp)]
    have t8 : ts[3]? = some ts[3] := Array.getElem?_eq_getElem t7
    refine wpAny_bind (wpAny_field t4 t6 t8 ?_)
    by_cases q : (ts[3] == rawInt L) = true
    · rw [if_pos q]
      exact wpAny_pure (h _ (.refl _) ⟨C, oe, vs, _, f1, f2, f3, f4, f5, f6, f7, f8, ⟨tb, ot, ts, rfl, t2, t3, t4, t5, t6, t7⟩⟩)
    · rw [if_neg q]
      refine wpAny_bind (wpAny_setField t4 t6 t7 ?_)
      have other : ∀ b, b ≠ tb → (s.heap.update tb (Obj.mapFields (·.setIfInBounds 3 Value.none))).get? b = s.heap.get? b := fun b hb => Heap.get?_update_other _ _ (Ne.symm hb)
      have tt : Touch (frs (e :: r)) lo ea s.heap (s.heap.update tb (Obj.mapFields (·.setIfInBounds 3 Value.none))) := .of_set t4 t6 _ (.inr ⟨t2, t5⟩)
      refine fin _ _ _ ((other ea (Ne.symm t3)).trans f3) (I.aok.touch tt ⟨oe, vs, f3, f5⟩).funFrames ?_ fun h' t k => h h' (tt.trans t) k
      rw [Heap.size_after_update]; exact hlo

theorem flight_ok {M : Model} {E : Value → Shared → Prop} {Q : Unit → Shared → Prop} {fr : Option Addr} {S : List Addr} (f : FlyT T lo ea c s.heap)
    (h : ∀ h', Touch S lo ea s.heap h' → FlyT T lo ea c h' → Q () { s with heap := h' }) : wpAny M A (setFlight (.ref ea) fr) Q E s := by
  obtain ⟨C, oe, vs, v, f1, f2, f3, f4, f5, f6, f7, f8, tb, ot, ts, rfl, t2, t3, t4, t5, t6, t7⟩ := f
  unfold setFlight
  refine wpAny_bind (wpAny_field f3 f5 f8 ?_)
  rw [if_pos (show (Value.ref tb != Value.none) = true from by simp)]
  refine wpAny_setField t4 t6 t7 (h _ (.of_set t4 t6 _ (.inr ⟨t2, t5⟩)) ⟨C, oe, vs, _, f1, f2, (Heap.get?_update_other _ _ t3).trans f3, f4, f5, f6, f7, f8, tb, _, _, rfl, t2, t3, Heap.get?_update_self _ t4 (Obj.isFreed_of_fields (Obj.data_mapFields t6 _)), (Obj.cls_mapFields _ _).trans t5, Obj.data_mapFields t6 _, by simpa using t7⟩)
end

end Mine

namespace Mine
open PySem PySem.Calls PyProof.Rows PySem.SeqAt

inductive Fl where
  | next | brk | cont
  | ret (v : V)
def FlRel (T : Tp) (ι : Inj) (h : Heap) : Fl → Flow → Prop
  | .next, .next => True
  | .brk, .brk => True
  | .cont, .cont => True
  | .ret v, .ret x => VRel T ι h v x
  | _, _ => False

abbrev QS := Fl → Loc → Hp → Prop
abbrev XS := Str → Loc → Hp → Prop
def PostS (T : Tp) (A : Around) (fs : List Env) (d : Nat) (env : Env) (F : List Addr) (Q : QS) (ι : Inj) (h : Heap) (f : Flow) (s' : Shared) : Prop :=
  ∃ fl ρ' σ' ι', Q fl ρ' σ' ∧ FlRel T ι' s'.heap fl f ∧ Inv T A fs d env F ρ' ι' σ' s' ∧ Ext T F ι h ι' s'.heap
def PostSX (T : Tp) (A : Around) (fs : List Env) (d : Nat) (env : Env) (F : List Addr) (X : XS) (ι : Inj) (h : Heap) (x : Value) (s' : Shared) : Prop :=
  ∃ ea c ρ' σ' ι', x = .ref ea ∧ X c ρ' σ' ∧ Fly T h.objs.size ea c s'.heap ∧ ea ∉ own ι' ∧ Inv T A fs d env F ρ' ι' σ' s' ∧ Ext T F ι h ι' s'.heap

/-- statements, at the mini level -/
def ExOk (T : Tp) (d : Nat) (sc : Scope) (ρ : Loc) (X : XS) (ss : List Stmt) (Q : QS) (σ : Hp) : Prop :=
  ∀ env A fs F ι s, env.scope = sc → Inv T A fs d env F ρ ι σ s → wpAny (model T.prog T.w) A (execs ss env) (PostS T A fs d env F Q ι s.heap) (PostSX T A fs d env F X ι s.heap) s
def StOk (T : Tp) (d : Nat) (sc : Scope) (ρ : Loc) (X : XS) (st : Stmt) (Q : QS) (σ : Hp) : Prop :=
  ∀ env A fs F ι s, env.scope = sc → Inv T A fs d env F ρ ι σ s → wpAny (model T.prog T.w) A (exec st env) (PostS T A fs d env F Q ι s.heap) (PostSX T A fs d env F X ι s.heap) s

section
variable {T : Tp} {A : Around} {fs : List Env} {d : Nat} {env : Env} {F : List Addr} {ι ι₁ : Inj} {h h₁ : Heap} {s s' : Shared} {ρ : Loc} {σ : Hp} {sc : Scope}

theorem PostS.trans {Q : QS} {f : Flow} (e : Ext T F ι h ι₁ h₁) (p : PostS T A fs d env F Q ι₁ h₁ f s') : PostS T A fs d env F Q ι h f s' :=
  let ⟨fl, ρ', σ', ι', q, r, i, e'⟩ := p; ⟨fl, ρ', σ', ι', q, r, i, e.trans e'⟩
theorem PostSX.trans {X : XS} {x : Value} (e : Ext T F ι h ι₁ h₁) (p : PostSX T A fs d env F X ι₁ h₁ x s') : PostSX T A fs d env F X ι h x s' :=
  let ⟨ea, c, ρ', σ', ι', a, b, f, n, i, e'⟩ := p; ⟨ea, c, ρ', σ', ι', a, b, f.lo e.size, n, i, e.trans e'⟩
theorem PostS.mono {Q Q' : QS} {f : Flow} (p : PostS T A fs d env F Q ι h f s') (k : ∀ fl ρ σ, Q fl ρ σ → Q' fl ρ σ) : PostS T A fs d env F Q' ι h f s' :=
  let ⟨fl, ρ', σ', ι', q, r⟩ := p; ⟨fl, ρ', σ', ι', k _ _ _ q, r⟩
theorem PostSX.mono {X X' : XS} {x : Value} (p : PostSX T A fs d env F X ι h x s') (k : ∀ c ρ σ, X c ρ σ → X' c ρ σ) : PostSX T A fs d env F X' ι h x s' :=
  let ⟨ea, c, ρ', σ', ι', a, b, r⟩ := p; ⟨ea, c, ρ', σ', ι', a, k _ _ _ b, r⟩
theorem Ext.up (e : Ext T [] ι h ι₁ h₁) : Ext T F ι h ι₁ h₁ := e.weaken fun a ha => by simp at ha
/-- an expression's exception is the statement's -/
theorem PostX.sx {X : QX} {XX : XS} {x : Value} (I : Inv T A fs d env F ρ ι σ s) (p : PostX T [] X ι s.heap x s') (k : ∀ c σ, X c σ → XX c ρ σ) : PostSX T A fs d env F XX ι s.heap x s' :=
  let ⟨ea, c, σ', ι', a, b, f, n, rp, e', g, o⟩ := p; ⟨ea, c, ρ, σ', ι', a, k _ _ b, f, n, I.ext e' rp g o, e'.up⟩

theorem StOk.mono {X X' : XS} {st : Stmt} {Q Q' : QS} (x : StOk T d sc ρ X st Q σ) (k : ∀ fl ρ σ, Q fl ρ σ → Q' fl ρ σ) (kx : ∀ c ρ σ, X c ρ σ → X' c ρ σ) : StOk T d sc ρ X' st Q' σ :=
  fun env A fs F ι s hsc I => wpAny_mono (x env A fs F ι s hsc I) (fun _ _ p => p.mono k) fun _ _ p => p.mono kx
theorem ExOk.mono {X X' : XS} {st : List Stmt} {Q Q' : QS} (x : ExOk T d sc ρ X st Q σ) (k : ∀ fl ρ σ, Q fl ρ σ → Q' fl ρ σ) (kx : ∀ c ρ σ, X c ρ σ → X' c ρ σ) : ExOk T d sc ρ X' st Q' σ :=
  fun env A fs F ι s hsc I => wpAny_mono (x env A fs F ι s hsc I) (fun _ _ p => p.mono k) fun _ _ p => p.mono kx

theorem ExOk.nil {X : XS} {Q : QS} (q : Q .next ρ σ) : ExOk T d sc ρ X [] Q σ := fun env A fs F ι s _ I => wpAny_execs_nil ⟨.next, ρ, σ, ι, q, trivial, I, .refl ..⟩
theorem ExOk.cons {X : XS} {Q : QS} {st : Stmt} {r : List Stmt} (x : StOk T d sc ρ X st (fun fl ρ' σ' => match fl with | .next => ExOk T d sc ρ' X r Q σ' | fl => Q fl ρ' σ') σ) : ExOk T d sc ρ X (st :: r) Q σ := by
  intro env A fs F ι s hsc I
  refine wpAny_execs_cons (wpAny_mono (x env A fs F ι s hsc I) (fun f s₁ p => ?_) fun _ _ p => p)
  obtain ⟨fl, ρ', σ', ι', q, r, i, e⟩ := p
  cases fl <;> cases f <;> first | exact r.elim | skip
  · exact wpAny_mono (q env A fs F ι' s₁ hsc i) (fun _ _ p => p.trans e) fun _ _ p => p.trans e
  · exact ⟨_, ρ', σ', ι', q, r, i, e⟩
  · exact ⟨_, ρ', σ', ι', q, r, i, e⟩
  · exact ⟨_, ρ', σ', ι', q, r, i, e⟩

theorem StOk.pass {X : XS} {Q : QS} {pos} (q : Q .next ρ σ) : StOk T d sc ρ X (.Pass pos) Q σ := fun env A fs F ι s _ I => wpAny_Pass ⟨.next, ρ, σ, ι, q, trivial, I, .refl ..⟩
theorem StOk.brk {X : XS} {Q : QS} {pos} (q : Q .brk ρ σ) : StOk T d sc ρ X (.Break pos) Q σ := fun env A fs F ι s _ I => wpAny_Break ⟨.brk, ρ, σ, ι, q, trivial, I, .refl ..⟩
theorem StOk.cont {X : XS} {Q : QS} {pos} (q : Q .cont ρ σ) : StOk T d sc ρ X (.Continue pos) Q σ := fun env A fs F ι s _ I => wpAny_Continue ⟨.cont, ρ, σ, ι, q, trivial, I, .refl ..⟩
theorem StOk.retNone {X : XS} {Q : QS} {pos} (q : Q (.ret .none) ρ σ) : StOk T d sc ρ X (.Return none pos) Q σ := fun env A fs F ι s _ I => wpAny_Return_none ⟨.ret .none, ρ, σ, ι, q, VRel.none_mk (T := T) (ι := ι) (h := s.heap), I, .refl ..⟩
theorem StOk.ret {X : XS} {Q : QS} {e : Expr} {pos} (q : EvOk T d sc ρ (fun c σ => X c ρ σ) e (fun v σ' => Q (.ret v) ρ σ') σ) : StOk T d sc ρ X (.Return (some e) pos) Q σ := by
  intro env A fs F ι s hsc I
  refine wpAny_Return_some (wpAny_mono (q env A fs F ι s hsc I) (fun x s₁ p => ?_) fun _ _ p => p.sx I fun _ _ k => k)
  obtain ⟨v, σ₁, ι₁, q, rv, rp, ex, g, o⟩ := p
  exact ⟨.ret v, ρ, σ₁, ι₁, q, rv, I.ext ex rp g o, ex.up⟩

/-- the value of an expression is no comprehension -/
def noComp : Expr → Bool
  | .ListComp .. | .SetComp .. | .DictComp .. => false
  | _ => true
theorem swaps_no {e : Expr} {t : Option Expr} {l : Nat} (h : noComp e = true) : swapsWith e t l env = pure false := by
  cases e <;> first | rfl | cases h
theorem Inv.inter (I : Inv T A fs d env F ρ ι σ s) : interactive env = false := by simp [interactive, I.frm.kind]

theorem StOk.expr {X : XS} {Q : QS} {e : Expr} {pos} (q : EvOk T d sc ρ (fun c σ => X c ρ σ) e (fun _ σ' => Q .next ρ σ') σ) (hc : noComp e = true) : StOk T d sc ρ X (.Expr e pos) Q σ := by
  intro env A fs F ι s hsc I
  refine wpAny_Expr_any (wpAny_mono (q env A fs F ι s hsc I) (fun x s₁ p => ?_) fun _ _ p => p.sx I fun _ _ k => k) I.inter (swaps_no hc)
  obtain ⟨v, σ₁, ι₁, q, rv, rp, ex, g, o⟩ := p
  exact ⟨.next, ρ, σ₁, ι₁, q, trivial, I.ext ex rp g o, ex.up⟩

theorem StOk.ite {X : XS} {Q : QS} {e : Expr} {b o : List Stmt} {pos} (q : TsOk T d sc ρ (fun c σ => X c ρ σ) e (fun t σ' => if t then ExOk T d sc ρ X b Q σ' else ExOk T d sc ρ X o Q σ') σ) : StOk T d sc ρ X (.If e b o pos) Q σ := by
  intro env A fs F ι s hsc I
  refine wpAny_If (wpAny_mono (q env A fs F ι s hsc I) (fun t s₁ p => ?_) fun _ _ p => p.sx I fun _ _ k => k)
  obtain ⟨σ₁, ι₁, q, rp, ex, g, o⟩ := p
  have I₁ := I.ext ex rp g o
  cases t
  · exact wpAny_mono (q env A fs F ι₁ s₁ hsc I₁) (fun _ _ p => p.trans ex.up) fun _ _ p => p.trans ex.up
  · exact wpAny_mono (q env A fs F ι₁ s₁ hsc I₁) (fun _ _ p => p.trans ex.up) fun _ _ p => p.trans ex.up

/-- dicts stay dicts -/
def DStay (h h' : Heap) : Prop := ∀ a o es ep, h.get? a = some o → o.data = .dict es ep → ∃ o' es' ep', h'.get? a = some o' ∧ o'.data = .dict es' ep'
def isStore (sc : Scope) (x : Str) : Bool := match sc.names.lookup x with
  | some .local | some .cell => true
  | _ => false

theorem storeCell {M : Model} {A : Around} {E : Value → Shared → Prop} {x : Str} {c : Addr} {o : Obj} {v₀ : Option Value} {y : Value} {Q : Unit → Shared → Prop} (hk : env.scope.kind = .function) (hl : env.kindOf x = some .cell) (hc : env.cells.lookup x = some c)
    (ho : s.heap.get? c = some o) (hd : o.data = .cell v₀) (k : ∀ h', h'.get? c = some { o with data := .cell (some y) } → Heap.SameBut c s.heap h' → Q () { s with heap := h' }) : wpAny M A (storeName env x y) Q E s := by
  unfold storeName
  simp only [hl, hk]
  refine wpAny_bind (wpAny_cellOf hc ?_)
  unfold cellSet
  refine wpAny_bind (wpAny_load ho ?_)
  rw [hd]
  exact wpAny_update ho (k _ (Heap.get?_update_self _ ho rfl) (Heap.SameBut.update ..))

theorem store_at {M : Model} {A : Around} {E : Value → Shared → Prop} {x : Str} {v : V} {y : Value} {Q : Unit → Shared → Prop} (R : Rep T ι σ s.heap) (H : Frm T env F ρ ι s.heap) (hk : isStore env.scope x = true) (r : VRel T ι s.heap v y)
    (k : ∀ h' t, Rep T ι σ h' → Frm T env F (upd ρ x (some v)) ι h' → Ext T F ι s.heap ι h' → DStay s.heap h' → (∃ a, Heap.SameBut a s.heap h' ∧ (a = env.locals ∨ (env.kindOf x = some .cell ∧ env.cells.lookup x = some a))) → Q () { s with heap := h', toks := t }) : wpAny M A (storeName env x y) Q E s := by
  unfold isStore at hk
  have kd : ∀ z, env.kindOf z = env.scope.names.lookup z := fun _ => rfl
  obtain ⟨c, m, hc, hn, hr⟩ := H.ns
  have common : ∀ a o o' h', a ∈ F → s.heap.get? a = some o → h'.get? a = some o' → o'.cls = o.cls → Heap.SameBut a s.heap h' → (∀ es ep, o.data = .dict es ep → ∃ es' ep', o'.data = .dict es' ep') →
      Rep T ι σ h' ∧ Ext T F ι s.heap ι h' ∧ DStay s.heap h' := fun a o o' h' ha ho ho' hcl hs hd => by
    obtain ⟨o₁, g1, g2, _⟩ := H.there a ha
    rw [ho] at g1; cases g1
    have e : Ext T F ι s.heap ι h' := .of_sameBut hs ho ho' hcl g2 (.inr ha)
    have ap := H.apart a ha
    refine ⟨R.keeps e.mono e.size (fun b z hz => (hs.2 b fun q => ?_).trans (R.base b z hz)) fun b hb z hz => (hs.2 b fun q => ap.1 (q ▸ hb)).trans hz, e, fun b z es ep hz hzd => ?_⟩
    · exact absurd (Heap.lt_size hz) (Nat.not_lt.mpr (q ▸ ap.2))
    · by_cases q : b = a
      · subst q; rw [ho] at hz; cases hz
        obtain ⟨es', ep', g⟩ := hd es ep hzd
        exact ⟨o', es', ep', ho', g⟩
      · exact ⟨z, es, ep, (hs.2 b q).trans hz, hzd⟩
  split at hk
  · rename_i hl
    rw [storeName_local (kd x |>.trans hl) (by simp [H.kind])]
    refine nsSetC hn fun h' hn' hs _ => ?_
    have hn0 := hn
    obtain ⟨o, es, ep, ho, ocl, _, od, _⟩ := hn0
    have hn1 := hn'
    obtain ⟨o', es', ep', ho', ocl', _, od', _⟩ := hn1
    obtain ⟨R', e, ds⟩ := common env.locals o o' h' H.loc ho ho' (ocl'.trans ocl.symm) hs fun _ _ _ => ⟨_, _, od'⟩
    refine k h' _ R' ⟨H.kind, H.glb, H.blt, ⟨c, _, hc, hn', fun z hz => ?_⟩, fun z hz => ?_, H.inj, H.loc, H.cin, H.apart, fun a ha => ?_⟩ e ds ⟨env.locals, hs, .inl rfl⟩
    · unfold upd
      by_cases q : z = x
      · subst q; simp only [if_true]; exact r.mono e.mono
      · simp only [if_neg q]; exact (hr z hz).mono e.mono
    · obtain ⟨cc, oc, vc, e1, e2, e3, e4, e5, e6⟩ := H.cells z hz
      have ne : cc ≠ env.locals := fun q => by
        rw [q, ho] at e2; cases e2; rw [ocl] at e3
        rcases hc.1 with rfl | rfl <;> simp at e3
      have : z ≠ x := fun q => by subst q; rw [kd, hl] at hz; rcases hz with hz | hz <;> cases hz
      refine ⟨cc, oc, vc, e1, (hs.2 cc ne).trans e2, e3, e4, ?_, e6⟩
      unfold upd; simp only [if_neg this]; exact e5.mono e.mono
    · obtain ⟨oa, g1, g2, g3⟩ := H.there a ha
      by_cases q : a = env.locals
      · subst q
        rw [ho] at g1; cases g1
        exact ⟨_, ho', by simpa [frozen, (ocl'.trans ocl.symm)] using g2, (iterish_eq (ocl'.trans ocl.symm)).trans g3⟩
      · exact ⟨oa, (hs.2 a q).trans g1, g2, g3⟩
  · rename_i hl
    obtain ⟨cc, oc, vc, e1, e2, e3, e4, e5, e6⟩ := H.cells x (.inl ((kd x).trans hl))
    refine storeCell H.kind ((kd x).trans hl) e1 e2 e4 fun h' ho' hs => ?_
    have ccF := H.cin x cc ((kd x).trans hl) e1
    obtain ⟨R', e, ds⟩ := common cc oc _ h' ccF e2 ho' rfl hs fun _ _ q => by rw [e4] at q; cases q
    have hn0 := hn
    obtain ⟨o, es, ep, ho, ocl, _, od, _⟩ := hn0
    have lne : env.locals ≠ cc := fun q => by
      rw [q, e2] at ho; cases ho; rw [e4] at od; cases od
    refine k h' _ R' ⟨H.kind, H.glb, H.blt, ⟨c, m, hc, hn.sameBut hs lne, fun z hz => ?_⟩, fun z hz => ?_, H.inj, H.loc, H.cin, H.apart, fun a ha => ?_⟩ e ds ⟨cc, hs, .inr ⟨(kd x).trans hl, e1⟩⟩
    · have : z ≠ x := fun q => by subst q; rw [kd, hl] at hz; cases hz
      unfold upd; simp only [if_neg this]; exact (hr z hz).mono e.mono
    · by_cases q : z = x
      · subst q
        exact ⟨cc, _, some y, e1, ho', e3, rfl, by unfold upd; simp only [if_true]; exact r.mono e.mono, e6⟩
      · obtain ⟨c2, o2, v2, f1, f2, f3, f4, f5, f6⟩ := H.cells z hz
        have ne : c2 ≠ cc := fun p => by
          subst p; exact q (H.inj z x c2 hz (.inl ((kd x).trans hl)) f1 e1)
        refine ⟨c2, o2, v2, f1, (hs.2 c2 ne).trans f2, f3, f4, ?_, f6⟩
        unfold upd; simp only [if_neg q]; exact f5.mono e.mono
    · obtain ⟨oa, g1, g2, g3⟩ := H.there a ha
      by_cases q : a = cc
      · subst q
        rw [e2] at g1; cases g1
        exact ⟨_, ho', by simpa [frozen] using g2, by simpa [iterish] using g3⟩
      · exact ⟨oa, (hs.2 a q).trans g1, g2, g3⟩
  · cases hk

theorem store_ok {M : Model} {A : Around} {E : Value → Shared → Prop} {x : Str} {v : V} {y : Value} {Q : Unit → Shared → Prop} (R : Rep T ι σ s.heap) (H : Frm T env F ρ ι s.heap) (hk : isStore env.scope x = true) (r : VRel T ι s.heap v y)
    (k : ∀ h' t, Rep T ι σ h' → Frm T env F (upd ρ x (some v)) ι h' → Ext T F ι s.heap ι h' → DStay s.heap h' → Q () { s with heap := h', toks := t }) : wpAny M A (storeName env x y) Q E s :=
  store_at R H hk r fun h' t R' H' e ds _ => k h' t R' H' e ds

theorem Inv.stored {ρ' : Loc} {h' : Heap} {t : Nat} (I : Inv T A fs d env F ρ ι σ s) (R : Rep T ι σ h') (H : Frm T env F ρ' ι h') (e : Ext T F ι s.heap ι h') (ds : DStay s.heap h') : Inv T A fs d env F ρ' ι σ { s with heap := h', toks := t } :=
  ⟨R, I.aok.ext e fun en hen L hf _ => by
    obtain ⟨_, L', o, es, ep, f, _, _, g, _, dd⟩ := I.aok.funs en hen
    rw [hf] at f; cases f
    exact ds L o es ep g dd, H, I.top, I.gens, I.os⟩

theorem StOk.assign {X : XS} {Q : QS} {x : Str} {pos' pos : Pos} {e : Expr} (q : EvOk T d sc ρ (fun c σ => X c ρ σ) e (fun v σ' => Q .next (upd ρ x (some v)) σ') σ) (hc : noComp e = true) (hk : isStore sc x = true) :
    StOk T d sc ρ X (.Assign [.Name x pos'] e pos) Q σ := by
  intro env A fs F ι s hsc I
  refine wpAny_Assign_Name (wpAny_mono (q env A fs F ι s hsc I) (fun y s₁ p => ?_) fun _ _ p => p.sx I fun _ _ k => k) (swaps_no hc)
  obtain ⟨v, σ₁, ι₁, q, rv, rp, ex, g, o⟩ := p
  have I₁ := I.ext ex rp g o
  refine store_ok I₁.rep I₁.frm (hsc ▸ hk) rv fun h' t R' H' e' ds => ?_
  exact ⟨.next, _, σ₁, ι₁, q, trivial, I₁.stored R' H' e' ds, ex.up.trans e'⟩
end
end Mine

namespace Mine
open PySem PySem.Calls PyProof.Rows PySem.SeqAt

def bindLoc (ρ : Loc) : List Str → List V → Loc
  | p :: ps, v :: vs => bindLoc (upd ρ p (some v)) ps vs
  | _, _ => ρ
def noFree (sc : Scope) : Bool := sc.names.all fun p => p.2 != .free
structure FnAt (T : Tp) (v : Value) (ps : List Str) (body : List Stmt) (sc : Scope) : Prop where
  fn : ∃ f o fd, v = .ref f ∧ T.K.lookup f = some o ∧ o.data = .func fd ∧ fd.scope = sc ∧ fd.body = .stmts body ∧ fd.closure = [] ∧ fd.globals = mainGlobals ∧ fd.builtins = builtinsNs ∧ PySem.W.codeIn T.K fd.code fd.qualname = true ∧
    ∀ vals : List Value, vals.length = ps.length → bindArgs fd ⟨vals, []⟩ = pure (ps.zip vals)
  co : sc.isCoroutine = false
  gen : sc.isGenerator = false
  kind : sc.kind = .function
  par : (ps.all fun p => isStore sc p) = true
  free : noFree sc = true
def FnV (T : Tp) (f : V) (ps : List Str) (body : List Stmt) (sc : Scope) : Prop := ∀ ι h fv, VRel T ι h f fv → FnAt T fv ps body sc
theorem FnV.glob {T : Tp} {x : Str} {v : Value} {ps body sc} (e : T.g x = some v) (h : FnAt T v ps body sc) : FnV T (.glob x) ps body sc := fun _ _ fv r => by
  unfold VRel at r; rw [e] at r; cases r; exact h
theorem FnV.mth {T : Tp} {c x : Str} {v : Value} {ps body sc} (e : T.m c x = some v) (h : FnAt T v ps body sc) : FnV T (.mth c x) ps body sc := fun _ _ fv r => by
  unfold VRel at r; rw [e] at r; cases r; exact h

def retQ (Q : QE) : QS := fun fl _ σ => match fl with | .ret v => Q v σ | _ => Q .none σ

theorem pushCells_cls : ∀ (names : List (Str × NameKind)) (h : Heap) (c : Addr) (o : Obj), (pushCells h names).get? c = some o → h.objs.size ≤ c → o.cls = .type "cell"
  | [], h, c, o, e, hl => absurd (Heap.lt_size e) (Nat.not_lt.mpr hl)
  | (_, kind) :: r, h, c, o, e, hl => by
    unfold pushCells at e
    split at e
    · by_cases q : c = h.objs.size
      · subst q
        rw [pushCells_keeps r _ _ _ (Heap.get?_push_size h rfl)] at e
        cases e; rfl
      · exact pushCells_cls r _ c o e (by rw [Heap.size_push]; exact Nat.lt_of_le_of_ne hl (Ne.symm q))
    · exact pushCells_cls r h c o e hl
theorem pushCells_size : ∀ (names : List (Str × NameKind)) (h : Heap), h.objs.size ≤ (pushCells h names).objs.size
  | [], _ => Nat.le_refl _
  | (_, kind) :: r, h => by
    unfold pushCells
    split
    · exact Nat.le_trans (by rw [Heap.size_push]; omega) (pushCells_size r _)
    · exact pushCells_size r h
theorem cellsFrom_acc : ∀ (names : List (Str × NameKind)) (n : Nat) (acc : List (Str × Addr)) (x : Str × Addr), x ∈ acc → x ∈ cellsFrom n names acc
  | [], _, _, _, h => h
  | (_, kind) :: r, n, acc, x, h => by
    unfold cellsFrom
    split
    · exact cellsFrom_acc r _ _ x (List.mem_cons_of_mem _ h)
    · exact cellsFrom_acc r _ _ x h
theorem cellsFrom_mem : ∀ (names : List (Str × NameKind)) (n : Nat) (acc : List (Str × Addr)) (x : Str), (x, NameKind.cell) ∈ names → ∃ c, (x, c) ∈ cellsFrom n names acc
  | (y, kind) :: r, n, acc, x, h => by
    unfold cellsFrom
    rcases List.mem_cons.mp h with e | h
    · cases e
      exact ⟨n, cellsFrom_acc r _ _ _ (by simp)⟩
    · split
      · exact cellsFrom_mem r _ _ x h
      · exact cellsFrom_mem r _ _ x h
theorem lookup_of_mem {α : Type} : ∀ {l : List (Str × α)} {x : Str} {c : α}, (x, c) ∈ l → ∃ c', l.lookup x = some c'
  | (k, v) :: r, x, c, h => by
    rw [List.lookup_cons]
    cases hb : x == k with
    | true => exact ⟨v, rfl⟩
    | false =>
      rcases List.mem_cons.mp h with e | h
      · cases e; simp at hb
      · exact lookup_of_mem h

section
variable {T : Tp} {A : Around} {fs : List Env} {d : Nat} {ι : Inj} {σ : Hp} {s : Shared} {sc : Scope}

/-- the parameters, stored one by one -/
theorem binds_ok {M : Model} {A : Around} {E : Value → Shared → Prop} {env : Env} {F : List Addr} (f : Str × Value → PUnit → Sem (ForInStep PUnit)) (hf : ∀ n v u, f (n, v) u = (do storeName env n v; pure (.yield ⟨⟩))) :
    ∀ (ps : List Str) (vs : List V) (xs : List Value) (ρ : Loc) (s : Shared) (Q : PUnit → Shared → Prop), Rep T ι σ s.heap → Frm T env F ρ ι s.heap → VRels T ι s.heap vs xs → xs.length = ps.length → (ps.all fun p => isStore env.scope p) = true →
      (∀ h' t, Rep T ι σ h' → Frm T env F (bindLoc ρ ps vs) ι h' → Ext T F ι s.heap ι h' → DStay s.heap h' → Q ⟨⟩ { s with heap := h', toks := t }) → wpAny M A (forIn (ps.zip xs) ⟨⟩ f) Q E s
  | [], vs, xs, ρ, s, Q, R, H, r, hl, _, k => by
    cases xs with
    | nil =>
      cases vs with
      | nil => rw [List.zip_nil_left, List.forIn_nil]; exact wpAny_pure (k s.heap s.toks R H (.refl ..) fun a o es ep e q => ⟨o, es, ep, e, q⟩)
      | cons => simp [VRels] at r
    | cons => simp at hl
  | p :: ps, vs, xs, ρ, s, Q, R, H, r, hl, ha, k => by
    cases xs with
    | nil => simp at hl
    | cons x xs =>
      cases vs with
      | nil => simp [VRels] at r
      | cons v vs =>
        unfold VRels at r
        rw [List.zip_cons_cons, List.forIn_cons, hf]
        simp only [List.all_cons, Bool.and_eq_true] at ha
        refine wpAny_bind (wpAny_bind (store_ok R H ha.1 r.1 fun h' t R' H' e' ds => wpAny_pure ?_))
        refine binds_ok f hf ps vs xs _ _ Q R' H' (r.2.mono e'.mono) (by simpa using hl) (by simpa using ha.2) fun h'' t' R'' H'' e'' ds' => ?_
        exact k h'' t' R'' H'' (e'.trans e'') fun a o es ep e q => by
          obtain ⟨o₁, es₁, ep₁, g, gd⟩ := ds a o es ep e q
          exact ds' a o₁ es₁ ep₁ g gd

/-- the frame of a call, ahead of its parameters -/
theorem frame_new {L : Addr} {qual : Str} {func : Option Addr} {code : Value} (R : Rep T ι σ s.heap) (hL : L = s.heap.objs.size) (hk : sc.kind = .function) (hf : noFree sc = true) (h₁ : Heap) (hh : h₁ = pushCells (s.heap.push { cls := .type "frame", data := .dict #[] }) sc.names)
    (env : Env) (he : env = newEnv sc L mainGlobals (cellsFrom (L + 1) sc.names []) qual func code none builtinsNs) :
    ∃ F, (∀ a ∈ F, s.heap.objs.size ≤ a) ∧ Rep T ι σ h₁ ∧ Frm T env F (fun _ => none) ι h₁ ∧ Ext T F ι s.heap ι h₁ ∧ (∃ o, h₁.get? L = some o ∧ o.cls = .type "frame" ∧ o.data = .dict #[] 0) := by
  subst hh he hL
  have ok := cellsFrom_ok sc.names (s.heap.push { cls := .type "frame", data := .dict #[] }) (s.heap.objs.size + 1) [] ⟨fun _ _ hm => (nomatch hm), List.Pairwise.nil⟩ (by rw [Heap.size_push]; exact Nat.le_refl _)
  rw [Heap.size_push] at ok
  have keep : ∀ b o, s.heap.get? b = some o → (pushCells (s.heap.push { cls := .type "frame", data := .dict #[] }) sc.names).get? b = some o := fun b o e => pushCells_keeps _ _ b o (Heap.get?_push_of_some _ e)
  have hsz : s.heap.objs.size ≤ (pushCells (s.heap.push { cls := .type "frame", data := .dict #[] }) sc.names).objs.size := Nat.le_trans (by rw [Heap.size_push]; omega) (pushCells_size _ _)
  have hL := pushCells_keeps sc.names (s.heap.push { cls := .type "frame", data := .dict #[] }) _ _ (Heap.get?_push_size s.heap rfl)
  have no : ∀ a, s.heap.objs.size ≤ a → a ∉ own ι := fun a ha q => absurd (R.own_lt q) (Nat.not_lt.mpr ha)
  have cellAt : ∀ x c, (x, c) ∈ cellsFrom (s.heap.objs.size + 1) sc.names [] → s.heap.objs.size + 1 ≤ c ∧ ∃ o, (pushCells (s.heap.push { cls := .type "frame", data := .dict #[] }) sc.names).get? c = some o ∧ o.cls = .type "cell" ∧ o.data = .cell none := fun x c hm => by
    obtain ⟨⟨o, g, gd⟩, hc⟩ := ok.empty x c hm
    exact ⟨hc, o, g, pushCells_cls _ _ c o g (by rw [Heap.size_push]; exact hc), gd⟩
  refine ⟨s.heap.objs.size :: (cellsFrom (s.heap.objs.size + 1) sc.names []).map (·.2), fun a ha => ?_, R.grow hsz keep, ?_, .of_keeps hsz keep, ⟨_, hL, rfl, rfl⟩⟩
  · rcases List.mem_cons.mp ha with rfl | ha
    · exact Nat.le_refl _
    · obtain ⟨⟨x, c⟩, hm, rfl⟩ := List.mem_map.mp ha
      exact Nat.le_of_succ_le (cellAt x c hm).1
  · refine ⟨hk, rfl, rfl, ⟨"frame", fun _ => none, ⟨.inl rfl, fun q => absurd rfl q⟩, ⟨_, #[], 0, hL, rfl, rfl, rfl, fun e he => by simp at he, List.Pairwise.nil, fun _ => rfl⟩, fun x _ => trivial⟩, fun x hx => ?_, fun x y c hx hy h1 h2 => name_of_addr ok.apart (mem_of_lookup h1) (mem_of_lookup h2), List.mem_cons_self, fun x c _ h => List.mem_cons_of_mem _ (List.mem_map.mpr ⟨(x, c), mem_of_lookup h, rfl⟩), fun a ha => ?_, fun a ha => ?_⟩
    · have hx' : sc.names.lookup x = some .cell := by
        rcases hx with hx | hx
        · exact hx
        · have := List.all_eq_true.mp hf _ (mem_of_lookup (show sc.names.lookup x = some .free from hx))
          simp at this
      obtain ⟨c, hc⟩ := cellsFrom_mem sc.names (s.heap.objs.size + 1) [] x (mem_of_lookup hx')
      obtain ⟨c', hc'⟩ := lookup_of_mem hc
      obtain ⟨g1, o, g2, g3, g4⟩ := cellAt x c' (mem_of_lookup hc')
      exact ⟨c', o, none, hc', g2, g3, g4, trivial, no c' (Nat.le_of_succ_le g1)⟩
    · have hs : s.heap.objs.size ≤ a := by
        rcases List.mem_cons.mp ha with rfl | ha
        · exact Nat.le_refl _
        · obtain ⟨⟨x, c⟩, hm, rfl⟩ := List.mem_map.mp ha
          exact Nat.le_of_succ_le (cellAt x c hm).1
      exact ⟨no a hs, Nat.le_trans R.size hs⟩
    · rcases List.mem_cons.mp ha with rfl | ha
      · exact ⟨_, hL, rfl, rfl⟩
      · obtain ⟨⟨x, c⟩, hm, rfl⟩ := List.mem_map.mp ha
        obtain ⟨_, o, g2, g3, _⟩ := cellAt x c hm
        exact ⟨o, g2, by simp [frozen, g3], by simp [iterish, g3]⟩
end
end Mine

namespace Mine
open PySem PySem.Calls PyProof.Rows PySem.SeqAt

section
variable {T : Tp} {A : Around} {fs : List Env} {d : Nat} {ι : Inj} {σ : Hp} {s : Shared} {sc : Scope}

/-- a statement's exception, on its way out of a frame or a loop: the heap behind the notes -/
theorem PostSX.touched {env : Env} {F : List Addr} {X : XS} {h : Heap} {ρ' : Loc} {σ' : Hp} {ι' : Inj} {ea : Addr} {c : Str} {h' : Heap} (x : X c ρ' σ') (hn : ea ∉ own ι') (I : Inv T A fs d env F ρ' ι' σ' s) (e : Ext T F ι h ι' s.heap) (f : Fly T h.objs.size ea c s.heap) (hb : T.b0.objs.size ≤ h.objs.size)
    (t : Touch (frs fs) h.objs.size ea s.heap h') : Inv T A fs d env F ρ' ι' σ' { s with heap := h' } ∧ Ext T F ι h ι' h' := by
  have hle : h.objs.size ≤ ea := by obtain ⟨_, _, _, _, _, q, _⟩ := f; exact q
  exact ⟨I.touch t f hn hb hle, e.touch t (fun a ha => let ⟨_, _, o, _, _, g, gc, _⟩ := I.aok.mem ha; ⟨o, g, gc⟩) hle⟩

theorem noted_ok {env : Env} {F : List Addr} {X : XS} {h : Heap} {x : Value} {E : Value → Shared → Prop} {Q : Unit → Shared → Prop} (hb : T.b0.objs.size ≤ h.objs.size) (p : PostSX T A fs d env F X ι h x s)
    (k : ∀ ea c ρ' σ' ι' h', x = .ref ea → X c ρ' σ' → FlyT T h.objs.size ea c h' → ea ∉ own ι' → Inv T A fs d env F ρ' ι' σ' { s with heap := h' } → Ext T F ι h ι' h' → Q () { s with heap := h' }) :
    wpAny (model T.prog T.w) A (noteFrame x env) Q E s := by
  obtain ⟨ea, c, ρ', σ', ι', rfl, b, f, n, I, e⟩ := p
  refine note_ok I f e.size fun h' t f' => ?_
  obtain ⟨I', e'⟩ := PostSX.touched b n I e f hb t
  exact k ea c ρ' σ' ι' h' rfl b f' n I' e'

theorem leaving_ok {env : Env} {F : List Addr} {X : XS} {h : Heap} {x : Value} {E : Value → Shared → Prop} {Q : Unit → Shared → Prop} (hb : T.b0.objs.size ≤ h.objs.size) (p : PostSX T A fs d env F X ι h x s)
    (k : ∀ s', PostSX T A fs d env F X ι h x s' → Q () s') : wpAny (model T.prog T.w) A (leaving env x) Q E s := by
  unfold leaving
  refine wpAny_bind (noted_ok hb p fun ea c ρ' σ' ι' h' hx b f n I e => ?_)
  subst hx
  refine flight_ok (S := frs fs) f fun h'' t f' => ?_
  obtain ⟨I', e'⟩ := PostSX.touched b n I e f.fly hb t
  exact k _ ⟨ea, c, ρ', σ', ι', rfl, b, f'.fly, n, I', e'⟩

/-- an exception that comes out of a loop of the frame -/
theorem loop_ok {env : Env} {F : List Addr} {X : XS} {h : Heap} {x : Value} (hb : T.b0.objs.size ≤ h.objs.size) (p : PostSX T A fs d env F X ι h x s) :
    notedBy (model T.prog T.w) A env (fun e s' => cameBackBy (model T.prog T.w) A env (PostSX T A fs d env F X ι h) e s') x s := by
  unfold notedBy
  refine noted_ok hb p fun ea c ρ' σ' ι' h' hx b f n I e => ?_
  subst hx
  unfold cameBackBy
  have f₀ := f
  obtain ⟨C, oe, vs, v, f1, f2, f3, f4, f5, f6, f7, f8, tb, ot, ts, rfl, _⟩ := f
  refine wpAny_bind (wpAny_field f3 f5 f8 ?_)
  rw [if_neg (by simp)]
  refine flight_ok (S := frs fs) f₀ fun h'' t f' => ?_
  obtain ⟨I', e'⟩ := PostSX.touched b n I e f₀.fly hb t
  exact ⟨ea, c, ρ', σ', ι', rfl, b, f'.fly, n, I', e'⟩

/-- a call as a run of its own -/
def CodeOk (T : Tp) (d : Nat) (X : QX) (f : V) (args : List V) (Q : QE) (σ : Hp) : Prop :=
  ∀ A fs ι s fv xs, St T A fs d ι σ s → VRel T ι s.heap f fv → VRels T ι s.heap args xs → codeAny (model T.prog T.w) A (.call fv ⟨xs, []⟩)
    (fun r s' => match r with | .ok (.ret v) => PostE T [] Q ι s.heap v s' | .ok _ => False | .error e => PostX T [] X ι s.heap e s') s
theorem CodeOk.call {f : V} {args : List V} {Q : QE} {X : QX} (h : CodeOk T d X f args Q σ) : CallOk T d X f args Q σ := fun A fs ι s fv xs S rf rxs => wpAny_call (h A fs ι s fv xs S rf rxs)

theorem CodeOk.fn {f : V} {ps : List Str} {body : List Stmt} {args : List V} {Q : QE} {X : QX} (TO : TopOk T) (hf : FnV T f ps body sc) (hl : args.length = ps.length)
    (hb : ExOk T d sc (bindLoc (fun _ => none) ps args) (fun c _ σ' => X c σ') body (retQ Q) σ) : CodeOk T (d + 1) X f args Q σ := by
  intro A fs ι s fv xs S rf rxs
  obtain ⟨⟨fa, o, fd, rfl, ho, hd, rfl, hbody, hclo, hg, hbu, hcd, hbind⟩, co, gen, kind, par, free⟩ := hf ι s.heap fv rf
  have X₁ := TO.X0.keeps S.rep.base
  refine codeAny_call_function (by have := S.aok.depth; omega) (X₁ _ _ ho) hd co gen hbody (PySem.W.codeRec_of X₁ hcd) ?_
  have hlen : xs.length = ps.length := rxs.length.trans hl
  rw [hbind xs hlen, hclo, hg, hbu]
  refine wpAny_pure ?_
  simp only [newFunctionEnv, Option.isSome_none, Bool.false_eq_true, if_false]
  refine wpAny_bind (wpAny_alloc ?_)
  refine wpAny_bind (wpAny_layCells _ (fun name kind cells => by cases hkc : kind == NameKind.cell <;> simp [hkc]) _ _ _ _ ?_)
  rw [show ({ s with heap := s.heap.push { cls := .type "frame", data := .dict #[] } } : Shared).heap.objs.size = s.heap.objs.size + 1 from Heap.size_push ..]
  obtain ⟨F, hF, R₁, H₁, e₁, oL, hoL, hcL, hdL⟩ := frame_new (T := T) (L := s.heap.objs.size) (sc := fd.scope) (qual := fd.qualname ++ ".<locals>.") (func := some fa) (code := fd.code) S.rep rfl kind free _ rfl _ rfl
  refine wpAny_bind (binds_ok (T := T) (ι := ι) (σ := σ) (env := newEnv fd.scope s.heap.objs.size mainGlobals (cellsFrom (s.heap.objs.size + 1) fd.scope.names []) (fd.qualname ++ ".<locals>.") (some fa) fd.code none builtinsNs) (F := F)
    _ (fun _ _ _ => rfl) ps args xs (fun _ => none) _ _ R₁ H₁ (rxs.mono e₁.mono) hlen par fun h₂ t R₂ H₂ e₂ ds => wpAny_pure ⟨?_, codeAny_func ?_⟩)
  · exact TO.lim.keeps R₂.base
  have e₃ := e₁.trans e₂
  have hoL₂ := ds _ _ _ _ hoL hdL
  obtain ⟨oL', hoL', hcL'⟩ := e₂.cls _ _ hoL (by simp [loose, hcL])
  obtain ⟨oL₂, es, ep, hL2, hd2⟩ := hoL₂
  rw [hoL'] at hL2; cases hL2
  have no : ∀ a, s.heap.objs.size ≤ a → a ∉ own ι := fun a ha q => absurd (S.rep.own_lt q) (Nat.not_lt.mpr ha)
  have aok : AOk T (A.deeper (newEnv fd.scope s.heap.objs.size mainGlobals (cellsFrom (s.heap.objs.size + 1) fd.scope.names []) (fd.qualname ++ ".<locals>.") (some fa) fd.code none builtinsNs)) ((newEnv fd.scope s.heap.objs.size mainGlobals (cellsFrom (s.heap.objs.size + 1) fd.scope.names []) (fd.qualname ++ ".<locals>.") (some fa) fd.code none builtinsNs) :: fs) d ι h₂ := by
    refine ⟨Around.frames_deeper S.aok.frames, fun e he => ?_, by have := S.aok.depth; show A.depth + 1 + d ≤ _; omega, by have := S.aok.units; show A.units + 3 + 10 * d + 50 ≤ _; omega, S.aok.hd⟩
    rcases List.mem_cons.mp he with rfl | he
    · exact ⟨kind, s.heap.objs.size, oL', es, ep, rfl, no _ (Nat.le_refl _), S.rep.size, hoL', hcL'.trans hcL, hd2⟩
    · obtain ⟨k1, L', o', es', ep', f1, n1, b1, g1, c1, d1⟩ := S.aok.funs e he
      have hne : L' ∉ F := fun q => absurd (Heap.lt_size g1) (Nat.not_lt.mpr (hF L' q))
      obtain ⟨sl, g2⟩ := e₃.frm L' o' g1 n1 hne
      exact ⟨k1, L', _, es', ep', f1, n1, b1, g2, c1, d1⟩
  have I : Inv T (A.deeper (newEnv fd.scope s.heap.objs.size mainGlobals (cellsFrom (s.heap.objs.size + 1) fd.scope.names []) (fd.qualname ++ ".<locals>.") (some fa) fd.code none builtinsNs)) ((newEnv fd.scope s.heap.objs.size mainGlobals (cellsFrom (s.heap.objs.size + 1) fd.scope.names []) (fd.qualname ++ ".<locals>.") (some fa) fd.code none builtinsNs) :: fs) d _ F (bindLoc (fun _ => none) ps args) ι σ { s with heap := h₂, toks := t } :=
    ⟨R₂, aok, H₂, ⟨_, fs, s.heap.objs.size, rfl, rfl, rfl⟩, S.gens, S.os⟩
  have dn : ∀ {ι' : Inj} {h' : Heap}, Ext T F ι s.heap ι' h' → Ext T [] ι s.heap ι' h' := fun e => e.weaken fun a ha hlt => absurd hlt (Nat.not_lt.mpr (hF a ha))
  refine wpAny_mono (hb _ _ _ F ι _ rfl I) (fun fl s' p => ?_) fun e s' p => ?_
  · obtain ⟨fl', ρ', σ', ι', q, r, i, ex⟩ := p
    have ex' := dn (e₃.trans ex)
    cases fl' <;> cases fl <;> first | exact r.elim | skip
    · exact ⟨.none, σ', ι', q, .none_mk, i.rep, ex', i.gens, i.os⟩
    · exact ⟨.none, σ', ι', q, .none_mk, i.rep, ex', i.gens, i.os⟩
    · exact ⟨.none, σ', ι', q, .none_mk, i.rep, ex', i.gens, i.os⟩
    · exact ⟨_, σ', ι', q, r, i.rep, ex', i.gens, i.os⟩
  · refine leaving_ok R₂.size p fun s'' p' => ?_
    obtain ⟨ea, c, ρ', σ', ι', rfl, b, f, n, i, ex⟩ := p'
    exact ⟨ea, c, σ', ι', rfl, b, f.lo e₃.size, n, i.rep, dn (e₃.trans ex), i.gens, i.os⟩
theorem CallOk.fn {f : V} {ps : List Str} {body : List Stmt} {args : List V} {Q : QE} {X : QX} (TO : TopOk T) (hf : FnV T f ps body sc) (hl : args.length = ps.length)
    (hb : ExOk T d sc (bindLoc (fun _ => none) ps args) (fun c _ σ' => X c σ') body (retQ Q) σ) : CallOk T (d + 1) X f args Q σ := (CodeOk.fn TO hf hl hb).call
end
end Mine

namespace Mine
open PySem PySem.Calls PyProof.Rows PySem.SeqAt

theorem setGen_heap (s : Shared) (g : Nat) (x : GenState) : (s.setGen g x).heap = s.heap := rfl

/-- a run never makes the heap smaller -/
theorem runs_size {M : Model} {Γ : Ctx} {p : Pos} {t : Sem Fin} {fs : List Frame} {s s' : Shared} {e : End} (h : Runs M Γ p t fs s e s') : s.heap.objs.size ≤ s'.heap.objs.size := by
  induction h with
  | done | raise | yield => exact Nat.le_refl _
  | update _ _ ih => rw [show ∀ (x : Shared) (a : Addr) (f : Obj → Obj), ({ x with heap := x.heap.update a f } : Shared).heap.objs.size = x.heap.objs.size from fun x a f => Heap.size_after_update ..] at ih; exact ih
  | alloc _ ih => exact Nat.le_trans (by rw [show ∀ (x : Shared) (o : Obj), ({ x with heap := x.heap.push o } : Shared).heap.objs.size = x.heap.objs.size + 1 from fun x o => Heap.size_push ..]; omega) ih
  | call _ _ i1 i2 => exact Nat.le_trans i1 i2
  | resumeFresh _ _ _ _ i1 i2 => exact Nat.le_trans i1 i2
  | resumeSuspended _ _ _ _ i1 i2 => exact Nat.le_trans i1 i2
  | segRet _ _ i1 i2 => exact Nat.le_trans i1 i2
  | segGen _ _ i1 i2 => exact Nat.le_trans i1 i2
  | segSuspGen _ _ _ _ i1 i2 => exact Nat.le_trans i1 i2
  | _ => assumption

theorem wp_size {α : Type} {M : Model} {Γ : Ctx} (n : Nat) : ∀ (m : Sem α) (Q : α → Pos → Shared → Prop) (E : Value → Pos → Shared → Prop) (p : Pos) (s : Shared), n ≤ s.heap.objs.size → Sem.wp M Γ m Q E p s →
    Sem.wp M Γ m (fun a p' s' => Q a p' s' ∧ n ≤ s'.heap.objs.size) (fun a p' s' => E a p' s' ∧ n ≤ s'.heap.objs.size) p s := by
  intro m
  induction m with
  | pure a => intro Q E p s hn h; exact ⟨h, hn⟩
  | raise e => intro Q E p s hn h; exact ⟨h, hn⟩
  | unsupported => intro Q E p s hn h; exact h
  | finish => intro Q E p s hn h; exact h
  | update a part f k ih => intro Q E p s hn h; exact ⟨h.1, ih () Q E p _ (by rw [show ({ s with heap := s.heap.update a f } : Shared).heap.objs.size = s.heap.objs.size from Heap.size_after_update ..]; exact hn) h.2⟩
  | alloc o k ih => intro Q E p s hn h; exact ih _ Q E p _ (Nat.le_trans hn (by rw [show ({ s with heap := s.heap.push o } : Shared).heap.objs.size = s.heap.objs.size + 1 from Heap.size_push ..]; omega)) h
  | load a part k ih => intro Q E p s hn h; obtain ⟨o, ho, h⟩ := h; exact ⟨o, ho, ih o Q E p s hn h⟩
  | call c hh g l k ih => intro Q E p s hn h; obtain ⟨r, s', hr, h⟩ := h; exact ⟨r, s', hr, ih r Q E p s' (Nat.le_trans hn (runs_size hr)) h⟩
  | choose src m k ih => intro Q E p s hn h; exact ⟨h.1, ih _ Q E p _ hn h.2⟩
  | genState g k ih => intro Q E p s hn h; obtain ⟨st, hs, h⟩ := h; exact ⟨st, hs, ih _ Q E p s hn h⟩
  | resume g r l k ih =>
    intro Q E p s hn h
    obtain ⟨res, s', hw, h⟩ := h
    refine ⟨res, s', hw, ih _ Q E p s' (Nat.le_trans hn ?_) h⟩
    unfold Wakes at hw
    split at hw
    · exact hw.elim
    · split at hw
      · obtain ⟨e₁, s₁, hr, _, _, rfl⟩ := hw; have := runs_size hr; exact this
      · rw [hw.2]; exact Nat.le_refl _
      · rw [hw.2]; exact Nat.le_refl _
    · obtain ⟨e₁, s₁, hr, _, _, rfl⟩ := hw; have := runs_size hr; exact this
    · rw [hw.2]; exact Nat.le_refl _
    · rw [hw.2]; exact Nat.le_refl _
  | await => intro Q E p s hn h; exact h.elim
  | register => intro Q E p s hn h; exact h
  | yield => intro Q E p s hn h; exact h
  | fork => intro Q E p s hn h; exact h
  | _ => rename_i ih; intro Q E p s hn h; exact ih _ Q E _ _ hn h

theorem wpAny_size {α : Type} {M : Model} {A : Around} {m : Sem α} {Q : α → Shared → Prop} {E : Value → Shared → Prop} {s : Shared} (h : wpAny M A m Q E s) :
    wpAny M A m (fun a s' => Q a s' ∧ s.heap.objs.size ≤ s'.heap.objs.size) (fun a s' => E a s' ∧ s.heap.objs.size ≤ s'.heap.objs.size) s :=
  fun Γ p hΓ => wp_size s.heap.objs.size m _ _ p s (Nat.le_refl _) (h Γ p hΓ)
end Mine

namespace Mine
open PySem PySem.Calls PyProof.Rows PySem.SeqAt

/-- the items that a loop over a value walks -/
def iterV (σ : Hp) : V → Option (List V)
  | .tup vs => some vs
  | .ref l => (match σ[l]? with | some (.list vs) => some vs | _ => none)
  | .str x => some (x.cps.toList.map fun c => .str ⟨#[c]⟩)
  | .rng n => if -(2 ^ 62) ≤ n ∧ n < 2 ^ 62 then some ((List.range n.toNat).map fun (k : Nat) => .int k) else none
  | _ => none

def ItAt (T : Tp) (ι : Inj) (h : Heap) (v : V) (I : Addr) (i : Nat) : Prop := match v with
  | .tup vs => ∃ a items n, IsT h a items n ∧ VRels T ι h vs items.toList ∧ h.IsTupleIter I a i
  | .ref l => ∃ a d, ι[l]? = some (a, d) ∧ h.IsListIter I a i
  | .str x => ∃ t, h.IsStrIter I "str_ascii_iterator" x t i ∨ h.IsStrIter I "str_iterator" x t i
  | .rng n => IsRangeIter h I i ((n.toNat : Int) - i) 1
  | _ => False

section
variable {T : Tp} {A : Around} {fs : List Env} {d : Nat} {env : Env} {F : List Addr} {ι ι' : Inj} {h h' : Heap} {s : Shared} {ρ : Loc} {σ : Hp} {sc : Scope} {v : V} {I : Addr} {i : Nat}

theorem ItAt.obj (x : ItAt T ι h v I i) : ∃ o n, h.get? I = some o ∧ o.cls = .type n ∧ ["list_iterator", "tuple_iterator", "range_iterator", "str_iterator", "str_ascii_iterator"].contains n = true ∧ ∃ vs, o.data = .fields vs := by
  unfold ItAt at x
  split at x
  · obtain ⟨_, _, _, _, _, o, ho, hc, hd⟩ := x; exact ⟨o, _, ho, hc, by decide, _, hd⟩
  · obtain ⟨_, _, _, o, ho, hc, hd⟩ := x; exact ⟨o, _, ho, hc, by decide, _, hd⟩
  · obtain ⟨_, ⟨o, ho, hc, hd⟩ | ⟨o, ho, hc, hd⟩⟩ := x
    · exact ⟨o, _, ho, hc, by decide, _, hd⟩
    · exact ⟨o, _, ho, hc, by decide, _, hd⟩
  · exact ⟨_, _, x, rfl, by decide, _, rfl⟩
  · exact x.elim
theorem ItAt.iterish (x : ItAt T ι h v I i) : ∃ o, h.get? I = some o ∧ iterish o = true := by
  obtain ⟨o, n, ho, hc, hn, _⟩ := x.obj
  refine ⟨o, ho, ?_⟩
  simp only [Mine.iterish, hc]
  simp only [List.contains_iff_mem, List.mem_cons, List.not_mem_nil, or_false] at hn
  rcases hn with rfl | rfl | rfl | rfl | rfl <;> decide
theorem ItAt.keep (x : ItAt T ι h v I i) (m : Mono ι h ι' h') (k : ∀ o, h.get? I = some o → h'.get? I = some o) : ItAt T ι' h' v I i := by
  unfold ItAt at x ⊢
  split at x
  · obtain ⟨a, items, n, h1, h2, o, ho, r⟩ := x; exact ⟨a, items, n, m.frz a _ h1 (by simp [frozen]), h2.mono m, o, k o ho, r⟩
  · obtain ⟨a, dd, e, o, ho, r⟩ := x; exact ⟨a, dd, m.get e, o, k o ho, r⟩
  · obtain ⟨t, ⟨o, ho, r⟩ | ⟨o, ho, r⟩⟩ := x
    · exact ⟨t, .inl ⟨o, k o ho, r⟩⟩
    · exact ⟨t, .inr ⟨o, k o ho, r⟩⟩
  · exact k _ x
  · exact x.elim

theorem Mono.but (hs : ∀ b o, b ≠ I → h.get? b = some o → h'.get? b = some o) (ho : ∃ o, h.get? I = some o ∧ loose o = true ∧ frozen o = false) (ι : Inj) : Mono ι h ι h' where
  pre := ⟨[], by simp⟩
  cls := fun b o e i => ⟨o, hs b o (fun q => by obtain ⟨o', g, gi, _⟩ := ho; subst q; rw [e] at g; cases g; rw [i] at gi; cases gi) e, rfl⟩
  frz := fun b o e f => hs b o (fun q => by
    obtain ⟨o', g, _, gi⟩ := ho; subst q; rw [e] at g; cases g
    rw [f] at gi; cases gi) e
theorem iterish_frozen {o : Obj} (h : iterish o = true) : frozen o = false := by
  cases f : frozen o with
  | false => rfl
  | true =>
    simp only [frozen, Bool.or_eq_true, beq_iff_eq] at f
    rcases f with f | f <;> simp [iterish, f] at h
theorem Mono.free (hs : ∀ b o, b ≠ I → h.get? b = some o → h'.get? b = some o) (ho : ∃ o, h.get? I = some o ∧ iterish o = true) (ι : Inj) : Mono ι h ι h' :=
  .but hs (let ⟨o, a, b⟩ := ho; ⟨o, a, iterish_loose b, iterish_frozen b⟩) ι

theorem Inv.free {t : Nat} (I0 : Inv T A fs d env F ρ ι σ s) (hs : ∀ b o, b ≠ I → s.heap.get? b = some o → h'.get? b = some o) (hz : s.heap.objs.size ≤ h'.objs.size) (ho : ∃ o, s.heap.get? I = some o ∧ iterish o = true) (hn : I ∉ own ι) (hb : T.b0.objs.size ≤ I) :
    Inv T A fs d env F ρ ι σ { s with heap := h', toks := t } := by
  have m : Mono ι s.heap ι h' := .free hs ho ι
  have ne : ∀ b o, s.heap.get? b = some o → iterish o = false → b ≠ I := fun b o e i q => by obtain ⟨o', g, gi⟩ := ho; subst q; rw [e] at g; cases g; rw [i] at gi; cases gi
  refine ⟨I0.rep.keeps m hz (fun a o e => hs a o (fun q => absurd (Heap.lt_size e) (Nat.not_lt.mpr (q ▸ hb))) (I0.rep.base a o e)) fun a ha o e => hs a o (fun q => hn (q ▸ ha)) e, ⟨I0.aok.frames, fun e he => ?_, I0.aok.depth, I0.aok.units, I0.aok.hd⟩, ⟨I0.frm.kind, I0.frm.glb, I0.frm.blt, ?_, fun x hx => ?_, I0.frm.inj, I0.frm.loc, I0.frm.cin, I0.frm.apart, fun a ha => ?_⟩, I0.top, I0.gens, I0.os⟩
  · obtain ⟨k, L, o, es, ep, f, n, b, g, c, dd⟩ := I0.aok.funs e he
    exact ⟨k, L, o, es, ep, f, n, b, hs L o (ne L o g (by simp [iterish, c])) g, c, dd⟩
  · obtain ⟨c, mm, hc, hN, r⟩ := I0.frm.ns
    refine ⟨c, mm, hc, hN.of_slots fun o e => ⟨o.slots, hs _ o (ne _ o e ?_) e⟩, fun y hy => (r y hy).mono m⟩
    obtain ⟨o', _, _, g, gc, _⟩ := hN
    rw [e] at g; cases g
    rcases hc.1 with rfl | rfl <;> simp [iterish, gc]
  · obtain ⟨c, o, v, e1, e2, e3, e4, e5, e6⟩ := I0.frm.cells x hx
    exact ⟨c, o, v, e1, hs c o (ne c o e2 (by simp [iterish, e3])) e2, e3, e4, e5.mono m, e6⟩
  · obtain ⟨o, g1, g2, g3⟩ := I0.frm.there a ha
    exact ⟨o, hs a o (ne a o g1 g3) g1, g2, g3⟩

theorem Ext.free {h₀ : Heap} (x : Ext T F ι h₀ ι' h) (hs : ∀ b o, b ≠ I → h.get? b = some o → h'.get? b = some o) (hz : h.objs.size ≤ h'.objs.size) (hI : h₀.objs.size ≤ I) : Ext T F ι h₀ ι' h' := by
  have ne : ∀ b o, h₀.get? b = some o → b ≠ I := fun b o e q => absurd (Heap.lt_size e) (Nat.not_lt.mpr (q ▸ hI))
  refine ⟨x.pre, Nat.le_trans x.size hz, fun a o e i => ?_, fun a o e f => hs a o (ne a o e) (x.frz a o e f), fun a o e n f c => hs a o (ne a o e) (x.keep a o e n f c), fun a o e n f => ?_⟩
  · obtain ⟨o', g, gc⟩ := x.cls a o e i
    exact ⟨o', hs a o' (ne a o e) g, gc⟩
  · obtain ⟨sl, g⟩ := x.frm a o e n f
    exact ⟨sl, hs a _ (ne a o e) g⟩

theorem iter_ok {E : Value → Shared → Prop} {x : Value} {items : List V} {Q : Value → Shared → Prop} (R : Rep T ι σ s.heap) (r : VRel T ι s.heap v x) (hi : iterV σ v = some items)
    (k : ∀ o, ItAt T ι (s.heap.push o) v s.heap.objs.size 0 → Q (.ref s.heap.objs.size) { s with heap := s.heap.push o }) : wpAny (model T.prog T.w) A (pyIter x) Q E s := by
  cases v <;> simp only [iterV, reduceCtorEq] at hi
  · obtain ⟨t, rfl⟩ := r.str_inv
    rename_i x
    cases ha : x.cps.all (· < 128)
    · exact wpAny_pyIter_wide ha (k _ ⟨t, .inr ⟨_, Heap.get?_push_size _ rfl, rfl, rfl⟩⟩)
    · exact wpAny_pyIter_ascii ha (k _ ⟨t, .inl ⟨_, Heap.get?_push_size _ rfl, rfl, rfl⟩⟩)
  · obtain ⟨a, its, n, rfl, ht, hv⟩ := r.tup_inv
    exact wpAny_pyIter_tuple ⟨_, ht, rfl, n, rfl⟩ (k _ ⟨a, its, n, Heap.get?_push_of_some _ ht, hv.mono (Ext.push T [] ι s.heap _).mono, _, Heap.get?_push_size _ rfl, rfl, rfl⟩)
  · obtain ⟨a, dd, rfl, e⟩ := r.ref_inv
    split at hi
    · rename_i vs hvs
      obtain ⟨its, n, hL, hv⟩ := R.list_at hvs e
      exact wpAny_pyIter_list hL.isList (k _ ⟨a, dd, e, _, Heap.get?_push_size _ rfl, rfl, rfl⟩)
    · cases hi
  · rename_i n
    split at hi
    · rename_i hn
      unfold VRel at r
      obtain ⟨a, t1, t2, t3, rfl, hr⟩ := r
      refine wpAny_pyIter_range hr (small_one (by decide) (by decide) hn.1 hn.2) (k _ ?_)
      have : Builtin.Range.rangeSize 0 n 1 = (n.toNat : Int) := by unfold Builtin.Range.rangeSize; simp; split <;> omega
      show IsRangeIter _ _ _ _ _
      rw [this]
      show _ = _
      rw [Heap.get?_push_size _ rfl]; simp [rawInt]
    · cases hi

theorem next_ok {E : Value → Shared → Prop} {items : List V} {y : V} {Q : Option Value → Shared → Prop} (R : Rep T ι σ s.heap) (it : ItAt T ι s.heap v I i) (hn : I ∉ own ι) (hi : iterV σ v = some items) (hy : items[i]? = some y)
    (k : ∀ h' t x, Heap.SameBut I s.heap h' → VRel T ι h' y x → ItAt T ι h' v I (i + 1) → Q (some x) { s with heap := h', toks := t }) : wpAny (model T.prog T.w) A (pyNext (.ref I)) Q E s := by
  have hit := it.iterish
  have mono : ∀ {h'}, Heap.SameBut I s.heap h' → Mono ι s.heap ι h' := fun hs => .free (fun b o hb e => (hs.2 b hb).trans e) hit ι
  cases v <;> simp only [iterV, reduceCtorEq] at hi <;> simp only [ItAt] at it
  · rename_i x
    cases hi
    rw [List.getElem?_map] at hy
    cases hc : x.cps.toList[i]? with
    | none => rw [hc] at hy; cases hy
    | some c =>
      rw [hc] at hy; cases hy
      have hc' : x.cps[i]? = some c := by simpa using hc
      obtain ⟨t, it | it⟩ := it
      · exact wpAny_pyNext_ascii_item it hc' fun h' it' hs => k h' _ _ hs .str_mk ⟨t, .inl it'⟩
      · exact wpAny_pyNext_wide_item it hc' fun h' it' hs => k h' _ _ hs .str_mk ⟨t, .inr it'⟩
  · cases hi
    obtain ⟨a, its, n, ht, hv, it⟩ := it
    obtain ⟨x, hx, rx⟩ := hv.get hy
    refine wpAny_pyNext_tuple_item it ⟨_, ht, rfl, n, rfl⟩ (by simpa using hx) fun h' it' hs => k h' s.toks x hs (rx.mono (mono hs)) ⟨a, its, n, (mono hs).frz a _ ht (by simp [frozen]), hv.mono (mono hs), it'⟩
  · obtain ⟨a, dd, e, it⟩ := it
    split at hi
    · rename_i vs hvs
      cases hi
      obtain ⟨its, n, hL, hv⟩ := R.list_at hvs e
      obtain ⟨x, hx, rx⟩ := hv.get hy
      exact wpAny_pyNext_list_item it hL.isList (by simpa using hx) fun h' it' hs => k h' s.toks x hs (rx.mono (mono hs)) ⟨a, dd, e, it'⟩
    · cases hi
  · rename_i n
    split at hi
    · cases hi
      rw [List.getElem?_map] at hy
      have hlt : i < n.toNat := by
        rcases Nat.lt_or_ge i n.toNat with q | q
        · exact q
        · rw [List.getElem?_eq_none (by simpa using q)] at hy; cases hy
      rw [List.getElem?_range hlt] at hy; cases hy
      refine wpAny_pyNext_range_item it (by omega) fun h' it' hs => k h' _ _ hs .int_mk ?_
      show IsRangeIter _ _ _ _ _
      rw [show ((i + 1 : Nat) : Int) = (i : Int) + 1 by omega, show ((n.toNat : Int) - ((i : Int) + 1)) = (n.toNat : Int) - i - 1 by omega]
      exact it'
    · cases hi

theorem end_ok {E : Value → Shared → Prop} {items : List V} {Q : Option Value → Shared → Prop} (hh : A.handled = none) (R : Rep T ι σ s.heap) (it : ItAt T ι s.heap v I i) (hi : iterV σ v = some items) (hy : items.length ≤ i)
    (k : ∀ h', Heap.ExtBut I s.heap h' → s.heap.objs.size ≤ h'.objs.size → Q none { s with heap := h' }) : wpAny (model T.prog T.w) A (pyNext (.ref I)) Q E s := by
  have fin : wpAny (model T.prog T.w) A (pyNext (.ref I)) (fun r s' => r = none ∧ ∃ h', s' = { s with heap := h' } ∧ Heap.ExtBut I s.heap h') E s := by
    cases v <;> simp only [iterV, reduceCtorEq] at hi <;> simp only [ItAt] at it
    · cases hi
      obtain ⟨t, it | it⟩ := it
      · exact wpAny_pyNext_ascii_end hh it (by simpa using hy) fun h' e => ⟨rfl, h', rfl, e⟩
      · exact wpAny_pyNext_wide_end hh it (by simpa using hy) fun h' e => ⟨rfl, h', rfl, e⟩
    · cases hi
      obtain ⟨a, its, n, ht, hv, it⟩ := it
      have := hv.length
      simp only [Array.length_toList] at this
      exact wpAny_pyNext_tuple_end hh it ⟨_, ht, rfl, n, rfl⟩ (by simpa [this] using hy) fun h' e => ⟨rfl, h', rfl, e⟩
    · obtain ⟨a, dd, e, it⟩ := it
      split at hi
      · rename_i vs hvs
        cases hi
        obtain ⟨its, n, hL, hv⟩ := R.list_at hvs e
        have := hv.length
        simp only [Array.length_toList] at this
        exact wpAny_pyNext_list_end hh it hL.isList (by simpa [this] using hy) fun h' e => ⟨rfl, h', rfl, e⟩
      · cases hi
    · split at hi
      · cases hi
        simp only [List.length_map, List.length_range] at hy
        exact wpAny_pyNext_range_end hh it (by omega) fun h' e => ⟨rfl, h', rfl, e⟩
      · cases hi
  refine wpAny_mono (wpAny_size fin) (fun r s' p => ?_) fun _ _ p => p.1
  obtain ⟨⟨rfl, h', rfl, e⟩, hz⟩ := p
  exact k h' e hz

theorem letOwned_ok {E : Value → Shared → Prop} {target : Expr} {x : Value} {Q : Unit → Shared → Prop} (it : ItAt T ι s.heap v I i) (k : Q () s) : wpAny (model T.prog T.w) A (letOwnedTupleGo target (.ref I) x) Q E s := by
  obtain ⟨o, n, ho, hc, hn, vs, hd⟩ := it.obj
  have no : ["enumerate", "zip", "dict_itemiterator", "dict_reverseitemiterator", "odict_iterator", "itertools.zip_longest", "itertools.pairwise"].contains n = false := by
    simp only [List.contains_iff_mem, List.mem_cons, List.not_mem_nil, or_false] at hn
    rcases hn with rfl | rfl | rfl | rfl | rfl <;> decide
  have main : ∀ a, wpAny (model T.prog T.w) A (do
      let o ← load I
      match o.cls, o.data with
      | .type n, .fields vs =>
        if ["enumerate", "zip", "dict_itemiterator", "dict_reverseitemiterator", "odict_iterator", "itertools.zip_longest", "itertools.pairwise"].contains n && vs[0]? == some (rawInt a) then
          rule "for.unpacks-the-owned-tuple"
          updateField I 0 .none
      | _, _ => pure ()) Q E s := fun a => by
    refine wpAny_bind (wpAny_load ho ?_)
    rw [hc, hd]
    simp only [no, Bool.false_and, Bool.false_eq_true, if_false]
    exact wpAny_pure k
  unfold letOwnedTupleGo
  split
  · cases x <;> first | exact main _ | exact wpAny_pure k
  · cases x <;> first | exact main _ | exact wpAny_pure k
  · exact wpAny_pure k
end
end Mine

namespace Mine
open PySem PySem.Calls PyProof.Rows PySem.SeqAt

/-- what a target's names become -/
def tgtLoc (t : Expr) (v : V) (ρ : Loc) : Option Loc := match t, v with
  | .Name x _, v => some (upd ρ x (some v))
  | .Tuple [.Name a _, .Name b _] _ _, .tup [p, q] => some (upd (upd ρ a (some p)) b (some q))
  | .Tuple [.Name a _, .Name b _, .Name c _] _ _, .tup [p, q, r] => some (upd (upd (upd ρ a (some p)) b (some q)) c (some r))
  | _, _ => none
def tgtOk (sc : Scope) (t : Expr) : Bool := match t with
  | .Name x _ => isStore sc x
  | .Tuple [.Name a _, .Name b _] _ _ => isStore sc a && isStore sc b
  | .Tuple [.Name a _, .Name b _, .Name c _] _ _ => isStore sc a && (isStore sc b && isStore sc c)
  | _ => false

def loopQ (Q : QS) (N : Loc → Hp → Prop) : QS := fun fl ρ σ => match fl with
  | .next | .cont => N ρ σ
  | .brk => Q .next ρ σ
  | .ret v => Q (.ret v) ρ σ

section
variable {T : Tp} {A : Around} {fs : List Env} {d : Nat} {env : Env} {F : List Addr} {ι ι' : Inj} {h h' : Heap} {s : Shared} {ρ : Loc} {σ : Hp} {sc : Scope} {v : V} {I : Addr} {i : Nat}

theorem storeI {M : Model} {A' : Around} {E : Value → Shared → Prop} {x : Str} {v : V} {y : Value} {Q : Unit → Shared → Prop} (I : Inv T A fs d env F ρ ι σ s) (hk : isStore env.scope x = true) (r : VRel T ι s.heap v y)
    (k : ∀ h' t, Inv T A fs d env F (upd ρ x (some v)) ι σ { s with heap := h', toks := t } → Ext T F ι s.heap ι h' → Q () { s with heap := h', toks := t }) : wpAny M A' (storeName env x y) Q E s :=
  store_ok I.rep I.frm hk r fun h' t R' H' e' ds => k h' t (I.stored R' H' e' ds) e'

theorem Inv.grown {h' : Heap} (I0 : Inv T A fs d env F ρ ι σ s) (hz : s.heap.objs.size ≤ h'.objs.size) (k : ∀ b o, s.heap.get? b = some o → h'.get? b = some o) : Inv T A fs d env F ρ ι σ { s with heap := h' } :=
  I0.ext (.of_keeps hz k) (I0.rep.grow hz k) I0.gens I0.os

theorem tupItems {E : Value → Shared → Prop} {a : Addr} {items : Array Value} {n : Nat} {Q : List Value → Shared → Prop} (hh : A.handled = none) (ht : IsT s.heap a items n)
    (k : ∀ h', s.heap.objs.size ≤ h'.objs.size → (∀ b o, s.heap.get? b = some o → h'.get? b = some o) → Q items.toList { s with heap := h' }) : wpAny (model T.prog T.w) A (unpackItems (.ref a) items.size none) Q E s := by
  have fin : wpAny (model T.prog T.w) A (unpackItems (.ref a) items.size none) (fun r s' => r = items.toList ∧ ∃ h', s' = { s with heap := h' } ∧ Heap.ExtBut s.heap.objs.size s.heap h') E s :=
    unpackItems_tuple hh ⟨_, ht, rfl, n, rfl⟩ fun h' e => ⟨rfl, h', rfl, e⟩
  refine wpAny_mono (wpAny_size fin) (fun r s' p => ?_) fun _ _ p => p.1
  obtain ⟨⟨rfl, h', rfl, e⟩, hz⟩ := p
  exact k h' hz fun b o hb => e b o (Nat.ne_of_lt (Heap.lt_size hb)) hb

theorem assign_ok {E : Value → Shared → Prop} {t : Expr} {x : Value} {ρ' : Loc} {Q : Unit → Shared → Prop} (I : Inv T A fs d env F ρ ι σ s) (r : VRel T ι s.heap v x) (hl : tgtLoc t v ρ = some ρ') (ht : tgtOk env.scope t = true)
    (k : ∀ h' tk, Inv T A fs d env F ρ' ι σ { s with heap := h', toks := tk } → Ext T F ι s.heap ι h' → Q () { s with heap := h', toks := tk }) : wpAny (model T.prog T.w) A (assign t env x) Q E s := by
  unfold tgtLoc at hl
  split at hl
  · cases hl
    exact wpAny_assign_Name (storeI I ht r k)
  · cases hl
    rename_i na _ nb _ _ _ vp vq
    simp only [tgtOk, Bool.and_eq_true] at ht
    obtain ⟨a, items, n, rfl, hT, hv⟩ := r.tup_inv
    obtain ⟨y₁, r₁, e₁, v₁, hv⟩ := VRels.cons_iff.mp hv
    obtain ⟨y₂, r₂, rfl, v₂, hv⟩ := VRels.cons_iff.mp hv
    cases VRels.nil_iff.mp hv
    have hsz : items.size = 2 := by rw [← Array.length_toList, e₁]; rfl
    rw [arm_assign_Tuple]
    refine wpAny_bind (wpAny_standAt ?_)
    unfold unpack
    show wpAny _ _ (do assignInOrder [assign (.Name na _) env, assign (.Name nb _) env] (← holding [.ref a] (unpackItems (.ref a) 2 none))) _ _ _
    refine wpAny_bind (wpAny_holding (hsz ▸ tupItems I.aok.hd hT fun h' hz hk => ?_))
    have e0 : Ext T F ι s.heap ι h' := .of_keeps hz hk
    have I₁ := I.grown hz hk
    rw [e₁]
    refine assignInOrder_cons (wpAny_assign_Name (storeI I₁ ht.1 (v₁.mono e0.mono) fun h₂ t₂ I₂ e₂ => ?_))
    refine assignInOrder_cons (wpAny_assign_Name (storeI I₂ ht.2 (v₂.mono (e0.trans e₂).mono) fun h₃ t₃ I₃ e₃ => ?_))
    exact assignInOrder_nil (k h₃ t₃ I₃ (e0.trans (e₂.trans e₃)))
  · cases hl
    rename_i na _ nb _ nc _ _ _ vp vq vr
    simp only [tgtOk, Bool.and_eq_true] at ht
    obtain ⟨a, items, n, rfl, hT, hv⟩ := r.tup_inv
    obtain ⟨y₁, r₁, e₁, v₁, hv⟩ := VRels.cons_iff.mp hv
    obtain ⟨y₂, r₂, rfl, v₂, hv⟩ := VRels.cons_iff.mp hv
    obtain ⟨y₃, r₃, rfl, v₃, hv⟩ := VRels.cons_iff.mp hv
    cases VRels.nil_iff.mp hv
    have hsz : items.size = 3 := by rw [← Array.length_toList, e₁]; rfl
    rw [arm_assign_Tuple]
    refine wpAny_bind (wpAny_standAt ?_)
    unfold unpack
    show wpAny _ _ (do assignInOrder [assign (.Name na _) env, assign (.Name nb _) env, assign (.Name nc _) env] (← holding [.ref a] (unpackItems (.ref a) 3 none))) _ _ _
    refine wpAny_bind (wpAny_holding (hsz ▸ tupItems I.aok.hd hT fun h' hz hk => ?_))
    have e0 : Ext T F ι s.heap ι h' := .of_keeps hz hk
    have I₁ := I.grown hz hk
    rw [e₁]
    refine assignInOrder_cons (wpAny_assign_Name (storeI I₁ ht.1 (v₁.mono e0.mono) fun h₂ t₂ I₂ e₂ => ?_))
    refine assignInOrder_cons (wpAny_assign_Name (storeI I₂ ht.2.1 (v₂.mono (e0.trans e₂).mono) fun h₃ t₃ I₃ e₃ => ?_))
    refine assignInOrder_cons (wpAny_assign_Name (storeI I₃ ht.2.2 (v₃.mono (e0.trans (e₂.trans e₃)).mono) fun h₄ t₄ I₄ e₄ => ?_))
    exact assignInOrder_nil (k h₄ t₄ I₄ (e0.trans (e₂.trans (e₃.trans e₄))))
  · cases hl

theorem StOk.while {X : XS} {Q : QS} {test : Expr} {body : List Stmt} {pos : Pos} (J : Nat → Loc → Hp → Prop) (n : Nat) (h0 : J n ρ σ)
    (turn : ∀ n ρ σ, J n ρ σ → TsOk T d sc ρ (fun c σ => X c ρ σ) test (fun b σ₁ => if b then ExOk T d sc ρ X body (loopQ Q fun ρ₂ σ₂ => ∃ m, m < n ∧ J m ρ₂ σ₂) σ₁ else Q .next ρ σ₁) σ) : StOk T d sc ρ X (.While test body [] pos) Q σ := by
  intro env A fs F ι s hsc I
  have hb := I.rep.size
  refine wpAny_While (codeAny_whileLoop (fun n s' => ∃ ρ' σ' ι', J n ρ' σ' ∧ Inv T A fs d env F ρ' ι' σ' s' ∧ Ext T F ι s.heap ι' s'.heap) (fun n s' hJ => ?_) n ⟨ρ, σ, ι, h0, I, .refl ..⟩)
  obtain ⟨ρ', σ', ι', j, I', e'⟩ := hJ
  refine wpAny_mono (turn n ρ' σ' j env A fs F ι' s' hsc I') (fun b s₁ p => ?_) fun x s₁ p => loop_ok hb ((p.sx I' fun _ _ k => k).trans e')
  obtain ⟨σ₁, ι₁, q, rp, ex, g, o⟩ := p
  have I₁ := I'.ext ex rp g o
  have e₁ := e'.trans ex.up
  cases b
  · exact wpAny_execs_nil ⟨.next, ρ', σ₁, ι₁, q, trivial, I₁, e₁⟩
  · refine wpAny_mono (q env A fs F ι₁ s₁ hsc I₁) (fun f s₂ p => ?_) fun x s₂ p => loop_ok hb (p.trans e₁)
    obtain ⟨fl, ρ₂, σ₂, ι₂, q₂, r₂, I₂, e₂⟩ := p
    cases fl <;> cases f <;> first | exact r₂.elim | skip
    · obtain ⟨m, hm, jm⟩ := q₂; exact ⟨m, hm, ρ₂, σ₂, ι₂, jm, I₂, e₁.trans e₂⟩
    · exact ⟨.next, ρ₂, σ₂, ι₂, q₂, trivial, I₂, e₁.trans e₂⟩
    · obtain ⟨m, hm, jm⟩ := q₂; exact ⟨m, hm, ρ₂, σ₂, ι₂, jm, I₂, e₁.trans e₂⟩
    · exact ⟨.ret _, ρ₂, σ₂, ι₂, q₂, r₂, I₂, e₁.trans e₂⟩

/-- the turns of a for loop, over any iterator's own tree -/
theorem forLoop_any {prog : Program} {w : World} {R : Result → Shared → Prop} {target : Expr} {it : Value} {body orelse : List Stmt} (J : Nat → Shared → Prop)
    (turn : ∀ n s, J n s → wpAny (model prog w) A (pyNext it) (fun r s₁ => match r with
      | none => wpAny (model prog w) A (execs orelse env) (fun f s₃ => R (.ok f) s₃) (notedBy (model prog w) A env fun e s' => R (.error e) s') s₁
      | some v => wpAny (model prog w) A (letOwnedTupleGo target it v) (fun _ s₁ => wpAny (model prog w) A (assign target env v) (fun _ s₂ => wpAny (model prog w) A (execs body env) (fun f s₃ => match f with
          | .next | .cont => ∃ m, m < n ∧ J m s₃
          | .brk => R (.ok .next) s₃
          | .ret v => R (.ok (.ret v)) s₃) (notedBy (model prog w) A env fun e s' => R (.error e) s') s₂) (notedBy (model prog w) A env fun e s' => R (.error e) s') s₁) (notedBy (model prog w) A env fun e s' => R (.error e) s') s₁)
      (notedBy (model prog w) A env fun e s' => R (.error e) s') s)
    (n : Nat) (h : J n s) : codeAny (model prog w) A (.forLoop target it body orelse env) R s := by
  refine codeAny_loop' rfl J (fun n s hJ => ?_) n h
  show wpAny _ _ ((forTurn target it body orelse env).onRaise (fun x => do noteFrame x env; theTreesLotGoes x)) _ _ s
  refine wpAny_noted ?_
  simp only [forTurn]
  refine wpAny_bind (wpAny_standAt (wpAny_bind (wpAny_onRaise (wpAny_mono (turn n s hJ) (fun r s₁ h₁ => ?_) fun _ _ h' => wpAny_standAt h'))))
  cases r with
  | none => exact wpAny_pure (.inr ⟨rfl, codeAny_block h₁⟩)
  | some v =>
    refine wpAny_bind (wpAny_mono h₁ (fun _ s₁ h₁ => ?_) fun _ _ h' => h')
    refine wpAny_bind (wpAny_mono h₁ (fun _ s₂ h₂ => wpAny_bind (wpAny_mono h₂ (fun f s₃ h₃ => ?_) fun _ _ h' => h')) fun _ _ h' => h')
    cases f with
    | next => exact wpAny_pure (.inl ⟨rfl, h₃⟩)
    | cont => exact wpAny_pure (.inl ⟨rfl, h₃⟩)
    | brk => exact wpAny_pure h₃
    | ret v => exact wpAny_pure h₃

def noSet : Expr → Bool
  | .Set .. => false
  | _ => true
theorem folded_no {e : Expr} {x : Value} (h : noSet e = true) : foldedSetIterable e env x = pure x := by cases e <;> first | rfl | cases h

/-- a for loop: J i holds ahead of the item i -/
theorem StOk.for {X : XS} {Q : QS} {target iter : Expr} {body : List Stmt} {pos : Pos}
    (he : EvOk T d sc ρ (fun c σ => X c ρ σ) iter (fun v σ₁ => ∃ (items : List V) (J : Nat → Loc → Hp → Prop), J 0 ρ σ₁ ∧ (∀ i ρ σ, J i ρ σ → iterV σ v = some items) ∧ (∀ ρ σ, J items.length ρ σ → Q .next ρ σ) ∧
      ∀ i x ρ σ, J i ρ σ → items[i]? = some x → ∃ ρ', tgtLoc target x ρ = some ρ' ∧ ExOk T d sc ρ' X body (loopQ Q (J (i + 1))) σ) σ)
    (ht : tgtOk sc target = true) (hs : noSet iter = true) : StOk T d sc ρ X (.For target iter body [] pos) Q σ := by
  intro env A fs F ι s hsc I
  have hb := I.rep.size
  refine wpAny_For (wpAny_mono (he env A fs F ι s hsc I) (fun x s₁ p => ?_) fun _ _ p => p.sx I fun _ _ k => k) fun _ => folded_no hs
  obtain ⟨v, σ₁, ι₁, ⟨items, J, j0, jit, jend, jturn⟩, rv, rp, ex, g, o⟩ := p
  have I₁ := I.ext ex rp g o
  refine iter_ok I₁.rep rv (jit 0 ρ σ₁ j0) fun ob it0 => ?_
  have e1 : Ext T F ι₁ s₁.heap ι₁ (s₁.heap.push ob) := .push ..
  have I₂ : Inv T A fs d env F ρ ι₁ σ₁ { s₁ with heap := s₁.heap.push ob } := I₁.grown (h' := s₁.heap.push ob) e1.size fun b o e => Heap.get?_push_of_some _ e
  have hI0 : s.heap.objs.size ≤ s₁.heap.objs.size := ex.size
  have hbI : T.b0.objs.size ≤ s₁.heap.objs.size := I₁.rep.size
  refine forLoop_any (fun n s' => ∃ i ρ' σ' ι', n = items.length - i ∧ i ≤ items.length ∧ J i ρ' σ' ∧ Inv T A fs d env F ρ' ι' σ' s' ∧ Ext T F ι s.heap ι' s'.heap ∧ ItAt T ι' s'.heap v s₁.heap.objs.size i ∧ s₁.heap.objs.size ∉ own ι') (fun n s' hJ => ?_) items.length
    ⟨0, ρ, σ₁, ι₁, rfl, Nat.zero_le _, j0, I₂, ex.up.trans e1, it0, fun q => absurd (I₁.rep.own_lt q) (Nat.lt_irrefl _)⟩
  obtain ⟨i, ρ', σ', ι', rfl, hi, j, I', e', it, hn⟩ := hJ
  have isit := it.iterish
  have hF : s₁.heap.objs.size ∉ F := fun q => by
    obtain ⟨o1, g1, _, g3⟩ := I'.frm.there _ q
    obtain ⟨o2, g4, g5⟩ := isit
    rw [g1] at g4; cases g4; rw [g3] at g5; cases g5
  by_cases hlt : i < items.length
  · have hx : items[i]? = some items[i] := List.getElem?_eq_getElem hlt
    refine next_ok I'.rep it hn (jit i ρ' σ' j) hx fun h' t y hs' ry it' => ?_
    have hk : ∀ b o, b ≠ s₁.heap.objs.size → s'.heap.get? b = some o → h'.get? b = some o := fun b o hb e => (hs'.2 b hb).trans e
    have I₃ : Inv T A fs d env F ρ' ι' σ' { s' with heap := h', toks := t } := I'.free hk (Nat.le_of_eq hs'.1.symm) isit hn hbI
    have e₃ : Ext T F ι s.heap ι' h' := e'.free hk (Nat.le_of_eq hs'.1.symm) hI0
    refine letOwned_ok (s := { s' with heap := h', toks := t }) it' ?_
    obtain ⟨ρ'', hl, hbody⟩ := jturn i _ ρ' σ' j hx
    refine assign_ok I₃ ry hl (hsc ▸ ht) fun h₄ t₄ I₄ e₄ => ?_
    refine wpAny_mono (hbody env A fs F ι' _ hsc I₄) (fun f s₅ p => ?_) fun x s₅ p => loop_ok hb (p.trans (e₃.trans e₄))
    obtain ⟨fl, ρ₅, σ₅, ι₅, q₅, r₅, I₅, e₅⟩ := p
    have e₆ := e₃.trans (e₄.trans e₅)
    have e45 := e₄.trans e₅
    have next : J (i + 1) ρ₅ σ₅ → ∃ m, m < items.length - i ∧ ∃ i ρ' σ' ι', m = items.length - i ∧ i ≤ items.length ∧ J i ρ' σ' ∧ Inv T A fs d env F ρ' ι' σ' s₅ ∧ Ext T F ι s.heap ι' s₅.heap ∧ ItAt T ι' s₅.heap v s₁.heap.objs.size i ∧ s₁.heap.objs.size ∉ own ι' := fun q => by
      refine ⟨items.length - (i + 1), by omega, i + 1, ρ₅, σ₅, ι₅, rfl, hlt, q, I₅, e₆, ?_, ?_⟩
      · refine it'.keep e45.mono fun o ho => ?_
        obtain ⟨o', g, gi⟩ := it'.iterish
        rw [ho] at g; cases g
        exact e45.keep _ o ho hn hF fun q => by simp [iterish, q] at gi
      · obtain ⟨o', g, gi⟩ := it'.iterish
        exact e45.not_own hn (Heap.lt_size g)
    cases fl <;> cases f <;> first | exact r₅.elim | skip
    · exact next q₅
    · exact ⟨.next, ρ₅, σ₅, ι₅, q₅, trivial, I₅, e₆⟩
    · exact next q₅
    · exact ⟨.ret _, ρ₅, σ₅, ι₅, q₅, r₅, I₅, e₆⟩
  · have : i = items.length := by omega
    subst this
    refine end_ok I'.aok.hd I'.rep it (jit _ ρ' σ' j) (Nat.le_refl _) fun h' he hz => ?_
    have I₃ : Inv T A fs d env F ρ' ι' σ' { s' with heap := h' } := I'.free (t := s'.toks) (fun b o hb e => he b o hb e) hz isit hn hbI
    exact wpAny_execs_nil ⟨.next, ρ', σ', ι', jend ρ' σ' j, trivial, I₃, e'.free (fun b o hb e => he b o hb e) hz hI0⟩
end
end Mine

namespace Mine
open PySem PySem.Calls PyProof.Rows PySem.SeqAt

/-- an own class whose objects are plain -/
structure ClsAt (T : Tp) (c : Str) (C : Addr) : Prop where
  addr : T.c c = some C
  ga : PySem.W.findIn T.K (.ref C) "__getattribute__" = some (some (.builtin "object.__getattribute__"))
  gx : PySem.W.findIn T.K (.ref C) "__getattr__" = some none
  sa : PySem.W.findIn T.K (.ref C) "__setattr__" = some (some (.builtin "object.__setattr__"))
  dict : ((PySem.W.clsIn T.K C).any (·.hasDict)) = true
  over : PySem.W.plainOver T.K C = true

/-- a value that an attribute hands on as it is -/
def handV : V → Bool
  | .none | .bool _ | .int _ | .str _ | .tup _ | .ref _ | .rng _ | .exc _ => true
  | _ => false
theorem handed {T : Tp} {ι : Inj} {h : Heap} {v : V} {x : Value} (e : handV v = true) (r : VRel T ι h v x) : PySem.W.handedIn x = true := by
  cases v <;> first | (cases e; done) | skip
  · cases r.none_inv; rfl
  · cases r.bool_inv; rfl
  · obtain ⟨_, rfl⟩ := r.int_inv; rfl
  · obtain ⟨_, rfl⟩ := r.str_inv; rfl
  · obtain ⟨_, _, _, rfl, _⟩ := r.tup_inv; rfl
  · obtain ⟨_, _, rfl, _⟩ := r.ref_inv; rfl
  · unfold VRel at r; obtain ⟨_, _, _, _, rfl, _⟩ := r; rfl
  · unfold VRel at r; obtain ⟨_, _, _, rfl, _⟩ := r; rfl

theorem any_inv {α : Type} {o : Option α} {f : α → Bool} (h : o.any f = true) : ∃ x, o = some x ∧ f x = true := by
  cases o with
  | none => cases h
  | some x => exact ⟨x, rfl, h⟩

theorem lookIn_of {o : Obj} {es : Array DictEntry} {ep : Nat} (hd : o.data = .dict es ep) (hk : StrKeys es) (name : Str) : PySem.W.lookIn name o = some (nsFind es name) := by
  unfold PySem.W.lookIn
  rw [hd]
  dsimp only
  have hn : nsFind es name = (es.toList.find? (·.key.isStr name)).map (·.val) := by
    rw [Array.find?_toList]; rfl
  rw [hn]
  cases hf : es.toList.find? (·.key.isStr name) with
  | some e => rfl
  | none =>
    have : es.toList.any (·.refKey) = false := by
      rw [Array.any_toList, Array.any_eq_false']
      intro e he
      obtain ⟨n, t, h⟩ := hk e he
      simp [DictEntry.refKey, h]
    simp [this]

section
variable {T : Tp} {A : Around} {fs : List Env} {d : Nat} {env : Env} {F : List Addr} {ι ι' : Inj} {h h' : Heap} {s : Shared} {ρ : Loc} {σ : Hp} {sc : Scope} {X : QX} {Q : QE}

/-- an own object, in the heap -/
theorem Rep.inst_at (r : Rep T ι σ h) {l : Nat} {c : Str} {fs : List (Str × V)} {a dx : Addr} {C : Addr} (e : σ[l]? = some (.inst c fs)) (q : ι[l]? = some (a, dx)) (hc : T.c c = some C) :
    ∃ sl o es ep, h.get? a = some ⟨.ref C, some dx, .plain, sl⟩ ∧ h.get? dx = some o ∧ PySem.W.InstAt h a ⟨.ref C, some dx, .plain, sl⟩ C (some o) ∧ o.cls = .type "dict" ∧ o.data = .dict es ep ∧ StrKeys es ∧ ∀ x, ORelV T ι h (fs.lookup x) (nsFind es x) := by
  obtain ⟨C', m, sl, c1, c2, ⟨o, es, ep, d1, d2, d3, d4, d5, d6, d7⟩, c4, _⟩ := r.objs l _ _ e q
  rw [hc] at c1; cases c1
  exact ⟨sl, o, es, ep, c2, d1, ⟨c2, rfl, rfl, d1⟩, d2, d4, d5, fun x => by rw [d7]; exact c4 x⟩

theorem attr_ok {ov v : V} {x : Value} {attr : Str} {l : Nat} {c : Str} {gs : List (Str × V)} {C : Addr} {e : Bool} (TO : TopOk T) (S : St T A fs d ι σ s) (r : VRel T ι s.heap (.ref l) x) (hl : σ[l]? = some (.inst c gs)) (hv : gs.lookup attr = some v) (hh : handV v = true)
    (hc : ClsAt T c C) (hf : PySem.W.findIn T.K (.ref C) attr = some none) (q : Q v σ) : wpAny (model T.prog T.w) A (getAttr x attr e) (PostE T [] Q ι s.heap) (PostX T [] X ι s.heap) s := by
  obtain ⟨a, dx, rfl, hι⟩ := r.ref_inv
  obtain ⟨sl, o, es, ep, h1, h2, IA, h3, h4, h5, h6⟩ := S.rep.inst_at hl hι hc.addr
  have rv := h6 attr
  rw [hv] at rv
  cases hm : nsFind es attr with
  | none => rw [hm] at rv; exact rv.elim
  | some y =>
    rw [hm] at rv
    obtain ⟨cd, hcd, hdict⟩ := any_inv hc.dict
    refine PySem.W.get_value (TO.X0.keeps S.rep.base) IA hc.ga ?_ (handed hh rv) (S.post q rv _)
    unfold PySem.W.findObj
    rw [hcd, Option.bind_some, hf, Option.bind_some]
    simp only [Option.bind_some]
    unfold PySem.W.ownOf
    rw [hdict, if_pos rfl]
    show (PySem.W.lookIn attr o).bind _ = _
    rw [lookIn_of h4 h5, hm]
    rfl

def plainBase : Expr → Bool
  | .Call (.Name _ _) [] [] _ => false
  | _ => true
theorem base_plain {o : Expr} {attr : Str} {whole : Sem Value} (h : plainBase o = true) : attributeBase o attr env whole = whole := by
  unfold attributeBase
  split
  · cases h
  · rfl

theorem EvOk.attr {value : Expr} {attr : Str} {pos : Pos} (TO : TopOk T) (hp : plainBase value = true)
    (he : EvOk T d sc ρ X value (fun o σ₁ => ∃ l c gs v C, o = .ref l ∧ σ₁[l]? = some (.inst c gs) ∧ gs.lookup attr = some v ∧ handV v = true ∧ ClsAt T c C ∧ PySem.W.findIn T.K (.ref C) attr = some Option.none ∧ Q v σ₁) σ) :
    EvOk T d sc ρ X (.Attribute value attr pos) Q σ := by
  intro env A fs F ι s hsc I
  rw [arm_eval_Attribute, base_plain hp]
  refine wpAny_bind (wpAny_mono (he env A fs F ι s hsc I) (fun x s₁ p => ?_) fun _ _ p => p)
  obtain ⟨o, σ₁, ι₁, ⟨l, c, gs, v, C, rfl, h1, h2, h3, h4, h5, q⟩, rv, rp, ex, g, oo⟩ := p
  have I₁ := I.ext ex rp g oo
  refine wpAny_bind (wpAny_standAt (wpAny_bind (wpAny_holding (wpAny_mono (attr_ok (ov := .none) TO I₁.st rv h1 h2 h3 h4 h5 q) (fun r s₂ p => ?_) fun _ _ p => p.trans ex))))
  exact wpAny_bind (wpAny_letTemporaryGo (wpAny_pure (p.trans ex)))

/-- what a built-in method of a kind is -/
structure MethFacts (ty : String) (name : Str) (id : String) : Prop where
  pa : PlainAttrs ty
  slot : Slot ty name id
  ty : typeOf (.builtin id) = pure (.type "method_descriptor")
def kindV (σ : Hp) : V → Option String
  | .str _ => some "str"
  | .ref l => (match σ[l]? with | some (.list _) => some "list" | some (.sdict _) => some "dict" | _ => none)
  | _ => none

/-- what o.name is, called -/
def Resolves (T : Tp) (σ : Hp) (ov : V) (name : Str) (f : V) : Prop :=
  (∃ l c gs C fa, ov = .ref l ∧ σ[l]? = some (.inst c gs) ∧ gs.lookup name = none ∧ ClsAt T c C ∧ f = .mth c name ∧ PySem.W.findIn T.K (.ref C) name = some (some (.ref fa)) ∧ PySem.W.typeIn T.K (.ref fa) = some (.type "function") ∧ PySem.W.keepIn T.K (.ref fa) = true) ∨
  (∃ id ty, f = .bi id ∧ kindV σ ov = some ty ∧ MethFacts ty name id)

set_option maxRecDepth 20000 in
theorem meth_ok {ov f : V} {x : Value} {name : Str} {pl : Sem Bool} {E : Value → Shared → Prop} {R : Value × List Value → Shared → Prop} (TO : TopOk T) (S : St T A fs d ι σ s) (r : VRel T ι s.heap ov x) (hr : Resolves T σ ov name f)
    (k : ∀ fv, VRel T ι s.heap f fv → (∀ h', T.K.In h' → ∃ k, (k = Keeper.frame ∨ k = Keeper.machine ∨ k = Keeper.boundFrame) ∧ PySem.W.Looks (model T.prog T.w) h' (keeperOf fv) k) → R (fv, [x]) s) : wpAny (model T.prog T.w) A (getMethod x name pl) R E s := by
  rcases hr with ⟨l, c, gs, C, fa, rfl, h1, h2, h3, rfl, h4, h5, h6⟩ | ⟨id, ty, rfl, h1, h2⟩
  · obtain ⟨a, dx, rfl, hι⟩ := r.ref_inv
    obtain ⟨sl, o, es, ep, g1, g2, IA, g3, g4, g5, g6⟩ := S.rep.inst_at h1 hι h3.addr
    have rv := g6 name
    rw [h2] at rv
    cases hm : nsFind es name with
    | some y => rw [hm] at rv; exact rv.elim
    | none =>
      refine PySem.W.method_fn (TO.X0.keeps S.rep.base) IA h3.ga h3.gx h4 h5 (by unfold PySem.W.shadowIn; simp only [lookIn_of g4 g5, hm]; rfl) (k _ ?_ fun h' X' => PySem.W.keeps_K h6 h' X')
      unfold VRel Tp.m
      rw [h3.addr, Option.bind_some, h4]; rfl
  · have hk : ∀ h', T.K.In h' → ∃ k, (k = Keeper.frame ∨ k = Keeper.machine ∨ k = Keeper.boundFrame) ∧ PySem.W.Looks (model T.prog T.w) h' (keeperOf (.builtin id)) k := fun h' _ =>
      ⟨.machine, .inr (.inl rfl), PySem.W.Looks.of_pure (by unfold keeperOf; rfl)⟩
    have rf : VRel T ι s.heap (.bi id) (.builtin id) := by unfold VRel; rfl
    cases ov <;> simp only [kindV, reduceCtorEq] at h1
    · cases h1
      obtain ⟨t, rfl⟩ := r.str_inv
      rename_i w0
      have hd0 : ∀ a, Value.str w0 t = .ref a → ∃ o, s.heap.get? a = some o ∧ o.dict = none := fun _ e => nomatch e
      have kk := k _ rf hk
      have hT : s.TypeIs (.str w0 t) "str" := rfl
      exact getMethod_builtin hT h2.pa h2.slot h2.ty hd0 kk
    · obtain ⟨a, dx, rfl, hι⟩ := r.ref_inv
      split at h1
      · rename_i vs hvs
        cases h1
        obtain ⟨items, n, hL, hv⟩ := S.rep.list_at hvs hι
        exact getMethod_builtin ⟨_, hL, rfl⟩ h2.pa h2.slot h2.ty (fun _ e => by cases e; exact ⟨_, hL, rfl⟩) (k _ rf hk)
      · rename_i kvs hvs
        cases h1
        obtain ⟨rvs, hd, hv, _⟩ := S.rep.sdict_at hvs hι
        exact getMethod_builtin hd.mapOf.typeIs h2.pa h2.slot h2.ty hd.mapOf.noDict (k _ rf hk)
      · cases h1

theorem EvOk.meth {o : Expr} {name : Str} {apos pos : Pos} {args : List Expr} (TO : TopOk T) (hp : plainBase o = true) (ns : noStar args = true) (hl : (apos.endLine == pos.line) = true) (hn : args.length < 30)
    (he : EvOk T d sc ρ X o (fun ov σ₁ => ∃ f, Resolves T σ₁ ov name f ∧ EvsOk T d sc ρ X args (fun vs σ₂ => CallOk T d X f (ov :: vs) Q σ₂) σ₁) σ) :
    EvOk T d sc ρ X (.Call (.Attribute o name apos) args [] pos) Q σ := by
  intro env A fs F ι s hsc I
  rw [arm_eval_Call, base_plain hp]
  refine wpAny_bind (wpAny_mono (he env A fs F ι s hsc I) (fun x s₁ p => ?_) fun _ _ p => p)
  obtain ⟨ov, σ₁, ι₁, ⟨f, hr, q⟩, rv, rp, ex, g, oo⟩ := p
  have I₁ := I.ext ex rp g oo
  refine wpAny_bind (wpAny_standAt ?_)
  rw [starEach_eq ns]
  have hform : methodCallForm (args.length + ([] : List Keyword).length) (args.map fun e => (false, eval e env)) (backToKw pos (keywordEach [] env)) = true := by
    show ((args.map fun e => (false, eval e env)).all (fun x => !x.1) && (backToKw pos (keywordEach [] env)).all (fun x => x.1.isSome) && decide (args.length + ([] : List Keyword).length + (if ([] : List Keyword).isEmpty then 0 else 1) < 30)) = true
    rw [show backToKw pos (keywordEach [] env) = [] from rfl]
    simp; omega
  have hpos : methodCallPos true o env apos pos = pure pos := by unfold methodCallPos; simp [hl]
  unfold methodCall
  rw [hform]
  refine wpAny_bind (wpAny_holding (meth_ok TO I₁.st rv hr fun fv rf hk => ?_))
  refine wpAny_bind (wpAny_of_eq hpos ?_)
  refine PySem.W.callWith_of (P := T.K.In) (by rw [show backToKw pos (keywordEach [] env) = [] from rfl]; simp) hk (evalArgs_list (wpAny_mono (q env A fs F ι₁ s₁ hsc I₁) (fun xs s₂ p => ?_) fun _ _ p => p.trans ex))
  obtain ⟨vs, σ₂, ι₂, q₂, rvs, rp₂, ex₂, g₂, o₂⟩ := p
  have I₂ := I₁.ext ex₂ rp₂ g₂ o₂
  refine ⟨TO.X0.keeps I₂.rep.base, ?_⟩
  refine wpAny_mono (q₂ A fs ι₂ s₂ fv (x :: xs) I₂.st (rf.mono ex₂.mono) ?_) (fun _ _ p => p.trans (ex.trans ex₂)) fun _ _ p => p.trans (ex.trans ex₂)
  show VRels T ι₂ s₂.heap (ov :: vs) (x :: xs)
  unfold VRels
  exact ⟨rv.mono ex₂.mono, rvs⟩
end
end Mine

namespace Mine
open PySem PySem.Calls PyProof.Rows PySem.SeqAt

/-- a key's value set, at its place or at the end -/
def setKV (kvs : List (Str × V)) (k : Str) (v : V) : List (Str × V) :=
  if kvs.any (fun kv => kv.1 = k) then kvs.map (fun kv => if kv.1 = k then (kv.1, v) else kv) else kvs ++ [(k, v)]

theorem lookup_any {α : Type} : ∀ (kvs : List (Str × α)) (k : Str), (kvs.lookup k).isSome = kvs.any fun kv => kv.1 = k
  | [], _ => rfl
  | (k', v) :: r, k => by
    rw [List.lookup_cons, List.any_cons]
    by_cases h : k = k'
    · subst h; simp
    · have h1 : (k == k') = false := beq_eq_false_iff_ne.mpr h
      have h2 : decide (k' = k) = false := decide_eq_false (Ne.symm h)
      rw [h1, h2]; simpa using lookup_any r k
theorem lookup_append {α : Type} : ∀ (a b : List (Str × α)) (k : Str), (a ++ b).lookup k = (a.lookup k).or (b.lookup k)
  | [], b, k => by simp
  | (k', v) :: r, b, k => by
    rw [List.cons_append, List.lookup_cons, List.lookup_cons]
    cases (k == k')
    · exact lookup_append r b k
    · simp
theorem lookup_map {v : V} {k : Str} : ∀ (kvs : List (Str × V)) (x : Str), (kvs.map fun kv => if kv.1 = k then (kv.1, v) else kv).lookup x = if x = k then (kvs.lookup k).map fun _ => v else kvs.lookup x
  | [], x => by simp
  | (k', w) :: r, x => by
    rw [List.map_cons]
    by_cases h : k' = k
    · subst h
      simp only [if_true, List.lookup_cons]
      by_cases hx : x = k'
      · subst hx; simp
      · rw [beq_eq_false_iff_ne.mpr hx, if_neg hx, lookup_map r x, if_neg hx]
    · simp only [h, if_false, List.lookup_cons]
      by_cases hx : x = k'
      · subst hx; simp [h]
      · rw [beq_eq_false_iff_ne.mpr hx, lookup_map r x, beq_eq_false_iff_ne.mpr (Ne.symm h)]
theorem setKV_lookup (kvs : List (Str × V)) (k x : Str) (v : V) : (setKV kvs k v).lookup x = if x = k then some v else kvs.lookup x := by
  unfold setKV
  have ha := lookup_any kvs k
  split
  · rename_i h
    rw [h] at ha
    rw [lookup_map]
    by_cases hx : x = k
    · rw [if_pos hx, if_pos hx]
      obtain ⟨w, hw⟩ := Option.isSome_iff_exists.mp ha
      rw [hw]; rfl
    · rw [if_neg hx, if_neg hx]
  · rename_i h
    rw [Bool.not_eq_true] at h
    rw [h] at ha
    have hn : kvs.lookup k = none := by cases q : kvs.lookup k with | none => rfl | some _ => rw [q] at ha; cases ha
    rw [lookup_append]
    by_cases hx : x = k
    · subst hx; rw [hn, if_pos rfl]; simp
    · rw [if_neg hx]
      have : ([(k, v)] : List (Str × V)).lookup x = none := by rw [List.lookup_cons, beq_eq_false_iff_ne.mpr hx]; rfl
      rw [this]; simp
theorem setKV_length (kvs : List (Str × V)) (k : Str) (v : V) : (setKV kvs k v).length = if (kvs.lookup k).isSome then kvs.length else kvs.length + 1 := by
  rw [lookup_any]; unfold setKV; split <;> simp

section
variable {T : Tp} {A : Around} {fs : List Env} {d : Nat} {env : Env} {F : List Addr} {ι ι' : Inj} {h h' : Heap} {s : Shared} {ρ : Loc} {σ : Hp} {sc : Scope} {X : XS} {Q : QS}

theorem KVRel.set {rvs : List (Str × Value)} {kvs : List (Str × V)} {k : Str} {v : V} {x : Value} (e : KVRel T ι h kvs rvs) (r : VRel T ι h v x) : KVRel T ι h (setKV kvs k v) (stored rvs k x) := by
  have hany : ∀ {kvs : List (Str × V)} {rvs : List (Str × Value)}, KVRel T ι h kvs rvs → (rvs.any fun kv => kv.1 = k) = (kvs.any fun kv => kv.1 = k) := by
    intro kvs rvs e
    induction kvs generalizing rvs with
    | nil => cases rvs with | nil => rfl | cons => exact e.elim
    | cons p q ih =>
      cases rvs with
      | nil => exact e.elim
      | cons p' q' => obtain ⟨k1, v1⟩ := p; obtain ⟨k2, x2⟩ := p'; obtain ⟨rfl, _, e3⟩ := e; simp [ih e3]
  unfold setKV stored
  rw [hany e]
  split
  · clear hany; rename_i hh; clear hh
    induction kvs generalizing rvs with
    | nil => cases rvs with | nil => trivial | cons => exact e.elim
    | cons p q ih =>
      cases rvs with
      | nil => exact e.elim
      | cons p' q' =>
        obtain ⟨k1, v1⟩ := p; obtain ⟨k2, x2⟩ := p'
        obtain ⟨rfl, e2, e3⟩ := e
        simp only [List.map_cons]
        by_cases hk : k1 = k
        · simp only [hk, if_true]; exact ⟨rfl, r, ih e3⟩
        · simp only [hk, if_false]; exact ⟨rfl, e2, ih e3⟩
  · clear hany; rename_i hh; clear hh
    induction kvs generalizing rvs with
    | nil => cases rvs with | nil => exact ⟨rfl, r, trivial⟩ | cons => exact e.elim
    | cons p q ih =>
      cases rvs with
      | nil => exact e.elim
      | cons p' q' => obtain ⟨k1, v1⟩ := p; obtain ⟨k2, x2⟩ := p'; obtain ⟨rfl, e2, e3⟩ := e; exact ⟨rfl, e2, ih e3⟩
theorem KVRel.length {rvs : List (Str × Value)} {kvs : List (Str × V)} (e : KVRel T ι h kvs rvs) : rvs.length = kvs.length := by
  induction kvs generalizing rvs with
  | nil => cases rvs with | nil => rfl | cons => exact e.elim
  | cons p q ih => cases rvs with | nil => exact e.elim | cons p' q' => simp [ih e.2.2]

/-- what a statement that turns one object of the mini heap leaves -/
theorem Inv.turned {l : Nat} {p : Addr × Addr} {o : MObj} {a : Addr} {ob ob' : Obj} {t : Nat} (I : Inv T A fs d env F ρ ι σ s) (hp : ι[l]? = some p) (hs : Heap.SameBut a s.heap h') (ha : a = p.1 ∨ a = p.2)
    (h1 : s.heap.get? a = some ob) (h2 : h'.get? a = some ob') (hc : ob'.cls = ob.cls) (hf : frozen ob = false) (ho : Mono ι s.heap ι h' → ORel T ι h' o p) :
    Inv T A fs d env F ρ ι (σ.set l o) { s with heap := h', toks := t } ∧ Ext T [] ι s.heap ι h' := by
  have hin : a ∈ own ι := mem_own.mpr ⟨p, List.mem_of_getElem? hp, ha⟩
  have e : Ext T [] ι s.heap ι h' := .of_sameBut hs h1 h2 hc hf (.inl hin)
  exact ⟨I.ext (s' := { s with heap := h', toks := t }) e (I.rep.turn hp e.mono hs ha (ho e.mono)) I.gens I.os, e⟩
theorem St.turned {l : Nat} {p : Addr × Addr} {o : MObj} {a : Addr} {ob ob' : Obj} {t : Nat} (I : St T A fs d ι σ s) (hp : ι[l]? = some p) (hs : Heap.SameBut a s.heap h') (ha : a = p.1 ∨ a = p.2)
    (h1 : s.heap.get? a = some ob) (h2 : h'.get? a = some ob') (hc : ob'.cls = ob.cls) (hf : frozen ob = false) (ho : Mono ι s.heap ι h' → ORel T ι h' o p) :
    St T A fs d ι (σ.set l o) { s with heap := h', toks := t } ∧ Ext T [] ι s.heap ι h' := by
  have hin : a ∈ own ι := mem_own.mpr ⟨p, List.mem_of_getElem? hp, ha⟩
  have e : Ext T [] ι s.heap ι h' := .of_sameBut hs h1 h2 hc hf (.inl hin)
  exact ⟨I.ext (s' := { s with heap := h', toks := t }) e (I.rep.turn hp e.mono hs ha (ho e.mono)) I.gens I.os, e⟩

theorem setAttr_ok {E : Value → Shared → Prop} {v : V} {x y : Value} {attr : Str} {l : Nat} {c : Str} {gs : List (Str × V)} {C : Addr} {R : Unit → Shared → Prop} (TO : TopOk T) (I : St T A fs d ι σ s) (r : VRel T ι s.heap (.ref l) x) (rv : VRel T ι s.heap v y)
    (hl : σ[l]? = some (.inst c gs)) (hc : ClsAt T c C) (ht : PySem.W.takerIn T.K C attr = some none) (hsz : gs.length < 1000)
    (k : ∀ h' t, St T A fs d ι (σ.set l (.inst c (setKV gs attr v))) { s with heap := h', toks := t } → Ext T [] ι s.heap ι h' → R () { s with heap := h', toks := t }) : wpAny (model T.prog T.w) A (setAttr x attr y) R E s := by
  obtain ⟨a, dx, rfl, hι⟩ := r.ref_inv
  obtain ⟨C', m, sl, c1, c2, hns, c4, c5⟩ := I.rep.objs l _ _ hl hι
  rw [hc.addr] at c1; cases c1
  have hns0 := hns
  obtain ⟨o, es, ep, d1, d2, d3, d4, d5, d6, d7⟩ := hns0
  have IA : PySem.W.InstAt s.heap a ⟨.ref C, some dx, .plain, sl⟩ C (some o) := ⟨c2, rfl, rfl, d1⟩
  have X₁ := TO.X0.keeps I.rep.base
  refine PySem.W.set_plain X₁ IA hc.sa ?_
  refine PySem.W.osa_open (s := { s with toks := s.toks + 1 }) X₁ IA hc.over ht fun b => ?_
  obtain ⟨cd, hcd, hdict⟩ := any_inv hc.dict
  refine wpAny_bind (wpAny_pure (wpAny_bind (wpAny_bind (wpAny_loadPart c2 (wpAny_bind ((PySem.W.looks_clsIn (M := model T.prog T.w) X₁ hcd).here (s := { s with toks := s.toks + 1 }) ?_))))))
  rw [hdict]
  refine wpAny_pure (a := some dx) (wpAny_bind (wpAny_pure (wpAny_bind ?_)))
  refine nsSetC (s := { s with toks := s.toks + 1 }) hns fun h' hn' hs hz => ?_
  have hz' := hz _ c5
  have hn0 := hn'
  obtain ⟨o', es', ep', e1, e2, e3, e4, _⟩ := hn0
  have hb := hz' o' es' ep' e1 e4
  refine wpAny_bind (wpAny_lookBehind (s := { s with heap := h', toks := s.toks + 1 + 1 }) e1 (by rw [e4]; exact pastItsLine_dict (by rw [sizeLine_eq]; split at hb <;> omega)) ?_)
  refine wpAny_pure ?_
  have hne : a ≠ dx := fun q => by rw [q, d1] at c2; cases c2; cases d4
  obtain ⟨S', ex⟩ := St.turned (t := s.toks + 1 + 1) (o := .inst c (setKV gs attr v)) I hι hs (.inr rfl) d1 e1 (e2.trans d2.symm) (by simp [frozen, d2]) fun mo =>
    ⟨C, _, sl, hc.addr, (hs.2 a hne).trans c2, hn', fun z => by
      rw [setKV_lookup]
      by_cases q : z = attr
      · rw [if_pos q, if_pos q]; exact rv.mono mo
      · rw [if_neg q, if_neg q]; exact (c4 z).mono mo, by
      rw [setKV_length]
      have : (gs.lookup attr).isSome = (m attr).isSome := by
        have := c4 attr
        cases q1 : gs.lookup attr <;> cases q2 : m attr <;> rw [q1, q2] at this <;> first | rfl | exact this.elim
      rw [this]; exact hz'⟩
  exact k h' _ S' ex

theorem StOk.setAttr {o value : Expr} {attr : Str} {pos' pos : Pos} (TO : TopOk T)
    (q : EvOk T d sc ρ (fun c σ => X c ρ σ) value (fun v σ₁ => EvOk T d sc ρ (fun c σ => X c ρ σ) o (fun ov σ₂ => ∃ l c gs C, ov = .ref l ∧ σ₂[l]? = some (.inst c gs) ∧ ClsAt T c C ∧ PySem.W.takerIn T.K C attr = some none ∧ gs.length < 1000 ∧
      Q .next ρ (σ₂.set l (.inst c (setKV gs attr v)))) σ₁) σ) (hc : noComp value = true ) :
    StOk T d sc ρ X (.Assign [.Attribute o attr pos'] value pos) Q σ := by
  intro env A fs F ι s hsc I
  refine plainObj_wpAny_Assign_Attribute (wpAny_mono (q env A fs F ι s hsc I) (fun y s₁ p => ?_) fun _ _ p => p.sx I fun _ _ k => k) (swaps_no hc)
  obtain ⟨v, σ₁, ι₁, q, rv, rp, ex, g, oo⟩ := p
  have I₁ := I.ext ex rp g oo
  refine wpAny_mono (q env A fs F ι₁ s₁ hsc I₁) (fun x s₂ p => ?_) fun _ _ p => (p.sx I₁ fun _ _ k => k).trans ex.up
  obtain ⟨ov, σ₂, ι₂, ⟨l, c, gs, C, rfl, h1, h2, h3, h4, q⟩, ro, rp₂, ex₂, g₂, o₂⟩ := p
  have I₂ := I₁.ext ex₂ rp₂ g₂ o₂
  refine setAttr_ok TO I₂.st ro (rv.mono ex₂.mono) h1 h2 h3 h4 fun h' t S' e' => ?_
  exact ⟨.next, ρ, _, ι₂, q, trivial, I₂.ext (s' := { s₂ with heap := h', toks := t }) e' S'.rep S'.gens S'.os, (ex.trans (ex₂.trans e')).up⟩

theorem StOk.setItem {o i value : Expr} {pos' pos : Pos} 
    (q : EvOk T d sc ρ (fun c σ => X c ρ σ) value (fun v σ₁ => EvOk T d sc ρ (fun c σ => X c ρ σ) o (fun ov σ₂ => EvOk T d sc ρ (fun c σ => X c ρ σ) i (fun iv σ₃ => ∃ l k kvs, ov = .ref l ∧ iv = .str k ∧ σ₃[l]? = some (.sdict kvs) ∧ kvs.length ≤ sizeLine ∧
      Q .next ρ (σ₃.set l (.sdict (setKV kvs k v)))) σ₂) σ₁) σ) (hc : noComp value = true ) :
    StOk T d sc ρ X (.Assign [.Subscript o i pos'] value pos) Q σ := by
  intro env A fs F ι s hsc I
  refine wpAny_Assign_Subscript (wpAny_mono (q env A fs F ι s hsc I) (fun y s₁ p => ?_) fun _ _ p => p.sx I fun _ _ k => k) (swaps_no hc)
  obtain ⟨v, σ₁, ι₁, q, rv, rp, ex, g, oo⟩ := p
  have I₁ := I.ext ex rp g oo
  refine wpAny_mono (q env A fs F ι₁ s₁ hsc I₁) (fun x s₂ p => ?_) fun _ _ p => (p.sx I₁ fun _ _ k => k).trans ex.up
  obtain ⟨ov, σ₂, ι₂, q, ro, rp₂, ex₂, g₂, o₂⟩ := p
  have I₂ := I₁.ext ex₂ rp₂ g₂ o₂
  refine wpAny_mono (q env A fs F ι₂ s₂ hsc I₂) (fun z s₃ p => ?_) fun _ _ p => (p.sx I₂ fun _ _ k => k).trans (ex.trans ex₂).up
  obtain ⟨iv, σ₃, ι₃, ⟨l, k, kvs, rfl, rfl, h1, h2, q⟩, ri, rp₃, ex₃, g₃, o₃⟩ := p
  have I₃ := I₂.ext ex₃ rp₃ g₃ o₃
  obtain ⟨a, dx, rfl, hι⟩ := (ro.mono ex₃.mono).ref_inv
  obtain ⟨t, rfl⟩ := ri.str_inv
  obtain ⟨hp, rvs, hd, hv⟩ := I₃.rep.objs l _ _ h1 hι
  cases hp
  refine wpAny_setItem_pairs (knd := PySem.strKind T.prog T.w) (k := k) (by simp [PySem.strKind, Value.isStrOf]) hd (fun h' hd' hs => ?_) (by rw [hv.length]; exact h2)
  have hd0 := hd; have hd1 := hd'
  obtain ⟨ob, es, ep, b1, b2, b3, _⟩ := hd0
  obtain ⟨ob', es', ep', b1', b2', b3', _⟩ := hd1
  obtain ⟨I₄, ex₄⟩ := Inv.turned (t := s₃.toks + 1) (o := .sdict (setKV kvs k v)) I₃ hι hs (.inl rfl) b1 b1' (b2'.1.trans b2.1.symm) (by simp [frozen, b2.1]) fun mo =>
    ⟨rfl, _, hd', (hv.mono mo).set ((rv.mono (ex₂.trans ex₃).mono).mono mo)⟩
  exact ⟨.next, ρ, _, ι₃, q, trivial, I₄, (ex.trans (ex₂.trans (ex₃.trans ex₄))).up⟩
end

section
variable {T : Tp} {A : Around} {fs : List Env} {d : Nat} {env : Env} {F : List Addr} {ι ι' : Inj} {h h' : Heap} {s : Shared} {ρ : Loc} {σ : Hp} {sc : Scope} {X : QX} {Q : QE}
theorem EvOk.dict {pos : Pos} (q : Q (.ref σ.length) (σ ++ [.sdict []])) : EvOk T d sc ρ X (.Dict [] [] pos) Q σ := by
  intro env A fs F ι s hsc I
  refine wpAny_Dict_empty ?_
  have hget : (s.heap.push { cls := .type "dict", data := .dict #[] }).get? s.heap.objs.size = some { cls := .type "dict", data := .dict #[] } := Heap.get?_push_size _ rfl
  have no : s.heap.objs.size ∉ own ι := fun z => absurd (I.rep.own_lt z) (Nat.lt_irrefl _)
  have e := Ext.push T [] ι s.heap { cls := .type "dict", data := .dict #[] }
  refine ⟨_, _, ι ++ [(s.heap.objs.size, s.heap.objs.size)], q, ?_, (I.rep.push _).more (p := (s.heap.objs.size, s.heap.objs.size)) ⟨rfl, [], ?_, trivial⟩ I.rep.size I.rep.size no no, ⟨⟨[(s.heap.objs.size, s.heap.objs.size)], rfl, by simp⟩, e.size, e.cls, e.frz, e.keep, e.frm⟩, I.gens, I.os⟩
  · unfold VRel; exact ⟨s.heap.objs.size, s.heap.objs.size, rfl, by rw [← I.rep.len]; simp⟩
  · exact ⟨_, #[], 0, hget, ⟨rfl, rfl, rfl⟩, rfl, fun _ h => by simp at h, .nil, by simp⟩

/-- C(..): a new object, then its __init__ -/
theorem CallOk.make {c : Str} {C fI : Addr} {args : List V} (TO : TopOk T) (hc : T.c c = some C) (hm : PySem.W.makesIn T.K C = true) (hi : PySem.W.findIn T.K (.ref C) "__init__" = some (some (.ref fI))) (ht : PySem.W.typeIn T.K (.ref fI) = some (.type "function"))
    (hb : CodeOk T d X (.mth c "__init__") (.ref σ.length :: args) (fun v σ' => v = .none ∧ Q (.ref σ.length) σ') (σ ++ [.inst c []])) : CallOk T (d + 1) X (.glob c) args Q σ := by
  intro A fs ι s fv xs S rf rxs
  have hg : T.g c = some (.ref C) := by
    unfold Tp.c at hc
    split at hc
    · rename_i hq; cases hc; exact hq
    · cases hc
  unfold VRel at rf
  rw [hg] at rf; cases rf
  have X₁ := TO.X0.keeps S.rep.base
  refine wpAny_call ?_
  obtain ⟨hh, gn, dr, tk, os⟩ := s
  refine PySem.W.make_core (PySem.W.makes_of X₁ hm) (PySem.W.looks_findIn X₁ hi) (fun self => PySem.W.bind_fn X₁ self ht) (.inl rfl) ?_
  have no : ∀ a, hh.objs.size ≤ a → a ∉ own ι := fun a ha q => absurd (S.rep.own_lt q) (Nat.not_lt.mpr ha)
  have e1 := Ext.push T [] ι hh PySem.W.emptyDict
  have e2 := Ext.push T [] ι (hh.push PySem.W.emptyDict) (PySem.W.instObj C hh.objs.size)
  have e0 := e1.trans e2
  have hd : ((hh.push PySem.W.emptyDict).push (PySem.W.instObj C hh.objs.size)).get? hh.objs.size = some PySem.W.emptyDict := Heap.get?_push_of_some _ (Heap.get?_push_size _ rfl)
  have hx : ((hh.push PySem.W.emptyDict).push (PySem.W.instObj C hh.objs.size)).get? (hh.objs.size + 1) = some (PySem.W.instObj C hh.objs.size) := by
    have := Heap.get?_push_size (hh.push PySem.W.emptyDict) (o := PySem.W.instObj C hh.objs.size) rfl
    rwa [Heap.size_push] at this
  have hsz : hh.objs.size ≤ hh.objs.size + 1 := by omega
  have R' : Rep T (ι ++ [(hh.objs.size + 1, hh.objs.size)]) (σ ++ [.inst c []]) ((hh.push PySem.W.emptyDict).push (PySem.W.instObj C hh.objs.size)) := by
    have R0 : Rep T ι σ hh := S.rep
    refine ((R0.push _).push _).more (p := (hh.objs.size + 1, hh.objs.size)) ⟨C, fun _ => none, #[], hc, hx, ⟨_, #[], 0, hd, rfl, rfl, rfl, fun e he => by simp at he, List.Pairwise.nil, fun _ => rfl⟩, fun _ => trivial, fun o es ep ho hdd => ?_⟩ (Nat.le_trans R0.size hsz) R0.size (no _ hsz) (no _ (Nat.le_refl _))
    rw [hd] at ho; cases ho; cases hdd; simp
  have eX : Ext T [] ι hh (ι ++ [(hh.objs.size + 1, hh.objs.size)]) ((hh.push PySem.W.emptyDict).push (PySem.W.instObj C hh.objs.size)) :=
    ⟨⟨[(hh.objs.size + 1, hh.objs.size)], rfl, by simp⟩, e0.size, e0.cls, e0.frz, e0.keep, e0.frm⟩
  have aok : AOk T (A.under (.builtin "type.__call__" ⟨.ref C :: xs, []⟩)) fs d (ι ++ [(hh.objs.size + 1, hh.objs.size)]) ((hh.push PySem.W.emptyDict).push (PySem.W.instObj C hh.objs.size)) := by
    have a0 := S.aok.ext eX (fun _ _ _ _ q => by simp at q)
    refine ⟨a0.frames, a0.funs, ?_, ?_, a0.hd⟩
    · have := S.aok.depth
      show A.depth + 1 + d ≤ _
      omega
    · have := S.aok.units
      show A.units + 1 + 10 * d + 50 ≤ _
      omega
  have rI : VRel T (ι ++ [(hh.objs.size + 1, hh.objs.size)]) ((hh.push PySem.W.emptyDict).push (PySem.W.instObj C hh.objs.size)) (.mth c "__init__") (.ref fI) := by
    unfold VRel Tp.m; rw [hc, Option.bind_some, hi]; rfl
  have rS : VRel T (ι ++ [(hh.objs.size + 1, hh.objs.size)]) ((hh.push PySem.W.emptyDict).push (PySem.W.instObj C hh.objs.size)) (.ref σ.length) (.ref (hh.objs.size + 1)) := by
    unfold VRel; exact ⟨hh.objs.size + 1, hh.objs.size, rfl, by rw [← S.rep.len]; simp⟩
  refine codeAny_mono (hb _ fs _ ⟨(hh.push PySem.W.emptyDict).push (PySem.W.instObj C hh.objs.size), gn, dr, tk, os⟩ (.ref fI) (.ref (hh.objs.size + 1) :: xs) ⟨R', aok, S.gens, S.os⟩ rI ?_) fun r s' z => ?_
  · show VRels T _ _ (_ :: _) (_ :: _)
    unfold VRels
    exact ⟨rS, rxs.mono eX.mono⟩
  · rcases r with e | (_ | _ | _ | v)
    · exact PostX.trans (T := T) (F := []) (X := X) eX z
    · exact z.elim
    · exact z.elim
    · exact z.elim
    · obtain ⟨w, σ', ι', ⟨rfl, q⟩, rw', rp, ex, g, o⟩ := z
      cases rw'.none_inv
      exact ⟨rfl, .ref σ.length, σ', ι', q, rS.mono ex.mono, rp, eX.trans ex, g, o⟩
end
end Mine

namespace Mine
open PySem PySem.Calls PyProof.Rows PySem.SeqAt

/-- the scope of a comprehension, in a function of scope sc -/
def relab (scope sc : Scope) : Scope :=
  { scope with names := scope.names.map fun (n, k) => if (k == .free && sc.kind == .function && sc.names.lookup n == some .cell) then (n, .cell) else (n, k) }
theorem relabel_eq (scope : Scope) (env : Env) : relabel scope env = relab scope env.scope := rfl
def compLoc (scope : Scope) (ρ : Loc) : Loc := fun x => if scope.names.lookup x = some .free then ρ x else none

def relK (sc : Scope) (n : Str) (k : NameKind) : NameKind := if (k == .free && sc.kind == .function && sc.names.lookup n == some .cell) then .cell else k
theorem relab_lookup {sc : Scope} : ∀ (names : List (Str × NameKind)) (x : Str),
    (names.map fun (n, k) => if (k == NameKind.free && sc.kind == .function && sc.names.lookup n == some .cell) then (n, NameKind.cell) else (n, k)).lookup x = (names.lookup x).map (relK sc x)
  | [], _ => rfl
  | (n, k) :: r, x => by
    have ih := relab_lookup (sc := sc) r x
    rw [List.map_cons, List.lookup_cons]
    have e : (if (k == NameKind.free && sc.kind == .function && sc.names.lookup n == some .cell) then (n, NameKind.cell) else (n, k)) = (n, relK sc n k) := by
      unfold relK; split <;> rfl
    dsimp only
    rw [e, List.lookup_cons]
    cases hx : x == n with
    | true => rw [beq_iff_eq.mp hx]; rfl
    | false => exact ih

def closeFrom (env : Env) : List (Str × NameKind) → List (Str × Addr) → List (Str × Addr)
  | [], acc => acc
  | (n, k) :: r, acc => if k == .free then (match env.cells.lookup n with | some c => closeFrom env r ((n, c) :: acc) | none => acc) else closeFrom env r acc

theorem closure_eq {env : Env} {scope : Scope} (h : ∀ x ∈ scope.names, x.2 = .free → (env.cells.lookup x.1).isSome = true) : closureFor scope env = pure (closeFrom env scope.names []) := by
  have : ∀ (names : List (Str × NameKind)) (acc : List (Str × Addr)), (∀ x ∈ names, x.2 = .free → (env.cells.lookup x.1).isSome = true) →
      (forIn names acc fun (x : Str × NameKind) (cs : List (Str × Addr)) => (if x.2 == NameKind.free then (do let a ← cellOf env x.1; pure (ForInStep.yield ((x.1, a) :: cs))) else pure (ForInStep.yield cs) : Sem (ForInStep (List (Str × Addr))))) = pure (closeFrom env names acc) := by
    intro names
    induction names with
    | nil => intro acc _; rfl
    | cons p r ih =>
      intro acc hp
      obtain ⟨n, k⟩ := p
      rw [List.forIn_cons]
      have hr : ∀ x ∈ r, x.2 = .free → (env.cells.lookup x.1).isSome = true := fun x hx => hp x (List.mem_cons_of_mem _ hx)
      by_cases hk : (k == NameKind.free) = true
      · obtain ⟨c, hc⟩ := Option.isSome_iff_exists.mp (hp (n, k) List.mem_cons_self (beq_iff_eq.mp hk))
        have hc' : env.cells.lookup n = some c := hc
        simp only [hk, if_true, closeFrom, hc']
        rw [show cellOf env n = pure c by unfold cellOf; rw [hc']]
        show (forIn r ((n, c) :: acc) _ : Sem _) = _
        exact ih _ hr
      · simp only [hk, closeFrom]
        show (forIn r acc _ : Sem _) = _
        exact ih _ hr
  unfold closureFor
  have e := this scope.names [] h
  show (forIn scope.names [] _ >>= fun cs => pure cs) = _
  have e2 : (forIn scope.names ([] : List (Str × Addr)) fun (x : Str × NameKind) (cs : List (Str × Addr)) => (match x with | (name, kind) => if (kind == NameKind.free) = true then do let __do_lift ← cellOf env name; pure (ForInStep.yield ((name, __do_lift) :: cs)) else pure (ForInStep.yield cs) : Sem (ForInStep (List (Str × Addr))))) = pure (closeFrom env scope.names []) := e
  first
    | (rw [e2]; rfl)
    | (simp only [bind_pure]; exact e2)
    | (simp only [bind_pure_comp, id_map']; exact e2)

theorem closeFrom_acc {env : Env} : ∀ (names : List (Str × NameKind)) (acc : List (Str × Addr)) (p : Str × Addr), (∀ x ∈ names, x.2 = .free → (env.cells.lookup x.1).isSome = true) → p ∈ acc → p ∈ closeFrom env names acc
  | [], _, _, _, h => h
  | (n, k) :: r, acc, p, hs, h => by
    have hr : ∀ x ∈ r, x.2 = .free → (env.cells.lookup x.1).isSome = true := fun x hx => hs x (List.mem_cons_of_mem _ hx)
    unfold closeFrom
    split
    · rename_i hk
      obtain ⟨c, hc⟩ := Option.isSome_iff_exists.mp (hs (n, k) List.mem_cons_self (beq_iff_eq.mp hk))
      rw [show env.cells.lookup n = some c from hc]
      exact closeFrom_acc r _ p hr (List.mem_cons_of_mem _ h)
    · exact closeFrom_acc r _ p hr h
theorem closeFrom_mem {env : Env} : ∀ (names : List (Str × NameKind)) (acc : List (Str × Addr)) (x : Str), (∀ x ∈ names, x.2 = .free → (env.cells.lookup x.1).isSome = true) → (x, NameKind.free) ∈ names → ∃ c, (x, c) ∈ closeFrom env names acc
  | (n, k) :: r, acc, x, hs, h => by
    have hr : ∀ x ∈ r, x.2 = .free → (env.cells.lookup x.1).isSome = true := fun x hx => hs x (List.mem_cons_of_mem _ hx)
    unfold closeFrom
    rcases List.mem_cons.mp h with e | h
    · obtain ⟨rfl, rfl⟩ := Prod.mk.inj e
      obtain ⟨c, hc⟩ := Option.isSome_iff_exists.mp (hs (x, .free) List.mem_cons_self rfl)
      rw [if_pos (show (NameKind.free == NameKind.free) = true from rfl), show env.cells.lookup x = some c from hc]
      exact ⟨c, closeFrom_acc r _ _ hr List.mem_cons_self⟩
    · split
      · rename_i hk
        obtain ⟨c, hc⟩ := Option.isSome_iff_exists.mp (hs (n, k) List.mem_cons_self (beq_iff_eq.mp hk))
        rw [show env.cells.lookup n = some c from hc]
        exact closeFrom_mem r _ x hr h
      · exact closeFrom_mem r _ x hr h
theorem closeFrom_val {env : Env} : ∀ (names : List (Str × NameKind)) (acc : List (Str × Addr)), (∀ p ∈ acc, env.cells.lookup p.1 = some p.2) → ∀ p ∈ closeFrom env names acc, env.cells.lookup p.1 = some p.2
  | [], _, h => h
  | (n, k) :: r, acc, h => by
    unfold closeFrom
    split
    · split
      · rename_i c hc
        exact closeFrom_val r _ fun p hp => by
          rcases List.mem_cons.mp hp with e | hp
          · cases e; exact hc
          · exact h p hp
      · exact h
    · exact closeFrom_val r _ h

theorem cellsFrom_append : ∀ (names : List (Str × NameKind)) (n : Nat) (acc cl : List (Str × Addr)), cellsFrom n names (acc ++ cl) = cellsFrom n names acc ++ cl
  | [], _, _, _ => rfl
  | (_, kind) :: r, n, acc, cl => by
    unfold cellsFrom
    split
    · rw [← List.cons_append]; exact cellsFrom_append r _ _ _
    · exact cellsFrom_append r _ _ _
theorem cellsFrom_names : ∀ (names : List (Str × NameKind)) (n : Nat) (acc : List (Str × Addr)) (p : Str × Addr), p ∈ cellsFrom n names acc → p ∈ acc ∨ (p.1, NameKind.cell) ∈ names
  | [], _, _, _, h => .inl h
  | (x, kind) :: r, n, acc, p, h => by
    unfold cellsFrom at h
    split at h
    · rename_i hk
      rcases cellsFrom_names r _ _ p h with h | h
      · rcases List.mem_cons.mp h with e | h
        · subst e; exact .inr (by rw [beq_iff_eq.mp hk]; exact List.mem_cons_self)
        · exact .inl h
      · exact .inr (List.mem_cons_of_mem _ h)
    · rcases cellsFrom_names r _ _ p h with h | h
      · exact .inl h
      · exact .inr (List.mem_cons_of_mem _ h)

/-- a comprehension's scope that can be walked in a function of scope sc -/
def compOk (scope sc : Scope) : Bool :=
  scope.kind == .function && decide ((scope.names.map (·.1)).Nodup) && scope.names.all fun p => p.2 != .free || (match sc.names.lookup p.1 with | some .cell | some .free => true | _ => false)

theorem nodup_kind {names : List (Str × NameKind)} (hn : (names.map (·.1)).Nodup) {x : Str} {k k' : NameKind} (h : (x, k) ∈ names) (h' : (x, k') ∈ names) : k = k' := by
  induction names with
  | nil => cases h
  | cons p r ih =>
    rw [List.map_cons, List.nodup_cons] at hn
    rcases List.mem_cons.mp h with e | h <;> rcases List.mem_cons.mp h' with e' | h'
    · rw [← e'] at e; exact (Prod.mk.inj e).2
    · exact absurd (List.mem_map.mpr ⟨(x, k'), h', by rw [← e]⟩) hn.1
    · exact absurd (List.mem_map.mpr ⟨(x, k), h, by rw [← e']⟩) hn.1
    · exact ih hn.2 h h'

section
variable {T : Tp} {A : Around} {fs : List Env} {d : Nat} {ι : Inj} {σ : Hp} {s : Shared} {sc : Scope} {env : Env} {F : List Addr} {ρ : Loc}

def cenvOf (scope : Scope) (env : Env) (L : Addr) : Env :=
  { scope := relab scope env.scope, locals := L, globals := env.globals, cells := cellsFrom (L + 1) scope.names (closeFrom env scope.names []), qual := env.qual, func := none, code := env.code, frame := env.frame, builtins := env.builtins }

theorem comp_frame {scope : Scope} (I : Inv T A fs d env F ρ ι σ s) (ok : compOk scope env.scope = true) (h₁ : Heap) (hh : h₁ = pushCells (s.heap.push { cls := .type "dict", data := .dict #[] }) scope.names) :
    closureFor scope env = pure (closeFrom env scope.names []) ∧ ∃ Fn, (∀ a ∈ Fn, s.heap.objs.size ≤ a) ∧ Inv T A fs d (cenvOf scope env s.heap.objs.size) (Fn ++ F) (compLoc scope ρ) ι σ { s with heap := h₁ } ∧ Ext T [] ι s.heap ι h₁ ∧
      (∀ x c, scope.names.lookup x = some .local ∨ scope.names.lookup x = some .cell → (cenvOf scope env s.heap.objs.size).cells.lookup x = some c → scope.names.lookup x = some .cell → c ∈ Fn) ∧ s.heap.objs.size ∈ Fn := by
  simp only [compOk, Bool.and_eq_true, beq_iff_eq, decide_eq_true_eq] at ok
  obtain ⟨⟨hk, hnd⟩, hfr⟩ := ok
  have outer : ∀ x, (x, NameKind.free) ∈ scope.names → env.kindOf x = some .cell ∨ env.kindOf x = some .free := fun x hx => by
    have := List.all_eq_true.mp hfr _ hx
    simp only [bne_self_eq_false, Bool.false_or] at this
    show env.scope.names.lookup x = _ ∨ env.scope.names.lookup x = _
    split at this
    · rename_i q; exact .inl q
    · rename_i q; exact .inr q
    · cases this
  have hcl : ∀ x ∈ scope.names, x.2 = .free → (env.cells.lookup x.1).isSome = true := fun x hx hf => by
    obtain ⟨x, k⟩ := x
    cases hf
    obtain ⟨c, _, _, e1, _⟩ := I.frm.cells x (outer x hx)
    show (env.cells.lookup x).isSome = true
    rw [e1]; rfl
  refine ⟨closure_eq hcl, ?_⟩
  subst hh
  have ok := cellsFrom_ok scope.names (s.heap.push { cls := .type "dict", data := .dict #[] }) (s.heap.objs.size + 1) [] ⟨fun _ _ hm => (nomatch hm), List.Pairwise.nil⟩ (by rw [Heap.size_push]; exact Nat.le_refl _)
  rw [Heap.size_push] at ok
  have keep : ∀ b o, s.heap.get? b = some o → (pushCells (s.heap.push { cls := .type "dict", data := .dict #[] }) scope.names).get? b = some o := fun b o e => pushCells_keeps _ _ b o (Heap.get?_push_of_some _ e)
  have hsz : s.heap.objs.size ≤ (pushCells (s.heap.push { cls := .type "dict", data := .dict #[] }) scope.names).objs.size := Nat.le_trans (by rw [Heap.size_push]; omega) (pushCells_size _ _)
  have hL := pushCells_keeps scope.names (s.heap.push { cls := .type "dict", data := .dict #[] }) _ _ (Heap.get?_push_size s.heap rfl)
  have no : ∀ a, s.heap.objs.size ≤ a → a ∉ own ι := fun a ha q => absurd (I.rep.own_lt q) (Nat.not_lt.mpr ha)
  have cellAt : ∀ x c, (x, c) ∈ cellsFrom (s.heap.objs.size + 1) scope.names [] → s.heap.objs.size + 1 ≤ c ∧ ∃ o, (pushCells (s.heap.push { cls := .type "dict", data := .dict #[] }) scope.names).get? c = some o ∧ o.cls = .type "cell" ∧ o.data = .cell none := fun x c hm => by
    obtain ⟨⟨o, g, gd⟩, hc⟩ := ok.empty x c hm
    exact ⟨hc, o, g, pushCells_cls _ _ c o g (by rw [Heap.size_push]; exact hc), gd⟩
  have csEq : (cenvOf scope env s.heap.objs.size).cells = cellsFrom (s.heap.objs.size + 1) scope.names [] ++ closeFrom env scope.names [] := cellsFrom_append scope.names _ [] _
  have kd : ∀ x, (cenvOf scope env s.heap.objs.size).kindOf x = (scope.names.lookup x).map (relK env.scope x) := fun x => relab_lookup scope.names x
  have ownL : ∀ x, scope.names.lookup x = some .cell → ∃ c, (cenvOf scope env s.heap.objs.size).cells.lookup x = some c ∧ (x, c) ∈ cellsFrom (s.heap.objs.size + 1) scope.names [] := fun x hx => by
    obtain ⟨c, hc⟩ := cellsFrom_mem scope.names (s.heap.objs.size + 1) [] x (mem_of_lookup hx)
    obtain ⟨c', hc'⟩ := lookup_of_mem hc
    refine ⟨c', ?_, mem_of_lookup hc'⟩
    rw [csEq, lookup_append, hc']; rfl
  have freeL : ∀ x, scope.names.lookup x = some .free → (cenvOf scope env s.heap.objs.size).cells.lookup x = env.cells.lookup x := fun x hx => by
    have hm := mem_of_lookup hx
    have h1 : (cellsFrom (s.heap.objs.size + 1) scope.names []).lookup x = none := by
      cases q : (cellsFrom (s.heap.objs.size + 1) scope.names []).lookup x with
      | none => rfl
      | some c =>
        rcases cellsFrom_names _ _ _ _ (mem_of_lookup q) with z | z
        · cases z
        · cases nodup_kind hnd hm z
    obtain ⟨c, hc⟩ := closeFrom_mem scope.names [] x hcl hm
    obtain ⟨c', hc'⟩ := lookup_of_mem hc
    rw [csEq, lookup_append, h1, hc']
    exact (closeFrom_val scope.names [] (fun _ h => by cases h) _ (mem_of_lookup hc')).symm
  have orig : ∀ x, ((cenvOf scope env s.heap.objs.size).kindOf x = some .cell ∨ (cenvOf scope env s.heap.objs.size).kindOf x = some .free) → scope.names.lookup x = some .cell ∨ scope.names.lookup x = some .free := fun x hx => by
    rw [kd] at hx
    cases q : scope.names.lookup x with
    | none => rw [q] at hx; rcases hx with hx | hx <;> cases hx
    | some k =>
      rw [q] at hx
      have h3 : relK env.scope x k = .cell ∨ relK env.scope x k = .free := hx.imp (fun z => by simpa using z) (fun z => by simpa using z)
      by_cases q2 : k = .free
      · subst q2; exact .inr rfl
      · have h4 : relK env.scope x k = k := by
          unfold relK
          have : (k == NameKind.free) = false := by simpa using q2
          rw [this]; rfl
        rw [h4] at h3
        rcases h3 with h3 | h3
        · exact .inl (by rw [h3])
        · exact absurd h3 q2
  have e0 : Ext T [] ι s.heap ι (pushCells (s.heap.push { cls := .type "dict", data := .dict #[] }) scope.names) := .of_keeps hsz keep
  have I0 := I.grown hsz keep
  have Fge : ∀ a ∈ (s.heap.objs.size :: (cellsFrom (s.heap.objs.size + 1) scope.names []).map (·.2)), s.heap.objs.size ≤ a := fun a ha => by
    rcases List.mem_cons.mp ha with rfl | ha
    · exact Nat.le_refl _
    · obtain ⟨⟨x, c⟩, hm, rfl⟩ := List.mem_map.mp ha
      exact Nat.le_of_succ_le (cellAt x c hm).1
  refine ⟨s.heap.objs.size :: (cellsFrom (s.heap.objs.size + 1) scope.names []).map (·.2), Fge, ⟨I0.rep, I0.aok, ?_, I0.top, I0.gens, I0.os⟩, e0, fun x c _ hc hx => ?_, List.mem_cons_self⟩
  · refine ⟨hk, I.frm.glb, I.frm.blt, ⟨"dict", fun _ => none, ⟨.inr rfl, fun _ => rfl⟩, ⟨_, #[], 0, hL, rfl, rfl, rfl, fun e he => by simp at he, List.Pairwise.nil, fun _ => rfl⟩, fun x hx => ?_⟩, fun x hx => ?_, fun x y c hx hy h1 h2 => ?_, List.mem_append_left _ List.mem_cons_self, fun x c hx hc => ?_, fun a ha => ?_, fun a ha => ?_⟩
    · have : compLoc scope ρ x = none := by
        unfold compLoc
        rw [if_neg]
        intro q
        rw [kd, q] at hx
        unfold relK at hx
        simp only [Option.map_some, Option.some.injEq] at hx
        split at hx <;> cases hx
      rw [this]; trivial
    · rcases orig x hx with q | q
      · obtain ⟨c, hc, hm⟩ := ownL x q
        obtain ⟨g1, o, g2, g3, g4⟩ := cellAt x c hm
        refine ⟨c, o, none, hc, g2, g3, g4, ?_, no c (Nat.le_of_succ_le g1)⟩
        have : compLoc scope ρ x = none := by unfold compLoc; rw [if_neg (by rw [q]; simp)]
        rw [this]; trivial
      · obtain ⟨c, o, v, f1, f2, f3, f4, f5, f6⟩ := I0.frm.cells x (outer x (mem_of_lookup q))
        refine ⟨c, o, v, (freeL x q).trans f1, f2, f3, f4, ?_, f6⟩
        unfold compLoc; rw [if_pos q]; exact f5
    · rcases orig x hx with q | q <;> rcases orig y hy with q' | q'
      · obtain ⟨c1, e1, m1⟩ := ownL x q
        obtain ⟨c2, e2, m2⟩ := ownL y q'
        rw [h1] at e1; cases e1; rw [h2] at e2; cases e2
        exact name_of_addr ok.apart m1 m2
      · exfalso
        obtain ⟨c1, e1, m1⟩ := ownL x q
        rw [h1] at e1; cases e1
        rw [freeL y q'] at h2
        obtain ⟨c', o, v, f1, f2, _⟩ := I.frm.cells y (outer y (mem_of_lookup q'))
        rw [h2] at f1; cases f1
        exact absurd (Heap.lt_size f2) (Nat.not_lt.mpr (Nat.le_of_succ_le (cellAt x _ m1).1))
      · exfalso
        obtain ⟨c1, e1, m1⟩ := ownL y q'
        rw [h2] at e1; cases e1
        rw [freeL x q] at h1
        obtain ⟨c', o, v, f1, f2, _⟩ := I.frm.cells x (outer x (mem_of_lookup q))
        rw [h1] at f1; cases f1
        exact absurd (Heap.lt_size f2) (Nat.not_lt.mpr (Nat.le_of_succ_le (cellAt y _ m1).1))
      · rw [freeL x q] at h1; rw [freeL y q'] at h2
        exact I.frm.inj x y c (outer x (mem_of_lookup q)) (outer y (mem_of_lookup q')) h1 h2
    · rcases orig x (.inl hx) with q | q
      · obtain ⟨c1, e1, m1⟩ := ownL x q
        rw [hc] at e1; cases e1
        exact List.mem_append_left _ (List.mem_cons_of_mem _ (List.mem_map.mpr ⟨_, m1, rfl⟩))
      · rw [freeL x q] at hc
        have : env.kindOf x = some .cell := by
          rw [kd, q] at hx
          unfold relK at hx
          simp only [Option.map_some, Option.some.injEq] at hx
          split at hx
          · rename_i z
            simp only [Bool.and_eq_true, beq_iff_eq] at z
            exact z.2
          · cases hx
        exact List.mem_append_right _ (I.frm.cin x c this hc)
    · rcases List.mem_append.mp ha with ha | ha
      · exact ⟨no a (Fge a ha), Nat.le_trans I.rep.size (Fge a ha)⟩
      · exact I0.frm.apart a ha
    · rcases List.mem_append.mp ha with ha | ha
      · rcases List.mem_cons.mp ha with rfl | ha
        · exact ⟨_, hL, rfl, rfl⟩
        · obtain ⟨⟨x, c⟩, hm, rfl⟩ := List.mem_map.mp ha
          obtain ⟨_, o, g2, g3, _⟩ := cellAt x c hm
          exact ⟨o, g2, by simp [frozen, g3], by simp [iterish, g3]⟩
      · exact I0.frm.there a ha
  · obtain ⟨c1, e1, m1⟩ := ownL x hx
    rw [hc] at e1; cases e1
    exact List.mem_cons_of_mem _ (List.mem_map.mpr ⟨_, m1, rfl⟩)
end
end Mine

namespace Mine
open PySem PySem.Calls PyProof.Rows PySem.SeqAt

/-- the conditions of a comprehension -/
def IfsOk (T : Tp) (d : Nat) (sc : Scope) (ρ : Loc) (X : QX) : List Expr → (Bool → Hp → Prop) → Hp → Prop
  | [], Q, σ => Q true σ
  | [c], Q, σ => TsOk T d sc ρ X c Q σ
  | _, _, _ => False

theorem lookup_nodup {names : List (Str × NameKind)} (hn : (names.map (·.1)).Nodup) {x : Str} {k : NameKind} (h : (x, k) ∈ names) : names.lookup x = some k := by
  obtain ⟨k', hk'⟩ := lookup_of_mem h
  rw [hk', nodup_kind hn (mem_of_lookup hk') h]

theorem isStore_relab {scope sc : Scope} {x : Str} (h : isStore scope x = true) : isStore (relab scope sc) x = true := by
  unfold isStore at h ⊢
  have e : (relab scope sc).names.lookup x = (scope.names.lookup x).map (relK sc x) := relab_lookup scope.names x
  rw [e]
  split at h
  · rename_i q; rw [q]; rfl
  · rename_i q; rw [q]; rfl
  · cases h

section
variable {T : Tp} {A : Around} {fs : List Env} {d : Nat} {env : Env} {F : List Addr} {ι ι' : Inj} {h h' : Heap} {s : Shared} {ρ : Loc} {σ : Hp} {sc : Scope} {X : QX} {Q : QE}

/-- an object that neither the mini heap nor the frame knows has turned -/
theorem Inv.side {a : Addr} {o : Obj} {t : Nat} (I : Inv T A fs d env F ρ ι σ s) (hs : Heap.SameBut a s.heap h') (ho : s.heap.get? a = some o) (hl : loose o = true) (hf : frozen o = false) (hc : o.cls ≠ .type "cell") (hn : a ∉ own ι) (hF : a ∉ F) (hb : T.b0.objs.size ≤ a) :
    Inv T A fs d env F ρ ι σ { s with heap := h', toks := t } := by
  have hk : ∀ b o, b ≠ a → s.heap.get? b = some o → h'.get? b = some o := fun b o q e => (hs.2 b q).trans e
  have m : Mono ι s.heap ι h' := .but hk ⟨o, ho, hl, hf⟩ ι
  refine ⟨I.rep.keeps m (Nat.le_of_eq hs.1.symm) (fun b z e => hk b z (fun q => absurd (Heap.lt_size e) (Nat.not_lt.mpr (q ▸ hb))) (I.rep.base b z e)) fun b hb z e => hk b z (fun q => hn (q ▸ hb)) e, ⟨I.aok.frames, fun e he => ?_, I.aok.depth, I.aok.units, I.aok.hd⟩, ⟨I.frm.kind, I.frm.glb, I.frm.blt, ?_, fun x hx => ?_, I.frm.inj, I.frm.loc, I.frm.cin, I.frm.apart, fun b hb => ?_⟩, I.top, I.gens, I.os⟩
  · obtain ⟨k, L, ob, es, ep, f, n, b, g, c, dd⟩ := I.aok.funs e he
    exact ⟨k, L, ob, es, ep, f, n, b, hk L ob (fun q => by rw [q, ho] at g; cases g; simp [loose, c] at hl) g, c, dd⟩
  · obtain ⟨c, mm, hcc, hN, r⟩ := I.frm.ns
    exact ⟨c, mm, hcc, hN.of_slots fun ob e => ⟨ob.slots, hk _ ob (fun q => hF (q ▸ I.frm.loc)) e⟩, fun y hy => (r y hy).mono m⟩
  · obtain ⟨c, ob, v, e1, e2, e3, e4, e5, e6⟩ := I.frm.cells x hx
    exact ⟨c, ob, v, e1, hk c ob (fun q => by rw [q, ho] at e2; cases e2; exact hc e3) e2, e3, e4, e5.mono m, e6⟩
  · obtain ⟨ob, g1, g2, g3⟩ := I.frm.there b hb
    exact ⟨ob, hk b ob (fun q => hF (q ▸ hb)) g1, g2, g3⟩

theorem appendL {E : Value → Shared → Prop} {D : Addr} {items : Array Value} {n : Nat} {x : Value} {R : Value → Shared → Prop} (hL : IsL s.heap D items n) (hsz : items.size ≤ sizeLine)
    (k : ∀ h' m, IsL h' D (items.push x) m → Heap.SameBut D s.heap h' → R .none { s with heap := h' }) : wpAny (model T.prog T.w) A (call (.builtin "list.append") [.ref D, x]) R E s := by
  refine call_meets F.slot_list_append ⟨_, hL, rfl⟩ F.entry_list_append (F.args_list_append_2 _ _) (list_append D items n x hsz) ⟨hL, ?_⟩
  refine k _ _ (Heap.get?_update_self _ hL rfl) (Heap.SameBut.update ..)

theorem iterSelf {E : Value → Shared → Prop} {v : V} {It : Addr} {i : Nat} {R : Value → Shared → Prop} (it : ItAt T ι s.heap v It i) (k : R (.ref It) s) : wpAny (model T.prog T.w) A (pyIter (.ref It)) R E s := by
  unfold ItAt at it
  split at it
  · obtain ⟨_, _, _, _, _, it⟩ := it; exact wpAny_pyIter_tupleiter it k
  · obtain ⟨_, _, _, it⟩ := it; exact wpAny_pyIter_listiter it k
  · obtain ⟨_, it | it⟩ := it
    · exact wpAny_pyIter_striter_ascii it k
    · exact wpAny_pyIter_striter_wide it k
  · exact wpAny_pyIter_rangeiter it k
  · exact it.elim

/-- behind a comprehension's own exception: what its letting go may turn -/
theorem passOn_ok {L : Addr} {ea : Addr} {c : Str} {σ' : Hp} {s' : Shared} {cenv cenv' : Env} {Fc : List Addr} {ρ' : Loc} (hb : T.b0.objs.size ≤ h.objs.size) (f : FlyT T h.objs.size ea c s'.heap) (hn : ea ∉ own ι') (I : Inv T A fs d cenv Fc ρ' ι' σ' s') (e : Ext T [] ι h ι' s'.heap) (x : X c σ')
    (hL : cenv.locals = L) (hs : Heap.SameBut L s'.heap h') (hd : L ∉ frs fs) (hl : h.objs.size ≤ L) (hnf : cenv.frame ≠ some cenv.locals) : wpAny (model T.prog T.w) A (PySem.passOn "comprehension.variables-let-go" (.ref ea) cenv' : Sem Value) (fun _ _ => False) (PostX T [] X ι h) { s' with heap := h' } := by
  subst hL
  obtain ⟨cl, mm, hc, hN, _⟩ := I.frm.ns
  obtain ⟨oL, es, ep, l1, l2, l3, l4, _⟩ := hN
  have hk : ∀ b o, b ≠ cenv.locals → s'.heap.get? b = some o → h'.get? b = some o := fun b o q e => (hs.2 b q).trans e
  have f₀ := f
  obtain ⟨C, oe, vs, v, f1, f2, f3, f4, f5, f6, f7, f8, tb, ot, ts, rfl, t2, t3, t4, t5, t6, t7⟩ := f
  have ne1 : ea ≠ cenv.locals := fun q => by rw [q, l1] at f3; cases f3; rw [l4] at f5; cases f5
  have ne2 : tb ≠ cenv.locals := fun q => by rw [q, l1] at t4; cases t4; rw [l4] at t6; cases t6
  have f' : FlyT T h.objs.size ea c h' := ⟨C, oe, vs, _, f1, f2, hk _ _ ne1 f3, f4, f5, f6, f7, f8, tb, ot, ts, rfl, t2, t3, hk _ _ ne2 t4, t5, t6, t7⟩
  have ap := I.frm.apart _ I.frm.loc
  obtain ⟨o₂, q1, q2, _⟩ := I.frm.there _ I.frm.loc
  rw [l1] at q1; cases q1
  have S : ∀ a ∈ frs fs, a ∉ own ι' ∧ T.b0.objs.size ≤ a ∧ ∃ o, h'.get? a = some o ∧ o.cls = .type "frame" := fun a ha => by
    obtain ⟨a1, a2, o, _, _, a3, a4, _⟩ := I.aok.mem ha
    exact ⟨a1, a2, o, hk a o (fun q => hd (q ▸ ha)) a3, a4⟩
  have hns : ∀ b, b ≠ cenv.locals → h'.get? b = s'.heap.get? b := fun b q => hs.2 b q
  have q := hc.2 hnf
  have m : Mono ι' s'.heap ι' h' := .but hk ⟨_, l1, by simp [loose, l2, q], q2⟩ ι'
  unfold PySem.passOn
  refine wpAny_bind (wpAny_field (s := { s' with heap := h' }) (hk _ _ ne1 f3) f5 f8 ?_)
  rw [if_neg (by simp)]
  refine wpAny_bind (flight_ok (S := frs fs) (s := { s' with heap := h' }) f' fun h'' t f'' => wpAny_throw ?_)
  have R' : Rep T ι' σ' h' := I.rep.keeps m (Nat.le_of_eq hs.1.symm) (fun b z e => hk b z (fun q => absurd (Heap.lt_size e) (Nat.not_lt.mpr (q ▸ ap.2))) (I.rep.base b z e)) fun b hb z e => hk b z (fun q => ap.1 (q ▸ hb)) e
  have e' : Ext T [] ι h ι' h' := e.free hk (Nat.le_of_eq hs.1.symm) hl
  exact ⟨ea, c, σ', ι', rfl, x, f''.fly, hn, R'.touch t S ⟨oe, C, hk _ _ ne1 f3, f4⟩ hn hb f2, e'.touch t (fun a ha => (S a ha).2.2) f2, I.gens, I.os⟩
end
end Mine

namespace Mine
open PySem PySem.Calls PyProof.Rows PySem.SeqAt

section
variable {T : Tp} {A : Around} {fs : List Env} {d : Nat} {env : Env} {F : List Addr} {ι ι' : Inj} {h h' : Heap} {s : Shared} {ρ : Loc} {σ : Hp} {sc : Scope} {X : QX} {Q : QE}

theorem comp_raise {cenv : Env} {Fc : List Addr} {ρ' : Loc} {ι₂ : Inj} {σ₂ : Hp} {s₂ s₃ : Shared} {x acc : Value} {R : Value → Shared → Prop} {use : Option (Value → Sem Unit)} {EE : Value → Shared → Prop} (hE : ∀ x s', PostX T [] X ι h x s' → EE x s') (hb : T.b0.objs.size ≤ h.objs.size) (I₂ : Inv T A fs d cenv Fc ρ' ι₂ σ₂ s₂) (e₂ : Ext T [] ι h ι₂ s₂.heap) (p : PostX T [] X ι₂ s₂.heap x s₃)
    (hd : cenv.locals ∉ frs fs) (hl : h.objs.size ≤ cenv.locals) (hnf : cenv.frame ≠ some cenv.locals) :
    notedBy (model T.prog T.w) A cenv (fun e s' => compPost (model T.prog T.w) A EE use R acc cenv.locals (.error e) s') x s₃ := by
  obtain ⟨ea, c, σ₃, ι₃, rfl, hx, f, n, rp, e', g, o⟩ := p
  have I₃ := I₂.ext e' rp g o
  have e₃ := e₂.trans e'
  have f₃ := f.lo e₂.size
  have hle : h.objs.size ≤ ea := by obtain ⟨_, _, _, _, _, q, _⟩ := f₃; exact q
  unfold notedBy
  refine note_ok I₃ f₃ e₃.size fun h₄ t f₄ => ?_
  have I₄ := I₃.touch t f₃ n hb hle
  have e₄ := e₃.touch t (fun a ha => let ⟨_, _, o, _, _, g, gc, _⟩ := I₃.aok.mem ha; ⟨o, g, gc⟩) hle
  obtain ⟨cl, mm, hc, hN, _⟩ := I₄.frm.ns
  have key : ∃ m, h₄.Ns cenv.locals m ∧ ∀ h', Heap.SameBut cenv.locals h₄ h' → ∀ cenv' : Env, cenv'.locals = cenv.locals → wpAny (model T.prog T.w) A (PySem.passOn "comprehension.variables-let-go" (.ref ea) cenv' : Sem Value) (fun _ _ => False) EE { s₃ with heap := h' } :=
    ⟨mm, hN.ns, fun h₅ hs cenv' _ => wpAny_mono (passOn_ok (s' := { s₃ with heap := h₄ }) hb f₄ n I₄ e₄ hx rfl hs hd hl hnf) (fun _ _ f => f) fun x s' p => hE x s' p⟩
  cases use <;> exact key

theorem ifs_ok {E : Value → Shared → Prop} {cenv : Env} {Fc : List Addr} {ifs : List Expr} {Q' : Bool → Hp → Prop} {R : Bool → Shared → Prop} (hsc : cenv.scope = sc) (I : Inv T A fs d cenv Fc ρ ι σ s) (hi : IfsOk T d sc ρ X ifs Q' σ)
    (k : ∀ b s', PostB T Q' ι s.heap b s' → R b s') (kx : ∀ x s', PostX T [] X ι s.heap x s' → E x s') :
    wpAny (model T.prog T.w) A (forIn ifs true fun c r => if r = true then do let ok ← isTrue c cenv (eval c cenv); pure (ForInStep.yield ok) else pure (ForInStep.yield r)) R E s := by
  unfold IfsOk at hi
  split at hi
  · rw [List.forIn_nil]; exact wpAny_pure (k _ _ ⟨σ, ι, hi, I.rep, .refl .., I.gens, I.os⟩)
  · rw [List.forIn_cons, if_pos rfl]
    refine wpAny_bind (wpAny_bind (wpAny_mono (hi cenv A fs Fc ι s hsc I) (fun b s' p => wpAny_pure ?_) fun x s' p => kx x s' p))
    show wpAny _ _ (forIn [] b _) _ _ _
    rw [List.forIn_nil]; exact wpAny_pure (k _ _ p)
  · exact hi.elim

theorem upd_upd {ρ ρ' : Loc} {x : Str} {v : Option V} (h : ∀ y, y ≠ x → ρ' y = ρ y) : upd ρ' x v = upd ρ x v := by
  funext y; unfold upd; split
  · rfl
  · rename_i q; exact h y q

/-- what is known of the names of a comprehension at its end -/
structure LetGo (T : Tp) (F : List Addr) (ι : Inj) (h₀ h : Heap) (L : Addr) : Prop where
  no : L ∉ own ι
  nF : L ∉ F
  b : T.b0.objs.size ≤ L
  lo : h₀.objs.size ≤ L
  dict : ∃ m, NsC h L "dict" m

theorem comp_core {elt iter : Expr} {x : Str} {px pos : Pos} {ifs : List Expr} {scope : Scope} {use : Option (Value → Sem Unit)} {RR : Value → Shared → Prop} {EE : Value → Shared → Prop} (I : Inv T A fs d env F ρ ι σ s) (hok : compOk scope env.scope = true) (hx : isStore scope x = true) (hs : noSet iter = true)
    (he : EvOk T d env.scope ρ X iter (fun v σ₁ => ∃ (items : List V) (J : Nat → List V → Hp → Prop), J 0 [] σ₁ ∧ (∀ i acc σ, J i acc σ → iterV σ v = some items ∧ acc.length ≤ sizeLine) ∧ (∀ acc σ, J items.length acc σ → Q (.ref σ.length) (σ ++ [.list acc])) ∧
      ∀ i y acc σ, J i acc σ → items[i]? = some y → IfsOk T d (relab scope env.scope) (upd (compLoc scope ρ) x (some y)) X ifs (fun b σ' => if b then EvOk T d (relab scope env.scope) (upd (compLoc scope ρ) x (some y)) X elt (fun z σ'' => J (i + 1) (acc ++ [z]) σ'') σ' else J (i + 1) acc σ') σ) σ)
    (hfin : ∀ v σ₂ ι₂ s₂ D L, Q v σ₂ → Inv T A fs d env F ρ ι₂ σ₂ s₂ → VRel T ι₂ s₂.heap v (.ref D) → Ext T [] ι s.heap ι₂ s₂.heap → LetGo T F ι₂ s.heap s₂.heap L → compPost (model T.prog T.w) A EE use RR (.ref D) L (.ok .next) s₂)
    (hE : ∀ x s', PostX T [] X ι s.heap x s' → EE x s') :
    wpAny (model T.prog T.w) A (comprehension (.ListComp elt [⟨.Name x px, iter, ifs, 0⟩] scope pos) scope env (firstIterPos [⟨.Name x px, iter, ifs, 0⟩] pos) (newList []) (firstAsync [⟨.Name x px, iter, ifs, 0⟩]) (firstIter [⟨.Name x px, iter, ifs, 0⟩] env) use) RR EE s := by
  obtain ⟨hclos, _⟩ := comp_frame I hok _ rfl
  have hok' := hok
  simp only [compOk, Bool.and_eq_true, beq_iff_eq, decide_eq_true_eq] at hok'
  obtain ⟨⟨hkind, hnd⟩, _⟩ := hok'
  refine wpAny_comprehension_free (use := use) (cl := closeFrom env scope.names []) rfl (fun _ => folded_no hs) hclos hkind (fun y hy hl => by obtain ⟨n, k⟩ := y; cases hl; exact lookup_nodup hnd hy) ?_
  show wpAny _ A (eval iter env) _ _ s
  refine wpAny_mono (he env A fs F ι s rfl I) (fun xv s₁ p => ?_) fun _ _ p => hE _ _ p
  obtain ⟨v, σ₁, ι₁, ⟨items, J, j0, jit, jend, jturn⟩, rv, rp, ex, g, o⟩ := p
  have I₁ := I.ext ex rp g o
  refine iter_ok I₁.rep rv (jit 0 [] σ₁ j0).1 fun ob it0 => ?_
  refine wpAny_newList ?_
  dsimp only
  generalize hH2 : s₁.heap.push ob = H2 at it0 ⊢
  have sz2 : H2.objs.size = s₁.heap.objs.size + 1 := by rw [← hH2, Heap.size_push]
  generalize hH3 : H2.push { cls := .type "list", data := .seq ([] : List Value).toArray } = H3
  have sz3 : H3.objs.size = H2.objs.size + 1 := by rw [← hH3, Heap.size_push]
  have k12 : ∀ b o, s₁.heap.get? b = some o → H2.get? b = some o := fun b o e => by rw [← hH2]; exact Heap.get?_push_of_some _ e
  have k23 : ∀ b o, H2.get? b = some o → H3.get? b = some o := fun b o e => by rw [← hH3]; exact Heap.get?_push_of_some _ e
  have hD : IsL H3 H2.objs.size #[] 0 := by rw [← hH3]; exact IsL.new H2 #[]
  have I₃ : Inv T A fs d env F ρ ι₁ σ₁ { s₁ with heap := H3 } := I₁.grown (by rw [sz3, sz2]; omega) fun b o e => k23 b o (k12 b o e)
  have e13 : Ext T [] ι₁ s₁.heap ι₁ H3 := .of_keeps (by rw [sz3, sz2]; omega) fun b o e => k23 b o (k12 b o e)
  simp only [newFunctionEnv, Option.isSome_some, if_true]
  refine wpAny_bind (wpAny_alloc ?_)
  refine wpAny_bind (wpAny_layCells _ (fun name kind cells => by cases hkc : kind == NameKind.cell <;> simp [hkc]) _ _ _ _ ?_)
  obtain ⟨_, Fn, hFn, I₄, e34, hcell, hLF⟩ := comp_frame I₃ hok _ rfl
  refine wpAny_bind ?_
  rw [List.forIn_nil]
  refine wpAny_pure (wpAny_pure ?_)
  dsimp only
  rw [show ({ s₁ with heap := H3.push { cls := .type "dict", data := .dict #[] } } : Shared).heap.objs.size = H3.objs.size + 1 from Heap.size_push ..]
  show codeAny _ A (.compStart _ 0 (.ref s₁.heap.objs.size) (.ref H2.objs.size) (cenvOf scope env H3.objs.size)) _ _
  generalize hh4 : pushCells (H3.push { cls := .type "dict", data := .dict #[] }) scope.names = h4 at I₄ e34 ⊢
  have Lc : (cenvOf scope env H3.objs.size).locals = H3.objs.size := rfl
  generalize hce : cenvOf scope env H3.objs.size = cenv at I₄ hcell Lc ⊢
  have cfr : cenv.frame = env.frame := by rw [← hce]; rfl
  have csc : cenv.scope = relab scope env.scope := by rw [← hce]; rfl
  obtain ⟨te, tr, tL, tfs, tf1, tf2⟩ := I₁.top
  have hb := I.rep.size
  have hb1 := I₁.rep.size
  have hd : cenv.locals ∉ frs fs := fun q => by
    obtain ⟨_, _, ofr, _, _, a3, _⟩ := I₁.aok.mem q
    rw [Lc] at a3
    have z : H3.objs.size < s₁.heap.objs.size := Heap.lt_size a3
    rw [sz3, sz2] at z; exact absurd z (by omega)
  have hnf : cenv.frame ≠ some cenv.locals := fun q => hd (by
    rw [cfr, tf2] at q; rw [← Option.some.inj q, tfs]
    unfold frs; rw [List.filterMap_cons, tf1]; exact List.mem_cons_self)
  have hl : s.heap.objs.size ≤ cenv.locals := by rw [Lc, sz3, sz2]; have := ex.size; omega
  have hFF : ∀ a ∈ F, a < s₁.heap.objs.size := fun a ha => let ⟨_, g, _⟩ := I₁.frm.there a ha; Heap.lt_size g
  have hItF : s₁.heap.objs.size ∉ Fn ++ F := fun q => by
    rcases List.mem_append.mp q with q | q
    · have z : H3.objs.size ≤ s₁.heap.objs.size := hFn _ q
      rw [sz3, sz2] at z; exact absurd z (by omega)
    · exact absurd (hFF _ q) (Nat.lt_irrefl _)
  have hDF : H2.objs.size ∉ Fn ++ F := fun q => by
    rcases List.mem_append.mp q with q | q
    · have z : H3.objs.size ≤ H2.objs.size := hFn _ q
      rw [sz3] at z; exact absurd z (by omega)
    · have z : H2.objs.size < s₁.heap.objs.size := hFF _ q
      rw [sz2] at z; exact absurd z (by omega)
  have no1 : ∀ a, s₁.heap.objs.size ≤ a → a ∉ own ι₁ := fun a ha q => absurd (I₁.rep.own_lt q) (Nat.not_lt.mpr ha)
  have it4 : ItAt T ι₁ h4 v s₁.heap.objs.size 0 := it0.keep ⟨⟨[], by simp⟩, fun a o e _ => ⟨o, (by
      have := k23 a o e; rw [← hh4]; exact pushCells_keeps _ _ _ _ (Heap.get?_push_of_some _ this)), rfl⟩, fun a o e _ => by
      have := k23 a o e; rw [← hh4]; exact pushCells_keeps _ _ _ _ (Heap.get?_push_of_some _ this)⟩ fun o e => by
      have := k23 _ o e; rw [← hh4]; exact pushCells_keeps _ _ _ _ (Heap.get?_push_of_some _ this)
  have hD4 : IsL h4 H2.objs.size #[] 0 := by rw [← hh4]; exact pushCells_keeps _ _ _ _ (Heap.get?_push_of_some _ hD)
  have e4 : Ext T [] ι s.heap ι₁ h4 := ex.trans (e13.trans e34)
  have hI0 : s.heap.objs.size ≤ s₁.heap.objs.size := ex.size
  have hD0 : s.heap.objs.size ≤ H2.objs.size := by rw [sz2]; omega
  have loop : codeAny (model T.prog T.w) A (.compLoop (.ListComp elt [⟨.Name x px, iter, ifs, 0⟩] scope pos) 0 (.ref s₁.heap.objs.size) (.ref H2.objs.size) cenv)
      (compPost (model T.prog T.w) A EE use RR (.ref H2.objs.size) cenv.locals) { s₁ with heap := h4 } := by
    refine codeAny_loop rfl (fun n s' => ∃ i acc σ' ι' ρ' its m, n = items.length - i ∧ i ≤ items.length ∧ J i acc σ' ∧ Inv T A fs d cenv (Fn ++ F) ρ' ι' σ' s' ∧ (∀ y, y ≠ x → ρ' y = compLoc scope ρ y) ∧ Ext T [] ι s.heap ι' s'.heap ∧ Ext T [] ι₁ s₁.heap ι' s'.heap ∧
      ItAt T ι' s'.heap v s₁.heap.objs.size i ∧ s₁.heap.objs.size ∉ own ι' ∧ H2.objs.size ∉ own ι' ∧ IsL s'.heap H2.objs.size its m ∧ VRels T ι' s'.heap acc its.toList) (fun n s' hJ => ?_) items.length
      ⟨0, [], σ₁, ι₁, compLoc scope ρ, #[], 0, rfl, Nat.zero_le _, j0, I₄, fun _ _ => rfl, e4, e13.trans e34, it4, no1 _ (Nat.le_refl _), no1 _ (by rw [sz2]; omega), hD4, trivial⟩
    obtain ⟨i, acc, σ', ι', ρ', its, m, rfl, hi, j, I', hρ, e', f', it, nI, nD, hL, hv⟩ := hJ
    show wpAny _ _ ((compTurn (.ListComp elt [⟨.Name x px, iter, ifs, 0⟩] scope pos) 0 (.ref s₁.heap.objs.size) (.ref H2.objs.size) cenv).onRaise (fun x => do noteFrame x cenv; theTreesLotGoes x)) _ _ s'
    refine wpAny_noted ?_
    rw [compTurn_list]
    have isit := it.iterish
    have ji := jit i acc σ' j
    by_cases hlt : i < items.length
    · have hy : items[i]? = some items[i] := List.getElem?_eq_getElem hlt
      refine wpAny_bind (wpAny_standAt (wpAny_bind (next_ok I'.rep it nI ji.1 hy fun h5 t5 y5 hs5 ry it5 => ?_)))
      have k5 : ∀ b o, b ≠ s₁.heap.objs.size → s'.heap.get? b = some o → h5.get? b = some o := fun b o q e => (hs5.2 b q).trans e
      have I5 : Inv T A fs d cenv (Fn ++ F) ρ' ι' σ' { s' with heap := h5, toks := t5 } := I'.free k5 (Nat.le_of_eq hs5.1.symm) isit nI hb1
      have e5 : Ext T [] ι s.heap ι' h5 := e'.free k5 (Nat.le_of_eq hs5.1.symm) hI0
      have f5 : Ext T [] ι₁ s₁.heap ι' h5 := f'.free k5 (Nat.le_of_eq hs5.1.symm) (Nat.le_refl _)
      have m5 : Mono ι' s'.heap ι' h5 := .free k5 isit ι'
      have hDI : H2.objs.size ≠ s₁.heap.objs.size := by rw [sz2]; exact Nat.succ_ne_self _
      have hL5 : IsL h5 H2.objs.size its m := k5 _ _ hDI hL
      refine wpAny_bind (letOwned_ok (s := { s' with heap := h5, toks := t5 }) it5 ?_)
      refine wpAny_bind (wpAny_assign_Name (store_at I5.rep I5.frm (by rw [csc]; exact isStore_relab hx) ry fun h6 t6 R6 H6 e6 ds6 a6 => ?_))
      have I6 := I5.stored (t := t6) R6 H6 e6 ds6
      rw [upd_upd hρ] at I6
      obtain ⟨a, hs6, ha⟩ := a6
      have aF : a ∈ Fn := by
        rcases ha with rfl | ⟨ka, ca⟩
        · rw [Lc]; exact hLF
        · have hxs : scope.names.lookup x = some .local ∨ scope.names.lookup x = some .cell := by
            unfold isStore at hx
            split at hx
            · rename_i q; exact .inl q
            · rename_i q; exact .inr q
            · cases hx
          have hxc : scope.names.lookup x = some .cell := by
            rcases hxs with q | q
            · exfalso
              have : cenv.kindOf x = (scope.names.lookup x).map (relK env.scope x) := by rw [← hce]; exact relab_lookup scope.names x
              rw [ka, q] at this; simp [relK] at this
            · exact q
          exact hcell x a hxs ca hxc
      have aL : H3.objs.size ≤ a := hFn a aF
      have k6 : ∀ b o, b ≠ a → h5.get? b = some o → h6.get? b = some o := fun b o q e => (hs6.2 b q).trans e
      have e6' : Ext T [] ι s.heap ι' h6 := e5.free k6 (Nat.le_of_eq hs6.1.symm) (Nat.le_trans (by rw [sz3]; omega) aL)
      have f6' : Ext T [] ι₁ s₁.heap ι' h6 := f5.free k6 (Nat.le_of_eq hs6.1.symm) (Nat.le_trans (by rw [sz3, sz2]; omega) aL)
      have itne : s₁.heap.objs.size ≠ a := fun q => by rw [← q, sz3, sz2] at aL; exact absurd aL (by omega)
      have Dne : H2.objs.size ≠ a := fun q => by rw [← q, sz3] at aL; exact absurd aL (by omega)
      have it6 : ItAt T ι' h6 v s₁.heap.objs.size (i + 1) := it5.keep e6.mono fun o e => k6 _ o itne e
      have hL6 : IsL h6 H2.objs.size its m := k6 _ _ Dne hL5
      have hv6 : VRels T ι' h6 acc its.toList := (hv.mono m5).mono e6.mono
      have hv' := hv6.length
      simp only [Array.length_toList] at hv'
      have next : ∀ (s7 : Shared) (σ7 : Hp) (ι7 : Inj), J (i + 1) acc σ7 → Inv T A fs d cenv (Fn ++ F) (upd (compLoc scope ρ) x (some items[i])) ι7 σ7 s7 → Ext T [] ι' h6 ι7 s7.heap → ∃ n, n < items.length - i ∧ ∃ i acc σ' ι' ρ' its m, n = items.length - i ∧ i ≤ items.length ∧ J i acc σ' ∧ Inv T A fs d cenv (Fn ++ F) ρ' ι' σ' s7 ∧ (∀ y, y ≠ x → ρ' y = compLoc scope ρ y) ∧ Ext T [] ι s.heap ι' s7.heap ∧ Ext T [] ι₁ s₁.heap ι' s7.heap ∧
          ItAt T ι' s7.heap v s₁.heap.objs.size i ∧ s₁.heap.objs.size ∉ own ι' ∧ H2.objs.size ∉ own ι' ∧ IsL s7.heap H2.objs.size its m ∧ VRels T ι' s7.heap acc its.toList := fun s7 σ7 ι7 j7 I7 e7 => by
        obtain ⟨oi, gi, gii⟩ := it6.iterish
        refine ⟨items.length - (i + 1), by omega, i + 1, acc, σ7, ι7, _, its, m, rfl, hlt, j7, I7, fun y hy => by unfold upd; rw [if_neg hy], e6'.trans e7, f6'.trans e7, it6.keep e7.mono fun o ho => e7.keep _ o ho nI (by simp) fun q => ?_, e7.not_own nI (Heap.lt_size gi), e7.not_own nD (Heap.lt_size hL6), e7.keep _ _ hL6 nD (by simp) (by simp), hv6.mono e7.mono⟩
        rw [gi] at ho; cases ho; simp [iterish, q] at gii
      show wpAny _ _ (forIn ifs true (fun c r => if r = true then do let ok ← isTrue c cenv (eval c cenv); pure (ForInStep.yield ok) else pure (ForInStep.yield r)) >>= _) _ _ _
      refine wpAny_bind (ifs_ok csc I6 (jturn i items[i] acc σ' j hy) (fun b s7 p => ?_) fun z s7 p => comp_raise hE hb I6 e6' p hd hl hnf)
      obtain ⟨σ7, ι7, q7, rp7, e7, g7, o7⟩ := p
      have I7 := I6.ext e7 rp7 g7 o7
      cases b with
      | false => exact wpAny_pure ⟨rfl, next s7 σ7 ι7 q7 I7 e7⟩
      | true =>
        have e67 := e6'.trans e7
        refine wpAny_bind (wpAny_bind (wpAny_mono (q7 cenv A fs (Fn ++ F) ι7 s7 csc I7) (fun z s8 p => ?_) fun z s8 p => comp_raise hE hb I7 e67 p hd hl hnf))
        obtain ⟨zv, σ8, ι8, j8, rz, rp8, e8, g8, o8⟩ := p
        have I8 := I7.ext e8 rp8 g8 o8
        have e78 := e7.trans e8
        have hL8 : IsL s8.heap H2.objs.size its m := e78.keep _ _ hL6 nD (by simp) (by simp)
        have nD8 := e78.not_own nD (Heap.lt_size hL6)
        obtain ⟨oi, gi, gii⟩ := it6.iterish
        have nI8 := e78.not_own nI (Heap.lt_size gi)
        have it8 : ItAt T ι8 s8.heap v s₁.heap.objs.size (i + 1) := it6.keep e78.mono fun o ho => e78.keep _ o ho nI (by simp) fun q => by rw [gi] at ho; cases ho; simp [iterish, q] at gii
        refine wpAny_bind (appendL hL8 (by rw [hv']; exact ji.2) fun h9 m9 hL9 hs9 => wpAny_pure (wpAny_pure ⟨rfl, ?_⟩))
        have I9 : Inv T A fs d cenv (Fn ++ F) (upd (compLoc scope ρ) x (some items[i])) ι8 σ8 { s8 with heap := h9 } := I8.side (t := s8.toks) hs9 hL8 rfl rfl (by simp) nD8 hDF (Nat.le_trans hb1 (by rw [sz2]; omega))
        have k9 : ∀ b o, b ≠ H2.objs.size → s8.heap.get? b = some o → h9.get? b = some o := fun b o q e => (hs9.2 b q).trans e
        have m9' : Mono ι8 s8.heap ι8 h9 := .but k9 ⟨_, hL8, rfl, rfl⟩ ι8
        refine ⟨items.length - (i + 1), by omega, i + 1, acc ++ [zv], σ8, ι8, _, its.push z, m9, rfl, hlt, j8, I9, fun y hy => by unfold upd; rw [if_neg hy], (e6'.trans e78).free k9 (Nat.le_of_eq hs9.1.symm) hD0, (f6'.trans e78).free k9 (Nat.le_of_eq hs9.1.symm) (by rw [sz2]; omega), it8.keep m9' fun o ho => k9 _ o (Ne.symm hDI) ho, nI8, nD8, hL9, ?_⟩
        rw [Array.toList_push]
        refine ((hv6.mono e78.mono).mono m9').append ?_
        unfold VRels
        exact ⟨rz.mono m9', by unfold VRels; trivial⟩
    · have : i = items.length := by omega
      subst this
      refine wpAny_bind (wpAny_standAt (wpAny_bind (end_ok I'.aok.hd I'.rep it ji.1 (Nat.le_refl _) fun h5 he5 hz5 => wpAny_pure ?_)))
      have I5 : Inv T A fs d cenv (Fn ++ F) ρ' ι' σ' { s' with heap := h5 } := I'.free (t := s'.toks) (fun b o q e => he5 b o q e) hz5 isit nI hb1
      have m5 : Mono ι' s'.heap ι' h5 := .free (fun b o q e => he5 b o q e) isit ι'
      have e5 : Ext T [] ι s.heap ι' h5 := e'.free (fun b o q e => he5 b o q e) hz5 hI0
      have hDI : H2.objs.size ≠ s₁.heap.objs.size := by rw [sz2]; exact Nat.succ_ne_self _
      have hL5 : IsL h5 H2.objs.size its m := he5 _ _ hDI hL
      have f5 : Ext T [] ι₁ s₁.heap ι' h5 := f'.free (fun b o q e => he5 b o q e) hz5 (Nat.le_refl _)
      obtain ⟨cl, mm, hc, hN, _⟩ := I5.frm.ns
      cases hc.2 hnf
      have mz : Mono ι' h5 (ι' ++ [(H2.objs.size, H2.objs.size)]) h5 := ⟨⟨_, rfl⟩, fun _ o e _ => ⟨o, e, rfl⟩, fun _ _ e _ => e⟩
      have R5 : Rep T (ι' ++ [(H2.objs.size, H2.objs.size)]) (σ' ++ [.list acc]) h5 := I5.rep.more (o := .list acc) (p := (H2.objs.size, H2.objs.size)) ⟨rfl, its.toList, ⟨m, by simpa using hL5⟩, (hv.mono m5).mono mz⟩ (Nat.le_trans hb1 (by rw [sz2]; omega)) (Nat.le_trans hb1 (by rw [sz2]; omega)) nD nD
      have moreX : ∀ {ι₀ : Inj} {h₀ : Heap}, Ext T [] ι₀ h₀ ι' h5 → h₀.objs.size ≤ H2.objs.size → Ext T [] ι₀ h₀ (ι' ++ [(H2.objs.size, H2.objs.size)]) h5 := fun e6 hz => by
        obtain ⟨κ, hκ, hκ'⟩ := e6.pre
        exact ⟨⟨κ ++ [(H2.objs.size, H2.objs.size)], by rw [hκ]; simp, fun p hp => by
          rcases List.mem_append.mp hp with hp | hp
          · exact hκ' p hp
          · cases List.mem_singleton.mp hp; exact ⟨hz, hz⟩⟩, e6.size, e6.cls, e6.frz, e6.keep, e6.frm⟩
      have ap := I5.frm.apart _ I5.frm.loc
      have nL : cenv.locals ∉ own (ι' ++ [(H2.objs.size, H2.objs.size)]) := fun q => by
        rw [own_append, List.mem_append] at q
        rcases q with q | q
        · exact ap.1 q
        · have : cenv.locals = H2.objs.size := by simpa [own] using q
          rw [Lc, sz3] at this; exact absurd this (Nat.succ_ne_self _)
      have lF : cenv.locals ∉ F := fun q => by
        have z := hFF _ q
        rw [Lc] at z
        have z' : H3.objs.size < s₁.heap.objs.size := z
        rw [sz3, sz2] at z'; exact absurd z' (by omega)
      have Iout : Inv T A fs d env F ρ (ι' ++ [(H2.objs.size, H2.objs.size)]) (σ' ++ [.list acc]) { s' with heap := h5 } := I₁.ext (s' := { s' with heap := h5 }) (moreX f5 (by rw [sz2]; omega)) R5 I'.gens I'.os
      refine hfin (.ref σ'.length) (σ' ++ [.list acc]) (ι' ++ [(H2.objs.size, H2.objs.size)]) { s' with heap := h5 } H2.objs.size cenv.locals (jend acc σ' j) Iout ?_ (moreX e5 hD0) ⟨nL, lF, ap.2, hl, mm, hN⟩
      unfold VRel; exact ⟨H2.objs.size, H2.objs.size, rfl, by rw [← I5.rep.len]; simp⟩
  rw [Lc] at loop
  exact codeAny_compStart_list loop (iterSelf it4 loop)

theorem EvOk.comp {elt iter : Expr} {x : Str} {px pos : Pos} {ifs : List Expr} {scope : Scope} (hok : compOk scope sc = true) (hx : isStore scope x = true) (hs : noSet iter = true)
    (he : EvOk T d sc ρ X iter (fun v σ₁ => ∃ (items : List V) (J : Nat → List V → Hp → Prop), J 0 [] σ₁ ∧ (∀ i acc σ, J i acc σ → iterV σ v = some items ∧ acc.length ≤ sizeLine) ∧ (∀ acc σ, J items.length acc σ → Q (.ref σ.length) (σ ++ [.list acc])) ∧
      ∀ i y acc σ, J i acc σ → items[i]? = some y → IfsOk T d (relab scope sc) (upd (compLoc scope ρ) x (some y)) X ifs (fun b σ' => if b then EvOk T d (relab scope sc) (upd (compLoc scope ρ) x (some y)) X elt (fun z σ'' => J (i + 1) (acc ++ [z]) σ'') σ' else J (i + 1) acc σ') σ) σ) :
    EvOk T d sc ρ X (.ListComp elt [⟨.Name x px, iter, ifs, 0⟩] scope pos) Q σ := by
  intro env A fs F ι s hsc I
  subst hsc
  rw [eval_ListComp]
  refine comp_core I hok hx hs he (fun v σ₂ ι₂ s₂ D L q I₂ rv e₂ lg => ?_) fun _ _ p => p
  obtain ⟨no, nF, hb, lo, m, hN⟩ := lg
  refine ⟨m, hN.ns, fun h' hs' => ?_⟩
  obtain ⟨o, es, ep, g1, g2, _⟩ := hN
  have I₃ : Inv T A fs d env F ρ ι₂ σ₂ { s₂ with heap := h' } := I₂.side (t := s₂.toks) hs' g1 (by simp [loose, g2]) (by simp [frozen, g2]) (by rw [g2]; simp) no nF hb
  have k : ∀ b o, b ≠ L → s₂.heap.get? b = some o → h'.get? b = some o := fun b o q e => (hs'.2 b q).trans e
  exact ⟨v, σ₂, ι₂, q, rv.mono (.but k ⟨o, g1, by simp [loose, g2], by simp [frozen, g2]⟩ ι₂), I₃.rep, e₂.free k (Nat.le_of_eq hs'.1.symm) lo, I₃.gens, I₃.os⟩

end
end Mine

namespace Mine
open PySem PySem.Calls PyProof.Rows PySem.SeqAt

section
variable {T : Tp} {A : Around} {fs : List Env} {d : Nat} {env : Env} {F : List Addr} {ι ι' : Inj} {h h' : Heap} {s : Shared} {ρ : Loc} {σ : Hp} {sc : Scope} {X : XS} {Q : QS}

theorem swaps_yes {elt : Expr} {gens : List Comprehension} {y : Str} {py pos : Pos} {scope : Scope} {l : Nat} (hkind : env.scope.kind = .function) (hy : env.kindOf y = some .local) (hsw : (py.line == pos.line && !(scope.names.any fun (n, k) => n == y && (k == .local || k == .cell))) = true) :
    swapsWith (.ListComp elt gens scope pos) (some (.Name y py)) l env = pure true := by
  have : swapsWith (.ListComp elt gens scope pos) (some (.Name y py)) l env = (pure (env.blockKind == .function && env.kindOf y == some .local && py.line == pos.line && !(scope.names.any fun (n, k) => n == y && (k == .local || k == .cell))) : Sem Bool) := rfl
  rw [this]
  simp only [Bool.and_eq_true] at hsw
  rw [hsw.1, hsw.2, hy, show env.blockKind = .function by unfold Env.blockKind; rw [hkind]; rfl]; rfl

theorem usedComp_ok {RR : Value → Shared → Prop} {EE : Value → Shared → Prop} {y : Str} {py : Pos} {v : V} {σ₂ : Hp} {ι₂ : Inj} {s₂ : Shared} {D L : Addr} (hy : isStore env.scope y = true) (I₂ : Inv T A fs d env F ρ ι₂ σ₂ s₂) (rv : VRel T ι₂ s₂.heap v (.ref D)) (e₂ : Ext T [] ι s.heap ι₂ s₂.heap) (lg : LetGo T F ι₂ s.heap s₂.heap L)
    (k : ∀ s', Inv T A fs d env F (upd ρ y (some v)) ι₂ σ₂ s' → Ext T F ι s.heap ι₂ s'.heap → RR .none s') :
    compPost (model T.prog T.w) A EE (some (assign (.Name y py) env)) RR (.ref D) L (.ok .next) s₂ := by
  obtain ⟨no, nF, hb, lo, m, hN⟩ := lg
  show wpAny _ A (assign (.Name y py) env (.ref D)) _ _ s₂
  refine wpAny_assign_Name (store_at I₂.rep I₂.frm hy rv fun h₃ t₃ R₃ H₃ e₃ ds₃ a₃ => ?_)
  have I₃ := I₂.stored (t := t₃) R₃ H₃ e₃ ds₃
  obtain ⟨a, hs₃, ha⟩ := a₃
  have aF : a ∈ F := by
    rcases ha with rfl | ⟨ka, ca⟩
    · exact I₂.frm.loc
    · exact I₂.frm.cin y a ka ca
  have hLa : L ≠ a := fun q => nF (q ▸ aF)
  have hN₃ := hN.sameBut hs₃ hLa
  refine ⟨m, hN₃.ns, fun h₄ hs₄ => ?_⟩
  obtain ⟨o, es, ep, g1, g2, _⟩ := hN₃
  have I₄ : Inv T A fs d env F _ ι₂ σ₂ { s₂ with heap := h₄, toks := t₃ } := I₃.side (t := t₃) hs₄ g1 (by simp [loose, g2]) (by simp [frozen, g2]) (by rw [g2]; simp) no nF hb
  have kk : ∀ b o, b ≠ L → h₃.get? b = some o → h₄.get? b = some o := fun b o q e => (hs₄.2 b q).trans e
  exact k _ I₄ ((e₂.up.trans e₃).free kk (Nat.le_of_eq hs₄.1.symm) lo)

/-- x = [..], on one line, x a plain local: the model stores ahead of letting the comprehension's names go -/
theorem StOk.assignComp {elt iter : Expr} {y x : Str} {py px pos pos' : Pos} {ifs : List Expr} {scope : Scope} (hok : compOk scope sc = true) (hx : isStore scope x = true) (hs : noSet iter = true) (hy : sc.names.lookup y = some .local)
    (hsw : (py.line == pos.line && !(scope.names.any fun (n, k) => n == y && (k == .local || k == .cell))) = true)
    (he : EvOk T d sc ρ (fun c σ => X c ρ σ) iter (fun v σ₁ => ∃ (items : List V) (J : Nat → List V → Hp → Prop), J 0 [] σ₁ ∧ (∀ i acc σ, J i acc σ → iterV σ v = some items ∧ acc.length ≤ sizeLine) ∧ (∀ acc σ, J items.length acc σ → Q .next (upd ρ y (some (.ref σ.length))) (σ ++ [.list acc])) ∧
      ∀ i z acc σ, J i acc σ → items[i]? = some z → IfsOk T d (relab scope sc) (upd (compLoc scope ρ) x (some z)) (fun c σ => X c ρ σ) ifs (fun b σ' => if b then EvOk T d (relab scope sc) (upd (compLoc scope ρ) x (some z)) (fun c σ => X c ρ σ) elt (fun z σ'' => J (i + 1) (acc ++ [z]) σ'') σ' else J (i + 1) acc σ') σ) σ) :
    StOk T d sc ρ X (.Assign [.Name y py] (.ListComp elt [⟨.Name x px, iter, ifs, 0⟩] scope pos) pos') Q σ := by
  intro env A fs F ι s hsc I
  subst hsc
  rw [exec_Assign_Name_used _ _ _ _ (swaps_yes I.frm.kind hy hsw)]
  refine wpAny_bind (wpAny_standAt (wpAny_bind ?_))
  show wpAny _ A (do let _ ← comprehension (.ListComp elt [⟨.Name x px, iter, ifs, 0⟩] scope pos) scope env _ (newList []) false (eval iter env) (some (PySem.assign (.Name y py) env))) _ _ s
  have core := comp_core (use := some (PySem.assign (.Name y py) env)) (RR := fun _ s' => PostS T A fs d env F Q ι s.heap .next s') (EE := PostSX T A fs d env F X ι s.heap) (Q := fun v σ₁ => Q .next (upd ρ y (some v)) σ₁) (pos := pos) (px := px) I hok hx hs he
    (fun v σ₂ ι₂ s₂ D L q I₂ rv e₂ lg => usedComp_ok (py := py) (by unfold isStore; rw [hy]) I₂ rv e₂ lg fun s' I' e' => ⟨.next, _, σ₂, ι₂, q, trivial, I', e'⟩) fun _ _ p => p.sx I fun _ _ k => k
  exact wpAny_bind (wpAny_mono core (fun _ s' hq => wpAny_pure (wpAny_pure hq)) fun _ _ e => e)

/-- x = [..], x a cell: plain -/
theorem StOk.assignCell {x : Str} {pos' pos : Pos} {e : Expr} (q : EvOk T d sc ρ (fun c σ => X c ρ σ) e (fun v σ' => Q .next (upd ρ x (some v)) σ') σ) (hk : sc.names.lookup x = some .cell) :
    StOk T d sc ρ X (.Assign [.Name x pos'] e pos) Q σ := by
  intro env A fs F ι s hsc I
  subst hsc
  have hsw : swapsWith e (some (.Name x pos')) pos.line env = pure false := by
    have kx : env.kindOf x = some .cell := hk
    cases e <;> first | rfl | skip
    all_goals
      show (pure (env.blockKind == .function && env.kindOf x == some .local && _ && _) : Sem Bool) = pure false
      rw [kx, show (some NameKind.cell == some NameKind.local) = false from rfl, Bool.and_false, Bool.false_and, Bool.false_and]
  refine wpAny_Assign_Name (wpAny_mono (q env A fs F ι s rfl I) (fun y s₁ p => ?_) fun _ _ p => p.sx I fun _ _ k => k) hsw
  obtain ⟨v, σ₁, ι₁, q, rv, rp, ex, g, o⟩ := p
  have I₁ := I.ext ex rp g o
  refine store_ok I₁.rep I₁.frm (by unfold isStore; rw [hk]) rv fun h' t R' H' e' ds => ?_
  exact ⟨.next, _, σ₁, ι₁, q, trivial, I₁.stored R' H' e' ds, ex.up.trans e'⟩
end
end Mine

namespace Mine
open PySem PySem.Calls PyProof.Rows PySem.SeqAt

section
variable {T : Tp} {d : Nat} {X : QX} {Q : QE} {σ : Hp} {A : Around} {fs : List Env} {ι : Inj} {s : Shared} {h' : Heap}

theorem VRels.one {v : V} {xs : List Value} {h : Heap} (r : VRels T ι h [v] xs) : ∃ x, xs = [x] ∧ VRel T ι h v x := by
  obtain ⟨x, r', rfl, a, b⟩ := VRels.cons_iff.mp r; cases VRels.nil_iff.mp b; exact ⟨x, rfl, a⟩
theorem VRels.two {v w : V} {xs : List Value} {h : Heap} (r : VRels T ι h [v, w] xs) : ∃ x y, xs = [x, y] ∧ VRel T ι h v x ∧ VRel T ι h w y := by
  obtain ⟨x, r', rfl, a, b⟩ := VRels.cons_iff.mp r; obtain ⟨y, rfl, c⟩ := b.one; exact ⟨x, y, rfl, a, c⟩
theorem VRel.bi_inv {id : String} {x : Value} {h : Heap} (r : VRel T ι h (.bi id) x) : x = .builtin id := by unfold VRel at r; exact r
theorem VRel.type_inv {id : String} {x : Value} {h : Heap} (r : VRel T ι h (.type id) x) : x = .type id := by unfold VRel at r; exact r

/-- len -/
def lenV (σ : Hp) : V → Option Nat
  | .tup vs => some vs.length
  | .str x => some x.length
  | .ref l => (match σ[l]? with | some (.list vs) => some vs.length | some (.sdict kvs) => some kvs.length | _ => none)
  | .scr xs => some xs.length
  | _ => none
theorem CallOk.len {v : V} {n : Nat} (e : lenV σ v = some n) (hn : n < 2 ^ 62) (q : Q (.int n) σ) : CallOk T d X (.bi "len") [v] Q σ := by
  intro A fs ι s fv xs S rf rxs
  cases rf.bi_inv
  obtain ⟨x, rfl, r⟩ := rxs.one
  cases v <;> simp only [lenV, reduceCtorEq] at e
  · cases e
    obtain ⟨t, rfl⟩ := r.str_inv
    exact len_str (by omega) (S.post q .int_mk _)
  · cases e
    obtain ⟨a, items, m, rfl, ht, hv⟩ := r.tup_inv
    have hl := hv.length
    simp only [Array.length_toList] at hl
    exact P.len_tuple ht (by omega) (by rw [hl]; exact S.post q .int_mk _)
  · obtain ⟨a, dx, rfl, hι⟩ := r.ref_inv
    split at e
    · rename_i vs hvs
      cases e
      obtain ⟨items, m, hL, hv⟩ := S.rep.list_at hvs hι
      have hl := hv.length
      simp only [Array.length_toList] at hl
      exact Calls.call_len_list hL.isList (by omega) (by rw [hl]; exact S.post q .int_mk _)
    · rename_i kvs hvs
      cases e
      obtain ⟨rvs, hd, hv, hs⟩ := S.rep.sdict_at hvs hι
      exact call_len_dict hs hd (by rw [hv.length]; omega) (by rw [hv.length]; exact S.post q .int_mk _)
    · cases e
  · cases e
    unfold VRel at r
    obtain ⟨a, ob, items, n, rfl, ho, hc, hd, l, hl, rfl⟩ := r
    have hsz : items.size = (l.map (·.1)).length := by rw [← Array.length_toList, hl]; simp
    exact Calls.call_len_list ⟨_, S.rep.base _ _ ho, hc, n, hd⟩ (by rw [hsz]; omega) (by rw [hsz]; exact S.post q .int_mk _)

/-- isinstance with a plain built-in type -/
def kindName (σ : Hp) : V → Option String
  | .none => some "NoneType"
  | .bool _ => some "bool"
  | .int _ => some "int"
  | .str _ => some "str"
  | .tup _ => some "tuple"
  | .ref l => (match σ[l]? with | some (.list _) => some "list" | _ => none)
  | _ => none
def isiV (σ : Hp) (v : V) (ty : String) : Option Bool := (kindName σ v).bind fun k => if ["bool", "int", "list", "str", "tuple"].contains ty then some (k == ty || (k == "bool" && ty == "int")) else none
theorem CallOk.isi {v : V} {ty : String} {b : Bool} (e : isiV σ v ty = some b) (q : Q (.bool b) σ) : CallOk T d X (.bi "isinstance") [v, .type ty] Q σ := by
  intro A fs ι s fv xs S rf rxs
  cases rf.bi_inv
  obtain ⟨x, y, rfl, r, r2⟩ := rxs.two
  cases r2.type_inv
  unfold isiV at e
  obtain ⟨k, hk, e⟩ := Option.bind_eq_some_iff.mp e
  split at e
  · rename_i hty
    simp only [List.contains_iff_mem, List.mem_cons, List.not_mem_nil, or_false] at hty
    cases v <;> simp only [kindName, reduceCtorEq, Option.some.injEq] at hk
    · cases r.none_inv; subst hk
      rcases hty with rfl | rfl | rfl | rfl | rfl <;> cases e <;> first | exact IsiPair.NoneType_bool (S.post q .bool_mk _) | exact IsiPair.NoneType_int (S.post q .bool_mk _) | exact IsiPair.NoneType_list (S.post q .bool_mk _) | exact IsiPair.NoneType_str (S.post q .bool_mk _) | exact IsiPair.NoneType_tuple (S.post q .bool_mk _)
    · cases r.bool_inv; subst hk
      rcases hty with rfl | rfl | rfl | rfl | rfl <;> cases e <;> first | exact IsiPair.bool_bool (S.post0 q .bool_mk) | exact IsiPair.bool_int (S.post0 q .bool_mk) | exact IsiPair.bool_list (S.post q .bool_mk _) | exact IsiPair.bool_str (S.post q .bool_mk _) | exact IsiPair.bool_tuple (S.post q .bool_mk _)
    · obtain ⟨t, rfl⟩ := r.int_inv; subst hk
      rcases hty with rfl | rfl | rfl | rfl | rfl <;> cases e <;> first | exact IsiPair.int_bool (S.post q .bool_mk _) | exact IsiPair.int_int (S.post0 q .bool_mk) | exact IsiPair.int_list (S.post q .bool_mk _) | exact IsiPair.int_str (S.post q .bool_mk _) | exact IsiPair.int_tuple (S.post q .bool_mk _)
    · obtain ⟨t, rfl⟩ := r.str_inv; subst hk
      rcases hty with rfl | rfl | rfl | rfl | rfl <;> cases e <;> first | exact IsiPair.str_bool (S.post q .bool_mk _) | exact IsiPair.str_int (S.post q .bool_mk _) | exact IsiPair.str_list (S.post q .bool_mk _) | exact IsiPair.str_str (S.post0 q .bool_mk) | exact IsiPair.str_tuple (S.post q .bool_mk _)
    · obtain ⟨a, items, m, rfl, ht, hv⟩ := r.tup_inv; subst hk
      rcases hty with rfl | rfl | rfl | rfl | rfl <;> cases e <;> first | exact IsiPair.tuple_bool ht rfl (S.post q .bool_mk _) | exact IsiPair.tuple_int ht rfl (S.post q .bool_mk _) | exact IsiPair.tuple_list ht rfl (S.post q .bool_mk _) | exact IsiPair.tuple_str ht rfl (S.post q .bool_mk _) | exact IsiPair.tuple_tuple ht rfl (S.post0 q .bool_mk)
    · obtain ⟨a, dx, rfl, hι⟩ := r.ref_inv
      split at hk
      · rename_i vs hvs
        cases hk
        obtain ⟨items, m, hL, hv⟩ := S.rep.list_at hvs hι
        rcases hty with rfl | rfl | rfl | rfl | rfl <;> cases e <;> first | exact IsiPair.list_bool hL rfl (S.post q .bool_mk _) | exact IsiPair.list_int hL rfl (S.post q .bool_mk _) | exact IsiPair.list_list hL rfl (S.post0 q .bool_mk) | exact IsiPair.list_str hL rfl (S.post q .bool_mk _) | exact IsiPair.list_tuple hL rfl (S.post q .bool_mk _)
      · cases hk
  · cases e

theorem CallOk.ord {c : Nat} (q : Q (.int c) σ) : CallOk T d X (.bi "ord") [.str ⟨#[c]⟩] Q σ := by
  intro A fs ι s fv xs S rf rxs
  cases rf.bi_inv
  obtain ⟨x, rfl, r⟩ := rxs.one
  obtain ⟨t, rfl⟩ := r.str_inv
  exact P.ord_of_char (S.post q .int_mk _)

theorem CallOk.range {n : Int} (q : Q (.rng n) σ) : CallOk T d X (.type "range") [.int n] Q σ := by
  intro A fs ι s fv xs S rf rxs
  cases rf.type_inv
  obtain ⟨x, rfl, r⟩ := rxs.one
  obtain ⟨t, rfl⟩ := r.int_inv
  refine call_range_1 ?_
  refine ⟨.rng n, σ, ι, q, ?_, S.rep.push _, .push .., S.gens, S.os⟩
  unfold VRel
  exact ⟨_, _, _, _, rfl, Heap.get?_push_size _ rfl⟩

/-- list(x) of a tuple or a list -/
def seqV (σ : Hp) : V → Option (List V)
  | .tup vs => some vs
  | .ref l => (match σ[l]? with | some (.list vs) => some vs | _ => none)
  | _ => none
theorem CallOk.list {v : V} {vs : List V} (e : seqV σ v = some vs) (hn : vs.length ≤ sizeLine) (q : Q (.ref σ.length) (σ ++ [.list vs])) : CallOk T d X (.type "list") [v] Q σ := by
  intro A fs ι s fv xs S rf rxs
  cases rf.type_inv
  obtain ⟨x, rfl, r⟩ := rxs.one
  have main : ∀ a ty items m, (ty = "list" ∨ ty = "tuple") → s.heap.get? a = some ⟨.type ty, Option.none, .seq items m, #[]⟩ → VRels T ι s.heap vs items.toList → x = .ref a → wpAny (model T.prog T.w) A (call (.type "list") [x]) (PostE T [] Q ι s.heap) (PostX T [] X ι s.heap) s := fun a ty items m hty ho hv hx => by
    subst hx
    have hl := hv.length
    simp only [Array.length_toList] at hl
    have fin : wpAny (model T.prog T.w) A (call (.type "list") [.ref a]) (fun y s' => y = .ref s.heap.objs.size ∧ ∃ h' c', s' = { s with heap := h' } ∧ (∀ b o', s.heap.get? b = some o' → h'.get? b = some o') ∧ h'.get? s.heap.objs.size = some { cls := .type "list", dict := Option.none, data := .seq items c', slots := #[] }) (PostX T [] X ι s.heap) s :=
      call_list_seq a hty ho rfl rfl (fun h' c' k g => ⟨rfl, h', c', rfl, k, g⟩) (by omega)
    refine wpAny_mono (wpAny_size fin) (fun y s' p => ?_) fun _ _ p => p.1
    obtain ⟨⟨rfl, h', c', rfl, k, g⟩, hz⟩ := p
    have no : s.heap.objs.size ∉ own ι := fun z => absurd (S.rep.own_lt z) (Nat.lt_irrefl _)
    have e0 : Ext T [] ι s.heap ι h' := .of_keeps hz k
    have mz : Mono ι s.heap (ι ++ [(s.heap.objs.size, s.heap.objs.size)]) h' := ⟨⟨_, rfl⟩, e0.cls, e0.frz⟩
    refine ⟨.ref σ.length, _, ι ++ [(s.heap.objs.size, s.heap.objs.size)], q, ?_, (S.rep.grow hz k).more (o := .list vs) (p := (s.heap.objs.size, s.heap.objs.size)) ⟨rfl, items.toList, ⟨c', by simpa using g⟩, hv.mono mz⟩ S.rep.size S.rep.size no no, ⟨⟨_, rfl, by simp⟩, e0.size, e0.cls, e0.frz, e0.keep, e0.frm⟩, S.gens, S.os⟩
    unfold VRel; exact ⟨s.heap.objs.size, s.heap.objs.size, rfl, by rw [← S.rep.len]; simp⟩
  cases v <;> simp only [seqV, reduceCtorEq] at e
  · cases e
    obtain ⟨a, items, m, rfl, ht, hv⟩ := r.tup_inv
    exact main a "tuple" items m (.inr rfl) ht hv rfl
  · obtain ⟨a, dx, rfl, hι⟩ := r.ref_inv
    split at e
    · rename_i vs' hvs
      cases e
      obtain ⟨items, m, hL, hv⟩ := S.rep.list_at hvs hι
      exact main a "list" items m (.inl rfl) hL hv rfl
    · cases e

theorem CallOk.min2 {a b : Int} (q : Q (.int (if b < a then b else a)) σ) : CallOk T d X (.bi "min") [.int a, .int b] Q σ := by
  intro A fs ι s fv xs S rf rxs
  cases rf.bi_inv
  obtain ⟨x, y, rfl, r1, r2⟩ := rxs.two
  obtain ⟨t, rfl⟩ := r1.int_inv
  obtain ⟨u, rfl⟩ := r2.int_inv
  have fin : wpAny (model T.prog T.w) A (call (.builtin "min") [.int a t, .int b u]) (fun y s' => y = (if b < a then .int b u else .int a t) ∧ ∃ h' c', s' = { s with heap := h', toks := c' } ∧ (∀ b o', s.heap.get? b = some o' → h'.get? b = some o')) (PostX T [] X ι s.heap) s :=
    min_two_ints S.aok.hd fun h' tk k => ⟨rfl, h', tk, rfl, k⟩
  refine wpAny_mono (wpAny_size fin) (fun y s' p => ?_) fun _ _ p => p.1
  obtain ⟨⟨rfl, h', c', rfl, k⟩, hz⟩ := p
  refine S.grown hz k q ?_
  split
  · exact .int_mk
  · exact .int_mk

/-- all and any of a list of truths -/
def boolsV (vs : List V) : Option (List Bool) := vs.mapM fun v => match v with | .bool b => some b | _ => Option.none
end
end Mine

namespace Mine
open PySem PySem.Calls PyProof.Rows PySem.SeqAt

section
variable {T : Tp} {d : Nat} {X : QX} {Q : QE} {σ : Hp} {A : Around} {fs : List Env} {ι : Inj} {s : Shared} {h' : Heap}

/-- a list of the mini heap has been set anew in place -/
theorem St.setList {l : Nat} {vs vs' : List V} {a dx : Addr} {items : Array Value} {n t : Nat} {g : Array Value → Array Value} {v : V} {x : Value} (S : St T A fs d ι σ s) (hl : σ[l]? = some (.list vs)) (hι : ι[l]? = some (a, dx)) (hL : IsL s.heap a items n) (hv : VRels T ι s.heap vs' (g items).toList)
    (q : Q v (σ.set l (.list vs'))) (r : VRel T ι s.heap v x) : PostE T [] Q ι s.heap x { s with heap := s.heap.update a (Obj.mapSeq g), toks := t } := by
  have h2 : (s.heap.update a (Obj.mapSeq g)).get? a = some ⟨.type "list", Option.none, .seq (g items) (if (g items).size == items.size then n else n + 1), #[]⟩ := Heap.get?_update_self _ hL rfl
  obtain ⟨e1, _⟩ := S.rep.objs l _ _ hl hι
  cases e1
  obtain ⟨S', e⟩ := St.turned (t := t) (o := .list vs') S hι (Heap.SameBut.update ..) (.inl rfl) hL h2 rfl rfl fun m => ⟨rfl, (g items).toList, ⟨_, by simpa using h2⟩, hv.mono m⟩
  exact ⟨v, _, ι, q, r.mono e.mono, S'.rep, e, S.gens, S.os⟩

theorem CallOk.append {l : Nat} {v : V} {vs : List V} (hl : σ[l]? = some (.list vs)) (hn : vs.length ≤ sizeLine) (q : Q .none (σ.set l (.list (vs ++ [v])))) : CallOk T d X (.bi "list.append") [.ref l, v] Q σ := by
  intro A fs ι s fv xs S rf rxs
  cases rf.bi_inv
  obtain ⟨x, y, rfl, r, ry⟩ := rxs.two
  obtain ⟨a, dx, rfl, hι⟩ := r.ref_inv
  obtain ⟨items, m, hL, hv⟩ := S.rep.list_at hl hι
  have hlen := hv.length
  simp only [Array.length_toList] at hlen
  refine call_meets F.slot_list_append ⟨_, hL, rfl⟩ F.entry_list_append (F.args_list_append_2 _ _) (list_append a items m y (by omega)) ⟨hL, ?_⟩
  refine S.setList (g := fun z => z.push y) hl hι hL ?_ q .none_mk
  rw [Array.toList_push]
  exact hv.append (by unfold VRels; exact ⟨ry, by unfold VRels; trivial⟩)

theorem VRels.snoc {h : Heap} : ∀ {vs : List V} {v : V} {xs : List Value}, VRels T ι h (vs ++ [v]) xs → ∃ ys y, xs = ys ++ [y] ∧ VRels T ι h vs ys ∧ VRel T ι h v y
  | [], v, xs, r => by obtain ⟨x, rfl, a⟩ := VRels.one r; exact ⟨[], x, rfl, by unfold VRels; trivial, a⟩
  | w :: vs, v, xs, r => by
    obtain ⟨x, r', rfl, a, b⟩ := VRels.cons_iff.mp r
    obtain ⟨ys, y, rfl, c, e⟩ := VRels.snoc b
    exact ⟨x :: ys, y, rfl, by unfold VRels; exact ⟨a, c⟩, e⟩

theorem CallOk.pop {l : Nat} {v : V} {vs : List V} (hl : σ[l]? = some (.list (vs ++ [v]))) (hn : vs.length < sizeLine) (q : Q v (σ.set l (.list vs))) : CallOk T d X (.bi "list.pop") [.ref l] Q σ := by
  intro A fs ι s fv xs S rf rxs
  cases rf.bi_inv
  obtain ⟨x, rfl, r⟩ := rxs.one
  obtain ⟨a, dx, rfl, hι⟩ := r.ref_inv
  obtain ⟨items, m, hL, hv⟩ := S.rep.list_at hl hι
  obtain ⟨ys, y, hi, hy, ry⟩ := hv.snoc
  have hlen := hv.length
  simp only [Array.length_toList, List.length_append, List.length_cons, List.length_nil] at hlen
  have hsz : items.size - 1 = ys.length := by
    have : items.size = ys.length + 1 := by rw [← Array.length_toList, hi]; simp
    omega
  have hlast : items[items.size - 1]? = some y := by
    rw [← Array.getElem?_toList, hi, hsz]; simp
  refine call_meets F.slot_list_pop ⟨_, hL, rfl⟩ F.entry_list_pop (F.args_list_pop_1 _) (MeetsSeq.list_pop_last a items m y hlast (by omega)) ⟨hL, ?_⟩
  refine S.setList (t := s.toks) (g := fun z => z.eraseIdxIfInBounds (items.size - 1)) hl hι hL ?_ q ry
  have e2 : (items.eraseIdxIfInBounds (items.size - 1)).toList = ys := by
    rw [Array.toList_eraseIdxIfInBounds, hi, hsz]
    simp [List.eraseIdx_append_of_length_le]
  rw [e2]; exact hy

theorem CallOk.clear {l : Nat} {vs : List V} (hl : σ[l]? = some (.list vs)) (hn : vs.length ≤ sizeLine) (q : Q .none (σ.set l (.list []))) : CallOk T d X (.bi "list.clear") [.ref l] Q σ := by
  intro A fs ι s fv xs S rf rxs
  cases rf.bi_inv
  obtain ⟨x, rfl, r⟩ := rxs.one
  obtain ⟨a, dx, rfl, hι⟩ := r.ref_inv
  obtain ⟨items, m, hL, hv⟩ := S.rep.list_at hl hι
  have hlen := hv.length
  simp only [Array.length_toList] at hlen
  refine call_meets F.slot_list_clear ⟨_, hL, rfl⟩ F.entry_list_clear (F.args_list_clear_1 _) (AutoSeq1.list_clear_list_0 a items m (by omega)) ⟨hL, ?_⟩
  exact S.setList (g := fun _ => #[]) hl hι hL (by unfold VRels; trivial) q .none_mk

theorem CallOk.extend {l k : Nat} {vs us : List V} (hl : σ[l]? = some (.list vs)) (hk : σ[k]? = some (.list us)) (hn : vs.length + us.length ≤ sizeLine) (q : Q .none (σ.set l (.list (vs ++ us)))) : CallOk T d X (.bi "list.extend") [.ref l, .ref k] Q σ := by
  intro A fs ι s fv xs S rf rxs
  cases rf.bi_inv
  obtain ⟨x, y, rfl, r, ry⟩ := rxs.two
  obtain ⟨a, dx, rfl, hι⟩ := r.ref_inv
  obtain ⟨b, dy, rfl, hιb⟩ := ry.ref_inv
  obtain ⟨items, m, hL, hv⟩ := S.rep.list_at hl hι
  obtain ⟨items2, m2, hL2, hv2⟩ := S.rep.list_at hk hιb
  have hlen := hv.length; have hlen2 := hv2.length
  simp only [Array.length_toList] at hlen hlen2
  refine call_meets F.slot_list_extend ⟨_, hL, rfl⟩ F.entry_list_extend (F.args_list_extend_2 _ _) (AutoSeq1.list_extend_list_list_0 a items m b items2 m2 (fun z => by
    rw [Bool.and_eq_true] at z
    have z2 := z.2
    unfold Builtin.List.listTooLong at z2
    rw [decide_eq_true_eq] at z2; omega) (by omega) (by omega)) ⟨hL, hL2, ?_⟩
  refine S.setList (g := fun z => z ++ items2) hl hι hL ?_ q .none_mk
  rw [Array.toList_append]; exact hv.append hv2

/-- the truths of a list -/
def allB : List V → Option (List Bool)
  | [] => some []
  | .bool b :: r => (allB r).map (b :: ·)
  | _ => Option.none
theorem allB_at {h : Heap} : ∀ {vs : List V} {bs : List Bool} {xs : List Value}, allB vs = some bs → VRels T ι h vs xs → xs = bs.map Value.bool
  | [], _, xs, e, r => by cases e; exact VRels.nil_iff.mp r
  | v :: vs, bs, xs, e, r => by
    obtain ⟨x, r', rfl, a, b⟩ := VRels.cons_iff.mp r
    cases v <;> first | (cases e; done) | skip
    simp only [allB, Option.map_eq_some_iff] at e
    obtain ⟨bs', e, rfl⟩ := e
    cases a.bool_inv
    rw [allB_at e b]; rfl

theorem truthsOk {prog : Program} {w : World} {A : Around} (bs : List Bool) : TruthOf prog w A (fun i v => ((bs.map Value.bool).toArray)[i]? = some v) (fun i => bs.getD i false) := fun i v s Q E hP hQ => by
  simp only [List.getElem?_toArray, List.getElem?_map, Option.map_eq_some_iff] at hP
  obtain ⟨b, hb, rfl⟩ := hP
  refine wpAny_truthy_bool ?_
  have hQ' : Q (bs.getD i false) s := hQ
  rw [List.getD_eq_getElem?_getD, hb] at hQ'
  exact hQ'
theorem range_all (bs : List Bool) : ((List.range bs.length).all fun i => bs.getD i false) = bs.all id := by
  rw [Bool.eq_iff_iff, List.all_eq_true, List.all_eq_true]
  constructor
  · intro h x hx
    obtain ⟨i, hi, rfl⟩ := List.getElem_of_mem hx
    have := h i (by simpa using hi)
    simpa [List.getD_eq_getElem?_getD, hi] using this
  · intro h i hi
    have hi' : i < bs.length := by simpa using hi
    simpa [List.getD_eq_getElem?_getD, hi'] using h bs[i] (List.getElem_mem hi')
theorem range_any (bs : List Bool) : ((List.range bs.length).any fun i => bs.getD i false) = bs.any id := by
  rw [Bool.eq_iff_iff, List.any_eq_true, List.any_eq_true]
  constructor
  · rintro ⟨i, hi, h⟩
    have hi' : i < bs.length := by simpa using hi
    exact ⟨bs[i], List.getElem_mem hi', by simpa [List.getD_eq_getElem?_getD, hi'] using h⟩
  · rintro ⟨x, hx, h⟩
    obtain ⟨i, hi, rfl⟩ := List.getElem_of_mem hx
    exact ⟨i, by simpa using hi, by simpa [List.getD_eq_getElem?_getD, hi] using h⟩

theorem CallOk.all {l : Nat} {vs : List V} {bs : List Bool} (hl : σ[l]? = some (.list vs)) (hb : allB vs = some bs) (q : Q (.bool (bs.all id)) σ) : CallOk T d X (.bi "all") [.ref l] Q σ := by
  intro A fs ι s fv xs S rf rxs
  cases rf.bi_inv
  obtain ⟨x, rfl, r⟩ := rxs.one
  obtain ⟨a, dx, rfl, hι⟩ := r.ref_inv
  obtain ⟨items, m, hL, hv⟩ := S.rep.list_at hl hι
  have hitems : items = (bs.map Value.bool).toArray := by rw [← allB_at hb hv]
  subst hitems
  have hne : a ≠ s.heap.objs.size := Nat.ne_of_lt (Heap.lt_size hL)
  have fin : wpAny (model T.prog T.w) A (call (.builtin "all") [.ref a]) (fun y s' => y = .bool (bs.all id) ∧ ∃ h' c', s' = { s with heap := h', toks := c' } ∧ (∀ b o', s.heap.get? b = some o' → h'.get? b = some o')) (PostX T [] X ι s.heap) s := by
    refine call_all_walk (wpAny_pyIter_list hL.isList ?_)
    refine ⟨s.heap.objs.size, _, _, _, _, _, _, rfl, Walks.list (A := A.in1) S.aok.hd s.heap.objs.size a hne _, ⟨⟨_, Heap.get?_push_size _ rfl, rfl, rfl⟩, hL.isList.push _⟩, truthsOk bs, fun h' tk k => ⟨?_, h', tk, rfl, fun b o hb => k b o (by simpa using Nat.ne_of_lt (Heap.lt_size hb)) (Heap.get?_push_of_some _ hb)⟩⟩
    rw [List.size_toArray, List.length_map, range_all]
  refine wpAny_mono (wpAny_size fin) (fun y s' p => ?_) fun _ _ p => p.1
  obtain ⟨⟨rfl, h', c', rfl, k⟩, hz⟩ := p
  exact S.grown hz k q .bool_mk

theorem CallOk.any {l : Nat} {vs : List V} {bs : List Bool} (hl : σ[l]? = some (.list vs)) (hb : allB vs = some bs) (q : Q (.bool (bs.any id)) σ) : CallOk T d X (.bi "any") [.ref l] Q σ := by
  intro A fs ι s fv xs S rf rxs
  cases rf.bi_inv
  obtain ⟨x, rfl, r⟩ := rxs.one
  obtain ⟨a, dx, rfl, hι⟩ := r.ref_inv
  obtain ⟨items, m, hL, hv⟩ := S.rep.list_at hl hι
  have hitems : items = (bs.map Value.bool).toArray := by rw [← allB_at hb hv]
  subst hitems
  have hne : a ≠ s.heap.objs.size := Nat.ne_of_lt (Heap.lt_size hL)
  have fin : wpAny (model T.prog T.w) A (call (.builtin "any") [.ref a]) (fun y s' => y = .bool (bs.any id) ∧ ∃ h' c', s' = { s with heap := h', toks := c' } ∧ (∀ b o', s.heap.get? b = some o' → h'.get? b = some o')) (PostX T [] X ι s.heap) s := by
    refine call_any_walk (wpAny_pyIter_list hL.isList ?_)
    refine ⟨s.heap.objs.size, _, _, _, _, _, _, rfl, Walks.list (A := A.in1) S.aok.hd s.heap.objs.size a hne _, ⟨⟨_, Heap.get?_push_size _ rfl, rfl, rfl⟩, hL.isList.push _⟩, truthsOk bs, fun h' tk k => ⟨?_, h', tk, rfl, fun b o hb => k b o (by simpa using Nat.ne_of_lt (Heap.lt_size hb)) (Heap.get?_push_of_some _ hb)⟩⟩
    rw [List.size_toArray, List.length_map, range_any]
  refine wpAny_mono (wpAny_size fin) (fun y s' p => ?_) fun _ _ p => p.1
  obtain ⟨⟨rfl, h', c', rfl, k⟩, hz⟩ := p
  exact S.grown hz k q .bool_mk

/-- the texts of a list -/
def allS : List V → Option (List Str)
  | [] => some []
  | .str b :: r => (allS r).map (b :: ·)
  | _ => Option.none
theorem allS_at {h : Heap} : ∀ {vs : List V} {bs : List Str} {xs : List Value}, allS vs = some bs → VRels T ι h vs xs → ∃ l : List (Str × Tok), xs = strValues l ∧ l.map (·.1) = bs ∧ StrsAre xs bs
  | [], _, xs, e, r => by cases e; cases VRels.nil_iff.mp r; exact ⟨[], rfl, rfl, .nil⟩
  | v :: vs, bs, xs, e, r => by
    obtain ⟨x, r', rfl, a, b⟩ := VRels.cons_iff.mp r
    cases v <;> first | (cases e; done) | skip
    simp only [allS, Option.map_eq_some_iff] at e
    obtain ⟨bs', e, rfl⟩ := e
    obtain ⟨t, rfl⟩ := a.str_inv
    obtain ⟨l, rfl, rfl, k⟩ := allS_at e b
    exact ⟨(_, t) :: l, rfl, rfl, .cons _ _ k⟩

theorem CallOk.join {sep : Str} {l : Nat} {vs : List V} {bs : List Str} (hl : σ[l]? = some (.list vs)) (hb : allS vs = some bs) (hw : (bs.map (·.length)).sum + bs.length ≤ 1048576) (hs : sep.length ≤ 16) (q : Q (.str (Txt.join sep bs)) σ) : CallOk T d X (.bi "str.join") [.str sep, .ref l] Q σ := by
  intro A fs ι s fv xs S rf rxs
  cases rf.bi_inv
  obtain ⟨x, y, rfl, r, ry⟩ := rxs.two
  obtain ⟨t, rfl⟩ := r.str_inv
  obtain ⟨a, dx, rfl, hι⟩ := ry.ref_inv
  obtain ⟨items, m, hL, hv⟩ := S.rep.list_at hl hι
  obtain ⟨ll, h1, h2, _⟩ := allS_at hb hv
  have : items = (strValues ll).toArray := by rw [← h1]
  subst this
  exact SC.join hL.isList h2 (joinOk_of_weight hw hs) fun t' k => S.post q .str_mk _

/-- sorted, of few texts -/
theorem CallOk.sorted {l : Nat} {vs : List V} {bs : List Str} (hl : σ[l]? = some (.list vs)) (hb : allS vs = some bs) (h64 : bs.length < 64) (q : ∀ bs', bs'.Perm bs → sortedS bs' = true → Q (.ref σ.length) (σ ++ [.list (bs'.map .str)])) : CallOk T d X (.bi "sorted") [.ref l] Q σ := by
  intro A fs ι s fv xs S rf rxs
  cases rf.bi_inv
  obtain ⟨x, rfl, r⟩ := rxs.one
  obtain ⟨a, dx, rfl, hι⟩ := r.ref_inv
  obtain ⟨items, m, hL, hv⟩ := S.rep.list_at hl hι
  obtain ⟨ll, h1, h2, h3⟩ := allS_at hb hv
  have hlen : items.toList.length = bs.length := by rw [h1, ← h2]; simp [strValues]
  have rel : ∀ {zs : List Value} {ss : List Str} (ι' : Inj) (h : Heap), StrsAre zs ss → VRels T ι' h (ss.map .str) zs := fun ι' h k => by
    induction k with
    | nil => unfold VRels; trivial
    | cons y t _ ih => simp only [List.map_cons]; unfold VRels; exact ⟨.str_mk, ih⟩
  refine sorted_strs (vs := items.toList) (by simpa using hL.isList) h3 (by omega) fun out ss' a1 a2 a3 => ?_
  obtain ⟨e, he⟩ := sortedAll_at s.heap items.toList out
  have keep : ∀ b o, s.heap.get? b = some o → (sortedAll s.heap items.toList out).get? b = some o := fun _ _ => sortedAll_old
  have hz : s.heap.objs.size ≤ (sortedAll s.heap items.toList out).objs.size := Nat.le_of_lt (Nat.lt_trans (Nat.lt_succ_self _) (Heap.lt_size he))
  have e0 : Ext T [] ι s.heap ι (sortedAll s.heap items.toList out) := .of_keeps hz keep
  have hle : s.heap.objs.size ≤ s.heap.objs.size + 1 := Nat.le_succ _
  have no : s.heap.objs.size + 1 ∉ own ι := fun z => absurd (S.rep.own_lt z) (Nat.not_lt.mpr hle)
  refine ⟨.ref σ.length, _, ι ++ [(s.heap.objs.size + 1, s.heap.objs.size + 1)], q ss' a2 a3, ?_, (S.rep.grow hz keep).more (o := .list (ss'.map .str)) (p := (s.heap.objs.size + 1, s.heap.objs.size + 1)) ⟨rfl, out.toList, ⟨e, by simpa using he⟩, rel _ _ a1⟩ (Nat.le_trans S.rep.size hle) (Nat.le_trans S.rep.size hle) no no, ⟨⟨_, rfl, by simp⟩, e0.size, e0.cls, e0.frz, e0.keep, e0.frm⟩, S.gens, S.os⟩
  unfold VRel; exact ⟨s.heap.objs.size + 1, s.heap.objs.size + 1, rfl, by rw [← S.rep.len]; simp⟩
end
end Mine

namespace Mine
open PySem PySem.Calls PyProof.Rows PySem.SeqAt

def PartOk (T : Tp) (d : Nat) (sc : Scope) (ρ : Loc) (X : QX) (e : Option Expr) (Q : Option Int → Hp → Prop) (σ : Hp) : Prop := match e with
  | none => Q none σ
  | some e => EvOk T d sc ρ X e (fun v σ' => ∃ i, v = .int i ∧ Q (some i) σ') σ

section
variable {T : Tp} {A : Around} {fs : List Env} {d : Nat} {env : Env} {F : List Addr} {ι : Inj} {s : Shared} {ρ : Loc} {σ : Hp} {sc : Scope} {X : QX} {Q : QE}

theorem part_ok {e : Option Expr} {Q' : Option Int → Hp → Prop} {R : Value → Shared → Prop} {E : Value → Shared → Prop} (hsc : env.scope = sc) (I : Inv T A fs d env F ρ ι σ s) (h : PartOk T d sc ρ X e Q' σ)
    (k : ∀ l σ₁ ι₁ s₁, Q' (l.map (·.1)) σ₁ → Inv T A fs d env F ρ ι₁ σ₁ s₁ → Ext T [] ι s.heap ι₁ s₁.heap → R (partValue l) s₁) (kx : ∀ x s', PostX T [] X ι s.heap x s' → E x s') : wpAny (model T.prog T.w) A (evalPart e env) R E s := by
  cases e with
  | none => rw [evalPart_none]; exact wpAny_pure (k none σ ι s h I (.refl ..))
  | some e =>
    rw [evalPart_some]
    refine wpAny_mono (h env A fs F ι s hsc I) (fun x s₁ p => ?_) fun x s' p => kx x s' p
    obtain ⟨v, σ₁, ι₁, ⟨i, rfl, q⟩, rv, rp, ex, g, o⟩ := p
    obtain ⟨t, rfl⟩ := rv.int_inv
    exact k (some (i, t)) σ₁ ι₁ s₁ q (I.ext ex rp g o) ex

theorem EvOk.sliceStr {value : Expr} {lower upper : Option Expr} {p pos : Pos} (ht : ∀ o r, letTemporaryGo value o r = pure ())
    (h : EvOk T d sc ρ X value (fun o σ₁ => PartOk T d sc ρ X lower (fun l σ₂ => PartOk T d sc ρ X upper (fun u σ₃ => ∃ x, o = .str x ∧ x.length ≤ sizeLine ∧ Q (.str (Txt.slice x l u)) σ₃) σ₂) σ₁) σ) :
    EvOk T d sc ρ X (.Subscript value (.Slice lower upper Option.none p) pos) Q σ := by
  intro env A fs F ι s hsc I
  refine wpAny_Subscript_str_slice (wpAny_mono (h env A fs F ι s hsc I) (fun o s₁ p => ?_) fun _ _ p => p) ht
  obtain ⟨v, σ₁, ι₁, q, rv, rp, ex, g, oo⟩ := p
  have I₁ := I.ext ex rp g oo
  refine part_ok hsc I₁ q (fun l σ₂ ι₂ s₂ q₂ I₂ e₂ => ?_) fun _ _ p => p.trans ex
  refine part_ok hsc I₂ q₂ (fun u σ₃ ι₃ s₃ q₃ I₃ e₃ => ?_) fun _ _ p => p.trans (ex.trans e₂)
  obtain ⟨x, rfl, hx, q₃⟩ := q₃
  obtain ⟨t, rfl⟩ := rv.str_inv
  refine ⟨x, t, l, u, rfl, rfl, rfl, post_val_or_str ⟨Nat.le_trans (Txt.slice_le x _ _) hx, fun t' k => ?_⟩⟩
  have ep := Ext.push T [] ι₃ s₃.heap { cls := .type "slice", data := .fields #[partValue l, partValue u, .none] }
  exact ⟨_, σ₃, ι₃, q₃, .str_mk, I₃.rep.push _, ex.trans (e₂.trans (e₃.trans ep)), I₃.gens, I₃.os⟩
end
end Mine

namespace Mine
open PySem PySem.Calls PyProof.Rows PySem.SeqAt

def biTab : List (Str × V) := [("len", .bi "len"), ("isinstance", .bi "isinstance"), ("ord", .bi "ord"), ("all", .bi "all"), ("any", .bi "any"), ("min", .bi "min"), ("sorted", .bi "sorted"), ("reversed", .type "reversed"),
  ("list", .type "list"), ("tuple", .type "tuple"), ("str", .type "str"), ("int", .type "int"), ("range", .type "range"), ("bool", .type "bool"), ("ValueError", .type "ValueError")]
def gvOf (K : PySem.W.Frag) (x : Str) : Option V := match PySem.W.nsIn K mainGlobals x with
  | some (some (.int i _)) => some (.int i)
  | some (some (.str s _)) => some (.str s)
  | some (some (.ref _)) => some (.glob x)
  | some none => biTab.lookup x
  | _ => none

theorem biTab_boot : (biTab.all fun p => match p.2 with
    | .bi id => bootBuiltins p.1 == some (.builtin id)
    | .type n => bootBuiltins p.1 == some (.type n)
    | _ => false) = true := by decide +kernel
theorem biTab_name : (biTab.all fun p => !(p.1 == ("__name__" : Str))) = true := by decide +kernel

def tpOf (prog : Program) (w : World) (s : Shared) (K : PySem.W.Frag) : Tp := ⟨prog, w, s.heap, s.os, K, gvOf K⟩

theorem topOk_of {prog p : Program} {w : World} {s : Shared} {K : PySem.W.Frag} {loose : List Str} {mg mb : Str → Option Value} (TR : PySem.W.TopRead p loose mg mb s.heap) (X : K.In s.heap) : TopOk (tpOf prog w s K) where
  X0 := X
  lim := TR.nolimit
  gl := fun x v e => by
    have e' : gvOf K x = some v := e
    unfold gvOf at e'
    split at e'
    · rename_i i t hn; cases e'
      exact ⟨_, mg, mb, TR.g, TR.b, .inl (PySem.W.mg_of X TR.g hn), .int_mk⟩
    · rename_i i t hn; cases e'
      exact ⟨_, mg, mb, TR.g, TR.b, .inl (PySem.W.mg_of X TR.g hn), .str_mk⟩
    · rename_i a hn; cases e'
      refine ⟨_, mg, mb, TR.g, TR.b, .inl (PySem.W.mg_of X TR.g hn), ?_⟩
      unfold VRel Tp.g
      show (PySem.W.nsIn K mainGlobals x).join = _
      rw [hn]; rfl
    · rename_i hn
      have hm := mem_of_lookup e'
      have h1 := List.all_eq_true.mp biTab_boot _ hm
      have h2 := List.all_eq_true.mp biTab_name _ hm
      have hx : x ≠ "__name__" := by simpa using h2
      cases v <;> first | (cases h1; done) | skip
      · refine ⟨_, mg, mb, TR.g, TR.b, .inr ⟨PySem.W.mg_none_of X TR.g hn, (TR.builtins x hx).trans (beq_iff_eq.mp h1)⟩, ?_⟩
        unfold VRel; rfl
      · refine ⟨_, mg, mb, TR.g, TR.b, .inr ⟨PySem.W.mg_none_of X TR.g hn, (TR.builtins x hx).trans (beq_iff_eq.mp h1)⟩, ?_⟩
        unfold VRel; rfl
    · cases e'

theorem start {prog p : Program} {w : World} {s : Shared} {K : PySem.W.Frag} {loose : List Str} {mg mb : Str → Option Value} {fa a la : Addr} {xs : List Int} {l : List (Int × Tok)} {o : Obj} {items : Array Value} {n : Nat} {name : Str}
    (TR : PySem.W.TopRead p loose mg mb s.heap) (X : K.In s.heap) (hg : s.gens = #[]) (hb : ∃ b o, K.lookup b = some o ∧ 10 ≤ b) (hmg : mg name = some (.ref fa)) (hK : PySem.W.nsIn K mainGlobals name = some (some (.ref a)))
    (ho : s.heap.get? la = some o) (hc : o.cls = .type "list") (hd : o.data = .seq items n) (hl : items.toList = l.map (fun p => Value.int p.1 p.2)) (hx : l.map (·.1) = xs)
    (h : CallOk (tpOf prog w s K) 690 (fun _ _ => False) (.glob name) [.scr xs] (fun v _ => v = .bool true) []) :
    wpAny (model prog w) callerA (call (.ref fa) [.ref la]) (fun v s' => v = .bool true ∧ (∀ b o, s.heap.get? b = some o → s'.heap.get? b = some o) ∧ s'.os = s.os ∧ s'.gens = #[]) (fun _ _ => False) s := by
  have hfa := PySem.W.mg_of X TR.g hK
  rw [hmg] at hfa; cases hfa
  have hbig : 10 ≤ s.heap.objs.size := by
    obtain ⟨b, o, e, h10⟩ := hb
    exact Nat.le_of_lt (Nat.lt_of_le_of_lt h10 (Heap.lt_size (X _ _ e)))
  have S : St (tpOf prog w s K) callerA [] 690 [] [] s := by
    have R : Rep (tpOf prog w s K) [] [] s.heap := { len := rfl, big := hbig, size := Nat.le_refl _, base := fun _ _ e => e, objs := fun l o p e => by simp at e, fresh := fun p hp => (by cases hp), apart := fun i j p q e => by simp at e }
    exact ⟨R, ⟨rfl, fun e he => (by cases he), by decide, by decide, rfl⟩, hg, rfl⟩
  have rf : VRel (tpOf prog w s K) [] s.heap (.glob name) (.ref fa) := by
    unfold VRel Tp.g
    show (PySem.W.nsIn K mainGlobals name).join = _
    rw [hK]; rfl
  have rx : VRels (tpOf prog w s K) [] s.heap [.scr xs] [.ref la] := by
    unfold VRels
    refine ⟨?_, by unfold VRels; trivial⟩
    unfold VRel
    exact ⟨la, o, items, n, rfl, ho, hc, hd, l, hl, hx⟩
  refine wpAny_mono (h callerA [] [] s (.ref fa) [.ref la] S rf rx) (fun v s' p => ?_) fun e s' p => ?_
  · obtain ⟨v', σ', ι', rfl, rv, rp, ex, g, oo⟩ := p
    cases rv.bool_inv
    exact ⟨rfl, rp.base, oo, g⟩
  · obtain ⟨_, _, _, _, _, f, _⟩ := p
    exact f.elim

theorem finish {M : Model} {A : Around} {t : Sem Value} {c : PySem.W.ClaimW} {cl : Str → Option Addr} {mean : ExcName → Option Value} {args : List PySem.W.WData} {s : Shared} (hn : ∀ cls, c.raises args cls = false) (hp : c.post args (.bool true) args = true)
    (h : wpAny M A t (fun v s' => v = .bool true ∧ (∀ b o, s.heap.get? b = some o → s'.heap.get? b = some o) ∧ s'.os = s.os ∧ s'.gens = #[]) (fun _ _ => False) s) :
    wpAny M A t (fun v s' => PySem.W.GoodWG c cl mean args s (.ok (.ret v)) s') (fun e s' => PySem.W.GoodWG c cl mean args s (.error e) s') s := by
  refine wpAny_mono h (fun v s' p => ?_) fun e s' p => p.elim
  obtain ⟨rfl, k, o, g⟩ := p
  exact PySem.W.GoodW.toG ⟨.inl ⟨_, .bool true, [], rfl, hn, .bool true, hp, fun _ => ⟨List.nodup_nil, fun a ha => by cases ha⟩⟩, k, o, g⟩

theorem ints_pairs {vs : List Value} {xs : List Int} (h : IntsAre vs xs) : ∃ l : List (Int × Tok), vs = l.map (fun p => Value.int p.1 p.2) ∧ l.map (·.1) = xs := by
  induction h with
  | nil => exact ⟨[], rfl, rfl⟩
  | cons n t _ ih => obtain ⟨l, rfl, rfl⟩ := ih; exact ⟨(n, t) :: l, rfl, rfl⟩
end Mine

namespace Mine
open PySem PySem.Calls PyProof.Rows PySem.SeqAt

section
variable {T : Tp} {d : Nat} {sc : Scope} {ρ : Loc} {X : QX} {Q : QE} {σ : Hp} {x y : Int} {a b : V} {s t : Str}
theorem v_add (h : Q (.int (x + y)) σ) : binVC .Add (.int x) (.int y) Q σ := h
theorem v_sub (h : Q (.int (x - y)) σ) : binVC .Sub (.int x) (.int y) Q σ := h
theorem v_mul (h : Q (.int (x * y)) σ) (k : small64 x ∨ small64 y) : binVC .Mult (.int x) (.int y) Q σ := ⟨k, h⟩
theorem v_fdiv (h : Q (.int (x.fdiv y)) σ) (k : y ≠ 0) (k2 : y.natAbs < 1073741824) : binVC .FloorDiv (.int x) (.int y) Q σ := ⟨k, k2, h⟩
theorem v_mod (h : Q (.int (x.fmod y)) σ) (k : y ≠ 0) : binVC .Mod (.int x) (.int y) Q σ := ⟨k, h⟩
theorem v_cat (h : Q (.str (s ++ t)) σ) (k : s.length + t.length ≤ sizeLine) : binVC .Add (.str s) (.str t) Q σ := ⟨k, h⟩
theorem v_rep (h : Q (.str (Txt.mul s x)) σ) (k : MulOk s x) : binVC .Mult (.str s) (.int x) Q σ := ⟨k, h⟩
theorem v_lt (h : Q (.bool (decide (x < y))) σ) : cmpVC .Lt (.int x) (.int y) Q σ := h
theorem v_le (h : Q (.bool (decide (x ≤ y))) σ) : cmpVC .LtE (.int x) (.int y) Q σ := h
theorem v_gt (h : Q (.bool (decide (y < x))) σ) : cmpVC .Gt (.int x) (.int y) Q σ := h
theorem v_ge (h : Q (.bool (decide (y ≤ x))) σ) : cmpVC .GtE (.int x) (.int y) Q σ := h
theorem v_eqi (h : Q (.bool (x == y)) σ) : cmpVC .Eq (.int x) (.int y) Q σ := h
theorem v_nei (h : Q (.bool (x != y)) σ) : cmpVC .NotEq (.int x) (.int y) Q σ := h
theorem v_eqs (h : Q (.bool (s == t)) σ) : cmpVC .Eq (.str s) (.str t) Q σ := h
theorem v_nes (h : Q (.bool (s != t)) σ) : cmpVC .NotEq (.str s) (.str t) Q σ := h
end

theorem retQ_ret {Q : QE} {v : V} {ρ : Loc} {σ : Hp} (h : Q v σ) : retQ Q (.ret v) ρ σ := h
end Mine

namespace Mine
open PySem PySem.Calls PyProof.Rows PySem.SeqAt

section
variable {T : Tp} {d : Nat} {X : QX} {Q : QE} {σ : Hp}
theorem CallOk.lower {x : Str} (hf : Builtin.Str.tooLong (Txt.lower x).length = false) (q : Q (.str (Txt.lower x)) σ) : CallOk T d X (.bi "str.lower") [.str x] Q σ := by
  intro A fs ι s fv xs S rf rxs
  cases rf.bi_inv
  obtain ⟨y, rfl, r⟩ := rxs.one
  obtain ⟨t, rfl⟩ := r.str_inv
  exact SC.lower hf (S.post q .str_mk _)
theorem CallOk.upper {x : Str} (hf : Builtin.Str.tooLong (Txt.upper x).length = false) (q : Q (.str (Txt.upper x)) σ) : CallOk T d X (.bi "str.upper") [.str x] Q σ := by
  intro A fs ι s fv xs S rf rxs
  cases rf.bi_inv
  obtain ⟨y, rfl, r⟩ := rxs.one
  obtain ⟨t, rfl⟩ := r.str_inv
  exact SC.upper hf (S.post q .str_mk _)
theorem m_lower : MethFacts "str" "lower" "str.lower" := ⟨F.plainAttrs_str, F.slot_str_lower, F.type_str_lower⟩
theorem m_upper : MethFacts "str" "upper" "str.upper" := ⟨F.plainAttrs_str, F.slot_str_upper, F.type_str_upper⟩
theorem m_join : MethFacts "str" "join" "str.join" := ⟨F.plainAttrs_str, F.slot_str_join, F.type_str_join⟩
theorem m_append : MethFacts "list" "append" "list.append" := ⟨F.plainAttrs_list, F.slot_list_append, F.type_list_append⟩
theorem m_pop : MethFacts "list" "pop" "list.pop" := ⟨F.plainAttrs_list, F.slot_list_pop, F.type_list_pop⟩
theorem m_extend : MethFacts "list" "extend" "list.extend" := ⟨F.plainAttrs_list, F.slot_list_extend, F.type_list_extend⟩
theorem m_clear : MethFacts "list" "clear" "list.clear" := ⟨F.plainAttrs_list, F.slot_list_clear, F.type_list_clear⟩

theorem Resolves.bi {ov : V} {name : Str} {id ty : String} (h1 : kindV σ ov = some ty) (h2 : MethFacts ty name id) : Resolves T σ ov name (.bi id) := .inr ⟨id, ty, rfl, h1, h2⟩
end

section
variable {T : Tp} {d : Nat} {sc : Scope} {ρ : Loc} {X : XS} {Q : QS} {σ : Hp}
/-- a, b = (.., ..): the model stores the last first -/
theorem StOk.swap {a b : Str} {pa pb tp pos : Pos} {k : Nat} {value : Expr} (hs : ∀ env : Env, swapsWithSole [.Tuple [.Name a pa, .Name b pb] k tp] value pos.line env = pure false)
    (hw : ∀ env : Env, env.scope = sc → swappedStores [.Tuple [.Name a pa, .Name b pb] k tp] value env = pure (some [a, b])) (ha : isStore sc a = true) (hb : isStore sc b = true)
    (h : EvOk T d sc ρ (fun c σ => X c ρ σ) value (fun v σ' => ∃ p q, v = .tup [p, q] ∧ Q .next (upd (upd ρ b (some q)) a (some p)) σ') σ) : StOk T d sc ρ X (.Assign [.Tuple [.Name a pa, .Name b pb] k tp] value pos) Q σ := by
  intro env A fs F ι s hsc I
  refine Assign_Tuple_swapped (wpAny_mono (h env A fs F ι s hsc I) (fun x s₁ p => ?_) fun _ _ p => p.sx I fun _ _ k => k) (hs env) (hw env hsc)
  obtain ⟨v, σ₁, ι₁, ⟨p, q, rfl, qq⟩, rv, rp, ex, g, o⟩ := p
  have I₁ := I.ext ex rp g o
  subst hsc
  obtain ⟨ad, items, n, rfl, hT, hv⟩ := rv.tup_inv
  obtain ⟨y₁, r₁, e₁, v₁, hv⟩ := VRels.cons_iff.mp hv
  obtain ⟨y₂, r₂, rfl, v₂, hv⟩ := VRels.cons_iff.mp hv
  cases VRels.nil_iff.mp hv
  have hsz : items.size = 2 := by rw [← Array.length_toList, e₁]; rfl
  show wpAny _ A (unpackItems (.ref ad) 2 none) _ _ s₁
  refine hsz ▸ tupItems I₁.aok.hd hT fun h' hz hk => ?_
  have e0 : Ext T F ι₁ s₁.heap ι₁ h' := .of_keeps hz hk
  have I₂ := I₁.grown hz hk
  rw [e₁]
  refine assignInOrder_cons (t := fun v => bindName env b v) (wpAny_bindName (storeI I₂ hb (v₂.mono e0.mono) fun h₂ t₂ I₃ e₃ => ?_))
  refine assignInOrder_cons (t := fun v => bindName env a v) (wpAny_bindName (storeI I₃ ha (v₁.mono (e0.trans e₃).mono) fun h₃ t₃ I₄ e₄ => ?_))
  exact assignInOrder_nil ⟨.next, _, σ₁, ι₁, qq, trivial, I₄, ex.up.trans (e0.trans (e₃.trans e₄))⟩
end
end Mine

namespace Mine
open PySem PySem.Calls PyProof.Rows PySem.SeqAt

section
variable {T : Tp} {d : Nat} {sc : Scope} {ρ : Loc} {X : QX} {Q : QE} {σ : Hp}
/-- f(..), f a function or a class of the program -/
theorem EvOk.callG {x : Str} {np pos : Pos} {args : List Expr} (TO : TopOk T) (ns : noStar args = true) (hg : T.gv x = some (.glob x)) (hk : sc.names.lookup x = some .globalImplicit) (ho : scOk sc = true)
    (hkeep : ((T.g x).any fun v => PySem.W.keepIn T.K v) = true) (h : EvsOk T d sc ρ X args (fun vs σ₂ => CallOk T d X (.glob x) vs Q σ₂) σ) : EvOk T d sc ρ X (.Call (.Name x np) args [] pos) Q σ := by
  refine EvOk.call TO ns (EvOk.glob TO ⟨.inr (.inl ⟨x, rfl⟩), .inr fun v hv => ?_, h⟩ hg hk ho)
  rcases hv with ⟨y, e, hv⟩ | ⟨c, y, e, _⟩
  · cases e
    rw [hv] at hkeep; exact hkeep
  · cases e
/-- f(..), f a built-in -/
theorem EvOk.callB {x : Str} {np pos : Pos} {args : List Expr} {f : V} (TO : TopOk T) (ns : noStar args = true) (hg : T.gv x = some f) (hk : sc.names.lookup x = some .globalImplicit) (ho : scOk sc = true)
    (hc : callable f = true) (h : EvsOk T d sc ρ X args (fun vs σ₂ => CallOk T d X f vs Q σ₂) σ) : EvOk T d sc ρ X (.Call (.Name x np) args [] pos) Q σ :=
  EvOk.call TO ns (EvOk.glob TO ⟨.inl hc, .inl hc, h⟩ hg hk ho)
theorem EvOk.nm {x : Str} {pos : Pos} {v : V} (hv : ρ x = some v) (hk : isVar sc x = true) (ho : scOk sc = true) (h : Q v σ) : EvOk T d sc ρ X (.Name x pos) Q σ := EvOk.var h hv hk ho
theorem EvOk.gl {x : Str} {pos : Pos} {v : V} (TO : TopOk T) (hv : T.gv x = some v) (hk : sc.names.lookup x = some .globalImplicit) (ho : scOk sc = true) (h : Q v σ) : EvOk T d sc ρ X (.Name x pos) Q σ := EvOk.glob TO h hv hk ho
theorem EvOk.ix {value slice : Expr} {pos : Pos} (ns : notSlice slice = true) (h : EvOk T d sc ρ X value (fun o σ₁ => EvOk T d sc ρ X slice (fun i σ₂ => itemVC o i Q σ₂) σ₁) σ) : EvOk T d sc ρ X (.Subscript value slice pos) Q σ := EvOk.item h ns
theorem EvOk.cp {l r : Expr} {op : CmpOp} {pos : Pos} (hm : behindInMarks op r = false) (h : EvOk T d sc ρ X l (fun a σ₁ => EvOk T d sc ρ X r (fun b σ₂ => cmpVC op a b Q σ₂) σ₁) σ) : EvOk T d sc ρ X (.Compare l [op] [r] pos) Q σ := EvOk.cmp h hm
theorem TsOk.cp {B : Bool → Hp → Prop} {l r : Expr} {op : CmpOp} {pos : Pos} (hm : behindInMarks op r = false) (h : EvOk T d sc ρ X l (fun a σ₁ => EvOk T d sc ρ X r (fun b σ₂ => cmpVC op a b (fun v σ₃ => ∃ c, v = .bool c ∧ B c σ₃) σ₂) σ₁) σ) : TsOk T d sc ρ X (.Compare l [op] [r] pos) B σ := TsOk.cmp h hm
theorem i_tup {vs : List V} {k : Int} {j : Nat} {v : V} (e1 : seqIndex? k vs.length = some j) (e2 : vs[j]? = some v) (e3 : decide (-(2 ^ 63) ≤ k ∧ k < 2 ^ 63) = true) (q : Q v σ) : itemVC (.tup vs) (.int k) Q σ := ⟨j, v, e1, e2, (of_decide_eq_true e3 : -(2 ^ 63) ≤ k ∧ k < 2 ^ 63), q⟩
theorem i_list {l : Nat} {vs : List V} {k : Int} {j : Nat} {v : V} (e0 : σ[l]? = some (.list vs)) (e1 : seqIndex? k vs.length = some j) (e2 : vs[j]? = some v) (e3 : sm63 k) (q : Q v σ) : itemVC (.ref l) (.int k) Q σ := ⟨vs, j, v, e0, e1, e2, e3, q⟩
theorem EvsOk.one {L : List V → Hp → Prop} {e : Expr} (h : EvOk T d sc ρ X e (fun v σ₁ => L [v] σ₁) σ) : EvsOk T d sc ρ X [e] L σ := EvsOk.cons (EvOk.mono h (fun _ _ q => EvsOk.nil q) fun _ _ q => q)
theorem EvsOk.two {L : List V → Hp → Prop} {e f : Expr} (h : EvOk T d sc ρ X e (fun v σ₁ => EvOk T d sc ρ X f (fun u σ₂ => L [v, u] σ₂) σ₁) σ) : EvsOk T d sc ρ X [e, f] L σ := EvsOk.cons (EvOk.mono h (fun _ _ q => EvsOk.one q) fun _ _ q => q)
end
section
variable {T : Tp} {d : Nat} {sc : Scope} {ρ : Loc} {X : XS} {Q : QS} {σ : Hp}
theorem StOk.set {x : Str} {pos' pos : Pos} {e : Expr} (hc : noComp e = true) (hk : isStore sc x = true) (q : EvOk T d sc ρ (fun c σ => X c ρ σ) e (fun v σ' => Q .next (upd ρ x (some v)) σ') σ) : StOk T d sc ρ X (.Assign [.Name x pos'] e pos) Q σ := StOk.assign q hc hk
/-- a statement by what it leaves -/
theorem ExOk.cut {st : Stmt} {r : List Stmt} (P : Loc → Hp → Prop) (h1 : StOk T d sc ρ X st (fun fl ρ' σ' => fl = .next ∧ P ρ' σ') σ) (h2 : ∀ ρ' σ', P ρ' σ' → ExOk T d sc ρ' X r Q σ') : ExOk T d sc ρ X (st :: r) Q σ :=
  ExOk.cons (h1.mono (fun fl ρ' σ' h => by obtain ⟨rfl, h⟩ := h; exact h2 ρ' σ' h) fun _ _ _ h => h)
end
end Mine

section

open PySem PySem.W PyProof.Rows
set_option maxRecDepth 100000
namespace Mine
noncomputable abbrev T01 (w : World) (s : Shared) : Tp := tpOf PySem.Challenge.rw_uf010010_01.row.prog w s (hd01.heap_39 w.params)
variable {w : World} {s : Shared}
set_option maxHeartbeats 2000000
theorem fn_cell_at {d : Nat} {X : QX} {Q : QE} {σ : Hp} (TO : TopOk (T01 w s)) {xs : List Int} {k : Int} (h0 : 0 ≤ k) (hk : k < 2 ^ 62) (hx : xs.length < 2 ^ 62) (q : Q (.int (xs.getD k.toNat 0)) σ) : CallOk (T01 w s) (d + 1) X (.glob "_law_cell_at") [.scr xs, .int k] Q σ := by
  refine CallOk.fn TO (FnV.glob (v := _) rfl ⟨⟨_, _, _, rfl, rfl, rfl, rfl, rfl, rfl, rfl, rfl, rfl, fun vals h => ?_⟩, rfl, rfl, rfl, rfl, rfl⟩) (ps := ["_law_script", "_law_k"]) rfl ?_
  · match vals, h with
    | [a, b], _ => rfl
  refine ExOk.cons (StOk.ite (TsOk.cmp (EvOk.var ?_ rfl rfl rfl) rfl))
  refine EvOk.call TO rfl (EvOk.glob TO ?_ rfl rfl rfl)
  refine ⟨.inl rfl, .inl rfl, EvsOk.cons (EvOk.var (EvsOk.nil (CallOk.len rfl hx ?_)) rfl rfl rfl)⟩
  refine v_lt ⟨_, rfl, ?_⟩
  split
  · rename_i hlt
    simp only [decide_eq_true_eq] at hlt
    refine ExOk.cons (StOk.ret (EvOk.item (EvOk.var (EvOk.var ?_ rfl rfl rfl) rfl rfl rfl) rfl))
    refine ⟨xs.getD k.toNat 0, h0, by omega, ?_, q⟩
    have : k.toNat < xs.length := by omega
    simp [List.getD_eq_getElem?_getD, this]
  · rename_i hlt
    simp only [decide_eq_true_eq] at hlt
    refine ExOk.nil ?_
    refine ExOk.cons (StOk.ret (EvOk.int ?_))
    have : xs.length ≤ k.toNat := by omega
    rw [List.getD_eq_getElem?_getD, List.getElem?_eq_none this] at q
    exact q
end Mine

open PySem PySem.W PyProof.Rows
set_option maxRecDepth 100000
namespace Mine
variable {w : World} {s : Shared}
set_option maxHeartbeats 2000000
theorem fmod_range {a b : Int} (hb : 0 < b) : 0 ≤ a.fmod b ∧ a.fmod b < b := ⟨Int.fmod_nonneg_of_pos a hb, Int.fmod_lt_of_pos a hb⟩
theorem at_sign {S : Str} {n : Nat} (h : (List.range n).all (fun j => match S.cps[j]? with | some c => decide (c < 127) | none => false) = true) (hl : S.length = n) {k : Int} (h0 : 0 ≤ k) (h1 : k < n) : ∃ c, c < 127 ∧ (seqIndex? k S.length).bind (S.cps[·]?) = some c := by
  have hj := List.all_eq_true.mp h k.toNat (by rw [List.mem_range]; omega)
  have e : seqIndex? k S.length = some k.toNat := by
    have hk : ¬ k < 0 := by omega
    unfold seqIndex?
    simp only [hk, if_false]
    rw [if_pos (by simp only [Bool.and_eq_true, decide_eq_true_eq]; omega)]
  rw [e]
  split at hj
  · rename_i c hc
    exact ⟨c, by simpa using hj, hc⟩
  · cases hj
theorem item_sign {S : Str} {n : Nat} {k : Int} {Q : QE} {σ : Hp} (h0 : 0 ≤ k) (h1 : k < n) (hn : n < 1000) (q : ∀ c, c < 127 → Q (.str ⟨#[c]⟩) σ) (h : (List.range n).all (fun j => match S.cps[j]? with | some c => decide (c < 127) | none => false) = true) (hl : S.length = n) : itemVC (.str S) (.int k) Q σ := by
  obtain ⟨c, hc, e⟩ := at_sign h hl h0 h1
  exact ⟨c, e, ⟨by omega, by omega⟩, q c hc⟩
theorem fn_sign_by {d : Nat} {X : QX} {Q : QE} {σ : Hp} (TO : TopOk (T01 w s)) {k : Int} (q : ∀ c, c < 127 → Q (.str ⟨#[c]⟩) σ) : CallOk (T01 w s) (d + 1) X (.glob "_law_sign_by") [.int k] Q σ := by
  refine CallOk.fn TO (FnV.glob (v := _) rfl ⟨⟨_, _, _, rfl, rfl, rfl, rfl, rfl, rfl, rfl, rfl, rfl, fun vals h => ?_⟩, rfl, rfl, rfl, rfl, rfl⟩) (ps := ["_law_cell"]) rfl ?_
  · match vals, h with
    | [a], _ => rfl
  refine ExOk.cons (StOk.assign (EvOk.str ?_) rfl rfl)
  refine ExOk.cons (StOk.assign (EvOk.bin (EvOk.var (EvOk.str (v_cat ?_ (by decide +kernel))) rfl rfl rfl)) rfl rfl)
  refine ExOk.cons (StOk.ret (EvOk.item (EvOk.var (EvOk.bin (EvOk.var (EvOk.int (v_mod ?_ (by decide))) rfl rfl rfl)) rfl rfl rfl) rfl))
  have r := fmod_range (a := k) (b := 96) (by decide)
  refine item_sign (n := 96) r.1 r.2 (by decide) q ?_ ?_
  · decide +kernel
  · decide +kernel
end Mine

open PySem PySem.W PyProof.Rows
set_option maxRecDepth 100000
namespace Mine
variable {w : World} {s : Shared}
set_option maxHeartbeats 2000000
abbrev ch (c : Nat) : V := .str ⟨#[c]⟩

theorem fn_takes_any {d : Nat} {X : QX} {Q : QE} {σ : Hp} (TO : TopOk (T01 w s)) {v : V} (q : Q (.bool true) σ) : CallOk (T01 w s) (d + 1) X (.glob "takes") [.tup [.str "any"], v] Q σ := by
  refine CallOk.fn TO (FnV.glob (v := _) rfl ⟨⟨_, _, _, rfl, rfl, rfl, rfl, rfl, rfl, rfl, rfl, rfl, fun vals h => ?_⟩, rfl, rfl, rfl, rfl, rfl⟩) (ps := ["part", "sign"]) rfl ?_
  · match vals, h with
    | [a, b], _ => rfl
  refine ExOk.cons (StOk.ite (TsOk.cp rfl (EvOk.ix rfl (EvOk.nm rfl rfl rfl (EvOk.int (i_tup rfl rfl rfl ?_))))))
  refine EvOk.str (v_eqs ⟨_, rfl, ?_⟩)
  rw [if_pos (by decide +kernel)]
  exact ExOk.cons (StOk.ret (EvOk.bool q))

theorem fn_takes_sign {d : Nat} {X : QX} {Q : QE} {σ : Hp} (TO : TopOk (T01 w s)) {a c : Nat} (q : Q (.bool ((⟨#[a]⟩ : Str) == ⟨#[c]⟩)) σ) : CallOk (T01 w s) (d + 1) X (.glob "takes") [.tup [.str "sign", ch a], ch c] Q σ := by
  refine CallOk.fn TO (FnV.glob (v := _) rfl ⟨⟨_, _, _, rfl, rfl, rfl, rfl, rfl, rfl, rfl, rfl, rfl, fun vals h => ?_⟩, rfl, rfl, rfl, rfl, rfl⟩) (ps := ["part", "sign"]) rfl ?_
  · match vals, h with
    | [a, b], _ => rfl
  refine ExOk.cons (StOk.ite (TsOk.cp rfl (EvOk.ix rfl (EvOk.nm rfl rfl rfl (EvOk.int (i_tup rfl rfl rfl ?_))))))
  refine EvOk.str (v_eqs ⟨_, rfl, ?_⟩)
  rw [if_neg (by decide +kernel)]
  refine ExOk.nil ?_
  refine ExOk.cons (StOk.ite (TsOk.cp rfl (EvOk.ix rfl (EvOk.nm rfl rfl rfl (EvOk.int (i_tup rfl rfl rfl ?_))))))
  refine EvOk.str (v_eqs ⟨_, rfl, ?_⟩)
  rw [if_pos (by decide +kernel)]
  refine ExOk.cons (StOk.ret (EvOk.cp rfl (EvOk.ix rfl (EvOk.nm rfl rfl rfl (EvOk.int (i_tup rfl rfl rfl ?_))))))
  exact EvOk.nm rfl rfl rfl (v_eqs q)

theorem fn_takes_span {d : Nat} {X : QX} {Q : QE} {σ : Hp} (TO : TopOk (T01 w s)) {a b c : Nat} (q : Q (.bool (decide (a ≤ c) && decide (c ≤ b))) σ) : CallOk (T01 w s) (d + 1) X (.glob "takes") [.tup [.str "span", ch a, ch b], ch c] Q σ := by
  refine CallOk.fn TO (FnV.glob (v := _) rfl ⟨⟨_, _, _, rfl, rfl, rfl, rfl, rfl, rfl, rfl, rfl, rfl, fun vals h => ?_⟩, rfl, rfl, rfl, rfl, rfl⟩) (ps := ["part", "sign"]) rfl ?_
  · match vals, h with
    | [a, b], _ => rfl
  refine ExOk.cons (StOk.ite (TsOk.cp rfl (EvOk.ix rfl (EvOk.nm rfl rfl rfl (EvOk.int (i_tup rfl rfl rfl ?_))))))
  refine EvOk.str (v_eqs ⟨_, rfl, ?_⟩)
  rw [if_neg (by decide +kernel)]
  refine ExOk.nil ?_
  refine ExOk.cons (StOk.ite (TsOk.cp rfl (EvOk.ix rfl (EvOk.nm rfl rfl rfl (EvOk.int (i_tup rfl rfl rfl ?_))))))
  refine EvOk.str (v_eqs ⟨_, rfl, ?_⟩)
  rw [if_neg (by decide +kernel)]
  refine ExOk.nil ?_
  refine ExOk.cons (StOk.ret (EvOk.cmp2 ?_ rfl))
  refine EvOk.callB TO rfl rfl rfl rfl rfl (EvsOk.one (EvOk.ix rfl (EvOk.nm rfl rfl rfl (EvOk.int (i_tup rfl rfl rfl (CallOk.ord ?_))))))
  refine EvOk.callB TO rfl rfl rfl rfl rfl (EvsOk.one (EvOk.nm rfl rfl rfl (CallOk.ord ?_)))
  refine v_le ⟨_, rfl, ?_⟩
  split
  · rename_i h1
    refine EvOk.callB TO rfl rfl rfl rfl rfl (EvsOk.one (EvOk.ix rfl (EvOk.nm rfl rfl rfl (EvOk.int (i_tup rfl rfl rfl (CallOk.ord ?_))))))
    refine v_le ?_
    have e1 : decide (a ≤ c) = true := by simpa using h1
    have e2 : (decide ((c : Int) ≤ (b : Int))) = decide (c ≤ b) := by simp
    rw [e1, Bool.true_and] at q
    show Q (.bool (decide ((c : Int) ≤ (b : Int)))) σ
    rw [e2]; exact q
  · rename_i h1
    have e1 : decide (a ≤ c) = false := by simpa using h1
    rw [e1, Bool.false_and] at q
    exact q
end Mine

open PySem PySem.W PyProof.Rows
set_option maxRecDepth 100000
namespace Mine
variable {w : World} {s : Shared}
set_option maxHeartbeats 4000000
theorem lower1 : ((List.range 127).all fun c => match (Txt.lower ⟨#[c]⟩).cps.toList with | [d] => decide (d < 127) && !Builtin.Str.tooLong (Txt.lower ⟨#[c]⟩).length | _ => false) = true := by decide +kernel
theorem upper1 : ((List.range 127).all fun c => match (Txt.upper ⟨#[c]⟩).cps.toList with | [d] => decide (d < 127) && !Builtin.Str.tooLong (Txt.upper ⟨#[c]⟩).length | _ => false) = true := by decide +kernel
theorem one_of {f : Str → Str} (h : ((List.range 127).all fun c => match (f ⟨#[c]⟩).cps.toList with | [d] => decide (d < 127) && !Builtin.Str.tooLong (f ⟨#[c]⟩).length | _ => false) = true) {c : Nat} (hc : c < 127) :
    ∃ d, d < 127 ∧ f ⟨#[c]⟩ = ⟨#[d]⟩ ∧ Builtin.Str.tooLong (f ⟨#[c]⟩).length = false := by
  have := List.all_eq_true.mp h c (by simpa using hc)
  split at this
  · rename_i d hd
    simp only [Bool.and_eq_true, decide_eq_true_eq, Bool.not_eq_true'] at this
    refine ⟨d, this.1, ?_, this.2⟩
    have e : (f ⟨#[c]⟩) = ⟨(f ⟨#[c]⟩).cps⟩ := rfl
    rw [e]; congr 1
    exact Array.toList_inj.mp hd
  · cases this

theorem v_eqb {Q : QE} {σ : Hp} {a b : Bool} (h : Q (.bool (a == b)) σ) : cmpVC .Eq (.bool a) (.bool b) Q σ := by
  refine ⟨.bool a, .bool b, by unfold Deep; rfl, by unfold Deep; rfl, by simp [PyData.depth], ?_⟩
  have : PyData.eqv (.bool a) (.bool b) = (a == b) := by cases a <;> cases b <;> rfl
  rw [this]; exact h

theorem law01 (TO : TopOk (T01 w s)) (xs : List Int) (hx : xs.length ≤ 63) : CallOk (T01 w s) 690 (fun _ _ => False) (.glob "law") [.scr xs] (fun v _ => v = .bool true) [] := by
  refine CallOk.fn (d := 689) TO (FnV.glob (v := _) rfl ⟨⟨_, _, _, rfl, rfl, rfl, rfl, rfl, rfl, rfl, rfl, rfl, fun vals h => ?_⟩, rfl, rfl, rfl, rfl, rfl⟩) (ps := ["_law_script"]) rfl ?_
  · match vals, h with
    | [a], _ => rfl
  refine ExOk.cons (StOk.set rfl rfl (EvOk.callG TO rfl rfl rfl rfl rfl (EvsOk.one (EvOk.callG TO rfl rfl rfl rfl rfl (EvsOk.two (EvOk.nm rfl rfl rfl (EvOk.int (fn_cell_at TO (by decide) (by decide) (by omega) (fn_sign_by TO fun c1 h1 => ?_)))))))))
  refine ExOk.cons (StOk.set rfl rfl (EvOk.callG TO rfl rfl rfl rfl rfl (EvsOk.one (EvOk.callG TO rfl rfl rfl rfl rfl (EvsOk.two (EvOk.nm rfl rfl rfl (EvOk.int (fn_cell_at TO (by decide) (by decide) (by omega) (fn_sign_by TO fun c2 h2 => ?_)))))))))
  refine ExOk.cut (fun ρ' σ' => ρ' "_law_script" = some (.scr xs) ∧ ∃ a b, a < 127 ∧ b < 127 ∧ a ≤ b ∧ ρ' "_law_one" = some (ch a) ∧ ρ' "_law_two" = some (ch b)) ?_ ?_
  · refine StOk.ite (TsOk.cp rfl (EvOk.callB TO rfl rfl rfl rfl rfl (EvsOk.one (EvOk.nm rfl rfl rfl (CallOk.ord (EvOk.callB TO rfl rfl rfl rfl rfl (EvsOk.one (EvOk.nm rfl rfl rfl (CallOk.ord (v_lt ⟨_, rfl, ?_⟩))))))))))
    split
    · rename_i hlt
      refine ExOk.cons (StOk.swap (fun _ => rfl) (fun env he => ?_) rfl rfl (EvOk.tup (EvsOk.two (EvOk.nm rfl rfl rfl (EvOk.nm rfl rfl rfl ⟨by simp [sizeLine_eq], _, _, rfl, ExOk.nil ⟨rfl, rfl, c2, c1, h2, h1, ?_, rfl, rfl⟩⟩))) rfl))
      · simp only [swappedStores, Env.kindOf, Env.blockKind, he]; rfl
      · have : (c2 : Int) < c1 := by simpa using hlt
        omega
    · rename_i hlt
      refine ExOk.nil ⟨rfl, rfl, c1, c2, h1, h2, ?_, rfl, rfl⟩
      have : ¬ (c2 : Int) < c1 := by simpa using hlt
      omega
  intro ρ' σ' ⟨hs, a, b, ha, hb, hab, h1, h2⟩
  refine ExOk.cons (StOk.set rfl rfl (EvOk.callG TO rfl rfl rfl rfl rfl (EvsOk.one (EvOk.callG TO rfl rfl rfl rfl rfl (EvsOk.two (EvOk.nm hs rfl rfl (EvOk.int (fn_cell_at TO (by decide) (by decide) (by omega) (fn_sign_by TO fun c3 h3 => ?_)))))))))
  obtain ⟨lo, hlo, elo, tlo⟩ := one_of lower1 ha
  obtain ⟨up, hup, eup, tup⟩ := one_of upper1 ha
  refine ExOk.cut (fun ρ'' σ'' => ρ'' "_law_script" = some (.scr xs) ∧ ρ'' "_law_one" = some (ch a) ∧ ρ'' "_law_two" = some (ch b) ∧ ∃ c, ρ'' "_law_sign" = some (ch c)) ?_ ?_
  · refine StOk.set rfl rfl (EvOk.ix rfl (EvOk.list (EvsOk.cons (EvOk.nm h1 rfl rfl (EvsOk.cons (EvOk.nm h2 rfl rfl (EvsOk.cons ?_))))) rfl))
    refine EvOk.meth TO rfl rfl rfl (by decide) (EvOk.nm h1 rfl rfl ⟨_, Resolves.bi rfl m_lower, EvsOk.nil (CallOk.lower tlo ?_)⟩)
    refine EvsOk.cons (EvOk.meth TO rfl rfl rfl (by decide) (EvOk.nm h1 rfl rfl ⟨_, Resolves.bi rfl m_upper, EvsOk.nil (CallOk.upper tup ?_)⟩))
    rw [elo, eup]
    refine EvsOk.cons (EvOk.nm rfl rfl rfl (EvsOk.nil ⟨by simp [sizeLine_eq], ?_⟩))
    refine EvOk.callB TO rfl rfl rfl rfl rfl (EvsOk.two (EvOk.int (EvOk.bin (EvOk.callG TO rfl rfl rfl rfl rfl (EvsOk.two (EvOk.nm hs rfl rfl (EvOk.int (fn_cell_at TO (by decide) (by decide) (by omega) (EvOk.int (v_mod (CallOk.min2 ?_) (by decide))))))))))) 
    have r := fmod_range (a := xs.getD (4 : Int).toNat 0) (b := 8) (by decide)
    generalize Int.fmod (xs.getD (4 : Int).toNat 0) 8 = k at r ⊢
    have fin : ∀ (j : Nat) (c : Nat), (if k < 4 then k else 4) = (j : Int) → [ch a, ch b, ch lo, ch up, ch c3][j]? = some (ch c) → j < 5 → itemVC (.ref σ'.length) (.int (if k < 4 then k else 4)) (fun v σ'' => Fl.next = .next ∧ (upd (upd ρ' "_law_other" (some (ch c3))) "_law_sign" (some v)) "_law_script" = some (.scr xs) ∧ (upd (upd ρ' "_law_other" (some (ch c3))) "_law_sign" (some v)) "_law_one" = some (ch a) ∧ (upd (upd ρ' "_law_other" (some (ch c3))) "_law_sign" (some v)) "_law_two" = some (ch b) ∧ ∃ c, (upd (upd ρ' "_law_other" (some (ch c3))) "_law_sign" (some v)) "_law_sign" = some (ch c)) (σ' ++ [.list [ch a, ch b, ch lo, ch up, ch c3]]) := fun j c e hj h5 => by
      rw [e]
      refine i_list (vs := [ch a, ch b, ch lo, ch up, ch c3]) (by simp) ?_ hj ⟨by omega, by omega⟩ ⟨rfl, hs, h1, h2, c, rfl⟩
      have hk : ¬ ((j : Int) < 0) := by omega
      unfold seqIndex?
      simp only [hk, if_false]
      rw [if_pos (by simp only [Bool.and_eq_true, decide_eq_true_eq]; simp; omega)]
      simp
    rcases (show k = 0 ∨ k = 1 ∨ k = 2 ∨ k = 3 ∨ 4 ≤ k by omega) with rfl | rfl | rfl | rfl | hk
    · exact fin 0 a rfl rfl (by decide)
    · exact fin 1 b rfl rfl (by decide)
    · exact fin 2 lo rfl rfl (by decide)
    · exact fin 3 up rfl rfl (by decide)
    · exact fin 4 c3 (by rw [if_neg (by omega)]; rfl) rfl (by decide)
  intro ρ₂ σ₂ ⟨hs2, h12, h22, c, hc⟩
  refine ExOk.cons (StOk.set rfl rfl (EvOk.bin (EvOk.callG TO rfl rfl rfl rfl rfl (EvsOk.two (EvOk.nm hs2 rfl rfl (EvOk.int (fn_cell_at TO (by decide) (by decide) (by omega) (EvOk.int (v_mod ?_ (by decide))))))))))
  have r := fmod_range (a := xs.getD (0 : Int).toNat 0) (b := 3) (by decide)
  generalize Int.fmod (xs.getD (0 : Int).toNat 0) 3 = k at r ⊢
  refine ExOk.cut (fun ρ₃ σ₃ => ∃ pv t, ρ₃ "_law_part" = some pv ∧ ρ₃ "_law_due" = some (.bool t) ∧ ρ₃ "_law_sign" = some (ch c) ∧ ∀ (X : QX) (Q : QE) (σ : Hp), Q (.bool t) σ → CallOk (T01 w s) 689 X (.glob "takes") [pv, ch c] Q σ) ?_ ?_
  · refine StOk.ite (TsOk.cp rfl (EvOk.nm rfl rfl rfl (EvOk.int (v_eqi ⟨_, rfl, ?_⟩))))
    split
    · refine ExOk.cons (StOk.set rfl rfl (EvOk.tup (EvsOk.two (EvOk.str (EvOk.nm h12 rfl rfl ⟨by simp [sizeLine_eq], ?_⟩))) rfl))
      refine ExOk.cons (StOk.set rfl rfl (EvOk.cp rfl (EvOk.callB TO rfl rfl rfl rfl rfl (EvsOk.one (EvOk.nm hc rfl rfl (CallOk.ord (EvOk.callB TO rfl rfl rfl rfl rfl (EvsOk.one (EvOk.nm h12 rfl rfl (CallOk.ord (v_eqi ?_))))))))))) 
      refine ExOk.nil ⟨rfl, _, _, rfl, rfl, hc, fun X Q σ q => fn_takes_sign TO ?_⟩
      have : ((⟨#[a]⟩ : Str) == ⟨#[c]⟩) = ((c : Int) == (a : Int)) := by
        by_cases e : a = c
        · subst e; simp
        · have e2 : (⟨#[a]⟩ : Str) ≠ ⟨#[c]⟩ := fun q => e (by injection q with q; simpa using q)
          have e3 : (c : Int) ≠ (a : Int) := fun q => e (by omega)
          rw [beq_eq_false_iff_ne.mpr e2, beq_eq_false_iff_ne.mpr e3]
      rw [this]; exact q
    · refine ExOk.cons (StOk.ite (TsOk.cp rfl (EvOk.nm rfl rfl rfl (EvOk.int (v_eqi ⟨_, rfl, ?_⟩)))))
      split
      · refine ExOk.cons (StOk.set rfl rfl (EvOk.tup (EvsOk.cons (EvOk.str (EvsOk.two (EvOk.nm h12 rfl rfl (EvOk.nm h22 rfl rfl ⟨by simp [sizeLine_eq], ?_⟩))))) rfl))
        refine ExOk.cut (fun ρ₄ σ₄ => ρ₄ "_law_part" = some (.tup [.str "span", ch a, ch b]) ∧ ρ₄ "_law_due" = some (.bool (decide (a ≤ c) && decide (c ≤ b))) ∧ ρ₄ "_law_sign" = some (ch c)) ?_ ?_
        · refine StOk.set rfl rfl (EvOk.bools (BoolsOk.and (EvOk.cp rfl (EvOk.callB TO rfl rfl rfl rfl rfl (EvsOk.one (EvOk.nm h12 rfl rfl (CallOk.ord (EvOk.callB TO rfl rfl rfl rfl rfl (EvsOk.one (EvOk.nm hc rfl rfl (CallOk.ord (v_le ⟨_, rfl, ?_⟩))))))))))))
          split
          · rename_i e
            refine BoolsOk.one (EvOk.cp rfl (EvOk.callB TO rfl rfl rfl rfl rfl (EvsOk.one (EvOk.nm hc rfl rfl (CallOk.ord (EvOk.callB TO rfl rfl rfl rfl rfl (EvsOk.one (EvOk.nm h22 rfl rfl (CallOk.ord (v_le ⟨rfl, rfl, ?_, hc⟩))))))))))
            have e1 : decide (a ≤ c) = true := by simpa using e
            have e2 : (decide ((c : Int) ≤ (b : Int))) = decide (c ≤ b) := by simp
            show some (V.bool (decide ((c : Int) ≤ (b : Int)))) = _
            rw [e1, e2]; rfl
          · rename_i e
            have e1 : decide (a ≤ c) = false := by simpa using e
            refine ⟨rfl, rfl, ?_, hc⟩
            show some (V.bool (decide ((a : Int) ≤ (c : Int)))) = _
            rw [e1, show decide ((a : Int) ≤ (c : Int)) = false by simpa using e]; rfl
        · intro ρ₄ σ₄ ⟨g1, g2, g3⟩
          exact ExOk.nil (ExOk.nil ⟨rfl, _, _, g1, g2, g3, fun X Q σ q => fn_takes_span TO q⟩)
      · refine ExOk.cons (StOk.set rfl rfl (EvOk.tup (EvsOk.one (EvOk.str ⟨by simp [sizeLine_eq], ?_⟩)) rfl))
        refine ExOk.cons (StOk.set rfl rfl (EvOk.bool ?_))
        refine ExOk.nil ?_
        exact ExOk.nil ⟨rfl, _, _, rfl, rfl, hc, fun X Q σ q => fn_takes_any TO q⟩
  · intro ρ₃ σ₃ ⟨pv, t, g1, g2, g3, gt⟩
    refine ExOk.cons (StOk.set rfl rfl (EvOk.callG TO rfl rfl rfl rfl rfl (EvsOk.two (EvOk.nm g1 rfl rfl (EvOk.nm g3 rfl rfl (gt _ _ _ ?_))))))
    cases t
    · refine ExOk.cons (StOk.ret (EvOk.bools (BoolsOk.and (EvOk.bools (BoolsOk.or (EvOk.cp rfl (EvOk.nm rfl rfl rfl (EvOk.bool ⟨_, rfl, _, rfl, ?_⟩))))))))
      rw [if_neg (by decide)]
      refine BoolsOk.one (EvOk.cp rfl (EvOk.nm rfl rfl rfl (EvOk.bool ⟨_, rfl, _, rfl, ?_⟩)))
      rw [if_pos (by decide)]
      exact BoolsOk.one (EvOk.cp rfl (EvOk.nm rfl rfl rfl (EvOk.nm g2 rfl rfl (v_eqb rfl))))
    · refine ExOk.cons (StOk.ret (EvOk.bools (BoolsOk.and (EvOk.bools (BoolsOk.or (EvOk.cp rfl (EvOk.nm rfl rfl rfl (EvOk.bool ⟨_, rfl, _, rfl, ?_⟩))))))))
      rw [if_pos (by decide)]
      refine ⟨_, rfl, ?_⟩
      rw [if_pos (by decide)]
      exact BoolsOk.one (EvOk.cp rfl (EvOk.nm rfl rfl rfl (EvOk.nm g2 rfl rfl (v_eqb rfl))))
end Mine
end

open PySem PySem.W PyProof.Rows in
set_option maxRecDepth 100000 in
set_option maxHeartbeats 8000000 in
theorem PySem.Challenge.cw_uf010010_01_holds : PySem.Challenge.rw_uf010010_01.Holds := by
  refine Mine.hd01 ?_
  intro w s₀ s₁ mg mb G Y fa o pm cd doc dV kV ho hd hcd hD hmg hg args vals as hpre hlay hrd hwl hlo
  have KX := kIn_of Y
  refine Ground.open G ?_
  intro T B D TE TW
  have TR := topRead_of T
  clear hd hcd hD
  wrow_args hpre hlay hrd hwl hlo
  rename_i xs _ _ _ _ _ _ _ la vs _ hL _ _ _ hI _ hn _
  obtain ⟨l, hl, hxs⟩ := Mine.ints_pairs hI
  obtain ⟨ol, h1, h2, n, h3⟩ := hL
  exact Mine.finish (fun _ => rfl) (by wrow_post) (Mine.start TR KX hg ⟨42, _, rfl, by decide⟩ hmg (by rfl) h1 h2 h3 (by simpa using hl) hxs (Mine.law01 (Mine.topOk_of TR KX) xs (by omega)))
