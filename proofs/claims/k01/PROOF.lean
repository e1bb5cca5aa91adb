import PyProof.Rows.All
import Wide.All
import OpenK.AllK
import Wide.FinOn
import HandS.Lambda
import HandS.ForMost
import HandS.Deep
import HandS.TupAny
import HandS.IsInst
import HandS.Flow
import HandS.Conv
import HandS.Walk
import HandS.Zip
import HandS.Defaults
import HandS.Exc
import KE.SortData
import PyProof.ReprRoads
import PyProof.ReprReads
import KE.KDictKeyed
import KE.KeyNested
import KE.KDictPairs
import KE.GoesEnum
import HandS.Small
import KE.DataCmp
import HandS.TupMul
import HandS.Style
import HandS.Star
import KE.KDictZip
import HandS.Zip0
import PyProof.ReprLen
import HandS.TupSets
import KE.KDictList
import KE.KDictCopyH
import KE.KDictWalk
import HandS.SetFor
import PyProof.MinMaxWalk
import PyProof.SumWalk
import KE.KExcSuper
import KE.KExcLine
import HandS.ExcInit
import HandS.ExcField
import HandS.ExcIs
import HandS.TryMany
import HandS.More
import PyProof.EqAt
import HandS.DictComp
import PyProof.NeKinds
import KE.KTryMore
import KE.KExcIs
import KE.KNestM
import KE.KDflt
import HandS.Text
import PySem.Challenge.RW_restshares_k01_schemas_checked
set_option Elab.async false
set_option linter.all false
set_option maxRecDepth 100000
set_option maxHeartbeats 2000000
/-! DLT: the tables of code objects that the law's lambdas are noted in (none here; mk.py prints another for a law with lambdas). -/
namespace DL
def lawTabs : List (PySem.Addr × PySem.Str) := [(322, ("_law_is_read" : PySem.Str) ++ (".<locals>." : PySem.Str) ++ ("<lambda>" : PySem.Str)), (329, ("_law_lots_right" : PySem.Str) ++ (".<locals>." : PySem.Str) ++ ("<lambda>" : PySem.Str)), (334, ("_law_by_hand_right" : PySem.Str) ++ (".<locals>." : PySem.Str) ++ ("<lambda>" : PySem.Str))]
end DL

/-! DL0: data in the abstract heap, what a slot holds, judgements over data. -/
namespace DL
open PySem PySem.Spec PyProof.Rows L2

abbrev D := PyData

/-- a tuple that stands at a for good -/
def TupAt (K : PySem.W.Frag) (H : Hp) (a : Addr) (xs : List V) : Prop :=
  H a = some (.tup xs) ∨ ∃ (o : Obj) (its : Array Value) (n : Nat), K.lookup a = some o ∧ o.cls = .type "tuple" ∧ o.data = .seq its n ∧ its.size ≤ sizeLine ∧ Vals xs its.toList
theorem TupAt.sq {K : PySem.W.Frag} {H : Hp} {a : Addr} {xs : List V} (h : TupAt K H a xs) : SqT K H a xs := by
  rcases h with h | h
  · exact .inl (.inl h)
  · exact .inr h

/-! ### dicts: keys are tuples of ints and of such tuples -/
mutual
/-- ints, tuples of such .. -/
def itup : D → Bool
  | .int _ => true
  | .tuple xs => itupAll xs
  | _ => false
def itupAll : List D → Bool
  | [] => true
  | x :: xs => itup x && itupAll xs
end
mutual
def nk : D → NestedKey
  | .int i => .num i
  | .tuple xs => .tup (nks xs)
  | _ => .none
def nks : List D → List NestedKey
  | [] => []
  | x :: xs => nk x :: nks xs
end
mutual
def hashD : D → Int
  | .int i => hashInt i
  | .tuple xs => reduceHash (Builtin.Tuple.tupleHashOf (hashesD xs))
  | _ => 0
def hashesD : List D → List Int
  | [] => []
  | x :: xs => hashD x :: hashesD xs
end
def isTup : D → Bool
  | .tuple _ => true
  | _ => false
def keyOk (d : D) : Bool := isTup d && itup d && decide (d.depth ≤ 8)
/-- a dict's object, by its entries -/
def dictO (a : Addr) (es : Array DictEntry) (ep : Nat) : HO := .ext fun h => ∃ o, h.get? a = some o ∧ o.ExactDict ∧ o.data = .dict es ep
def entsOf : List (D × D) → List Value → List Value → List DictEntry
  | p :: kvs, u :: us, x :: xs => ⟨hashD p.1, u, x⟩ :: entsOf kvs us xs
  | _, _, _ => []
structure DictOk (es : Array DictEntry) (ks vs : List V) (kvs : List (D × D)) : Prop where
  ents : ∃ us xs, Vals ks us ∧ Vals vs xs ∧ es.toList = entsOf kvs us xs
  keys : ∀ p ∈ kvs, keyOk p.1 = true
  nd : (kvs.map (·.1)).Nodup
  few : kvs.length ≤ sizeLine
mutual
/-- the value v reads as the data d in H; no list of it stands at an address of O -/
inductive Rep (K : PySem.W.Frag) (O : Addr → Prop) (H : Hp) : V → D → Prop
  | non : Rep K O H .non .none
  | bl (b : Bool) : Rep K O H (.bl b) (.bool b)
  | int (i : Int) : Rep K O H (.int i) (.int i)
  | str (x : Str) : Rep K O H (.str x) (.str x)
  | lst {a : Addr} {xs : List V} {ds : List D} : ¬ O a → H a = some (.lst xs) → RepAll K O H xs ds → Rep K O H (.ref a) (.list ds)
  | tup {a : Addr} {xs : List V} {ds : List D} : TupAt K H a xs → RepAll K O H xs ds → Rep K O H (.ref a) (.tuple ds)
  | dct {a : Addr} {es : Array DictEntry} {ep : Nat} {ks vs : List V} {kvs : List (D × D)} : ¬ O a → H a = some (dictO a es ep) → (a == sysModules) = false → DictOk es ks vs kvs → RepAll K O H ks (kvs.map (·.1)) → RepAll K O H vs (kvs.map (·.2)) → Rep K O H (.ref a) (.dict kvs)
inductive RepAll (K : PySem.W.Frag) (O : Addr → Prop) (H : Hp) : List V → List D → Prop
  | nil : RepAll K O H [] []
  | cons {v : V} {vs : List V} {d : D} {ds : List D} : Rep K O H v d → RepAll K O H vs ds → RepAll K O H (v :: vs) (d :: ds)
end

section
variable {K : PySem.W.Frag} {O O' : Addr → Prop} {H H' : Hp}
mutual
theorem Rep.map (hl : ∀ a u, ¬ O a → H a = some u → ¬ O' a ∧ H' a = some u) (ht : ∀ a xs, H a = some (.tup xs) → H' a = some (.tup xs)) : ∀ {d : D} {v : V}, Rep K O H v d → Rep K O' H' v d
  | _, _, .non => .non
  | _, _, .bl b => .bl b
  | _, _, .int i => .int i
  | _, _, .str x => .str x
  | _, _, .lst o h r => .lst (hl _ _ o h).1 (hl _ _ o h).2 (RepAll.map hl ht r)
  | _, _, .tup h r => .tup (h.imp (ht _ _) id) (RepAll.map hl ht r)
  | _, _, .dct o h s d r1 r2 => .dct (hl _ _ o h).1 (hl _ _ o h).2 s d (RepAll.map hl ht r1) (RepAll.map hl ht r2)
theorem RepAll.map (hl : ∀ a u, ¬ O a → H a = some u → ¬ O' a ∧ H' a = some u) (ht : ∀ a xs, H a = some (.tup xs) → H' a = some (.tup xs)) : ∀ {ds : List D} {vs : List V}, RepAll K O H vs ds → RepAll K O' H' vs ds
  | _, _, .nil => .nil
  | _, _, .cons r t => .cons (Rep.map hl ht r) (RepAll.map hl ht t)
end
theorem Rep.weak (h : ∀ a, O' a → O a) {d : D} {v : V} (r : Rep K O H v d) : Rep K O' H v d := r.map (fun a _ o e => ⟨fun z => o (h a z), e⟩) (fun _ _ e => e)
theorem RepAll.weak (h : ∀ a, O' a → O a) {d : List D} {v : List V} (r : RepAll K O H v d) : RepAll K O' H v d := r.map (fun a _ o e => ⟨fun z => o (h a z), e⟩) (fun _ _ e => e)
theorem Rep.same (h : Same H H') {d : D} {v : V} (r : Rep K O H v d) : Rep K O H' v d := r.map (fun a _ o e => ⟨o, h _ _ e⟩) (fun _ _ e => h _ _ e)
theorem RepAll.same (h : Same H H') {d : List D} {v : List V} (r : RepAll K O H v d) : RepAll K O H' v d := r.map (fun a _ o e => ⟨o, h _ _ e⟩) (fun _ _ e => h _ _ e)
/-- a new owned address -/
theorem Rep.more {p : Addr} (h : H p = none) {d : D} {v : V} (r : Rep K O H v d) : Rep K (fun a => O a ∨ a = p) H v d :=
  r.map (fun a _ o e => ⟨fun z => z.elim o fun q => (by subst q; rw [h] at e; cases e), e⟩) (fun _ _ e => e)
theorem RepAll.more {p : Addr} (h : H p = none) {d : List D} {v : List V} (r : RepAll K O H v d) : RepAll K (fun a => O a ∨ a = p) H v d :=
  r.map (fun a _ o e => ⟨fun z => z.elim o fun q => (by subst q; rw [h] at e; cases e), e⟩) (fun _ _ e => e)
theorem RepAll.length : ∀ {vs : List V} {ds : List D}, RepAll K O H vs ds → vs.length = ds.length
  | _, _, .nil => rfl
  | _, _, .cons _ t => by rw [List.length_cons, List.length_cons, t.length]
theorem RepAll.append : ∀ {vs ws : List V} {ds es : List D}, RepAll K O H vs ds → RepAll K O H ws es → RepAll K O H (vs ++ ws) (ds ++ es)
  | _, _, _, _, .nil, s => s
  | _, _, _, _, .cons r t, s => .cons r (RepAll.append t s)
theorem RepAll.get : ∀ {vs : List V} {ds : List D} {i : Nat} {x : V}, RepAll K O H vs ds → vs[i]? = some x → ∃ d, ds[i]? = some d ∧ Rep K O H x d
  | _, _, _, _, .nil, e => by simp at e
  | _, _, 0, _, .cons r _, e => by simp at e; subst e; exact ⟨_, rfl, r⟩
  | _, _, i + 1, x, .cons _ t, e => by
    obtain ⟨u, h1, h2⟩ := RepAll.get (i := i) (x := x) t (by simpa using e)
    exact ⟨u, by simpa using h1, h2⟩
theorem RepAll.getD : ∀ {vs : List V} {ds : List D} {i : Nat} {d : D}, RepAll K O H vs ds → ds[i]? = some d → ∃ x, vs[i]? = some x ∧ Rep K O H x d
  | _, _, _, _, .nil, e => by simp at e
  | _, _, 0, _, .cons r _, e => by simp at e; subst e; exact ⟨_, rfl, r⟩
  | _, _, i + 1, x, .cons _ t, e => by
    obtain ⟨u, h1, h2⟩ := RepAll.getD (i := i) (d := x) t (by simpa using e)
    exact ⟨u, by simpa using h1, h2⟩
theorem RepAll.take : ∀ {vs : List V} {ds : List D} (n : Nat), RepAll K O H vs ds → RepAll K O H (vs.take n) (ds.take n)
  | _, _, 0, _ => .nil
  | _, _, _ + 1, .nil => .nil
  | _, _, n + 1, .cons r t => .cons r (RepAll.take n t)
theorem RepAll.drop : ∀ {vs : List V} {ds : List D} (n : Nat), RepAll K O H vs ds → RepAll K O H (vs.drop n) (ds.drop n)
  | _, _, 0, r => r
  | _, _, _ + 1, .nil => .nil
  | _, _, n + 1, .cons _ t => RepAll.drop n t
mutual
theorem Rep.dp : ∀ {d : D} {v : V}, d.hasDict = false → Rep K O H v d → Dp K H v d
  | _, _, _, .non => .non
  | _, _, _, .bl b => .bl b
  | _, _, _, .int i => .int i
  | _, _, _, .str x => .str x
  | _, _, n, .lst o h r => .lst (.of h) (RepAll.dp (by simpa [PyData.hasDict] using n) r)
  | _, _, n, .tup h r => .tup h.sq (RepAll.dp (by simpa [PyData.hasDict] using n) r)
  | _, _, n, .dct .. => absurd n (by simp [PyData.hasDict])
theorem RepAll.dp : ∀ {ds : List D} {vs : List V}, PyData.hasDictAll ds = false → RepAll K O H vs ds → DpAll K H vs ds
  | _, _, _, .nil => .nil
  | _, _, n, .cons r t => .cons (Rep.dp (by simp only [PyData.hasDictAll, Bool.or_eq_false_iff] at n; exact n.1) r) (RepAll.dp (by simp only [PyData.hasDictAll, Bool.or_eq_false_iff] at n; exact n.2) t)
end
mutual
/-- no list in it -/
def flat : D → Bool
  | .none => true
  | .bool _ => true
  | .int _ => true
  | .str _ => true
  | .list _ => false
  | .tuple xs => flatAll xs
  | .dict _ => false
def flatAll : List D → Bool
  | [] => true
  | x :: xs => flat x && flatAll xs
end
mutual
theorem Rep.flat : ∀ {d : D} {v : V}, Rep K O H v d → flat d = true → Rep K O' H v d
  | _, _, .non, _ => .non
  | _, _, .bl b, _ => .bl b
  | _, _, .int i, _ => .int i
  | _, _, .str x, _ => .str x
  | _, _, .lst o h r, f => by simp [DL.flat] at f
  | _, _, .tup h r, f => .tup h (RepAll.flat r (by simpa [DL.flat] using f))
  | _, _, .dct .., f => by simp [DL.flat] at f
theorem RepAll.flat : ∀ {ds : List D} {vs : List V}, RepAll K O H vs ds → flatAll ds = true → RepAll K O' H vs ds
  | _, _, .nil, _ => .nil
  | _, _, .cons r t, f => .cons (Rep.flat r (by simp [DL.flatAll] at f; exact f.1)) (RepAll.flat t (by simp [DL.flatAll] at f; exact f.2))
end
theorem RepAll.of_get : ∀ {vs : List V} {ds : List D}, vs.length = ds.length → (∀ (i : Nat) (x : V) (d : D), vs[i]? = some x → ds[i]? = some d → Rep K O H x d) → RepAll K O H vs ds
  | [], [], _, _ => .nil
  | [], _ :: _, h, _ => by simp at h
  | _ :: _, [], h, _ => by simp at h
  | v :: vs, d :: ds, h, f => .cons (f 0 v d rfl rfl) (RepAll.of_get (by simpa using h) fun i x e a b => f (i + 1) x e (by simpa using a) (by simpa using b))
end

/-! ### the state of a def's body -/
/-- the law's draws: the dict's address, that of its list of great cells -/
def bigM : Int := 2305843009213693951
def DrawO : Option (Addr × Addr) → Hp → Prop
  | none, _ => True
  | some (a, g), H => a ≠ g ∧ ∃ (m t : Int) (ns : List Int), H a = some (.dK [(.inr "mixed", .int m), (.inr "great", .ref g), (.inr "turn", .int t)]) ∧ (0 ≤ m ∧ m < bigM) ∧ 0 ≤ t ∧
      H g = some (.lst (ns.map V.int)) ∧ ns.length ≤ 63
/-- the tables of code objects, too -/
structure TabM (H : Hp) : Prop where
  t : LamX.Tabs lawTabs H
  /-- the interpreter's own dict stays -/
  m : ∃ o, H sysModules = some (.frz o (.own 0))
def DrawOk (G : Option (Addr × Addr)) (H : Hp) : Prop := DrawO G H ∧ TabM H
/-- what a slot holds -/
inductive Cell where
  | un
  | dat (d : D)
  | own (ds : List D)
  | drw
  | scr (ns : List Int)
  | obj (a : Addr) (o : Option (Addr × Str × D))
/-- B: what may not be reached from what is told; G: the draws; H0: the heap at the entry; fr: what stands around -/
structure Ctx where
  B : Addr → Prop
  G : Option (Addr × Addr)
  H0 : Hp
  fr : List (V × D)
def Wr (G : Option (Addr × Addr)) (a : Addr) : Prop := (∃ p, G = some p ∧ (a = p.1 ∨ a = p.2)) ∨ ∃ q, (a, q) ∈ lawTabs
/-- the law's script -/
def ScrAt (K : PySem.W.Frag) (H : Hp) (a : Addr) (ns : List Int) : Prop :=
  (∃ o, H a = some (.frz o (.lst (ns.map V.int)))) ∨ ∃ (o : Obj) (its : Array Value) (n : Nat), K.lookup a = some o ∧ o.cls = .type "list" ∧ o.dict = none ∧ o.data = .seq its n ∧ its.size ≤ sizeLine ∧ Vals (ns.map V.int) its.toList
theorem ScrAt.sq {K : PySem.W.Frag} {H : Hp} {a : Addr} {ns : List Int} (h : ScrAt K H a ns) : SqL K H a (ns.map V.int) := h.elim (fun ⟨o, e⟩ => .inl (.inr ⟨o, e⟩)) .inr
theorem ScrAt.map {K : PySem.W.Frag} {H H' : Hp} (k : ∀ a o u, H a = some (.frz o u) → H' a = some (.frz o u)) {a : Addr} {ns : List Int} (h : ScrAt K H a ns) : ScrAt K H' a ns := h.imp (fun ⟨o, e⟩ => ⟨o, k _ _ _ e⟩) id
def CellOk (K : PySem.W.Frag) (c : Ctx) (O : Addr → Prop) (H : Hp) (v : Option V) : Cell → Prop
  | .un => True
  | .dat d => ∃ x, v = some x ∧ Rep K O H x d
  | .own ds => ∃ a xs, v = some (.ref a) ∧ H a = some (.lst xs) ∧ O a ∧ ¬ c.B a ∧ c.H0 a = none ∧ RepAll K O H xs ds
  | .drw => ∃ a g, v = some (.ref a) ∧ c.G = some (a, g)
  | .scr ns => ∃ a, v = some (.ref a) ∧ ScrAt K H a ns
  | .obj a o => v = some (.ref a) ∧ ∀ p, o = some p → ∃ y, H p.1 = some (.xd [(p.2.1, y)]) ∧ Rep K O H y p.2.2
abbrev EnvD := List Cell
structure Good (K : PySem.W.Frag) (c : Ctx) (O : Addr → Prop) (η : EnvD) (σ : L2.St) (H : Hp) : Prop where
  len : η.length = σ.length
  hB : ∀ a, c.B a → O a
  hW : ∀ a, Wr c.G a → c.B a
  hT : ∀ a, O a → H a ≠ none
  keep : ∀ a o, ¬ Wr c.G a → c.H0 a = some o → H a = some o
  draw : DrawOk c.G H
  cell : ∀ (i : Nat) (x : Cell), η[i]? = some x → CellOk K c O H (σ[i]?.join) x
  inj : ∀ (i j : Nat) (ds es : List D) (a : Addr), η[i]? = some (.own ds) → η[j]? = some (.own es) → σ[i]?.join = some (.ref a) → σ[j]?.join = some (.ref a) → i = j
  fr : ∀ p ∈ c.fr, Rep K O H p.1 p.2
/-- what an expression may do to the heap -/
structure Step (G : Option (Addr × Addr)) (H H' : Hp) : Prop where
  keep : ∀ a o, ¬ Wr G a → H a = some o → H' a = some o
  draw : DrawOk G H'
section
variable {K : PySem.W.Frag} {c : Ctx} {G : Option (Addr × Addr)} {O O' : Addr → Prop} {η : EnvD} {σ : L2.St} {H H1 H2 : Hp}
theorem DrawOk.tr (h : DrawOk G H) : ∀ a, Wr G a → H a ≠ none := by
  rintro a (⟨⟨p1, p2⟩, rfl, h1⟩ | ⟨q, hq⟩)
  · obtain ⟨_, m, t, ns, e1, _, _, e2, _⟩ := h.1
    rcases h1 with h1 | h1 <;> (have h1 := h1; simp only at h1; subst h1)
    · rw [e1]; intro z; cases z
    · rw [e2]; intro z; cases z
  · obtain ⟨ps, e, _⟩ := h.2.t _ hq
    have e : H a = some (.tbl ps) := e
    rw [e]; intro z; cases z
theorem DrawOk.tup (h : DrawOk G H) : ∀ a xs, H a = some (.tup xs) → ¬ Wr G a := by
  rintro a xs e (⟨⟨p1, p2⟩, rfl, h1⟩ | ⟨q, hq⟩)
  · obtain ⟨_, m, t, ns, e1, _, _, e2, _⟩ := h.1
    rcases h1 with h1 | h1 <;> (have h1 := h1; simp only at h1; subst h1)
    · rw [e1] at e; cases e
    · rw [e2] at e; cases e
  · obtain ⟨ps, e1, _⟩ := h.2.t _ hq
    have e1 : H a = some (.tbl ps) := e1
    rw [e1] at e; cases e
theorem DrawOk.frz (h : DrawOk G H) : ∀ a o u, H a = some (.frz o u) → ¬ Wr G a := by
  rintro a o u e (⟨⟨p1, p2⟩, rfl, h1⟩ | ⟨q, hq⟩)
  · obtain ⟨_, m, t, ns, e1, _, _, e2, _⟩ := h.1
    rcases h1 with h1 | h1 <;> (have h1 := h1; simp only at h1; subst h1)
    · rw [e1] at e; cases e
    · rw [e2] at e; cases e
  · obtain ⟨ps, e1, _⟩ := h.2.t _ hq
    have e1 : H a = some (.tbl ps) := e1
    rw [e1] at e; cases e
theorem DrawOk.xd (h : DrawOk G H) : ∀ a fs, H a = some (.xd fs) → ¬ Wr G a := by
  rintro a fs e (⟨⟨p1, p2⟩, rfl, h1⟩ | ⟨q, hq⟩)
  · obtain ⟨_, m, t, ns, e1, _, _, e2, _⟩ := h.1
    rcases h1 with h1 | h1 <;> (have h1 := h1; simp only at h1; subst h1)
    · rw [e1] at e; cases e
    · rw [e2] at e; cases e
  · obtain ⟨ps, e1, _⟩ := h.2.t _ hq
    have e1 : H a = some (.tbl ps) := e1
    rw [e1] at e; cases e
/-- a table stays where only other things change -/
theorem tab_stay {P : Addr} {q : Str} (t : LamX.TabS H P q) (k : ∀ b o, H b = some o → ((∃ ps, o = .tbl ps) ∨ (∃ f, o = .ext f) ∨ ∃ q u, o = .frz q u) → H1 b = some o) : LamX.TabS H1 P q := by
  obtain ⟨ps, h1, h2, h3⟩ := t
  refine ⟨ps, k _ _ h1 (.inl ⟨_, rfl⟩), h2, fun pos cv hc => ?_⟩
  obtain ⟨c, e1, e2⟩ := h3 pos cv hc
  exact ⟨c, e1, k _ _ e2 (.inr (.inl ⟨_, rfl⟩))⟩
theorem tabm_stay (t : TabM H) (k : ∀ b o, H b = some o → ((∃ ps, o = .tbl ps) ∨ (∃ f, o = .ext f) ∨ ∃ q u, o = .frz q u) → H1 b = some o) : TabM H1 := ⟨fun p hp => tab_stay (t.t p hp) k, let ⟨o, e⟩ := t.m; ⟨o, k _ _ e (.inr (.inr ⟨_, _, rfl⟩))⟩⟩
theorem TabM.ext (t : TabM H) (k : ∀ b o, H b = some o → H1 b = some o) : TabM H1 := tabm_stay t fun b o e _ => k b o e
theorem tabs_upd {a : Addr} {xs : List V} {o : HO} (t : TabM H) (ha : H a = some (.lst xs)) : TabM (upd H a o) := tabm_stay t fun b u e hu => by
  rw [upd_ne (fun z => ?_)]
  · exact e
  · rw [z, ha] at e
    cases e
    rcases hu with ⟨_, z⟩ | ⟨_, z⟩ | ⟨_, _, z⟩ <;> cases z
theorem Step.refl (h : DrawOk G H) : Step G H H := ⟨fun _ _ _ e => e, h⟩
theorem Step.trans (a : Step G H H1) (b : Step G H1 H2) : Step G H H2 := ⟨fun x o n e => b.keep x o n (a.keep x o n e), b.draw⟩
theorem Step.same (h : DrawOk G H) (s : Same H H1) : Step G H H1 := by
  refine ⟨fun a o _ e => s a o e, ?_, h.2.ext s⟩
  replace h := h.1
  cases G with
  | none => trivial
  | some p =>
    obtain ⟨p1, p2⟩ := p
    obtain ⟨n, m, t, ns, e1, x1, x2, e2, x3⟩ := h
    exact ⟨n, m, t, ns, s _ _ e1, x1, x2, s _ _ e2, x3⟩
theorem same_upd {p : Addr} {o : HO} (h : H p = none) : Same H (upd H p o) := fun b x e => by
  rw [upd_ne (ne_of_none e h)]
  exact e
theorem Step.alloc (h : DrawOk G H) {p : Addr} {o : HO} (hp : H p = none) : Step G H (upd H p o) := .same h (same_upd hp)
theorem Step.rep (st : Step G H H1) (dr : DrawOk G H) (hW : ∀ a, Wr G a → O a) {d : D} {v : V} (r : Rep K O H v d) : Rep K O H1 v d :=
  r.map (fun a _ o e => ⟨o, st.keep a _ (fun z => o (hW a z)) e⟩) fun a xs e => st.keep a _ (dr.tup a xs e) e
theorem Step.repAll (st : Step G H H1) (dr : DrawOk G H) (hW : ∀ a, Wr G a → O a) {d : List D} {v : List V} (r : RepAll K O H v d) : RepAll K O H1 v d :=
  r.map (fun a _ o e => ⟨o, st.keep a _ (fun z => o (hW a z)) e⟩) fun a xs e => st.keep a _ (dr.tup a xs e) e
theorem Good.wO (g : Good K c O η σ H) : ∀ a, Wr c.G a → O a := fun a h => g.hB a (g.hW a h)
theorem Good.own_nw (g : Good K c O η σ H) {i : Nat} {ds : List D} (h : η[i]? = some (.own ds)) {a : Addr} (e : σ[i]?.join = some (.ref a)) : ¬ Wr c.G a := fun z => by
  obtain ⟨a', xs, e', _, _, nb, _⟩ := g.cell i _ h
  rw [e] at e'
  cases e'
  exact nb (g.hW a z)
theorem Good.step (g : Good K c O η σ H) (st : Step c.G H H1) : Good K c O η σ H1 where
  len := g.len
  hB := g.hB
  hW := g.hW
  hT := fun a h z => by
    by_cases w : Wr c.G a
    · exact st.draw.tr a w z
    · cases e : H a with
      | none => exact g.hT a h e
      | some o => rw [st.keep a o w e] at z; cases z
  keep := fun a o w e => st.keep a o w (g.keep a o w e)
  draw := st.draw
  cell := fun i x h => by
    have := g.cell i x h
    cases x with
    | un => trivial
    | dat d =>
      obtain ⟨v, e, r⟩ := this
      exact ⟨v, e, st.rep g.draw g.wO r⟩
    | own ds =>
      obtain ⟨a, xs, e, ha, oa, nb, h0, r⟩ := this
      exact ⟨a, xs, e, st.keep a _ (fun z => nb (g.hW a z)) ha, oa, nb, h0, st.repAll g.draw g.wO r⟩
    | drw => exact this
    | obj a o => exact ⟨this.1, fun p hp => (this.2 p hp).imp fun y q => ⟨st.keep _ _ (g.draw.xd _ _ q.1) q.1, st.rep g.draw g.wO q.2⟩⟩
    | scr ns =>
      obtain ⟨a, e, r⟩ := this
      exact ⟨a, e, r.map fun b o u x => st.keep b _ (g.draw.frz b o u x) x⟩
  inj := g.inj
  fr := fun p hp => st.rep g.draw g.wO (g.fr p hp)
end

/-! ### judgements -/
/-- what is wanted where an error leaves: the class's name, its fields -/
abbrev XP := Str → List (Str × D) → Prop
def never : XP := fun _ _ => False
abbrev ET := XP → EnvD → (D → Prop) → Prop
abbrev BT := XP → EnvD → (Bool → Prop) → Prop
abbrev AT := XP → EnvD → (List D → Prop) → Prop
/-- an exception of the class named nm whose dict holds the fields fs -/
def ErrG (K : PySem.W.Frag) (mg : Str → Option Value) (B : Addr → Prop) (G : Option (Addr × Addr)) (H0 : Hp) (E : XP) (cls : Value) (d : Option Addr) (H : Hp) : Prop := ∃ (nm : Str) (fs : List (Str × D)) (dx : Addr) (vs : List (Str × V)), E nm fs ∧ mg nm = some cls ∧ d = some dx ∧ H dx = some (.xd vs) ∧ vs.map (·.1) = fs.map (·.1) ∧
  RepAll K B H (vs.map (·.2)) (fs.map (·.2)) ∧ (∀ a o, ¬ Wr G a → H0 a = some o → H a = some o) ∧ DrawOk G H ∧ ∀ a, B a → H a ≠ none
def ErrAt (X : Cx) (c : Ctx) (E : XP) : WX := fun cls d _ H => ErrG X.K X.mg c.B c.G c.H0 E cls d H
/-- the wish about errors is taken -/
def EOk (X : Cx) (c : Ctx) (E : XP) : Prop := Takes X (ErrAt X c E)
theorem eok_never {X : Cx} {c : Ctx} : EOk X c never := fun _ _ ⟨_, _, _, _, _, _, _, _, _, _, _, _, _, _, _, _, _, _, _, _, z, _⟩ => z.elim
structure Gd (X : Cx) (c : Ctx) (E : XP) (O : Addr → Prop) (η : EnvD) (σ : L2.St) (H : Hp) : Prop extends Good X.K c O η σ H where
  er : EOk X c E
theorem Gd.step {X : Cx} {c : Ctx} {E : XP} {O : Addr → Prop} {η : EnvD} {σ : L2.St} {H H1 : Hp} (g : Gd X c E O η σ H) (st : Step c.G H H1) : Gd X c E O η σ H1 := { toGood := g.toGood.step st, er := g.er }
structure EndsD where
  nx : EnvD → Prop
  rt : D → Prop
  bk : EnvD → Prop := fun _ => False
  ct : EnvD → Prop := fun _ => False
abbrev SD := XP → EndsD → EnvD → Prop
/-- behind an expression -/
def DP (X : Cx) (c : Ctx) (O : Addr → Prop) (pins : List (Addr × Obj)) (σ : L2.St) (H : Hp) (Q : D → Prop) (u : Value) (s' : Shared) : Prop :=
  ∃ d v H', Inv X pins σ H' s' ∧ RelV v u ∧ Step c.G H H' ∧ Rep X.K O H' v d ∧ Q d
structure DE (X : Cx) (e : Expr) (t : ET) : Prop where
  run : ∀ (pins : List (Addr × Obj)) (s : Shared) (σ : L2.St) (H : Hp) (c : Ctx) (O : Addr → Prop) (η : EnvD) (E : XP) (Q : D → Prop), Inv X pins σ H s → Gd X c E O η σ H → t E η Q →
    wpAny (model X.prog X.w) X.A (eval e X.env) (DP X c O pins σ H Q) X.xe s
structure DT (X : Cx) (e : Expr) (t : BT) : Prop where
  run : ∀ (pins : List (Addr × Obj)) (s : Shared) (σ : L2.St) (H : Hp) (c : Ctx) (O : Addr → Prop) (η : EnvD) (E : XP) (Q : Bool → Prop), Inv X pins σ H s → Gd X c E O η σ H → t E η Q →
    wpAny (model X.prog X.w) X.A (isTrue e X.env (eval e X.env)) (fun b s' => ∃ H', Inv X pins σ H' s' ∧ Step c.G H H' ∧ Q b) X.xe s
structure DW (X : Cx) (e : Expr) (t : BT) : Prop where
  run : ∀ (whole : Sem Value) (pins : List (Addr × Obj)) (s : Shared) (σ : L2.St) (H : Hp) (c : Ctx) (O : Addr → Prop) (η : EnvD) (E : XP) (Q : Bool → Prop), Inv X pins σ H s → Gd X c E O η σ H → t E η Q →
    wpAny (model X.prog X.w) X.A (isTrue e X.env whole) (fun b s' => ∃ H', Inv X pins σ H' s' ∧ Step c.G H H' ∧ Q b) X.xe s
structure DA (X : Cx) (es : List Expr) (t : AT) : Prop where
  run : ∀ (pos : Pos) (pins : List (Addr × Obj)) (s : Shared) (σ : L2.St) (H : Hp) (c : Ctx) (O : Addr → Prop) (η : EnvD) (E : XP) (Q : List D → Prop), Inv X pins σ H s → Gd X c E O η σ H → t E η Q →
    wpAny (model X.prog X.w) X.A (spliced (backTo pos (starEach es X.env))) (fun us s' => ∃ ds vs H', Inv X pins σ H' s' ∧ Vals vs us ∧ Step c.G H H' ∧ RepAll X.K O H' vs ds ∧ Q ds) X.xe s
/-- the same as readings of the layer below -/
def liftE (X : Cx) (t : ET) : TE := fun σ H R => ∃ (c : Ctx) (O : Addr → Prop) (η : EnvD) (E : XP) (Q : D → Prop), Gd X c E O η σ H ∧ t E η Q ∧ ∀ d v H', Step c.G H H' → Rep X.K O H' v d → Q d → R v H'
def liftB (X : Cx) (t : BT) : TT := fun σ H R => ∃ (c : Ctx) (O : Addr → Prop) (η : EnvD) (E : XP) (Q : Bool → Prop), Gd X c E O η σ H ∧ t E η Q ∧ ∀ b H', Step c.G H H' → Q b → R b H'
def liftA (X : Cx) (t : AT) : TA := fun σ H R => ∃ (c : Ctx) (O : Addr → Prop) (η : EnvD) (E : XP) (Q : List D → Prop), Gd X c E O η σ H ∧ t E η Q ∧ ∀ ds vs H', Step c.G H H' → RepAll X.K O H' vs ds → Q ds → R vs H'
section
variable {X : Cx} {e : Expr} {es : List Expr}
theorem DE.pe {t : ET} (h : DE X e t) : PE X e (liftE X t) := ⟨fun pins s σ H R I ⟨c, O, η, E, Q, g, ht, k⟩ =>
  thn (h.run pins s σ H c O η E Q I g ht) fun u s' ⟨d, v, H', I', r, st, rp, q⟩ => ⟨v, H', I', r, k d v H' st rp q⟩⟩
theorem DE.of {t : ET} {T : TE} (h : PE X e T) (f : ∀ σ H c O η E Q, Gd X c E O η σ H → t E η Q → T σ H fun v H' => ∃ d, Step c.G H H' ∧ Rep X.K O H' v d ∧ Q d) : DE X e t :=
  ⟨fun pins s σ H c O η E Q I g ht => thn (h.run pins s σ H _ I (f σ H c O η E Q g ht)) fun u s' ⟨v, H', I', r, d, st, rp, q⟩ => ⟨d, v, H', I', r, st, rp, q⟩⟩
theorem DT.pt {t : BT} (h : DT X e t) : PT X e (liftB X t) := ⟨fun pins s σ H R I ⟨c, O, η, E, Q, g, ht, k⟩ =>
  thn (h.run pins s σ H c O η E Q I g ht) fun b s' ⟨H', I', st, q⟩ => ⟨H', I', k b H' st q⟩⟩
theorem DT.of {t : BT} {T : TT} (h : PT X e T) (f : ∀ σ H c O η E Q, Gd X c E O η σ H → t E η Q → T σ H fun b H' => Step c.G H H' ∧ Q b) : DT X e t :=
  ⟨fun pins s σ H c O η E Q I g ht => thn (h.run pins s σ H _ I (f σ H c O η E Q g ht)) fun b s' ⟨H', I', st, q⟩ => ⟨H', I', st, q⟩⟩
theorem DW.pw {t : BT} (h : DW X e t) : PW X e (liftB X t) := ⟨fun wh pins s σ H R I ⟨c, O, η, E, Q, g, ht, k⟩ =>
  thn (h.run wh pins s σ H c O η E Q I g ht) fun b s' ⟨H', I', st, q⟩ => ⟨H', I', k b H' st q⟩⟩
theorem DW.of {t : BT} {T : TT} (h : PW X e T) (f : ∀ σ H c O η E Q, Gd X c E O η σ H → t E η Q → T σ H fun b H' => Step c.G H H' ∧ Q b) : DW X e t :=
  ⟨fun wh pins s σ H c O η E Q I g ht => thn (h.run wh pins s σ H _ I (f σ H c O η E Q g ht)) fun b s' ⟨H', I', st, q⟩ => ⟨H', I', st, q⟩⟩
theorem DW.dt {t : BT} (h : DW X e t) : DT X e t := ⟨h.run _⟩
theorem DA.pa {t : AT} (h : DA X es t) : PA X es (liftA X t) := ⟨fun pos pins s σ H R I ⟨c, O, η, E, Q, g, ht, k⟩ =>
  thn (h.run pos pins s σ H c O η E Q I g ht) fun u s' ⟨d, v, H', I', r, st, rp, q⟩ => ⟨v, H', I', r, k d v H' st rp q⟩⟩
theorem DA.of {t : AT} {T : TA} (h : PA X es T) (f : ∀ σ H c O η E Q, Gd X c E O η σ H → t E η Q → T σ H fun vs H' => ∃ ds, Step c.G H H' ∧ RepAll X.K O H' vs ds ∧ Q ds) : DA X es t :=
  ⟨fun pos pins s σ H c O η E Q I g ht => thn (h.run pos pins s σ H _ I (f σ H c O η E Q g ht)) fun u s' ⟨v, H', I', r, d, st, rp, q⟩ => ⟨d, v, H', I', r, st, rp, q⟩⟩
end
/-- where no error may leave -/
def liftE0 (K : PySem.W.Frag) (t : ET) : TE := fun σ H R => ∃ (c : Ctx) (O : Addr → Prop) (η : EnvD) (Q : D → Prop), Good K c O η σ H ∧ t never η Q ∧ ∀ d v H', Step c.G H H' → Rep K O H' v d → Q d → R v H'
def liftB0 (K : PySem.W.Frag) (t : BT) : TT := fun σ H R => ∃ (c : Ctx) (O : Addr → Prop) (η : EnvD) (Q : Bool → Prop), Good K c O η σ H ∧ t never η Q ∧ ∀ b H', Step c.G H H' → Q b → R b H'
theorem DE.pe0 {X : Cx} {e : Expr} {t : ET} (h : DE X e t) : PE X e (liftE0 X.K t) := ⟨fun pins s σ H R I ⟨c, O, η, Q, g, ht, k⟩ => h.pe.run pins s σ H R I ⟨c, O, η, never, Q, ⟨g, eok_never⟩, ht, k⟩⟩
theorem DT.pt0 {X : Cx} {e : Expr} {t : BT} (h : DT X e t) : PT X e (liftB0 X.K t) := ⟨fun pins s σ H R I ⟨c, O, η, Q, g, ht, k⟩ => h.pt.run pins s σ H R I ⟨c, O, η, never, Q, ⟨g, eok_never⟩, ht, k⟩⟩
/-- behind a statement -/
def endsOf (X : Cx) (c : Ctx) (E : XP) (z : EndsD) : Ends where
  nx := fun σ H => ∃ O η, Gd X c E O η σ H ∧ z.nx η
  rt := fun v H => ∃ d, (∀ a o, ¬ Wr c.G a → c.H0 a = some o → H a = some o) ∧ DrawOk c.G H ∧ Rep X.K c.B H v d ∧ z.rt d
  bk := fun σ H => ∃ O η, Gd X c E O η σ H ∧ z.bk η
  ct := fun σ H => ∃ O η, Gd X c E O η σ H ∧ z.ct η
structure DS (X : Cx) (st : Stmt) (t : SD) : Prop where
  run : ∀ (pins : List (Addr × Obj)) (s : Shared) (σ : L2.St) (H : Hp) (c : Ctx) (O : Addr → Prop) (η : EnvD) (E : XP) (z : EndsD), Inv X pins σ H s → Gd X c E O η σ H → t E z η →
    wpAny (model X.prog X.w) X.A (exec st X.env) (SP X pins (endsOf X c E z)) X.xe s
structure DSs (X : Cx) (st : List Stmt) (t : SD) : Prop where
  run : ∀ (pins : List (Addr × Obj)) (s : Shared) (σ : L2.St) (H : Hp) (c : Ctx) (O : Addr → Prop) (η : EnvD) (E : XP) (z : EndsD), Inv X pins σ H s → Gd X c E O η σ H → t E z η →
    wpAny (model X.prog X.w) X.A (execs st X.env) (SP X pins (endsOf X c E z)) X.xe s
def liftS (X : Cx) (t : SD) : TS := fun D σ H => ∃ (c : Ctx) (O : Addr → Prop) (η : EnvD) (E : XP) (z : EndsD), Gd X c E O η σ H ∧ t E z η ∧
  (∀ σ' H', (endsOf X c E z).nx σ' H' → D.nx σ' H') ∧ (∀ v H', (endsOf X c E z).rt v H' → D.rt v H') ∧ (∀ σ' H', (endsOf X c E z).bk σ' H' → D.bk σ' H') ∧ ∀ σ' H', (endsOf X c E z).ct σ' H' → D.ct σ' H'
section
variable {X : Cx} {st : Stmt} {sts : List Stmt} {t : SD} {T : TS}
theorem sp_mono {pins : List (Addr × Obj)} {D D' : Ends} {f : Flow} {s : Shared} (h : SP X pins D f s) (h1 : ∀ σ' H', D.nx σ' H' → D'.nx σ' H') (h2 : ∀ v H', D.rt v H' → D'.rt v H') (h3 : ∀ σ' H', D.bk σ' H' → D'.bk σ' H') (h4 : ∀ σ' H', D.ct σ' H' → D'.ct σ' H') : SP X pins D' f s := by
  cases f with
  | next => obtain ⟨σ', H', I, q⟩ := h; exact ⟨σ', H', I, h1 _ _ q⟩
  | brk => obtain ⟨σ', H', I, q⟩ := h; exact ⟨σ', H', I, h3 _ _ q⟩
  | cont => obtain ⟨σ', H', I, q⟩ := h; exact ⟨σ', H', I, h4 _ _ q⟩
  | ret u => obtain ⟨v, σ', H', I, r, q⟩ := h; exact ⟨v, σ', H', I, r, h2 _ _ q⟩
theorem DS.ps (h : DS X st t) : PS X st (liftS X t) := ⟨fun pins s σ H D I ⟨c, O, η, E, z, g, ht, k1, k2, k3, k4⟩ =>
  thn (h.run pins s σ H c O η E z I g ht) fun f s' q => sp_mono q k1 k2 k3 k4⟩
theorem DSs.pss (h : DSs X sts t) : PSs X sts (liftS X t) := ⟨fun pins s σ H D I ⟨c, O, η, E, z, g, ht, k1, k2, k3, k4⟩ =>
  thn (h.run pins s σ H c O η E z I g ht) fun f s' q => sp_mono q k1 k2 k3 k4⟩
theorem DS.of (h : PS X st T) (f : ∀ σ H c O η E z, Gd X c E O η σ H → t E z η → T (endsOf X c E z) σ H) : DS X st t :=
  ⟨fun pins s σ H c O η E z I g ht => h.run pins s σ H _ I (f σ H c O η E z g ht)⟩
theorem DSs.of (h : PSs X sts T) (f : ∀ σ H c O η E z, Gd X c E O η σ H → t E z η → T (endsOf X c E z) σ H) : DSs X sts t :=
  ⟨fun pins s σ H c O η E z I g ht => h.run pins s σ H _ I (f σ H c O η E z g ht)⟩
/-! blocks -/
def sNext : SD := fun _ z η => z.nx η
def sSeq (t u : SD) : SD := fun E z η => t E { z with nx := u E z } η
variable {rest : List Stmt} {u : SD}
theorem dss_nil : DSs X [] sNext := .of pss_nil fun σ H c O η E z g h => ⟨O, η, g, h⟩
theorem dss_cons (h1 : DS X st t) (h2 : DSs X rest u) : DSs X (st :: rest) (sSeq t u) := .of (pss_cons h1.ps h2.pss) fun σ H c O η E z g h =>
  ⟨c, O, η, E, { z with nx := u E z }, g, h, fun σ' H' ⟨O', η', g', h'⟩ => ⟨c, O', η', E, z, g', h', fun _ _ q => q, fun _ _ q => q, fun _ _ q => q, fun _ _ q => q⟩, fun _ _ q => q, fun _ _ q => q, fun _ _ q => q⟩
theorem dss_one (h1 : DS X st t) : DSs X [st] t := .of (pss_one h1.ps) fun σ H c O η E z g h => ⟨c, O, η, E, z, g, h, fun _ _ q => q, fun _ _ q => q, fun _ _ q => q, fun _ _ q => q⟩
end
end DL

/-! DL1: expressions over data. -/
namespace DL
open PySem PySem.Spec PyProof.Rows L2
section
variable {X : Cx} {a b e : Expr} {es rest : List Expr} {pos : Pos} {ta tb tc t u : ET}

/-! ### names, constants -/
def dV (i : Nat) : ET := fun _ η Q => match η[i]? with | some (.dat d) => Q d | _ => False
def dK (d : D) : ET := fun _ _ Q => Q d
theorem de_var (i : Nat) {x : Str} (hN : X.N[i]? = some x := by rfl) (hv : Vis X.env.scope x := by first | exact Or.inl rfl | exact Or.inr (Or.inl rfl) | exact Or.inr (Or.inr rfl)) (hd : (x == ("__debug__" : Str)) = false := by decide)
    (hcd : (x == ("__classdict__" : Str)) = false := by decide) : DE X (.Name x pos) (dV i) := .of (pe_var hN hv hd hcd) fun σ H c O η E Q g h => by
  unfold dV at h
  split at h
  · rename_i d hd
    obtain ⟨v, e, r⟩ := g.cell i _ hd
    refine ⟨v, ?_, d, .refl g.draw, r, h⟩
    cases q : σ[i]? with
    | none => rw [q] at e; cases e
    | some w => rw [q] at e; exact congrArg some e
  · exact h.elim
theorem de_const {v : V} {d : D} (h : PE X e (tC v)) (r : ∀ K O H, Rep K O H v d) : DE X e (dK d) := .of h fun σ H c O η E Q g q => ⟨d, .refl g.draw, r _ _ _, q⟩
theorem de_int {i j} : DE X (.Constant (.int i) j pos) (dK (.int i)) := de_const pe_int fun _ _ _ => .int i
theorem de_bl {k j} : DE X (.Constant (.bool k) j pos) (dK (.bool k)) := de_const pe_bl fun _ _ _ => .bl k
theorem de_non {j} : DE X (.Constant .none j pos) (dK .none) := de_const pe_non fun _ _ _ => .non
theorem de_str {x j} : DE X (.Constant (.str x) j pos) (dK (.str x)) := de_const pe_str fun _ _ _ => .str x
theorem de_globI {x : Str} {i : Int} (hg : Gl X x) (hm : ∃ t, X.mg x = some (.int i t)) (hd : (x == ("__debug__" : Str)) = false := by decide) : DE X (.Name x pos) (dK (.int i)) := by
  obtain ⟨t, hm⟩ := hm
  exact de_const (pe_glob (v := .int i) hg hm ⟨t, rfl⟩ hd) fun _ _ _ => .int i
theorem de_globS {x y : Str} (hg : Gl X x) (hm : ∃ t, X.mg x = some (.str y t)) (hd : (x == ("__debug__" : Str)) = false := by decide) : DE X (.Name x pos) (dK (.str y)) := by
  obtain ⟨t, hm⟩ := hm
  exact de_const (pe_glob (v := .str y) hg hm ⟨t, rfl⟩ hd) fun _ _ _ => .str y

/-! ### two operands -/
/-- an operation upon data -/
abbrev OpD := D → D → (D → Prop) → Prop
def dOp (r : OpD) (ta tb : ET) : ET := fun E η Q => ta E η fun x => tb E η fun y => r x y Q
/-- what stands while an operation runs -/
structure Base (G : Option (Addr × Addr)) (O : Addr → Prop) (H : Hp) : Prop where
  draw : DrawOk G H
  wO : ∀ a, Wr G a → O a
  hT : ∀ a, O a → H a ≠ none
theorem Good.base {K : PySem.W.Frag} {c : Ctx} {O : Addr → Prop} {η : EnvD} {σ : L2.St} {H : Hp} (g : Good K c O η σ H) : Base c.G O H := ⟨g.draw, g.wO, g.hT⟩
/-- the ways on -/
abbrev Way (K : PySem.W.Frag) (G : Option (Addr × Addr)) (O : Addr → Prop) (H : Hp) (Q : D → Prop) (R : VK) : Prop := ∀ d v H', Step G H H' → Rep K O H' v d → Q d → R v H'
/-- what an operation's rule has to show -/
def OpOk (K : PySem.W.Frag) (T : R2) (r : OpD) : Prop := ∀ (G : Option (Addr × Addr)) (O : Addr → Prop) (H : Hp) (x y : V) (dx dy : D) (Q : D → Prop) (R : VK), Base G O H → Rep K O H x dx → Rep K O H y dy → r dx dy Q → Way K G O H Q R → T x y H R
theorem bin_lift {X : Cx} {T : R2} {r : OpD} (ok : OpOk X.K T r) {σ : L2.St} {H : Hp} {c : Ctx} {O : Addr → Prop} {η : EnvD} {E : XP} {Q : D → Prop} {R : VK} (g : Gd X c E O η σ H) (h : dOp r ta tb E η Q) (k : Way X.K c.G O H Q R) :
    tOp T (liftE X ta) (liftE X tb) σ H R := by
  refine ⟨c, O, η, E, _, g, h, fun dx x H1 s1 r1 h1 => ?_⟩
  have g1 := g.step s1
  refine ⟨c, O, η, E, _, g1, h1, fun dy y H2 s2 r2 h2 => ?_⟩
  have g2 := g1.step s2
  exact ok c.G O H2 x y dx dy Q R g2.base (s2.rep g1.draw g1.wO r1) r2 h2 fun d v H' s3 r3 q => k d v H' (s1.trans (s2.trans s3)) r3 q
theorem de_op {op : Operator} {T : R2} {r : OpD} (ho : OpR X (binaryOp op) T) (ok : OpOk X.K T r) (ha : DE X a ta) (hb : DE X b tb) : DE X (.BinOp a op b pos) (dOp r ta tb) :=
  .of (pe_op ho ha.pe hb.pe) fun σ H c O η E Q g h => bin_lift ok g h fun d v H' s r q => ⟨d, s, r, q⟩
theorem de_cmp {op : CmpOp} {T : R2} {r : OpD} (ho : OpR X (compareOp op) T) (ok : OpOk X.K T r) (hm : behindInMarks op b = false) (ha : DE X a ta) (hb : DE X b tb) : DE X (.Compare a [op] [b] pos) (dOp r ta tb) :=
  .of (pe_cmpR ho ha.pe hb.pe hm) fun σ H c O η E Q g h => bin_lift ok g h fun d v H' s r q => ⟨d, s, r, q⟩
/-- two rules for one operation -/
theorem OpR.or {f : Value → Value → Sem Value} {T T' : R2} (h : OpR X f T) (h' : OpR X f T') : OpR X f fun x y H Q => T x y H Q ∨ T' x y H Q := fun pins s σ H x y v u Q I rx ry q => q.elim (h pins s σ H x y v u Q I rx ry) (h' pins s σ H x y v u Q I rx ry)
theorem way_here {K : PySem.W.Frag} {G : Option (Addr × Addr)} {O : Addr → Prop} {H : Hp} {Q : D → Prop} {R : VK} (B : Base G O H) (k : Way K G O H Q R) {d : D} {v : V} (r : Rep K O H v d) (q : Q d) : R v H := k d v H (.refl B.draw) r q
theorem Base.not {G : Option (Addr × Addr)} {O : Addr → Prop} {H : Hp} (B : Base G O H) {p : Addr} (h : H p = none) : ¬ O p := fun z => B.hT p z h
theorem way_new {K : PySem.W.Frag} {G : Option (Addr × Addr)} {O : Addr → Prop} {H : Hp} {Q : D → Prop} {R : VK} (B : Base G O H) (k : Way K G O H Q R) {ds : List D} {vs : List V} (r : RepAll K O H vs ds) (q : Q (.list ds)) : ∀ p, H p = none → R (.ref p) (upd H p (.lst vs)) := fun p hp =>
  k _ _ _ (.alloc B.draw hp) (.lst (B.not hp) upd_same (r.same (same_upd hp))) q
theorem way_newT {K : PySem.W.Frag} {G : Option (Addr × Addr)} {O : Addr → Prop} {H : Hp} {Q : D → Prop} {R : VK} (B : Base G O H) (k : Way K G O H Q R) {ds : List D} {vs : List V} (r : RepAll K O H vs ds) (q : Q (.tuple ds)) : ∀ p, H p = none → R (.ref p) (upd H p (.tup vs)) := fun p hp =>
  k _ _ _ (.alloc B.draw hp) (.tup (.inl upd_same) (r.same (same_upd hp))) q

/-- + -/
def oAdd : OpD
  | .int i, .int j, Q => Q (.int (i + j))
  | .str i, .str j, Q => i.length + j.length ≤ sizeLine ∧ Q (.str (i ++ j))
  | .list xs, .list ys, Q => xs.length + ys.length ≤ sizeLine ∧ Q (.list (xs ++ ys))
  | .tuple xs, .tuple ys, Q => xs.length + ys.length ≤ sizeLine ∧ Q (.tuple (xs ++ ys))
  | _, _, _ => False
theorem de_add (ha : DE X a ta) (hb : DE X b tb) : DE X (.BinOp a .Add b pos) (dOp oAdd ta tb) := by
  refine de_op (OpR.or op_add (OpR.or op_add_str (OpR.or op_cat op_catA))) ?_ ha hb
  intro G O H x y dx dy Q R B rx ry h k
  cases rx with
  | int i =>
    cases ry with
    | int j => exact .inl ⟨i, j, rfl, rfl, way_here B k (.int _) h⟩
    | _ => exact h.elim
  | str i =>
    cases ry with
    | str j => exact .inr (.inl ⟨i, j, rfl, rfl, h.1, way_here B k (.str _) h.2⟩)
    | _ => exact h.elim
  | lst o1 h1 r1 =>
    cases ry with
    | lst o2 h2 r2 => exact .inr (.inr (.inl ⟨_, _, _, _, rfl, rfl, h1, h2, by rw [r1.length, r2.length]; exact h.1, way_new B k (r1.append r2) h.2⟩))
    | _ => exact h.elim
  | tup h1 r1 =>
    cases ry with
    | tup h2 r2 =>
      refine .inr (.inr (.inr ⟨_, _, _, _, rfl, rfl, h1.sq, h2.sq, by rw [r1.length, r2.length]; exact h.1, fun e => ?_, fun e e' => ?_, fun _ _ => way_newT B k (r1.append r2) h.2⟩))
      · subst e
        cases r1
        exact way_here B k (.tup h2 r2) h.2
      · subst e'
        cases r2
        refine way_here B k (.tup h1 r1) ?_
        have q := h.2
        rwa [List.append_nil] at q
    | _ => exact h.elim
  | _ => cases ry <;> exact h.elim

/-- two ints -/
def oI (C : Int → Int → Prop) (f : Int → Int → Int) : OpD
  | .int i, .int j, Q => C i j ∧ Q (.int (f i j))
  | _, _, _ => False
theorem okI {K : PySem.W.Frag} {C : Int → Int → Prop} {f : Int → Int → Int} : OpOk K (rI C fun i j => .int (f i j)) (oI C f) := by
  intro G O H x y dx dy Q R B rx ry h k
  cases rx with
  | int i =>
    cases ry with
    | int j => exact ⟨i, j, rfl, rfl, h.1, way_here B k (.int _) h.2⟩
    | _ => exact h.elim
  | _ => cases ry <;> exact h.elim
def oSub : OpD := oI (fun _ _ => True) fun i j => i - j
theorem op_sub' : OpR X (binaryOp .Sub) (rI (fun _ _ => True) fun i j => .int (i - j)) := fun pins s σ H x y v u Q I rx ry h => by
  obtain ⟨i, j, e1, e2, _, q⟩ := h
  exact op_sub pins s σ H x y v u Q I rx ry ⟨i, j, e1, e2, q⟩
theorem de_sub (ha : DE X a ta) (hb : DE X b tb) : DE X (.BinOp a .Sub b pos) (dOp oSub ta tb) := de_op op_sub' okI ha hb
def oMod : OpD := oI (fun _ j => 0 < j) fun i j => i % j
theorem de_mod (ha : DE X a ta) (hb : DE X b tb) : DE X (.BinOp a .Mod b pos) (dOp oMod ta tb) := de_op op_mod okI ha hb
def oDiv : OpD := oI CDiv fun i j => i / j
theorem de_div (ha : DE X a ta) (hb : DE X b tb) : DE X (.BinOp a .FloorDiv b pos) (dOp oDiv ta tb) := de_op op_fdiv okI ha hb
def oPow : OpD := oI CPow fun i j => i ^ j.toNat
theorem de_pow (ha : DE X a ta) (hb : DE X b tb) : DE X (.BinOp a .Pow b pos) (dOp oPow ta tb) := de_op op_pow okI ha hb
/-- * -/
def oMul : OpD
  | .int i, .int j, Q => CMul i j ∧ Q (.int (i * j))
  | .list xs, .int j, Q => (0 ≤ j ∧ j < 2 ^ 63 ∧ xs.length * j.toNat ≤ sizeLine) ∧ Q (.list (List.replicate j.toNat xs).flatten)
  | _, _, _ => False
theorem RepAll.rep {K : PySem.W.Frag} {O : Addr → Prop} {H : Hp} {vs : List V} {ds : List D} (r : RepAll K O H vs ds) : ∀ n : Nat, RepAll K O H (List.replicate n vs).flatten (List.replicate n ds).flatten
  | 0 => .nil
  | n + 1 => by
    rw [List.replicate_succ, List.replicate_succ, List.flatten_cons, List.flatten_cons]
    exact r.append (RepAll.rep r n)
theorem de_mul (ha : DE X a ta) (hb : DE X b tb) : DE X (.BinOp a .Mult b pos) (dOp oMul ta tb) := by
  refine de_op (OpR.or op_mul op_rep) ?_ ha hb
  intro G O H x y dx dy Q R B rx ry h k
  cases rx with
  | int i =>
    cases ry with
    | int j => exact .inl ⟨i, j, rfl, rfl, h.1, way_here B k (.int _) h.2⟩
    | _ => exact h.elim
  | lst o1 h1 r1 =>
    cases ry with
    | int j => exact .inr ⟨_, j, _, rfl, rfl, h1, by have := h.1.1; omega, h.1.2.1, by rw [r1.length]; exact h.1.2.2, way_new B k (r1.rep _) h.2⟩
    | _ => exact h.elim
  | _ => cases ry <;> exact h.elim

/-! ### comparisons -/
/-- a comparison's rule -/
def CmpR (X : Cx) (op : CmpOp) (r : OpD) : Prop := ∃ T, OpR X (compareOp op) T ∧ OpOk X.K T r
theorem de_c {op : CmpOp} {r : OpD} (h : CmpR X op r) (ha : DE X a ta) (hb : DE X b tb) (hm : behindInMarks op b = false := by first | exact nomark _ | rfl) : DE X (.Compare a [op] [b] pos) (dOp r ta tb) := by
  obtain ⟨T, h1, h2⟩ := h
  exact de_cmp h1 h2 hm ha hb
/-- the two may be asked for == -/
def eqOk : D → D → Bool
  | .str _, .str _ => true
  | x, y => SeqAt.shaped x && SeqAt.shaped y
def oEq : OpD := fun x y Q => eqOk x y = true ∧ Q (.bool (PyData.eqv x y))
def oNe : OpD := fun x y Q => eqOk x y = true ∧ Q (.bool (!PyData.eqv x y))
theorem eqOk_out {x y : D} (h : eqOk x y = true) : (∃ i j, x = .str i ∧ y = .str j) ∨ (SeqAt.shaped x = true ∧ SeqAt.shaped y = true) := by
  unfold eqOk at h
  split at h
  · exact .inl ⟨_, _, rfl, rfl⟩
  · exact .inr (by rwa [Bool.and_eq_true] at h)
theorem nd_shaped {d : D} (h : SeqAt.shaped d = true) : d.hasDict = false := PyData.hasDict_of_canLay d (SeqAt.canLay_of_shaped h)
theorem nd_list {ds : List D} (h : PyData.hasDict (.list ds) = false) : PyData.hasDictAll ds = false := by simpa [PyData.hasDict] using h
theorem nd_tuple {ds : List D} (h : PyData.hasDict (.tuple ds) = false) : PyData.hasDictAll ds = false := by simpa [PyData.hasDict] using h
theorem cm_eq (hu : X.A.units + 65 < cLine) : CmpR X .Eq oEq := by
  refine ⟨_, OpR.or (op_eqD (Nat.lt_of_succ_lt hu)) op_eq, fun G O H x y dx dy Q R B rx ry h k => ?_⟩
  rcases eqOk_out h.1 with ⟨i, j, rfl, rfl⟩ | ⟨h1, h2⟩
  · cases rx
    cases ry
    refine .inr ⟨rfl, ?_⟩
    have q := h.2
    rw [show PyData.eqv (.str i) (.str j) = (i == j) by simp [PyData.eqv], ← dec_str] at q
    exact way_here B k (.bl _) q
  · exact .inl ⟨dx, dy, rx.dp (nd_shaped h1), ry.dp (nd_shaped h2), h1, h2, way_here B k (.bl _) h.2⟩
theorem cm_ne (hu : X.A.units + 65 < cLine) : CmpR X .NotEq oNe := by
  refine ⟨_, OpR.or (op_neD (Nat.lt_of_succ_lt hu)) op_ne, fun G O H x y dx dy Q R B rx ry h k => ?_⟩
  rcases eqOk_out h.1 with ⟨i, j, rfl, rfl⟩ | ⟨h1, h2⟩
  · cases rx
    cases ry
    refine .inr ⟨rfl, ?_⟩
    have q := h.2
    rw [show PyData.eqv (.str i) (.str j) = (i == j) by simp [PyData.eqv], ← dec_str] at q
    exact way_here B k (.bl _) q
  · exact .inl ⟨dx, dy, rx.dp (nd_shaped h1), ry.dp (nd_shaped h2), h1, h2, way_here B k (.bl _) h.2⟩
/-- in -/
def oIn (neg : Bool) : OpD
  | x, .list ds, Q => SeqAt.shaped x = true ∧ SeqAt.shaped (.list ds) = true ∧ Q (.bool ((ds.any fun z => PyData.eqv z x) != neg))
  | x, .tuple ds, Q => SeqAt.shaped x = true ∧ SeqAt.shaped (.tuple ds) = true ∧ Q (.bool ((ds.any fun z => PyData.eqv z x) != neg))
  | .str i, .str j, Q => neg = false ∧ Q (.bool ((!(Builtin.Str.occurrences j i 0 j.length 1).isEmpty) != neg))
  | _, _, _ => False
def rInT (K : PySem.W.Frag) (neg : Bool) : R2 := fun x y H Q => ∃ d ds, Dp K H x d ∧ Dp K H y (.tuple ds) ∧ SeqAt.shaped d = true ∧ SeqAt.shaped (.tuple ds) = true ∧ Q (.bl ((ds.any fun z => PyData.eqv z d) != neg)) H
theorem lay_tuple {ds : List D} (h : SeqAt.shaped (.tuple ds) = true) : PyData.canLayAll0 ds = true := by
  have := SeqAt.canLay_of_shaped h
  simpa [PyData.canLay0] using this
theorem room_shaped {A : Around} {ds : List D} {d : D} (sd : SeqAt.shaped d = true) (hu : A.units + 65 < cLine) : A.units + 1 + min (PyData.depthAll ds) d.depth < cLine := by
  have h1 := SeqAt.depth_of_shaped sd
  have h2 : min (PyData.depthAll ds) d.depth ≤ d.depth := Nat.min_le_right _ _
  omega
theorem op_inT (hu : X.A.units + 65 < cLine) : OpR X (compareOp .In) (rInT X.K false) := by
  intro pins s σ H x y v u Q I rx ry h
  obtain ⟨d, ds, hd, hy, sd, se, q⟩ := h
  obtain ⟨as, r1⟩ := Dp.reads I d x v hd rx
  obtain ⟨bs, r2⟩ := Dp.reads I _ y u hy ry
  refine SeqAt.in_tuple_reads r2 r1 (lay_tuple se) (SeqAt.canLay_of_shaped sd) (room_shaped sd hu) ⟨.bl _, H, I, rfl, ?_⟩
  rwa [Bool.bne_false] at q
theorem op_notInT (hu : X.A.units + 65 < cLine) : OpR X (compareOp .NotIn) (rInT X.K true) := by
  intro pins s σ H x y v u Q I rx ry h
  obtain ⟨d, ds, hd, hy, sd, se, q⟩ := h
  obtain ⟨as, r1⟩ := Dp.reads I d x v hd rx
  obtain ⟨bs, r2⟩ := Dp.reads I _ y u hy ry
  refine SeqAt.notIn_tuple_reads r2 r1 (lay_tuple se) (SeqAt.canLay_of_shaped sd) (room_shaped sd hu) ⟨.bl _, H, I, rfl, ?_⟩
  rwa [Bool.bne_true] at q
theorem cm_in (hu : X.A.units + 65 < cLine) : CmpR X .In (oIn false) := by
  refine ⟨_, OpR.or (op_inD hu) (OpR.or (op_inT hu) op_in_str), ?_⟩
  intro G O H x y dx dy Q R B rx ry h k
  cases ry with
  | lst o1 h1 r1 => exact .inl ⟨_, _, rx.dp (nd_shaped h.1), Dp.lst (.of h1) (r1.dp (nd_list (nd_shaped h.2.1))), h.1, h.2.1, way_here B k (.bl _) (by have q := h.2.2; rwa [Bool.bne_false] at q)⟩
  | tup h1 r1 => exact .inr (.inl ⟨_, _, rx.dp (nd_shaped h.1), Dp.tup h1.sq (r1.dp (nd_tuple (nd_shaped h.2.1))), h.1, h.2.1, way_here B k (.bl _) h.2.2⟩)
  | str j =>
    cases rx with
    | str i => exact .inr (.inr ⟨i, j, rfl, rfl, way_here B k (.bl _) (by have q := h.2; rwa [Bool.bne_false] at q)⟩)
    | _ => exact h.elim
  | _ => cases rx <;> exact h.elim
theorem cm_notin (hu : X.A.units + 65 < cLine) : CmpR X .NotIn (oIn true) := by
  refine ⟨_, OpR.or (op_notInD hu) (op_notInT hu), ?_⟩
  intro G O H x y dx dy Q R B rx ry h k
  cases ry with
  | lst o1 h1 r1 => exact .inl ⟨_, _, rx.dp (nd_shaped h.1), Dp.lst (.of h1) (r1.dp (nd_list (nd_shaped h.2.1))), h.1, h.2.1, way_here B k (.bl _) (by have q := h.2.2; rwa [Bool.bne_true] at q)⟩
  | tup h1 r1 => exact .inr ⟨_, _, rx.dp (nd_shaped h.1), Dp.tup h1.sq (r1.dp (nd_tuple (nd_shaped h.2.1))), h.1, h.2.1, way_here B k (.bl _) h.2.2⟩
  | str j =>
    cases rx with
    | str i => exact absurd h.1 (by decide)
    | _ => exact h.elim
  | _ => cases rx <;> exact h.elim
/-- is None -/
def oIs (neg : Bool) : OpD
  | .none, .none, Q => Q (.bool (true != neg))
  | .bool _, .none, Q => Q (.bool (false != neg))
  | .int _, .none, Q => Q (.bool (false != neg))
  | .str _, .none, Q => Q (.bool (false != neg))
  | .list _, .none, Q => Q (.bool (false != neg))
  | .tuple _, .none, Q => Q (.bool (false != neg))
  | .dict _, .none, Q => Q (.bool (false != neg))
  | _, _, _ => False
theorem cm_is : CmpR X .Is (oIs false) := by
  refine ⟨_, op_isN, ?_⟩
  intro G O H x y dx dy Q R B rx ry h k
  cases rx <;> cases ry <;> first | exact ⟨rfl, way_here B k (.bl _) h⟩ | exact h.elim
theorem cm_isnot : CmpR X .IsNot (oIs true) := by
  refine ⟨_, op_notN, ?_⟩
  intro G O H x y dx dy Q R B rx ry h k
  cases rx <;> cases ry <;> first | exact ⟨rfl, way_here B k (.bl _) h⟩ | exact h.elim

/-! ### order -/
def oLt : OpD
  | .int i, .int j, Q => Q (.bool (decide (i < j)))
  | .tuple xs, .tuple ys, Q => (PySem.W.alike (.tuple xs) (.tuple ys) = true ∧ (PyData.tuple xs).depth ≤ 64 ∧ PyData.hasDict (.tuple xs) = false ∧ PyData.hasDict (.tuple ys) = false) ∧ Q (.bool (PySem.W.dataLt (.tuple xs) (.tuple ys)))
  | _, _, _ => False
def rLtD (K : PySem.W.Frag) : R2 := fun x y H Q => ∃ xs ys, Dp K H x (.tuple xs) ∧ Dp K H y (.tuple ys) ∧ PySem.W.alike (.tuple xs) (.tuple ys) = true ∧ (PyData.tuple xs).depth ≤ 64 ∧ Q (.bl (PySem.W.dataLt (.tuple xs) (.tuple ys))) H
theorem op_ltD (hu : X.A.units + 64 < cLine) : OpR X (compareOp .Lt) (rLtD X.K) := by
  intro pins s σ H x y v u Q I rx ry h
  obtain ⟨xs, ys, hx, hy, al, dp, q⟩ := h
  obtain ⟨as, r1⟩ := Dp.reads I _ x v hx rx
  obtain ⟨bs, r2⟩ := Dp.reads I _ y u hy ry
  exact PySem.W.rcLt_alike _ _ X.A s v u as bs r1 r2 al (fun z => nomatch z) (by have := Nat.min_le_left (PyData.tuple xs).depth (PyData.tuple ys).depth; omega) _ _ _ _ ⟨.bl _, H, I, rfl, q⟩
theorem cm_lt (hu : X.A.units + 65 < cLine) : CmpR X .Lt oLt := by
  refine ⟨_, OpR.or op_lt (op_ltD (Nat.lt_of_succ_lt hu)), ?_⟩
  intro G O H x y dx dy Q R B rx ry h k
  cases rx with
  | int i =>
    cases ry with
    | int j => exact .inl ⟨i, j, rfl, rfl, way_here B k (.bl _) h⟩
    | _ => exact h.elim
  | tup h1 r1 =>
    cases ry with
    | tup h2 r2 => exact .inr ⟨_, _, .tup h1.sq (r1.dp (nd_tuple h.1.2.2.1)), .tup h2.sq (r2.dp (nd_tuple h.1.2.2.2)), h.1.1, h.1.2.1, way_here B k (.bl _) h.2⟩
    | _ => exact h.elim
  | _ => cases ry <;> exact h.elim
def oLe : OpD
  | .int i, .int j, Q => Q (.bool (decide (i ≤ j)))
  | _, _, _ => False
theorem cm_le : CmpR X .LtE oLe := by
  refine ⟨_, op_le, ?_⟩
  intro G O H x y dx dy Q R B rx ry h k
  cases rx <;> cases ry <;> first | exact ⟨_, _, rfl, rfl, way_here B k (.bl _) h⟩ | exact h.elim
def oGt : OpD
  | .int i, .int j, Q => Q (.bool (decide (j < i)))
  | _, _, _ => False
theorem cm_gt : CmpR X .Gt oGt := by
  refine ⟨_, op_gt, ?_⟩
  intro G O H x y dx dy Q R B rx ry h k
  cases rx <;> cases ry <;> first | exact ⟨_, _, rfl, rfl, way_here B k (.bl _) h⟩ | exact h.elim

/-! ### and, or, not, if -/
def ifB (x : D) (f : Bool → Prop) : Prop := match x with | .bool c => f c | _ => False
def dAnd (ta tb : ET) : ET := fun E η Q => ta E η fun x => ifB x fun c => if c = true then tb E η Q else Q (.bool false)
def dOr (ta tb : ET) : ET := fun E η Q => ta E η fun x => ifB x fun c => if c = true then Q (.bool true) else tb E η Q
def dNot (ta : ET) : ET := fun E η Q => ta E η fun x => ifB x fun c => Q (.bool (!c))
theorem ifB_bl {K : PySem.W.Frag} {O : Addr → Prop} {H : Hp} {v : V} {d : D} {f : Bool → Prop} (r : Rep K O H v d) (h : ifB d f) : ∃ c, d = .bool c ∧ v = .bl c ∧ f c := by
  cases r <;> first | exact ⟨_, rfl, rfl, h⟩ | exact h.elim
theorem de_one {op} (h : DE X a ta) : DE X (.BoolOp op [a] pos) ta := .of (pe_one h.pe) fun σ H c O η E Q g q => ⟨c, O, η, E, Q, g, q, fun d v H' s r q => ⟨d, s, r, q⟩⟩
theorem de_and (ha : DE X a ta) (hb : DE X (.BoolOp .And (b :: rest) pos) tb) : DE X (.BoolOp .And (a :: b :: rest) pos) (dAnd ta tb) := .of (pe_and ha.pe hb.pe) fun σ H c O η E Q g h => by
  refine ⟨c, O, η, E, _, g, h, fun d v H1 s1 r1 q => ?_⟩
  obtain ⟨k, rfl, rfl, q⟩ := ifB_bl r1 q
  refine ⟨k, rfl, ?_⟩
  have g1 := g.step s1
  cases k with
  | true => exact ⟨c, O, η, E, Q, g1, q, fun d v H' s r q => ⟨d, s1.trans s, r, q⟩⟩
  | false => exact ⟨_, s1, .bl false, q⟩
theorem de_or (ha : DE X a ta) (hb : DE X (.BoolOp .Or (b :: rest) pos) tb) : DE X (.BoolOp .Or (a :: b :: rest) pos) (dOr ta tb) := .of (pe_or ha.pe hb.pe) fun σ H c O η E Q g h => by
  refine ⟨c, O, η, E, _, g, h, fun d v H1 s1 r1 q => ?_⟩
  obtain ⟨k, rfl, rfl, q⟩ := ifB_bl r1 q
  refine ⟨k, rfl, ?_⟩
  have g1 := g.step s1
  cases k with
  | false => exact ⟨c, O, η, E, Q, g1, q, fun d v H' s r q => ⟨d, s1.trans s, r, q⟩⟩
  | true => exact ⟨_, s1, .bl true, q⟩
theorem de_not (ha : DE X a ta) : DE X (.UnaryOp .Not a pos) (dNot ta) := .of (pe_not ha.pe) fun σ H c O η E Q g h => by
  refine ⟨c, O, η, E, _, g, h, fun d v H1 s1 r1 q => ?_⟩
  obtain ⟨k, rfl, rfl, q⟩ := ifB_bl r1 q
  exact ⟨k, rfl, _, s1, .bl _, q⟩
def oNeg (ta : ET) : ET := fun E η Q => ta E η fun x => match x with | .int i => Q (.int (-i)) | _ => False
theorem de_neg (ha : DE X a ta) : DE X (.UnaryOp .USub a pos) (oNeg ta) := .of (pe_un un_neg ha.pe) fun σ H c O η E Q g h => by
  refine ⟨c, O, η, E, _, g, h, fun d v H1 s1 r1 q => ?_⟩
  cases r1 <;> first | exact ⟨_, rfl, _, s1, .int _, q⟩ | exact q.elim
/-! tests -/
def bVal (t : ET) : BT := fun E η Q => t E η fun x => ifB x Q
theorem dt_val (h : DE X e t) (he : ∀ whole, isTrue e X.env whole = (do let v ← whole; standAt e.pos; holding [v] (truthy v)) := by intro _; rfl) : DT X e (bVal t) := .of (pt_val h.pe he) fun σ H c O η E Q g h => by
  refine ⟨c, O, η, E, _, g, h, fun d v H1 s1 r1 q => ?_⟩
  obtain ⟨k, rfl, rfl, q⟩ := ifB_bl r1 q
  exact ⟨k, rfl, s1, q⟩
theorem dt_cmp {op : CmpOp} {T : R2} {r : OpD} (ho : OpR X (compareOp op) T) (ok : OpOk X.K T r) (hm : behindInMarks op b = false) (ha : DE X a ta) (hb : DE X b tb) : DT X (.Compare a [op] [b] pos) (bVal (dOp r ta tb)) :=
  .of (pt_cmpR ho ha.pe hb.pe hm) fun σ H c O η E Q g h => by
    refine bin_lift ok g h fun d v H' s r q => ?_
    obtain ⟨k, rfl, rfl, q⟩ := ifB_bl r q
    exact ⟨k, rfl, s, q⟩
theorem dt_c {op : CmpOp} {r : OpD} (h : CmpR X op r) (ha : DE X a ta) (hb : DE X b tb) (hm : behindInMarks op b = false := by first | exact nomark _ | rfl) : DT X (.Compare a [op] [b] pos) (bVal (dOp r ta tb)) := by
  obtain ⟨T, h1, h2⟩ := h
  exact dt_cmp h1 h2 hm ha hb
/-- a < b < c -/
def dChain (r r' : OpD) (ta tb tc : ET) : ET := fun E η Q => ta E η fun x => tb E η fun y => r x y fun z => ifB z fun k => if k = true then tc E η fun w => r' y w Q else Q (.bool false)
theorem chain_lift {X : Cx} {T T' : R2} {r r' : OpD} (ok : OpOk X.K T r) (ok' : OpOk X.K T' r') {σ : L2.St} {H : Hp} {c : Ctx} {O : Addr → Prop} {η : EnvD} {E : XP} {Q : D → Prop} {R : VK} (g : Gd X c E O η σ H) (h : dChain r r' ta tb tc E η Q) (k : Way X.K c.G O H Q R) :
    tChain T T' (liftE X ta) (liftE X tb) (liftE X tc) σ H R := by
  refine ⟨c, O, η, E, _, g, h, fun dx x H1 s1 r1 h1 => ?_⟩
  have g1 := g.step s1
  refine ⟨c, O, η, E, _, g1, h1, fun dy y H2 s2 r2 h2 => ?_⟩
  have g2 := g1.step s2
  refine ok c.G O H2 x y dx dy _ _ g2.base (s2.rep g1.draw g1.wO r1) r2 h2 fun d v H3 s3 r3 q => ?_
  obtain ⟨b, rfl, rfl, q⟩ := ifB_bl r3 q
  have g3 := g2.step s3
  refine ⟨b, rfl, ?_⟩
  cases b with
  | true => exact ⟨c, O, η, E, _, g3, q, fun dw w' H4 s4 r4 h4 => ok' c.G O H4 y w' dy dw Q R (g3.step s4).base (s4.rep g3.draw g3.wO (s3.rep g2.draw g2.wO r2)) r4 h4 fun d v H' s5 r5 q => k d v H' (s1.trans (s2.trans (s3.trans (s4.trans s5)))) r5 q⟩
  | false => exact k _ _ _ (s1.trans (s2.trans s3)) (.bl false) q
theorem de_chain {op op' : CmpOp} {r r' : OpD} {x : Expr} (h : CmpR X op r) (h' : CmpR X op' r') (ha : DE X a ta) (hb : DE X b tb) (hc : DE X x tc) (hm : lastMarks [op, op'] [b, x] = false := by with_unfolding_all rfl) : DE X (.Compare a [op, op'] [b, x] pos) (dChain r r' ta tb tc) := by
  obtain ⟨T, h1, h2⟩ := h
  obtain ⟨T', h1', h2'⟩ := h'
  exact .of (pe_chain h1 h1' ha.pe hb.pe hc.pe hm) fun σ H c O η E Q g h => chain_lift h2 h2' g h fun d v H' s r q => ⟨d, s, r, q⟩
theorem dt_chain {op op' : CmpOp} {r r' : OpD} {x : Expr} (h : CmpR X op r) (h' : CmpR X op' r') (ha : DE X a ta) (hb : DE X b tb) (hc : DE X x tc) (hm : lastMarks [op, op'] [b, x] = false := by with_unfolding_all rfl) : DT X (.Compare a [op, op'] [b, x] pos) (bVal (dChain r r' ta tb tc)) := by
  obtain ⟨T, h1, h2⟩ := h
  obtain ⟨T', h1', h2'⟩ := h'
  refine .of (pt_chain h1 h1' ha.pe hb.pe hc.pe hm) fun σ H c O η E Q g h => chain_lift h2 h2' g h fun d v H' s r q => ?_
  obtain ⟨k, rfl, rfl, q⟩ := ifB_bl r q
  exact ⟨k, rfl, s, q⟩
def bAnd (t u : BT) : BT := fun E η Q => t E η fun c => if c = true then u E η Q else Q false
def bOr (t u : BT) : BT := fun E η Q => t E η fun c => if c = true then Q true else u E η Q
def bNot (t : BT) : BT := fun E η Q => t E η fun c => Q (!c)
variable {tA tB : BT}
theorem dw_and1 (ha : DT X a tA) : DW X (.BoolOp .And [a] pos) tA := .of (pw_and1 ha.pt) fun σ H c O η E Q g h => ⟨c, O, η, E, Q, g, h, fun b H' s q => ⟨s, q⟩⟩
theorem dw_or1 (ha : DT X a tA) : DW X (.BoolOp .Or [a] pos) tA := .of (pw_or1 ha.pt) fun σ H c O η E Q g h => ⟨c, O, η, E, Q, g, h, fun b H' s q => ⟨s, q⟩⟩
theorem dw_and (ha : DT X a tA) (hb : DW X (.BoolOp .And (b :: rest) pos) tB) : DW X (.BoolOp .And (a :: b :: rest) pos) (bAnd tA tB) := .of (pw_and ha.pt hb.pw) fun σ H c O η E Q g h => by
  refine ⟨c, O, η, E, _, g, h, fun k H1 s1 q => ?_⟩
  cases k with
  | true => exact ⟨c, O, η, E, Q, g.step s1, q, fun b H' s q => ⟨s1.trans s, q⟩⟩
  | false => exact ⟨s1, q⟩
theorem dw_or (ha : DT X a tA) (hb : DW X (.BoolOp .Or (b :: rest) pos) tB) : DW X (.BoolOp .Or (a :: b :: rest) pos) (bOr tA tB) := .of (pw_or ha.pt hb.pw) fun σ H c O η E Q g h => by
  refine ⟨c, O, η, E, _, g, h, fun k H1 s1 q => ?_⟩
  cases k with
  | false => exact ⟨c, O, η, E, Q, g.step s1, q, fun b H' s q => ⟨s1.trans s, q⟩⟩
  | true => exact ⟨s1, q⟩
theorem dt_not (ha : DT X a tA) : DT X (.UnaryOp .Not a pos) (bNot tA) := .of (pt_not ha.pt) fun σ H c O η E Q g h => ⟨c, O, η, E, _, g, h, fun k H1 s1 q => ⟨s1, q⟩⟩
def dIf (t : BT) (ta tb : ET) : ET := fun E η Q => t E η fun c => if c = true then ta E η Q else tb E η Q
theorem de_if {cnd : Expr} (hc : DT X cnd tA) (ha : DE X a ta) (hb : DE X b tb) : DE X (.IfExp cnd a b pos) (dIf tA ta tb) := .of (pe_ifExp hc.pt ha.pe hb.pe) fun σ H c O η E Q g h => by
  refine ⟨c, O, η, E, _, g, h, fun k H1 s1 q => ?_⟩
  cases k with
  | true => exact ⟨c, O, η, E, Q, g.step s1, q, fun d v H' s r q => ⟨d, s1.trans s, r, q⟩⟩
  | false => exact ⟨c, O, η, E, Q, g.step s1, q, fun d v H' s r q => ⟨d, s1.trans s, r, q⟩⟩
end
end DL

/-! DL2: places, slices, displays, calls of built-ins. -/
namespace DL
open PySem PySem.Spec PyProof.Rows L2
section
variable {X : Cx} {a b e : Expr} {es rest : List Expr} {pos p : Pos} {ta tb tc t u : ET} {ts : AT}

theorem way_out {K : PySem.W.Frag} {G : Option (Addr × Addr)} {O : Addr → Prop} {H H1 : Hp} {Q : D → Prop} (s1 : Step G H H1) : Way K G O H1 Q fun v H' => ∃ d, Step G H H' ∧ Rep K O H' v d ∧ Q d := fun d v H' s r q => ⟨d, s1.trans s, r, q⟩
def onS {α : Type} (o : Option α) (k : α → Prop) : Prop := match o with | some x => k x | none => False
theorem onS_out {α : Type} {o : Option α} {k : α → Prop} (h : onS o k) : ∃ x, o = some x ∧ k x := by
  cases o with
  | none => exact h.elim
  | some x => exact ⟨x, rfl, h⟩
/-! ### arguments, displays -/
def aNil : AT := fun _ _ Q => Q []
def aCons (t : ET) (ts : AT) : AT := fun E η Q => t E η fun d => ts E η fun ds => Q (d :: ds)
theorem da_nil : DA X [] aNil := .of pa_nil fun σ H c O η E Q g h => ⟨[], .refl g.draw, .nil, h⟩
theorem da_cons (ha : DE X e t) (hr : DA X es ts) (hs : starEach (e :: es) X.env = (false, eval e X.env) :: starEach es X.env := by rfl) : DA X (e :: es) (aCons t ts) := .of (pa_cons ha.pe hr.pa hs) fun σ H c O η E Q g h => by
  refine ⟨c, O, η, E, _, g, h, fun d v H1 s1 r1 h1 => ?_⟩
  have g1 := g.step s1
  exact ⟨c, O, η, E, _, g1, h1, fun ds vs H2 s2 r2 q => ⟨d :: ds, s1.trans s2, .cons (s2.rep g1.draw g1.wO r1) r2, q⟩⟩
def dTup (ts : AT) : ET := fun E η Q => ts E η fun ds => ds.length ≤ sizeLine ∧ Q (.tuple ds)
theorem de_tup {k} (h : DA X es ts) : DE X (.Tuple es k pos) (dTup ts) := .of (pe_tup h.pa) fun σ H c O η E Q g h =>
  ⟨c, O, η, E, _, g, h, fun ds vs H1 s1 r1 q => ⟨by rw [r1.length]; exact q.1, way_newT (g.step s1).base (way_out s1) r1 q.2⟩⟩
/-! new lists -/
abbrev NT := XP → EnvD → (List D → Prop) → Prop
/-- a new list: where it stands, what it holds -/
def NewK (K : PySem.W.Frag) (c : Ctx) (O : Addr → Prop) (H : Hp) (Q : List D → Prop) : VK := fun v H' => ∃ ds a vs, v = .ref a ∧ Step c.G H H' ∧ H a = none ∧ H' a = some (.lst vs) ∧ RepAll K (fun b => O b ∨ b = a) H' vs ds ∧ Q ds
/-- the reading T tells a new list by t -/
def RdN (X : Cx) (T : TE) (t : NT) : Prop := ∀ (σ : L2.St) (H : Hp) (c : Ctx) (O : Addr → Prop) (η : EnvD) (E : XP) (Q : List D → Prop) (R : VK), Gd X c E O η σ H → t E η Q → (∀ v H', NewK X.K c O H Q v H' → R v H') → T σ H R
structure DN (X : Cx) (e : Expr) (t : NT) : Prop where
  ex : ∃ T, PE X e T ∧ RdN X T t
theorem DN.of {t : NT} {T : TE} (h : PE X e T) (f : RdN X T t) : DN X e t := ⟨T, h, f⟩
def dNew (t : NT) : ET := fun E η Q => t E η fun ds => Q (.list ds)
theorem DN.de {t : NT} (h : DN X e t) : DE X e (dNew t) := by
  obtain ⟨T, h1, h2⟩ := h.ex
  exact .of h1 fun σ H c O η E Q g ht => h2 σ H c O η E _ _ g ht fun v H' ⟨ds, a, vs, e1, st, h0, h1, rp, q⟩ => by
    subst e1
    exact ⟨.list ds, st, .lst (fun z => g.hT a z h0) h1 (rp.weak fun _ => .inl), q⟩
theorem Step.none {G : Option (Addr × Addr)} {H H1 : Hp} (st : Step G H H1) (dr : DrawOk G H) {p : Addr} (h : H1 p = none) : H p = none := by
  cases e : H p with
  | none => rfl
  | some o =>
    by_cases w : Wr G p
    · exact absurd h (st.draw.tr p w)
    · rw [st.keep p o w e] at h; cases h
theorem newk {X : Cx} {E : XP} {c : Ctx} {O : Addr → Prop} {η : EnvD} {σ : L2.St} {H H1 : Hp} {Q : List D → Prop} {R : VK} (g : Gd X c E O η σ H) (s1 : Step c.G H H1) {ds : List D} {vs : List V} (r : RepAll X.K O H1 vs ds) (q : Q ds) (k : ∀ v H', NewK X.K c O H Q v H' → R v H') :
    ∀ p, H1 p = none → R (.ref p) (upd H1 p (.lst vs)) := fun p hp =>
  k _ _ ⟨ds, p, vs, rfl, s1.trans (.alloc s1.draw hp), s1.none g.draw hp, upd_same, (r.more hp).same (same_upd hp), q⟩
def nLst (ts : AT) : NT := fun E η Q => ts E η fun ds => ds.length ≤ sizeLine ∧ Q ds
theorem dn_lst (h : DA X es ts) : DN X (.List es pos) (nLst ts) := .of (pe_lst h.pa) fun σ H c O η E Q R g h k =>
  ⟨c, O, η, E, _, g, h, fun ds vs H1 s1 r1 q => ⟨by rw [r1.length]; exact q.1, newk g s1 r1 q.2 k⟩⟩

/-! ### a[i], a[i:j] -/
def oIx : OpD
  | .list ds, .int i, Q => onS (atI ds i) Q
  | .tuple ds, .int i, Q => onS (atI ds i) Q
  | .str x, .int i, Q => x.length ≤ sizeLine ∧ onS (atI x.cps.toList i) fun n => Q (.str ⟨#[n]⟩)
  | _, _, _ => False
theorem RepAll.atI {K : PySem.W.Frag} {O : Addr → Prop} {H : Hp} {vs : List V} {ds : List D} (r : RepAll K O H vs ds) {i : Int} {d : D} (h : atI ds i = some d) : ∃ x, L2.atI vs i = some x ∧ Rep K O H x d := by
  unfold L2.atI at h ⊢
  rw [r.length]
  cases e : ixN ds.length i with
  | none => rw [e] at h; cases h
  | some j =>
    rw [e] at h
    exact r.getD h
theorem de_ix (ha : DE X a ta) (hb : DE X b tb) (hs : PlainIx b := by exact fun _ _ => rfl) : DE X (.Subscript a b pos) (dOp oIx ta tb) := .of (pe_ix ix_seq ha.pe hb.pe hs) fun σ H c O η E Q g h => by
  refine bin_lift (r := oIx) ?_ g h fun d v H' s r q => ⟨d, s, r, q⟩
  intro G O H x y dx dy Q R B rx ry h k
  cases rx with
  | lst o1 h1 r1 =>
    cases ry with
    | int i =>
      obtain ⟨d, hd, h⟩ := onS_out h
      obtain ⟨z, hz, rz⟩ := r1.atI hd
      exact .inl ⟨_, _, i, z, rfl, rfl, .of h1, hz, way_here B k rz h⟩
    | _ => exact h.elim
  | tup h1 r1 =>
    cases ry with
    | int i =>
      obtain ⟨d, hd, h⟩ := onS_out h
      obtain ⟨z, hz, rz⟩ := r1.atI hd
      exact .inr (.inl ⟨_, _, i, z, rfl, rfl, h1.sq, hz, way_here B k rz h⟩)
    | _ => exact h.elim
  | str x =>
    cases ry with
    | int i =>
      obtain ⟨hl, h⟩ := h
      obtain ⟨n, hn, h⟩ := onS_out h
      exact .inr (.inr ⟨x, i, n, rfl, rfl, hl, hn, way_here B k (.str _) h⟩)
    | _ => exact h.elim
  | _ => cases ry <;> exact h.elim
def cutD {α : Type} (xs : List α) (lo hi : Option Int) : List α := (xs.drop (HT.sIx xs.length 0 lo)).take (HT.sIx xs.length xs.length hi - HT.sIx xs.length 0 lo)
abbrev OT := XP → EnvD → (Option Int → Prop) → Prop
def oNone : OT := fun _ _ Q => Q none
def oSome (t : ET) : OT := fun E η Q => t E η fun x => match x with | .int i => Q (some i) | _ => False
structure DO (X : Cx) (e : Option Expr) (t : OT) : Prop where
  mk ::
  po : ∃ T, PO X e T ∧ ∀ σ H c O η E (Q : Option Int → Prop) (R : Option Int → Hp → Prop), Gd X c E O η σ H → t E η Q → (∀ i H', Step c.G H H' → Q i → R i H') → T σ H R
theorem do_none : DO X none oNone := ⟨_, po_none, fun σ H c O η E Q R g h k => k none H (.refl g.draw) h⟩
theorem do_some (h : DE X e t) : DO X (some e) (oSome t) := ⟨_, po_some h.pe, fun σ H c O η E Q R g h k => by
  refine ⟨c, O, η, E, _, g, h, fun d v H' s r q => ?_⟩
  cases r <;> first | exact ⟨_, rfl, k _ _ s q⟩ | exact q.elim⟩
def dSl (ta : ET) (tl th : OT) : ET := fun E η Q => ta E η fun x => tl E η fun l => th E η fun h => match x with
  | .list ds => Q (.list (cutD ds l h))
  | .tuple ds => Q (.tuple (cutD ds l h))
  | _ => False
theorem cut_all {α : Type} {xs : List α} {l h : Option Int} (e : HT.sIx xs.length 0 l = 0 ∧ HT.sIx xs.length xs.length h = xs.length) : cutD xs l h = xs := by
  unfold cutD
  rw [e.1, e.2, List.drop_zero, Nat.sub_zero, List.take_length]
theorem RepAll.cut {K : PySem.W.Frag} {O : Addr → Prop} {H : Hp} {vs : List V} {ds : List D} (r : RepAll K O H vs ds) (l h : Option Int) : RepAll K O H (cutV vs l h) (cutD ds l h) := by
  unfold cutV cutD
  rw [r.length]
  exact (r.drop _).take _
theorem SlR.or' {r r' : V → Option Int → Option Int → Hp → VK → Prop} (h : SlR X r) (h' : SlR X r') : SlR X (fun x lo hi H Q => r x lo hi H Q ∨ r' x lo hi H Q) := h.or h'
theorem de_sl {lo hi : Option Expr} {tl th : OT} {p2 : Pos} (ha : DE X a ta) (hl : DO X lo tl) (hh : DO X hi th) : DE X (.Subscript a (.Slice lo hi none p2) pos) (dSl ta tl th) := by
  obtain ⟨Tl, pl, kl⟩ := hl.po
  obtain ⟨Th, ph, kh⟩ := hh.po
  refine .of (pe_slice (SlR.or' sl_list sl_tupA) ha.pe pl ph) fun σ H c O η E Q g h => ?_
  refine ⟨c, O, η, E, _, g, h, fun dx x H1 s1 r1 h1 => ?_⟩
  have g1 := g.step s1
  refine kl _ _ c O η E _ _ g1 h1 fun l H2 s2 h2 => ?_
  have g2 := g1.step s2
  refine kh _ _ c O η E _ _ g2 h2 fun u H3 s3 h3 => ?_
  have g3 := g2.step s3
  have r3 := s3.rep g2.draw g2.wO (s2.rep g1.draw g1.wO r1)
  have sa := s1.trans (s2.trans s3)
  cases r3 with
  | lst o h0 rr => exact .inl ⟨_, _, rfl, .of h0, way_new g3.base (way_out sa) (rr.cut _ _) h3⟩
  | tup h0 rr =>
    refine .inr ⟨_, _, rfl, h0.sq, fun e => ?_, fun _ => way_newT g3.base (way_out sa) (rr.cut _ _) h3⟩
    refine ⟨_, sa, .tup h0 rr, ?_⟩
    rw [rr.length] at e
    rw [← cut_all e]
    exact h3
  | _ => exact h3.elim

/-! ### calls of built-ins -/
abbrev CallD := List D → (D → Prop) → Prop
def dCall (r : CallD) (ts : AT) : ET := fun E η Q => ts E η fun ds => r ds Q
def CallOk (K : PySem.W.Frag) (T : List V → Hp → VK → Prop) (r : CallD) : Prop := ∀ (G : Option (Addr × Addr)) (O : Addr → Prop) (H : Hp) (xs : List V) (ds : List D) (Q : D → Prop) (R : VK), Base G O H → RepAll K O H xs ds → r ds Q → Way K G O H Q R → T xs H R
theorem call_lift {X : Cx} {T : List V → Hp → VK → Prop} {r : CallD} (ok : CallOk X.K T r) {σ : L2.St} {H : Hp} {c : Ctx} {O : Addr → Prop} {η : EnvD} {E : XP} {Q : D → Prop} (g : Gd X c E O η σ H) (h : dCall r ts E η Q) :
    tCB T (liftA X ts) σ H fun v H' => ∃ d, Step c.G H H' ∧ Rep X.K O H' v d ∧ Q d :=
  ⟨c, O, η, E, _, g, h, fun ds vs H1 s1 r1 h1 => ok c.G O H1 vs ds Q _ (g.step s1).base r1 h1 fun d v H' s r q => ⟨d, s1.trans s, r, q⟩⟩
theorem de_callB {T : List V → Hp → VK → Prop} {r : CallD} {id : String} {x : Str} (hc : CallR X (.builtin id) T) (ok : CallOk X.K T r) (hg : Gl X x) (hm : X.mg x = none) (hv : bootBuiltins x = some (.builtin id)) (ha : DA X (e :: es) ts) (hn : x ≠ "__name__" := by decide)
    (hdb : (x == ("__debug__" : Str)) = false := by decide) (he : starEach (e :: es) X.env = (false, eval e X.env) :: starEach es X.env := by rfl) (hpl : (backTo pos (starEach es X.env)).any (·.1) = false := by rfl) :
    DE X (.Call (.Name x p) (e :: es) [] pos) (dCall r ts) := .of (pe_callB hc hg hm hv ha.pa hn hdb he hpl) fun σ H c O η E Q g h => call_lift ok g h
theorem de_callTy {T : List V → Hp → VK → Prop} {r : CallD} {id : String} {x : Str} (hc : CallR X (.type id) T) (ok : CallOk X.K T r) (hg : Gl X x) (hm : X.mg x = none) (hv : bootBuiltins x = some (.type id)) (ha : DA X (e :: es) ts) (hn : x ≠ "__name__" := by decide)
    (hdb : (x == ("__debug__" : Str)) = false := by decide) (he : starEach (e :: es) X.env = (false, eval e X.env) :: starEach es X.env := by rfl) (hpl : (backTo pos (starEach es X.env)).any (·.1) = false := by rfl) :
    DE X (.Call (.Name x p) (e :: es) [] pos) (dCall r ts) := .of (pe_callTy hc hg hm hv ha.pa hn hdb he hpl) fun σ H c O η E Q g h => call_lift ok g h
end
end DL

/-! DLsort: sorted of alike data: tuples of any length among them, the empty one first. -/
namespace DL
open PySem PySem.Spec PyProof.Rows L2 PySem.W PySem.SeqAt
section
variable {prog : Program} {w : World} {A : Around} {s : Shared}
theorem call_tuple_lt' {E : Value → Shared → Prop} {Q : Value → Shared → Prop} {l b : Addr} {items items2 : Array Value} {e r : Nat → Bool} (hl : s.heap.IsTuple l items) (hb : s.heap.IsTuple b items2)
    (he : ∀ j (h1 : j < items.size) (h2 : j < items2.size), EqAt A.in1 s items[j] items2[j] (e j))
    (hr : ∀ j (h1 : j < items.size) (h2 : j < items2.size), e j = false → PySem.SeqAt.RcLt A.in1 s items[j] items2[j] (r j))
    (h : Q (.bool (firstLt e r (decide (items.size < items2.size)) (List.range (min items.size items2.size)))) s) :
    wpAny (model prog w) A (call (.builtin "tuple.__lt__") [.ref l, .ref b]) Q E s := by
  obtain ⟨ol, ho, hc, n, hd⟩ := hl
  obtain ⟨ob, ho2, hc2, n2, hd2⟩ := hb
  obtain ⟨cls, dd, data, sl⟩ := ol
  obtain ⟨cls2, dd2, data2, sl2⟩ := ob
  cases hc; cases hd; cases hc2; cases hd2
  exact call_meets F.slot_tuple_lt ⟨_, ho, rfl⟩ F.entry_tuple_lt (F.args_tuple_lt_2 _ _) (PySem.SeqAt.tuple_ltAt l b items items2 n n2 dd dd2 sl sl2 e r) ⟨ho, ho2, he, hr, h⟩
theorem oneLt_tuples {xs ys : List PyData} {a b : Value} {as bs : List Addr} {E : Value → Shared → Prop} {Q : Bool → Shared → Prop} (ra : Reads s.heap a (.tuple xs) as) (rb : Reads s.heap b (.tuple ys) bs) (h : alike (.tuple xs) (.tuple ys) = true)
    (hu : A.units + min (PyData.tuple xs).depth (PyData.tuple ys).depth < cLine) (hq : Q (dataLt (.tuple xs) (.tuple ys)) s) : wpAny (model prog w) A (oneLt' true a b) Q E s := by
  have hal : alikeAll xs ys = true := by simpa [alike] using h
  cases ra with
  | @tuple l o vs n _ _ h1 h2 h3 h4 =>
    cases rb with
    | @tuple l' o' vs' n' _ _ k1 k2 k3 k4 =>
      have n1 : vs.size = xs.length := by simpa using ReadsAll.length _ _ _ h4
      have n2 : vs'.size = ys.length := by simpa using ReadsAll.length _ _ _ k4
      rw [dataLt_tuple, ← firstLt_toks xs ys hal, ← n1, ← n2] at hq
      rw [oneLt'_eq]
      simp only [if_true]
      refine wpAny_bind (wpAny_cRoomFor (room_here hu) ?_)
      refine wpAny_bind (wpAny_callSpecialIfBound?_slot (T := "tuple") ⟨_, h1, h2⟩ F.slot_tuple_lt ?_)
      refine call_tuple_lt' (e := pairEq xs ys) (r := fun j => dataLt (xs.getD j .none) (ys.getD j .none)) ⟨_, h1, h2, _, h3⟩ ⟨_, k1, k2, _, k3⟩ (fun j j1 j2 => ?_) (fun j j1 j2 hj => ?_) ?_
      · have z := eqAt_alikeAll xs ys A.in1 s vs.toList vs'.toList _ _ h4 k4 hal (room_in hu) j (by simpa using j1) (by simpa using j2)
        simpa using z
      · have z := rcLt_alikeAll xs ys A.in1 s vs.toList vs'.toList _ _ h4 k4 hal (room_in hu) j (by simpa using j1) (by simpa using j2) hj
        simpa using z
      · exact wpAny_truthy_bool hq
end
section
variable {prog : Program} {w : World} {A : Around} {s : Shared} {E : Value → Shared → Prop}
theorem first_tuple {v : Value} {xs : List PyData} {as : List Addr} {Q : Option Value → Shared → Prop} (r : Reads s.heap v (.tuple xs) as) (h : ∀ o, (o = none ↔ xs = []) → Q o s) : wpAny (model prog w) A (firstOfTuple' v) Q E s := by
  cases r with
  | @tuple a o vs n _ _ h1 h2 h3 h4 =>
    have n1 : vs.size = xs.length := by simpa using ReadsAll.length _ _ _ h4
    rw [kas_first_eq]
    refine wpAny_bind ((looks_reads (.tuple h1 h2 h3 h4)).here ?_)
    rw [if_neg (by show ¬ (Value.type "tuple" != Value.type "tuple") = true; decide)]
    refine wpAny_bind (wpAny_listItems h1 h3 (wpAny_pure (h _ ?_)))
    constructor
    · intro z
      have : vs.size ≤ 0 := by simpa using z
      cases xs with
      | nil => rfl
      | cons x r => rw [n1] at this; simp at this
    · rintro rfl
      have : vs.size = 0 := n1
      simp [this]
theorem firsts_tuples : ∀ {vs : List Value} {ds : List PyData} {Q : List (Option Value) → Shared → Prop}, EachIs (fun v d => ∃ as, Reads s.heap v d as) vs ds → (∀ d, d ∈ ds → ∃ xs, d = .tuple xs) →
    (∀ rs : List (Option Value), (rs[0]? = some none ↔ ds[0]? = some (.tuple [])) → rs.length = ds.length → Q rs s) → wpAny (model prog w) A (vs.mapM firstOfTuple') Q E s
  | _, _, Q, .nil, _, h => by
    rw [List.mapM_nil]
    exact wpAny_pure (h [] (by simp) rfl)
  | v :: vs, d :: ds, Q, .cons ⟨as, r⟩ t, ht, h => by
    obtain ⟨xs, rfl⟩ := ht d List.mem_cons_self
    rw [List.mapM_cons]
    refine wpAny_bind (first_tuple r fun o ho => wpAny_bind (firsts_tuples t (fun d hd => ht d (List.mem_cons_of_mem _ hd)) fun rs _ hl => wpAny_pure (h (o :: rs) ?_ ?_)))
    · simp only [List.getElem?_cons_zero, Option.some.injEq, PyData.tuple.injEq]
      exact ho
    · rw [List.length_cons, List.length_cons, hl]
end
section
variable {prog : Program} {w : World} {A : Around} {s : Shared}
/-- tuples, the first of them empty: all are taken as of one type -/
theorem SortsAt.empties {vs : List Value} {ds : List PyData} (e : EachIs (fun v d => ∃ as, Reads s.heap v d as) vs ds) (hal : AllAlike ds) (ht : ∀ d, d ∈ ds → ∃ xs, d = .tuple xs) (h0 : ds[0]? = some (.tuple [])) (hu : ∀ d, d ∈ ds → A.units + d.depth < cLine) :
    SortsAt prog w A s (dataKind s.heap ds) vs := by
  have room : ∀ {d d' : PyData}, d ∈ ds → A.units + min d.depth d'.depth < cLine := fun {d d'} hd => Nat.lt_of_le_of_lt (Nat.add_le_add_left (Nat.min_le_left _ _) _) (hu d hd)
  refine ⟨fun v hv => ?_, oneType', fun E x y a b Q ha hb hq => ?_, fun h2 E Q hq => ?_⟩
  · obtain ⟨d, hd, as, r⟩ := e.left v hv
    exact ⟨_, dataKind_some hal hd r⟩
  · obtain ⟨d, as, hd, ra, rfl⟩ := dataKind_inv ha
    obtain ⟨d', as', hd', rb, rfl⟩ := dataKind_inv hb
    obtain ⟨xs, rfl⟩ := ht d hd
    obtain ⟨ys, rfl⟩ := ht d' hd'
    rw [keyLt'_oneType]
    exact oneLt_tuples ra rb (hal _ hd _ hd') (room hd) hq
  · rw [keyKind'_eq, List.mapM_toArray, map_eq_pure_bind]
    refine wpAny_bind (wpAny_bind (firsts_tuples e ht fun rs hr hl => wpAny_pure ?_))
    have e0 : rs[0]? = some none := hr.mpr h0
    have e1 : (rs.toArray.all fun x => x.isSome) = false := by
      cases rs with
      | nil => simp at e0
      | cons a r =>
        have : a = none := by simpa using e0
        subst this
        simp
    rw [if_neg (by rw [e1]; decide)]
    rw [if_neg (by simp [e0])]
    have hT : ∀ v ∈ vs, Looks (model prog w) s.heap (typeOf v) (Value.type "tuple") := fun v hv => by
      obtain ⟨d, hd, as, r⟩ := e.left v hv
      obtain ⟨xs, rfl⟩ := ht d hd
      exact looks_reads r
    rw [oneTypeOnly'_eq, List.mapM_toArray, map_eq_pure_bind]
    refine wpAny_bind (wpAny_bind (wpAny_bind (kas_mapM (r := Value.type "tuple") _ (fun v hv Q' hq => (hT v hv).here hq) (wpAny_pure ?_))))
    cases vs with
    | nil => simp at h2
    | cons v r =>
      have h3 : ((List.map (fun _ => Value.type "tuple") (v :: r)).toArray.all fun x => x == Value.type "tuple") = true := by
        simp only [List.all_toArray, List.all_map, List.all_eq_true]
        intro _ _
        rfl
      have h4 : (List.map (fun _ => Value.type "tuple") (v :: r)).toArray[0]? = some (Value.type "tuple") := by simp
      rw [h4]
      simp only [h3, if_true]
      exact wpAny_pure (wpAny_pure hq)
end
end DL

/-! DL3: the built-ins over data. -/
namespace DL
open PySem PySem.Spec PyProof.Rows L2
section
variable {K : PySem.W.Frag} {O : Addr → Prop} {H : Hp}
mutual
theorem nd_alike : ∀ d : D, PySem.W.alike d d = true → d.hasDict = false
  | .none, _ => rfl
  | .bool _, _ => rfl
  | .int _, _ => rfl
  | .str _, _ => rfl
  | .list xs, h => by
    rw [PySem.W.alike] at h
    simpa [PyData.hasDict] using nd_alikes xs h
  | .tuple xs, h => by
    rw [PySem.W.alike] at h
    simpa [PyData.hasDict] using nd_alikes xs h
  | .dict _, h => by simp [PySem.W.alike] at h
theorem nd_alikes : ∀ xs : List D, PySem.W.alikeAll xs xs = true → PyData.hasDictAll xs = false
  | [], _ => rfl
  | x :: xs, h => by
    simp only [PySem.W.alikeAll, Bool.and_eq_true] at h
    rw [PyData.hasDictAll, nd_alike x h.1, nd_alikes xs h.2]
    rfl
end
theorem nd_each : ∀ {ds : List D}, (∀ d ∈ ds, d.hasDict = false) → PyData.hasDictAll ds = false
  | [], _ => rfl
  | d :: ds, h => by
    rw [PyData.hasDictAll, h d List.mem_cons_self, nd_each fun x hx => h x (List.mem_cons_of_mem _ hx)]
    rfl
theorem nd_all {ds : List D} (h : PySem.W.AllAlike ds) : PyData.hasDictAll ds = false := nd_each fun d hd => nd_alike d (h d hd d hd)
theorem RepAll.each {X : Cx} {pins : List (Addr × Obj)} {σ : L2.St} {s : Shared} (I : Inv X pins σ H s) : ∀ {vs : List V} {ds : List D} {us : List Value}, PyData.hasDictAll ds = false → RepAll X.K O H vs ds → Vals vs us → PySem.W.EachIs (fun u d => ∃ as, Reads s.heap u d as) us ds
  | _, _, _, _, .nil, .nil => .nil
  | _, _, _, n, .cons r t, .cons rv tv => .cons (Dp.reads I _ _ _ (r.dp (by simp only [PyData.hasDictAll, Bool.or_eq_false_iff] at n; exact n.1)) rv) (RepAll.each I (by simp only [PyData.hasDictAll, Bool.or_eq_false_iff] at n; exact n.2) t tv)
theorem RepAll.each2 : ∀ {vs : List V} {ds : List D} {us : List Value}, RepAll K O H vs ds → Vals vs us → PySem.W.EachIs (fun u d => ∃ x, RelV x u ∧ Rep K O H x d) us ds
  | _, _, _, .nil, .nil => .nil
  | _, _, _, .cons r t, .cons rv tv => .cons ⟨_, rv, r⟩ (RepAll.each2 t tv)
theorem each_out : ∀ {us : List Value} {ds : List D}, PySem.W.EachIs (fun u d => ∃ x, RelV x u ∧ Rep K O H x d) us ds → ∃ vs, Vals vs us ∧ RepAll K O H vs ds
  | _, _, .nil => ⟨[], .nil, .nil⟩
  | _, _, .cons ⟨x, r, h⟩ t => by
    obtain ⟨vs, h1, h2⟩ := each_out t
    exact ⟨x :: vs, .cons r h1, .cons h h2⟩
end
def sortD (ds : List D) : List D := ds.mergeSort (PySem.W.dataLe false id)
def SrtOk (ds : List D) : Prop := PySem.W.AllAlike ds ∧ (PySem.W.Sortable ds ∨ ((∀ d, d ∈ ds → ∃ xs, d = .tuple xs) ∧ ds[0]? = some (.tuple []))) ∧ ∀ d, d ∈ ds → d.depth ≤ 60
section
variable {X : Cx} {a b e : Expr} {es rest : List Expr} {pos p : Pos} {ta tb tc t u : ET} {ts : AT}
def rSortD (K : PySem.W.Frag) : List V → Hp → VK → Prop := fun vs H Q => ∃ (a : Addr) (xs : List V) (ds : List D) (O : Addr → Prop), vs = [.ref a] ∧ H a = some (.lst xs) ∧ RepAll K O H xs ds ∧ SrtOk ds ∧
  ∀ p ys, H p = none → RepAll K O H ys (sortD ds) → Q (.ref p) (upd H p (.lst ys))
theorem cr_sortD (hu : X.A.units + 64 < cLine) : CallR X (.builtin "sorted") (rSortD X.K) := by
  intro pins s σ H vs us Q I r h
  obtain ⟨a, xs, ds, O, rfl, ha, rx, ⟨hal, hs, hd⟩, q⟩ := h
  cases r with
  | cons r1 r2 =>
    cases r2
    cases r1
    obtain ⟨its, rv, hp, hz⟩ := I.list (.of ha)
    have hl := rx.length
    have hl2 := rv.length
    have e1 := rx.each2 rv
    have er := RepAll.each I (nd_all hal) rx rv
    have mid : ∀ d, d ∈ ds → X.A.in1.in1.units + d.depth < cLine := fun d hm => by
      have := hd d hm
      show X.A.units + 1 + 1 + d.depth < cLine
      omega
    have er' : PySem.W.EachIs (fun v d => ∃ as, Reads (PySem.W.sortingHeap (PySem.W.copyHeap s.heap its) (s.heap.objs.size + 1) its) v d as) its ds := er.mono fun _ _ ⟨as, r⟩ => ⟨as, PyProof.Rows.Reads.keeps (fun _ _ => PySem.W.sorting_copy_old) r⟩
    have S : PySem.W.SortsAt X.prog X.w X.A.in1.in1 { s with heap := PySem.W.sortingHeap (PySem.W.copyHeap s.heap its) (s.heap.objs.size + 1) its } (PySem.W.dataKind (PySem.W.sortingHeap (PySem.W.copyHeap s.heap its) (s.heap.objs.size + 1) its) ds) its := by
      rcases hs with hs | ⟨ht, h0⟩
      · exact PySem.W.SortsAt.data (s := { s with heap := PySem.W.sortingHeap (PySem.W.copyHeap s.heap its) (s.heap.objs.size + 1) its }) er' hal hs mid
      · exact SortsAt.empties (s := { s with heap := PySem.W.sortingHeap (PySem.W.copyHeap s.heap its) (s.heap.objs.size + 1) its }) er' hal ht h0 mid
    have ms : ds.map id = ds := List.map_id _
    have so := PySem.W.sortVals_data (h' := PySem.W.sortingHeap (PySem.W.copyHeap s.heap its) (s.heap.objs.size + 1) its) (enc := id) false e1 er' (by rw [ms]; exact hal)
    rw [ms] at so
    obtain ⟨ys, hv, hy⟩ := each_out so
    refine PySem.W.sorted_vals hp.isList S (by omega) ?_
    obtain ⟨c, hc⟩ := PyProof.Rows.sortedAll_at s.heap its (PySem.W.sortVals (PySem.W.dataKind (PySem.W.sortingHeap (PySem.W.copyHeap s.heap its) (s.heap.objs.size + 1) its) ds) false its its).toArray
    have hp0 : s.heap.objs.size ≤ s.heap.objs.size + 1 := Nat.le_succ _
    have hq := q (s.heap.objs.size + 1) ys (I.hok.fresh hp0) hy
    have hlen : ys.length = xs.length := by rw [hy.length, (List.mergeSort_perm _ _).length_eq, hl]
    refine ⟨.ref (s.heap.objs.size + 1), _, I.laid (o := .lst ys) (t' := s.toks) (fun b o e => PyProof.Rows.sortedAll_old e) hp0 ⟨by rw [hlen]; exact hz, _, c, hv, hc⟩, rfl, hq⟩

/-! lists that are made -/
def nCall (r : List D → (List D → Prop) → Prop) (ts : AT) : NT := fun E η Q => ts E η fun ds => r ds Q
def NewOk (K : PySem.W.Frag) (T : List V → Hp → VK → Prop) (r : List D → (List D → Prop) → Prop) : Prop := ∀ (G : Option (Addr × Addr)) (O : Addr → Prop) (H : Hp) (xs : List V) (ds : List D) (Q : List D → Prop) (R : VK), Base G O H → RepAll K O H xs ds → r ds Q →
  (∀ es vs, RepAll K O H vs es → Q es → ∀ p, H p = none → R (.ref p) (upd H p (.lst vs))) → T xs H R
theorem new_lift {X : Cx} {T : List V → Hp → VK → Prop} {r : List D → (List D → Prop) → Prop} (ok : NewOk X.K T r) {σ : L2.St} {H : Hp} {c : Ctx} {O : Addr → Prop} {η : EnvD} {E : XP} {Q : List D → Prop} {R : VK} (g : Gd X c E O η σ H) (h : nCall r ts E η Q) (k : ∀ v H', NewK X.K c O H Q v H' → R v H') :
    tCB T (liftA X ts) σ H R :=
  ⟨c, O, η, E, _, g, h, fun ds vs H1 s1 r1 h1 => ok c.G O H1 vs ds Q _ (g.step s1).base r1 h1 fun es ws r2 q => newk g s1 r2 q k⟩
theorem dn_callB {T : List V → Hp → VK → Prop} {r : List D → (List D → Prop) → Prop} {id : String} {x : Str} (hc : CallR X (.builtin id) T) (ok : NewOk X.K T r) (hg : Gl X x) (hm : X.mg x = none) (hv : bootBuiltins x = some (.builtin id)) (ha : DA X (e :: es) ts) (hn : x ≠ "__name__" := by decide)
    (hdb : (x == ("__debug__" : Str)) = false := by decide) (he : starEach (e :: es) X.env = (false, eval e X.env) :: starEach es X.env := by rfl) (hpl : (backTo pos (starEach es X.env)).any (·.1) = false := by rfl) :
    DN X (.Call (.Name x p) (e :: es) [] pos) (nCall r ts) := .of (pe_callB hc hg hm hv ha.pa hn hdb he hpl) fun σ H c O η E Q R g h k => new_lift ok g h k
theorem dn_callTy {T : List V → Hp → VK → Prop} {r : List D → (List D → Prop) → Prop} {id : String} {x : Str} (hc : CallR X (.type id) T) (ok : NewOk X.K T r) (hg : Gl X x) (hm : X.mg x = none) (hv : bootBuiltins x = some (.type id)) (ha : DA X (e :: es) ts) (hn : x ≠ "__name__" := by decide)
    (hdb : (x == ("__debug__" : Str)) = false := by decide) (he : starEach (e :: es) X.env = (false, eval e X.env) :: starEach es X.env := by rfl) (hpl : (backTo pos (starEach es X.env)).any (·.1) = false := by rfl) :
    DN X (.Call (.Name x p) (e :: es) [] pos) (nCall r ts) := .of (pe_callTy hc hg hm hv ha.pa hn hdb he hpl) fun σ H c O η E Q R g h k => new_lift ok g h k
def fSorted : List D → (List D → Prop) → Prop
  | [.list xs], Q => SrtOk xs ∧ Q (sortD xs)
  | _, _ => False
theorem dn_sorted (hu : X.A.units + 65 < cLine) (hg : Gl X "sorted") (hm : X.mg "sorted" = none) (ha : DA X [e] ts) (he : starEach [e] X.env = (false, eval e X.env) :: starEach [] X.env := by rfl) : DN X (.Call (.Name "sorted" p) [e] [] pos) (nCall fSorted ts) := by
  refine dn_callB (cr_sortD (Nat.lt_of_succ_lt hu)) ?_ hg hm (by decide +kernel) ha (he := he)
  intro G O H xs ds Q R B r h k
  match ds, h with
  | [.list zs], ⟨h1, h2⟩ =>
    cases r with
    | cons r1 r2 =>
      cases r2
      cases r1 with
      | lst o h0 rr => exact ⟨_, _, zs, O, rfl, h0, rr, h1, fun p ys hp hy => k _ _ hy h2 p hp⟩
/-- list(x) -/
def fList : List D → (List D → Prop) → Prop
  | [.list xs], Q => Q xs
  | [.tuple xs], Q => Q xs
  | _, _ => False
theorem dn_list (hg : Gl X "list") (hm : X.mg "list" = none) (ha : DA X [e] ts) (he : starEach [e] X.env = (false, eval e X.env) :: starEach [] X.env := by rfl) : DN X (.Call (.Name "list" p) [e] [] pos) (nCall fList ts) := by
  refine dn_callTy call_list_of ?_ hg hm boot_list ha (he := he)
  intro G O H xs ds Q R B r h k
  match ds, h with
  | [.list zs], h =>
    cases r with
    | cons r1 r2 =>
      cases r2
      cases r1 with
      | lst o h0 rr => exact ⟨_, _, rfl, .inl (.of h0), k _ _ rr h⟩
  | [.tuple zs], h =>
    cases r with
    | cons r1 r2 =>
      cases r2
      cases r1 with
      | tup h0 rr => exact ⟨_, _, rfl, .inr h0.sq, k _ _ rr h⟩
/-- tuple(x) -/
def fTuple : CallD
  | [.list xs], Q => Q (.tuple xs)
  | [.tuple xs], Q => Q (.tuple xs)
  | _, _ => False
theorem de_tuple (hg : Gl X "tuple") (hm : X.mg "tuple" = none) (ha : DA X [e] ts) (he : starEach [e] X.env = (false, eval e X.env) :: starEach [] X.env := by rfl) : DE X (.Call (.Name "tuple" p) [e] [] pos) (dCall fTuple ts) := by
  refine de_callTy call_tuple_of ?_ hg hm boot_tuple ha (he := he)
  intro G O H xs ds Q R B r h k
  match ds, h with
  | [.list zs], h =>
    cases r with
    | cons r1 r2 =>
      cases r2
      cases r1 with
      | lst o h0 rr => exact ⟨_, _, rfl, .inl ⟨.of h0, way_newT B k rr h⟩⟩
  | [.tuple zs], h =>
    cases r with
    | cons r1 r2 =>
      cases r2
      cases r1 with
      | tup h0 rr => exact ⟨_, _, rfl, .inr ⟨h0.sq, way_here B k (.tup h0 rr) h⟩⟩
/-- len(x) -/
def fLen : CallD
  | [.list xs], Q => Q (.int xs.length)
  | [.tuple xs], Q => Q (.int xs.length)
  | [.str x], Q => x.length ≤ sizeLine ∧ Q (.int x.length)
  | _, _ => False
theorem de_len (hg : Gl X "len") (hm : X.mg "len" = none) (ha : DA X [e] ts) (he : starEach [e] X.env = (false, eval e X.env) :: starEach [] X.env := by rfl) : DE X (.Call (.Name "len" p) [e] [] pos) (dCall fLen ts) := by
  refine de_callB call_len ?_ hg hm PySem.boot_len ha (he := he)
  intro G O H xs ds Q R B r h k
  match ds, h with
  | [.list zs], h =>
    cases r with
    | cons r1 r2 =>
      cases r2
      cases r1 with
      | lst o h0 rr => exact ⟨_, zs.length, rfl, .inl ⟨_, .of h0, rr.length.symm⟩, way_here B k (.int _) h⟩
  | [.tuple zs], h =>
    cases r with
    | cons r1 r2 =>
      cases r2
      cases r1 with
      | tup h0 rr => exact ⟨_, zs.length, rfl, .inr ⟨_, h0.sq, rr.length.symm⟩, way_here B k (.int _) h⟩
  | [.str x], ⟨hx, h⟩ =>
    cases r with
    | cons r1 r2 =>
      cases r2
      cases r1
      exact ⟨_, x.length, rfl, ⟨hx, rfl⟩, way_here B k (.int _) h⟩
/-! all, any, sum -/
def isB : D → Bool
  | .bool _ => true
  | _ => false
def bOf : D → Bool
  | .bool b => b
  | _ => false
def isI : D → Bool
  | .int _ => true
  | _ => false
def iOf : D → Int
  | .int i => i
  | _ => 0
theorem bools_of {K : PySem.W.Frag} {O : Addr → Prop} {H : Hp} : ∀ {vs : List V} {ds : List D}, RepAll K O H vs ds → ds.all isB = true → vs = (ds.map bOf).map V.bl
  | _, _, .nil, _ => rfl
  | _, _, .cons r t, h => by
    rw [List.all_cons, Bool.and_eq_true] at h
    cases r <;> first | exact congrArg _ (bools_of t h.2) | exact absurd h.1 (by simp [isB, isI])
theorem ints_of' {K : PySem.W.Frag} {O : Addr → Prop} {H : Hp} : ∀ {vs : List V} {ds : List D}, RepAll K O H vs ds → ds.all isI = true → vs = (ds.map iOf).map V.int
  | _, _, .nil, _ => rfl
  | _, _, .cons r t, h => by
    rw [List.all_cons, Bool.and_eq_true] at h
    cases r <;> first | exact congrArg _ (ints_of' t h.2) | exact absurd h.1 (by simp [isB, isI])
def fAll : CallD
  | [.list xs], Q => xs.all isB = true ∧ Q (.bool ((xs.map bOf).all id))
  | _, _ => False
def fAny : CallD
  | [.list xs], Q => xs.all isB = true ∧ Q (.bool ((xs.map bOf).any id))
  | _, _ => False
def fSum : CallD
  | [.list xs], Q => xs.all isI = true ∧ Q (.int (xs.map iOf).sum)
  | _, _ => False
theorem de_all (hc : X.calm = true) (hg : Gl X "all") (hm : X.mg "all" = none) (ha : DA X [e] ts) (he : starEach [e] X.env = (false, eval e X.env) :: starEach [] X.env := by rfl) : DE X (.Call (.Name "all" p) [e] [] pos) (dCall fAll ts) := by
  refine de_callB (cr_all hc) ?_ hg hm (by decide +kernel) ha (he := he)
  intro G O H xs ds Q R B r h k
  match ds, h with
  | [.list zs], ⟨hb, h⟩ =>
    cases r with
    | cons r1 r2 =>
      cases r2
      cases r1 with
      | lst o h0 rr => exact ⟨_, zs.map bOf, rfl, by rw [← bools_of rr hb]; exact .of h0, way_here B k (.bl _) h⟩
theorem de_any (hc : X.calm = true) (hg : Gl X "any") (hm : X.mg "any" = none) (ha : DA X [e] ts) (he : starEach [e] X.env = (false, eval e X.env) :: starEach [] X.env := by rfl) : DE X (.Call (.Name "any" p) [e] [] pos) (dCall fAny ts) := by
  refine de_callB (cr_any hc) ?_ hg hm (by decide +kernel) ha (he := he)
  intro G O H xs ds Q R B r h k
  match ds, h with
  | [.list zs], ⟨hb, h⟩ =>
    cases r with
    | cons r1 r2 =>
      cases r2
      cases r1 with
      | lst o h0 rr => exact ⟨_, zs.map bOf, rfl, by rw [← bools_of rr hb]; exact .of h0, way_here B k (.bl _) h⟩
theorem de_sum (hc : X.calm = true) (hg : Gl X "sum") (hm : X.mg "sum" = none) (ha : DA X [e] ts) (he : starEach [e] X.env = (false, eval e X.env) :: starEach [] X.env := by rfl) : DE X (.Call (.Name "sum" p) [e] [] pos) (dCall fSum ts) := by
  refine de_callB (cr_sum hc) ?_ hg hm (by decide +kernel) ha (he := he)
  intro G O H xs ds Q R B r h k
  match ds, h with
  | [.list zs], ⟨hb, h⟩ =>
    cases r with
    | cons r1 r2 =>
      cases r2
      cases r1 with
      | lst o h0 rr => exact ⟨_, zs.map iOf, rfl, by rw [← ints_of' rr hb]; exact .of h0, way_here B k (.int _) h⟩
/-! int(x), max(a, b), min(a, b) -/
def fInt : CallD
  | [.int i], Q => Q (.int i)
  | [.bool b], Q => Q (.int (if b then 1 else 0))
  | _, _ => False
theorem de_intOf (hg : Gl X "int") (hm : X.mg "int" = none) (ha : DA X [e] ts) (he : starEach [e] X.env = (false, eval e X.env) :: starEach [] X.env := by rfl) : DE X (.Call (.Name "int" p) [e] [] pos) (dCall fInt ts) := by
  refine de_callTy call_int1 ?_ hg hm (by decide +kernel) ha (he := he)
  intro G O H xs ds Q R B r h k
  match ds, h with
  | [.int i], h =>
    cases r with
    | cons r1 r2 =>
      cases r2
      cases r1
      exact .inl ⟨i, rfl, way_here B k (.int _) h⟩
  | [.bool b], h =>
    cases r with
    | cons r1 r2 =>
      cases r2
      cases r1
      exact .inr ⟨b, rfl, way_here B k (.int _) h⟩
def fMin2 : CallD
  | [.int i, .int j], Q => Q (.int (if j < i then j else i))
  | _, _ => False
def fMax2 : CallD
  | [.int i, .int j], Q => Q (.int (if j > i then j else i))
  | _, _ => False
theorem de_min2 (hc : X.calm = true) (hg : Gl X "min") (hm : X.mg "min" = none) (ha : DA X [e, b] ts) (he : starEach [e, b] X.env = (false, eval e X.env) :: starEach [b] X.env := by rfl) (hpl : (backTo pos (starEach [b] X.env)).any (·.1) = false := by rfl) : DE X (.Call (.Name "min" p) [e, b] [] pos) (dCall fMin2 ts) := by
  refine de_callB (call_min2 hc) ?_ hg hm (by decide +kernel) ha (he := he) (hpl := hpl)
  intro G O H xs ds Q R B r h k
  match ds, h with
  | [.int i, .int j], h =>
    cases r with
    | cons r1 r2 =>
      cases r2 with
      | cons r2 r3 =>
        cases r3
        cases r1
        cases r2
        exact ⟨i, j, rfl, way_here B k (.int _) h⟩
theorem de_max2 (hc : X.calm = true) (hg : Gl X "max") (hm : X.mg "max" = none) (ha : DA X [e, b] ts) (he : starEach [e, b] X.env = (false, eval e X.env) :: starEach [b] X.env := by rfl) (hpl : (backTo pos (starEach [b] X.env)).any (·.1) = false := by rfl) : DE X (.Call (.Name "max" p) [e, b] [] pos) (dCall fMax2 ts) := by
  refine de_callB (call_max2 hc) ?_ hg hm (by decide +kernel) ha (he := he) (hpl := hpl)
  intro G O H xs ds Q R B r h k
  match ds, h with
  | [.int i, .int j], h =>
    cases r with
    | cons r1 r2 =>
      cases r2 with
      | cons r2 r3 =>
        cases r3
        cases r1
        cases r2
        exact ⟨i, j, rfl, way_here B k (.int _) h⟩
/-! list + list, list * n as new lists -/
def nCat (ta tb : NT) : NT := fun E η Q => ta E η fun x => tb E η fun y => x.length + y.length ≤ sizeLine ∧ Q (x ++ y)
/-! isinstance -/
def tyOf : D → String
  | .none => "NoneType"
  | .bool _ => "bool"
  | .int _ => "int"
  | .str _ => "str"
  | .list _ => "list"
  | .tuple _ => "tuple"
  | .dict _ => "dict"
def isiN (T n : String) : Bool := n == T || (T == "int" && n == "bool")
def isiD (T : String) (d : D) : Bool := isiN T (tyOf d)
theorem kit_of {T : String} (h : (["NoneType", "bool", "int", "str", "list", "tuple", "dict"].all fun n => decide (kitB n T = some (isiN T n))) = true) (d : D) : kitB (tyOf d) T = some (isiD T d) := by
  rw [List.all_eq_true] at h
  have := h (tyOf d) (by cases d <;> simp [tyOf])
  exact of_decide_eq_true this
def dIsi (T : String) (ta : ET) : ET := fun E η Q => ta E η fun d => Q (.bool (isiD T d))
/-- a value's class, dicts among them -/
def TyD (K : PySem.W.Frag) (H : Hp) (v : V) (t : Value) : Prop := TyX K H v t ∨ ∃ a es ep, v = .ref a ∧ H a = some (dictO a es ep) ∧ t = .type "dict"
theorem kitD_of {X : Cx} {pins : List (Addr × Obj)} {σ : L2.St} {H : Hp} {s : Shared} {x : V} {u t : Value} (I : Inv X pins σ H s) (rx : RelV x u) (ty : TyD X.K H x t) : ∃ P : Heap → Prop, PySem.W.KitX X.K u t P ∧ P s.heap ∧ u ≠ .builtin "__main__.__loader__#opaque" := by
  rcases ty with ty | ⟨a, es, ep, rfl, ha, rfl⟩
  · exact L2.kit_of I rx ty
  · cases rx
    obtain ⟨⟨o, h1, h2, _⟩, _⟩ := I.hok a _ ha
    exact ⟨_, PySem.W.kitx_dict, ⟨o, h1, h2.1⟩, fun z => nomatch z⟩
def rIsiD (K : PySem.W.Frag) : List V → Hp → VK → Prop := fun xs H Q => ∃ (x c : V) (t u : Value) (b : Bool), xs = [x, c] ∧ ClsV c u ∧ TyD K H x t ∧ PySem.W.kitOne K t u = some b ∧ Q (.bl b) H
theorem call_isiD {X : Cx} : CallR X (.builtin "isinstance") (rIsiD X.K) := by
  intro pins s σ H xs us Q I r h
  obtain ⟨x, c, t, u, b, rfl, k, ty, e, q⟩ := h
  obtain ⟨u1, u2, rfl, r1, r2⟩ := vals2 r
  have e2 := k.eq r2
  subst e2
  obtain ⟨P, Z, p, hx⟩ := kitD_of I r1 ty
  exact PySem.W.kia_one Z I.kIn p e hx fun tk => ⟨.bl b, H, I.tok tk, rfl, q⟩
theorem rep_ty {K : PySem.W.Frag} {O : Addr → Prop} {H : Hp} {v : V} {d : D} (r : Rep K O H v d) : TyD K H v (.type (tyOf d)) := by
  cases r with
  | dct o h => exact .inr ⟨_, _, _, rfl, h, rfl⟩
  | non => exact .inl <| .base .non
  | bl b => exact .inl <| .base (.bl b)
  | int i => exact .inl <| .base (.int i)
  | str x => exact .inl <| .base (.str x)
  | lst o h rr => exact .inl <| .base (.lst h)
  | tup h rr =>
    rcases h with h | ⟨o, its, n, h1, h2, _⟩
    · exact .inl <| .base (.tup h)
    · exact .inl <| .kTuple h1 h2
theorem de_isi {T : String} {x : Str} {p2 : Pos} (hT : ∀ d, kitB (tyOf d) T = some (isiD T d)) (hg : Gl X "isinstance") (hm : X.mg "isinstance" = none) (hgT : Gl X x) (hmT : X.mg x = none) (hvT : bootBuiltins x = some (.type T)) (ha : DE X a ta) (hn : x ≠ "__name__" := by decide) (hdb : (x == ("__debug__" : Str)) = false := by decide)
    (he : starEach [a, .Name x p2] X.env = (false, eval a X.env) :: starEach [.Name x p2] X.env := by rfl) (hpl : (backTo pos (starEach [.Name x p2] X.env)).any (·.1) = false := by rfl) :
    DE X (.Call (.Name "isinstance" p) [a, .Name x p2] [] pos) (dIsi T ta) := by
  refine .of (pe_callB call_isiD hg hm (by decide +kernel) (pa_cons ha.pe (pa_cons (pe_bltn (v := .ty T) hgT hmT hvT rfl hn hdb) pa_nil) he) (by decide) (by decide) he hpl) fun σ H c O η E Q g h => ?_
  exact ⟨c, O, η, E, _, g, h, fun d v H' s r q => ⟨v, .ty T, _, _, _, rfl, .ty T, rep_ty r, kit_ty (hT d), _, s, .bl _, q⟩⟩
theorem kit_int : ∀ d, kitB (tyOf d) "int" = some (isiD "int" d) := kit_of (by decide +kernel)
theorem kit_bool : ∀ d, kitB (tyOf d) "bool" = some (isiD "bool" d) := kit_of (by decide +kernel)
theorem kit_tuple : ∀ d, kitB (tyOf d) "tuple" = some (isiD "tuple" d) := kit_of (by decide +kernel)
theorem kit_str : ∀ d, kitB (tyOf d) "str" = some (isiD "str" d) := kit_of (by decide +kernel)
/-! repr -/
def reprOk (d : D) : Prop := d.showable = true ∧ d.shown.length ≤ sizeLine ∧ d.depth ≤ 60
def fRepr : CallD
  | [d], Q => reprOk d ∧ d.hasDict = false ∧ Q (.str d.shown)
  | _, _ => False
theorem cr_reprD (hg : X.A.guards = some []) (hu : X.A.units + 65 < cLine) : CallR X (.builtin "repr") (fun xs H Q => ∃ x d, xs = [x] ∧ Dp X.K H x d ∧ reprOk d ∧ d.hasDict = false ∧ Q (.str d.shown) H) := by
  intro pins s σ H xs us Q I r h
  obtain ⟨x, d, rfl, hd, ⟨h1, h2, h3⟩, h4, q⟩ := h
  cases r with
  | cons r1 r2 =>
    cases r2
    obtain ⟨as, rd⟩ := Dp.reads I d x _ hd r1
    have fin : ∀ h' u tk, (∀ b o, s.heap.get? b = some o → h'.get? b = some o) → EP X pins σ Q (.str d.shown u) { s with heap := h', toks := tk } := fun h' u tk hk => ⟨.str d.shown, H, I.kept hk, ⟨_, rfl⟩, q⟩
    cases hd with
    | lst hs ha =>
      cases r1
      exact repr_of_reads' rd h1 (PySem.PyData.noDict_hsm h4) hg (by omega) (fun _ _ e => e) fin h2
    | tup hs ha =>
      cases r1
      exact repr_of_reads' rd h1 (PySem.PyData.noDict_hsm h4) hg (by omega) (fun _ _ e => e) fin h2
    | non =>
      cases r1
      exact PySem.P.repr_of_none (by simpa [PyData.shown] using fin s.heap s.toks (s.toks + 1) fun _ _ e => e)
    | bl b =>
      cases r1
      refine PySem.P.repr_of_bool ?_
      have := fin s.heap s.toks (s.toks + 1) fun _ _ e => e
      simpa [PyData.shown] using this
    | int i =>
      obtain ⟨t, rfl⟩ := r1
      refine PySem.P.repr_of_int (by simpa [PyData.showable] using h1) ?_
      simpa [PyData.shown] using fin s.heap s.toks (s.toks + 1) fun _ _ e => e
    | str x =>
      obtain ⟨t, rfl⟩ := r1
      refine PySem.P.repr_of_str ?_ (by simpa [PyData.shown] using h2)
      simpa [PyData.shown] using fin s.heap s.toks (s.toks + 1) fun _ _ e => e
theorem de_repr (hgd : X.A.guards = some []) (hu : X.A.units + 65 < cLine) (hg : Gl X "repr") (hm : X.mg "repr" = none) (ha : DA X [e] ts) (he : starEach [e] X.env = (false, eval e X.env) :: starEach [] X.env := by rfl) : DE X (.Call (.Name "repr" p) [e] [] pos) (dCall fRepr ts) := by
  refine de_callB (cr_reprD hgd hu) ?_ hg hm (by decide +kernel) ha (he := he)
  intro G O H xs ds Q R B r h k
  match ds, h with
  | [d], ⟨h1, h2, h⟩ =>
    cases r with
    | cons r1 r2 =>
      cases r2
      exact ⟨_, d, rfl, r1.dp h2, h1, h2, way_here B k (.str _) h⟩
end
end DL

/-! DL4: what is walked; comprehensions. -/
namespace DL
open PySem PySem.Spec PyProof.Rows L2
/-- what is walked stands still: the pairs of F are read as they are -/
def Std (K : PySem.W.Frag) (F : List (V × D)) (H : Hp) : Prop := ∃ O : Addr → Prop, ∀ p ∈ F, Rep K O H p.1 p.2
/-- turn i gives the i-th of ds -/
def YD (K : PySem.W.Frag) (F : List (V × D)) (ds : List D) : Nat → Hp → V → Hp → Prop := fun i H x H' => ∃ d, ds[i]? = some d ∧ Same H H' ∧ ∀ O : Addr → Prop, (∀ p ∈ F, Rep K O H p.1 p.2) → Rep K O H' x d
abbrev WalkD (K : PySem.W.Frag) (J : It) (F : List (V × D)) (ds : List D) : Prop := Walk J ds.length (Std K F) (YD K F ds)
abbrev IT := XP → EnvD → (List D → Prop) → Prop
def liftI (X : Cx) (t : IT) : TI := fun σ H R => ∃ (c : Ctx) (O : Addr → Prop) (η : EnvD) (E : XP) (Q : List D → Prop), Gd X c E O η σ H ∧ t E η Q ∧ ∀ J H' ds F, Step c.G H H' → (∀ p ∈ F, Rep X.K O H' p.1 p.2) → WalkD X.K J F ds → Q ds → R J H'
structure DI (X : Cx) (tg iter : Expr) (t : IT) : Prop where
  pi : PI X tg iter (liftI X t)
section
variable {K : PySem.W.Frag}
theorem rep_list {O : Addr → Prop} {H : Hp} {v : V} {ds : List D} (r : Rep K O H v (.list ds)) : ∃ a xs, v = .ref a ∧ H a = some (.lst xs) ∧ RepAll K O H xs ds := by
  cases r with
  | lst o h rr => exact ⟨_, _, rfl, h, rr⟩
theorem rep_tup {O : Addr → Prop} {H : Hp} {v : V} {ds : List D} (r : Rep K O H v (.tuple ds)) : ∃ a xs, v = .ref a ∧ TupAt K H a xs ∧ RepAll K O H xs ds := by
  cases r with
  | tup h rr => exact ⟨_, _, rfl, h, rr⟩
theorem wd_list {a : Addr} {ds : List D} : WalkD K (Itl K a) [(.ref a, .list ds)] ds where
  goes := fun i H hi ⟨O, h⟩ => by
    obtain ⟨_, xs, e, h1, rr⟩ := rep_list (h _ (List.mem_singleton.mpr rfl))
    cases e
    obtain ⟨x, hx, _⟩ := rr.getD (List.getElem?_eq_getElem hi)
    exact ⟨xs, x, .of h1, hx⟩
  stops := fun H ⟨O, h⟩ => by
    obtain ⟨_, xs, e, h1, rr⟩ := rep_list (h _ (List.mem_singleton.mpr rfl))
    cases e
    exact ⟨xs, .of h1, Nat.le_of_eq rr.length⟩
  yields := fun i H x H' hi ⟨O, h⟩ ⟨e, y⟩ => by
    subst e
    refine ⟨ds[i], List.getElem?_eq_getElem hi, .refl _, fun O' h' => ?_⟩
    obtain ⟨_, xs, e, h1, rr⟩ := rep_list (h' _ (List.mem_singleton.mpr rfl))
    cases e
    obtain ⟨d, hd, r⟩ := rr.get (y xs (.of h1))
    rw [List.getElem?_eq_getElem hi] at hd
    cases hd
    exact r
theorem wd_tup {a : Addr} {ds : List D} : WalkD K (Itt K a) [(.ref a, .tuple ds)] ds where
  goes := fun i H hi ⟨O, h⟩ => by
    obtain ⟨_, xs, e, h1, rr⟩ := rep_tup (h _ (List.mem_singleton.mpr rfl))
    cases e
    obtain ⟨x, hx, _⟩ := rr.getD (List.getElem?_eq_getElem hi)
    exact ⟨xs, x, h1.sq, hx⟩
  stops := fun H ⟨O, h⟩ => by
    obtain ⟨_, xs, e, h1, rr⟩ := rep_tup (h _ (List.mem_singleton.mpr rfl))
    cases e
    exact ⟨xs, h1.sq, Nat.le_of_eq rr.length⟩
  yields := fun i H x H' hi ⟨O, h⟩ ⟨e, y⟩ => by
    subst e
    refine ⟨ds[i], List.getElem?_eq_getElem hi, .refl _, fun O' h' => ?_⟩
    obtain ⟨_, xs, e, h1, rr⟩ := rep_tup (h' _ (List.mem_singleton.mpr rfl))
    cases e
    obtain ⟨d, hd, r⟩ := rr.get (y xs h1.sq)
    rw [List.getElem?_eq_getElem hi] at hd
    cases hd
    exact r
def rangeD (lo : Int) (n : Nat) : List D := (List.range n).map fun i => .int (lo + (i : Nat))
theorem rangeD_len (lo : Int) (n : Nat) : (rangeD lo n).length = n := by simp [rangeD]
theorem wd_range {lo : Int} {n : Nat} : WalkD K (Itr lo n) [] (rangeD lo n) where
  goes := fun i H hi _ => by rw [rangeD_len] at hi; exact hi
  stops := fun H _ => by rw [rangeD_len]; exact Nat.le_refl _
  yields := fun i H x H' hi _ ⟨e, y⟩ => by
    subst e y
    rw [rangeD_len] at hi
    refine ⟨.int (lo + i), by simp [rangeD, hi], .refl _, fun _ _ => .int _⟩
/-- pairs -/
def pairsD (xs ys : List D) : List D := (xs.zip ys).map fun p => .tuple [p.1, p.2]
theorem pairsD_len (xs ys : List D) : (pairsD xs ys).length = min xs.length ys.length := by simp [pairsD]
theorem pairsD_get {xs ys : List D} {i : Nat} {x y : D} (hx : xs[i]? = some x) (hy : ys[i]? = some y) : (pairsD xs ys)[i]? = some (.tuple [x, y]) := by
  have : (xs.zip ys)[i]? = some (x, y) := List.getElem?_zip_eq_some.mpr ⟨hx, hy⟩
  simp [pairsD, this]
theorem pair_rep {O : Addr → Prop} {H : Hp} {T : Addr} {x y : V} {dx dy : D} (hT : H T = none) (rx : Rep K O H x dx) (ry : Rep K O H y dy) : Rep K O (upd H T (.tup [x, y])) (.ref T) (.tuple [dx, dy]) :=
  .tup (.inl upd_same) (.cons (rx.same (same_upd hT)) (.cons (ry.same (same_upd hT)) .nil))
theorem min_lt {i m n : Nat} (h : i < min m n) : i < m ∧ i < n := Nat.lt_min.mp h
theorem wd_zipL {a b : Addr} {ds es : List D} : WalkD K (Itz K a b) [(.ref a, .list ds), (.ref b, .list es)] (pairsD ds es) where
  goes := fun i H hi ⟨O, h⟩ => by
    rw [pairsD_len] at hi
    obtain ⟨h1, h2⟩ := min_lt hi
    obtain ⟨_, xs, e, ha, rr⟩ := rep_list (h (.ref a, .list ds) (by simp))
    cases e
    obtain ⟨_, ys, e, hb, rs⟩ := rep_list (h (.ref b, .list es) (by simp))
    cases e
    obtain ⟨x, hx, _⟩ := rr.getD (List.getElem?_eq_getElem h1)
    obtain ⟨y, hy, _⟩ := rs.getD (List.getElem?_eq_getElem h2)
    exact ⟨xs, ys, x, y, .of ha, .of hb, hx, hy⟩
  stops := fun H ⟨O, h⟩ => by
    rw [pairsD_len]
    obtain ⟨_, xs, e, ha, rr⟩ := rep_list (h (.ref a, .list ds) (by simp))
    cases e
    obtain ⟨_, ys, e, hb, rs⟩ := rep_list (h (.ref b, .list es) (by simp))
    cases e
    refine ⟨xs, ys, .of ha, .of hb, ?_⟩
    rw [rr.length, rs.length]
    omega
  yields := fun i H v H' hi ⟨O, h⟩ ⟨T, x, y, e1, hT, e2, fx, fy⟩ => by
    subst e1 e2
    rw [pairsD_len] at hi
    obtain ⟨h1, h2⟩ := min_lt hi
    refine ⟨.tuple [ds[i], es[i]], pairsD_get (List.getElem?_eq_getElem h1) (List.getElem?_eq_getElem h2), same_upd hT, fun O' h' => ?_⟩
    obtain ⟨_, xs, e, ha, rr⟩ := rep_list (h' (.ref a, .list ds) (by simp))
    cases e
    obtain ⟨_, ys, e, hb, rs⟩ := rep_list (h' (.ref b, .list es) (by simp))
    cases e
    obtain ⟨d, hd, r⟩ := rr.get (fx xs (.of ha))
    obtain ⟨d', hd', r'⟩ := rs.get (fy ys (.of hb))
    rw [List.getElem?_eq_getElem h1] at hd
    rw [List.getElem?_eq_getElem h2] at hd'
    cases hd
    cases hd'
    exact pair_rep hT r r'
theorem wd_zipT {a b : Addr} {ds es : List D} : WalkD K (RZ.ItzT K a b) [(.ref a, .tuple ds), (.ref b, .tuple es)] (pairsD ds es) where
  goes := fun i H hi ⟨O, h⟩ => by
    rw [pairsD_len] at hi
    obtain ⟨h1, h2⟩ := min_lt hi
    obtain ⟨_, xs, e, ha, rr⟩ := rep_tup (h (.ref a, .tuple ds) (by simp))
    cases e
    obtain ⟨_, ys, e, hb, rs⟩ := rep_tup (h (.ref b, .tuple es) (by simp))
    cases e
    obtain ⟨x, hx, _⟩ := rr.getD (List.getElem?_eq_getElem h1)
    obtain ⟨y, hy, _⟩ := rs.getD (List.getElem?_eq_getElem h2)
    exact ⟨xs, ys, x, y, ha.sq, hb.sq, hx, hy⟩
  stops := fun H ⟨O, h⟩ => by
    rw [pairsD_len]
    obtain ⟨_, xs, e, ha, rr⟩ := rep_tup (h (.ref a, .tuple ds) (by simp))
    cases e
    obtain ⟨_, ys, e, hb, rs⟩ := rep_tup (h (.ref b, .tuple es) (by simp))
    cases e
    refine ⟨xs, ys, ha.sq, hb.sq, ?_⟩
    rw [rr.length, rs.length]
    omega
  yields := fun i H v H' hi ⟨O, h⟩ ⟨T, x, y, e1, hT, e2, fx, fy⟩ => by
    subst e1 e2
    rw [pairsD_len] at hi
    obtain ⟨h1, h2⟩ := min_lt hi
    refine ⟨.tuple [ds[i], es[i]], pairsD_get (List.getElem?_eq_getElem h1) (List.getElem?_eq_getElem h2), same_upd hT, fun O' h' => ?_⟩
    obtain ⟨_, xs, e, ha, rr⟩ := rep_tup (h' (.ref a, .tuple ds) (by simp))
    cases e
    obtain ⟨_, ys, e, hb, rs⟩ := rep_tup (h' (.ref b, .tuple es) (by simp))
    cases e
    obtain ⟨d, hd, r⟩ := rr.get (fx xs ha.sq)
    obtain ⟨d', hd', r'⟩ := rs.get (fy ys hb.sq)
    rw [List.getElem?_eq_getElem h1] at hd
    rw [List.getElem?_eq_getElem h2] at hd'
    cases hd
    cases hd'
    exact pair_rep hT r r'
theorem wd_enumL {a : Addr} {ds : List D} : WalkD K (Ite K a) [(.ref a, .list ds)] (pairsD (rangeD 0 ds.length) ds) where
  goes := fun i H hi ⟨O, h⟩ => by
    rw [pairsD_len, rangeD_len, Nat.min_self] at hi
    obtain ⟨_, xs, e, h1, rr⟩ := rep_list (h _ (List.mem_singleton.mpr rfl))
    cases e
    obtain ⟨x, hx, _⟩ := rr.getD (List.getElem?_eq_getElem hi)
    exact ⟨xs, x, .of h1, hx⟩
  stops := fun H ⟨O, h⟩ => by
    rw [pairsD_len, rangeD_len, Nat.min_self]
    obtain ⟨_, xs, e, h1, rr⟩ := rep_list (h _ (List.mem_singleton.mpr rfl))
    cases e
    exact ⟨xs, .of h1, Nat.le_of_eq rr.length⟩
  yields := fun i H v H' hi ⟨O, h⟩ ⟨T, x, e1, hT, e2, fx⟩ => by
    subst e1 e2
    rw [pairsD_len, rangeD_len, Nat.min_self] at hi
    refine ⟨.tuple [.int (i : Nat), ds[i]], pairsD_get (by simp [rangeD, hi]) (List.getElem?_eq_getElem hi), same_upd hT, fun O' h' => ?_⟩
    obtain ⟨_, xs, e, h1, rr⟩ := rep_list (h' _ (List.mem_singleton.mpr rfl))
    cases e
    obtain ⟨d, hd, r⟩ := rr.get (fx xs (.of h1))
    rw [List.getElem?_eq_getElem hi] at hd
    cases hd
    exact pair_rep hT (.int _) r
end
section
variable {X : Cx} {tg e e2 : Expr} {es : List Expr} {pos p : Pos} {ta tb t : ET} {ts : AT}
/-- a list or a tuple, whichever comes -/
def iSeq (t : ET) : IT := fun E η Q => t E η fun d => match d with | .list ds => Q ds | .tuple ds => Q ds | _ => False
def iBoth (K : PySem.W.Frag) (tl : TE) : TI := fun σ H R => tl σ H fun x H1 => ∃ a, x = .ref a ∧ ((∃ xs, SqL K H1 a xs ∧ R (Itl K a) H1) ∨ ∃ xs, SqT K H1 a xs ∧ R (Itt K a) H1)
/-- an iterator of one record, just made -/
theorem pie_new {pins : List (Addr × Obj)} {σ : L2.St} {H : Hp} {s : Shared} {R : It → Hp → Prop} {J : It} {tn : Nat → Heap → Prop} {o : Obj} (I : Inv X pins σ H s)
    (T : Turn X.prog X.w X.K tg J [s.heap.objs.size] s.heap.objs.size tn) (h0 : tn 0 (s.heap.push o)) (q : R J H) : PIE X pins σ tg R (.ref s.heap.objs.size) { s with heap := s.heap.push o } :=
  ⟨_, [s.heap.objs.size], tn, J, H, rfl, I.kept (t' := s.toks) (fun b u e => Heap.get?_push_of_some _ e), T, h0, fun b hb => by
    cases List.mem_singleton.mp hb
    exact I.fpOk (Nat.le_refl _) (I.hok.fresh (Nat.le_refl _)), q⟩
theorem pi_both {l : Expr} {tl : TE} (hl : PE X l tl) : PI X tg l (iBoth X.K tl) := ⟨fun pins s σ H R I h => thn (hl.run pins s σ H _ I h) fun v s1 ⟨x, H1, I1, r1, a, e, q⟩ => by
  subst e
  cases r1
  rcases q with ⟨xs, hq, q⟩ | ⟨xs, hq, q⟩
  · obtain ⟨its, rv, pl, hz⟩ := I1.list hq
    exact wpAny_pyIter_list pl.isList (pie_new I1 (turn_list a _) ⟨_, Heap.get?_push_size _ rfl, rfl, rfl⟩ q)
  · obtain ⟨its, rv, pl, hz⟩ := I1.tuple hq
    exact wpAny_pyIter_tuple (show s1.heap.IsTuple a its.toArray from pl) (pie_new I1 (turn_tuple a _) ⟨_, Heap.get?_push_size _ rfl, rfl, rfl⟩ q)⟩
theorem di_seq (h : DE X e t) : DI X tg e (iSeq t) := ⟨⟨fun pins s σ H R I ⟨c, O, η, E, Q, g, ht, k⟩ => (pi_both h.pe).run pins s σ H R I
  ⟨c, O, η, E, _, g, ht, fun d v H' s r q => by
    cases r with
    | lst o h0 rr => exact ⟨_, rfl, .inl ⟨_, .of h0, k _ H' _ _ s (fun p hp => by cases List.mem_singleton.mp hp; exact .lst o h0 rr) wd_list q⟩⟩
    | tup h0 rr => exact ⟨_, rfl, .inr ⟨_, h0.sq, k _ H' _ _ s (fun p hp => by cases List.mem_singleton.mp hp; exact .tup h0 rr) wd_tup q⟩⟩
    | _ => exact q.elim⟩⟩⟩
def iRange1 (ts : AT) : IT := fun E η Q => ts E η fun ds => match ds with | [.int j] => (-(2 ^ 62) ≤ j ∧ j < 2 ^ 62) ∧ Q (rangeD 0 j.toNat) | _ => False
theorem di_range1 (hg : Gl X "range") (hm : X.mg "range" = none) (ha : DA X [e] ts) (hs : starEach [e] X.env = [(false, eval e X.env)] := by rfl) : DI X tg (.Call (.Name "range" p) [e] [] pos) (iRange1 ts) := ⟨⟨fun pins s σ H R I ⟨c, O, η, E, Q, g, ht, k⟩ =>
  (pi_range1 hg hm ha.pa hs).run pins s σ H R I ⟨c, O, η, E, _, g, ht, fun ds vs H' s r q => by
    match ds, q with
    | [.int j], ⟨⟨h1, h2⟩, q⟩ =>
      cases r with
      | cons r1 r2 =>
        cases r2
        cases r1
        exact ⟨j, rfl, h1, h2, k _ H' _ [] s (fun p hp => absurd hp (by simp)) wd_range q⟩⟩⟩⟩
def iRange2 (ts : AT) : IT := fun E η Q => ts E η fun ds => match ds with | [.int i, .int j] => (-(2 ^ 62) ≤ i ∧ i < 2 ^ 62 ∧ -(2 ^ 62) ≤ j ∧ j < 2 ^ 62) ∧ Q (rangeD i (j - i).toNat) | _ => False
theorem di_range2 (hg : Gl X "range") (hm : X.mg "range" = none) (ha : DA X [e, e2] ts) (hs : starEach [e, e2] X.env = [(false, eval e X.env), (false, eval e2 X.env)] := by rfl) (hs2 : starEach [e2] X.env = [(false, eval e2 X.env)] := by rfl) :
    DI X tg (.Call (.Name "range" p) [e, e2] [] pos) (iRange2 ts) := ⟨⟨fun pins s σ H R I ⟨c, O, η, E, Q, g, ht, k⟩ =>
  (pi_range2 hg hm ha.pa hs hs2).run pins s σ H R I ⟨c, O, η, E, _, g, ht, fun ds vs H' s r q => by
    match ds, q with
    | [.int i, .int j], ⟨h1, q⟩ =>
      cases r with
      | cons r1 r2 =>
        cases r2 with
        | cons r2 r3 =>
          cases r3
          cases r1
          cases r2
          exact ⟨i, j, rfl, h1, k _ H' _ [] s (fun p hp => absurd hp (by simp)) wd_range q⟩⟩⟩⟩
def iZip2 (ts : AT) : IT := fun E η Q => ts E η fun ds => match ds with | [.list xs, .list ys] => Q (pairsD xs ys) | [.tuple xs, .tuple ys] => Q (pairsD xs ys) | _ => False
theorem di_zip {elts : List Expr} {kk : Nat} {tpos : Pos} (hg : Gl X "zip") (hm : X.mg "zip" = none) (ha : DA X [e, e2] ts) (hs : starEach [e, e2] X.env = (false, eval e X.env) :: starEach [e2] X.env := by rfl) (hpl : (backTo pos (starEach [e2] X.env)).any (·.1) = false := by rfl) :
    DI X (.Tuple elts kk tpos) (.Call (.Name "zip" p) [e, e2] [] pos) (iZip2 ts) := ⟨⟨fun pins s σ H R I ⟨c, O, η, E, Q, g, ht, k⟩ =>
  (RZ.pi_zipA hg hm ha.pa hs hpl).run pins s σ H R I ⟨c, O, η, E, _, g, ht, fun ds vs H' s r q => by
    match ds, q with
    | [.list xs, .list ys], q =>
      cases r with
      | cons r1 r2 =>
        cases r2 with
        | cons r2 r3 =>
          cases r3
          obtain ⟨a, us, e1, h1, rr1⟩ := rep_list r1
          obtain ⟨b, ws, e2, h2, rr2⟩ := rep_list r2
          subst e1 e2
          exact ⟨a, b, us, ws, rfl, .inl ⟨.of h1, .of h2, k _ H' _ _ s (fun p hp => by
            simp only [List.mem_cons, List.mem_nil_iff, or_false] at hp
            rcases hp with rfl | rfl
            · exact r1
            · exact r2) wd_zipL q⟩⟩
    | [.tuple xs, .tuple ys], q =>
      cases r with
      | cons r1 r2 =>
        cases r2 with
        | cons r2 r3 =>
          cases r3
          obtain ⟨a, us, e1, h1, rr1⟩ := rep_tup r1
          obtain ⟨b, ws, e2, h2, rr2⟩ := rep_tup r2
          subst e1 e2
          exact ⟨a, b, us, ws, rfl, .inr ⟨h1.sq, h2.sq, k _ H' _ _ s (fun p hp => by
            simp only [List.mem_cons, List.mem_nil_iff, or_false] at hp
            rcases hp with rfl | rfl
            · exact r1
            · exact r2) wd_zipT q⟩⟩⟩⟩⟩
end
end DL

/-! DL4b: enumerate of a tuple. -/
namespace DL
open PySem PySem.Spec PyProof.Rows L2
set_option maxHeartbeats 1000000 in
theorem meets_enum1 {v : Value} {o : Obj} {H : Heap → Prop} (B : Begins v o H) :
    Meets (Builtin.«enumerate.__new__» ⟨[.type "enumerate", v], []⟩) (fun _ R s => H s.heap ∧ R (.ok (.ret (.ref (s.heap.push o).objs.size)))
      { s with heap := (s.heap.push o).push { cls := .type "enumerate", data := .fields #[.none, .bool false, .ref s.heap.objs.size, rawInt 0, .none, .none] } }) :=
  .of_wp fun prog w A R s h => by
    obtain ⟨hp, g, d, tk, os⟩ := s
    obtain ⟨h1, h⟩ := h
    have sub1 := sub_enumerate
    have it1 : ∀ {A' : Around} {E : Value → Shared → Prop} {Q : Value → Shared → Prop}, Q (.ref hp.objs.size) ⟨hp.push o, g, d, tk, os⟩ → wpAny (model prog w) A' (pyIter v) Q E ⟨hp, g, d, tk, os⟩ := fun q =>
      B.iter prog w _ _ ⟨hp, g, d, tk, os⟩ _ h1 q
    wp_walk using it1
    refine wpAny_stack_any fun st => wpAny_pure ?_
    split
    next c _ _ _ _ _ =>
      cases (c == Value.type "enumerate")
      · (wp_walk using it1); exact ⟨_, rfl, h⟩
      · (wp_walk using it1); exact ⟨_, rfl, h⟩
    · (wp_walk using it1); exact ⟨_, rfl, h⟩
section
variable {prog : Program} {w : World} {A : Around} {E : Value → Shared → Prop} {s : Shared}
theorem call_enum1 {v : Value} {o : Obj} {H : Heap → Prop} {Q : Value → Shared → Prop} (B : Begins v o H) (h1 : H s.heap)
    (h : ∀ h', IsEnum h' (s.heap.objs.size + 1) s.heap.objs.size 0 .none → h'.get? s.heap.objs.size = some o → (∀ b u, s.heap.get? b = some u → h'.get? b = some u) → Q (.ref (s.heap.objs.size + 1)) { s with heap := h' }) :
    wpAny (model prog w) A (call (.type "enumerate") [v]) Q E s := by
  refine callType_new F.called_enumerate (by decide) (F.typeCall_enumerate_1 _) (F.newCall_enumerate_1 _) (fun obj => F.args_object_init_2 obj _) F.entry_enumerate_new (meets_enum1 B) ⟨h1, ?_⟩
  have z : (s.heap.push o).objs.size = s.heap.objs.size + 1 := Heap.size_push ..
  have at2 := Heap.get?_push_size (s.heap.push o) (o := { cls := .type "enumerate", data := .fields #[.none, .bool false, .ref s.heap.objs.size, rawInt 0, .none, .none] }) rfl
  show _ ∧ _
  rw [z] at at2 ⊢
  exact ⟨⟨_, at2, rfl⟩, h _ at2 (Heap.get?_push_of_some _ (Heap.get?_push_size _ B.free)) fun b u x => Heap.get?_push_of_some _ (Heap.get?_push_of_some _ x)⟩
end
/-- the tuple at a, each item in a new pair with its number -/
def IteT (K : PySem.W.Frag) (a : Addr) : It where
  go := fun i H => ∃ (xs : List V) (x : V), SqT K H a xs ∧ xs[i]? = some x
  yld := fun i H v H' => ∃ T x, v = .ref T ∧ H T = none ∧ H' = upd H T (.tup [.int (i : Nat), x]) ∧ ∀ xs, SqT K H a xs → xs[i]? = some x
  stop := fun i H => ∃ xs : List V, SqT K H a xs ∧ xs.length = i
theorem turn_enumT {P : Program} {w : World} {K : PySem.W.Frag} {elts : List Expr} {kk : Nat} {tpos : Pos} (a e it : Addr) (hai : a ≠ it) (hae : a ≠ e) :
    Turn P w K (.Tuple elts kk tpos) (IteT K a) [e, it] e (fun i h => (∃ old, IsEnum h e it ((i : Nat) : Int) old) ∧ h.IsTupleIter it a i ∧ e ≠ it) where
  mem := List.mem_cons_self
  obj := fun i h st b hb => by
    obtain ⟨⟨old, he⟩, hit, _⟩ := st
    obtain ⟨o, ho, hc, hd⟩ := hit
    rcases List.mem_cons.mp hb with z | hb
    · subst z
      exact ⟨_, he, fun v q => nomatch q⟩
    · cases List.mem_singleton.mp hb
      exact ⟨o, ho, fun v q => by rw [hd] at q; cases q⟩
  keep := fun i h h' st k => by
    obtain ⟨⟨old, he⟩, hi, hne⟩ := st
    exact ⟨⟨old, k e (by simp) _ he⟩, hi.at fun o q => k it (by simp) o q, hne⟩
  item := by
    intro X hP hw hK hc i pins s σ H E I hf st hg
    subst hP hw hK
    obtain ⟨⟨old, he⟩, hit, hne⟩ := st
    obtain ⟨xs, x, hq, hx⟩ := hg
    obtain ⟨its, rv, pl, hz⟩ := I.tuple hq
    obtain ⟨u, hu, ru⟩ := rv.get hx
    have lte : e < s.heap.objs.size := Heap.lt_size he
    have lti : it < s.heap.objs.size := let ⟨_, q, _⟩ := hit; Heap.lt_size q
    have hi : i < its.toArray.size := by
      have := (List.getElem?_eq_some_iff.mp hu).1
      simpa using this
    refine wpAny_pyNext_enum_itemD (Draws.tuple (A := X.A.in1) (I.ok.hd hc) it a hai its.toArray) he ⟨hit, pl⟩ hi hne (by
      intro z
      rcases List.mem_cons.mp z with z | z
      · exact hne z
      · exact hae (List.mem_singleton.mp z).symm) fun y h1 tk hy ho st1 hT hsz hk => ?_
    have ey : y = u := by
      have z : its.toArray[i]? = some u := by simpa using hu
      have hy : its.toArray[i]? = some y := hy
      rw [z] at hy
      exact (Option.some.inj hy).symm
    subst ey
    refine ⟨_, rfl, wpAny_letOwnedTupleGo_enum (s := { s with heap := h1, toks := tk + 1 }) ho fun h2 he2 sb => ?_⟩
    have hT2 : h2.get? s.heap.objs.size = some { cls := .type "tuple", data := .seq #[.int i tk, y] } := (sb.2 _ (Nat.ne_of_gt lte)).trans hT
    have new : ObjOk X.prog X.w (upd H s.heap.objs.size (.tup [.int (i : Nat), x])) h2 s.heap.objs.size (.tup [.int (i : Nat), x]) :=
      ⟨(by decide : 2 ≤ sizeLine), [.int i tk, y], .cons ⟨tk, rfl⟩ (.cons ru .nil), _, hT2, rfl, _, rfl⟩
    have J : Inv X pins σ (upd H s.heap.objs.size (.tup [.int (i : Nat), x])) { s with heap := h2, toks := tk + 1 } :=
      I.turnedNew (ch := [e, it]) (fun b ob hb q => (sb.2 b fun z => hb (z ▸ List.mem_cons_self)).trans (hk b ob (fun z => hb (z ▸ List.mem_cons_self)) (fun z => hb (by rw [z]; simp)) q)) hf (Nat.le_refl _) new
    refine ⟨.ref s.heap.objs.size, _, J, rfl, ⟨_, x, rfl, I.hok.fresh (Nat.le_refl _), rfl, fun ys hy => by rw [I.tuple_inj hy hq]; exact hx⟩, ⟨⟨y, ?_⟩, st1.1.at fun o q => (sb.2 it (Ne.symm hne)).trans q, hne⟩, fun b hb => ?_⟩
    · have : ((i + 1 : Nat) : Int) = (i : Int) + 1 := by omega
      rw [this]
      exact he2
    · have lt : b < s.heap.objs.size := by
        rcases List.mem_cons.mp hb with z | hb
        · exact z ▸ lte
        · exact List.mem_singleton.mp hb ▸ lti
      rw [upd_ne (Nat.ne_of_lt lt)]
      exact (hf b hb).1
  done := by
    intro X hP hw hK hc i pins s σ H E I hf st hg
    subst hP hw hK
    obtain ⟨⟨old, he⟩, hit, hne⟩ := st
    obtain ⟨xs, hq, hx⟩ := hg
    obtain ⟨its, rv, pl, hz⟩ := I.tuple hq
    obtain ⟨f0, f1, f2, f3, f4, f5⟩ := hf it (by simp)
    have hn : i = its.toArray.size := by
      have := rv.length
      simp only [List.size_toArray]
      omega
    subst hn
    exact wpAny_pyNext_enum_endD (Draws.tuple (A := X.A.in1) (I.ok.hd hc) it a hai its.toArray) he ⟨hit, pl⟩ fun h1 eb => ⟨rfl, I.turned (t' := s.toks) (fun b o hb q => eb b o hb q) f0 f1 f3 f4 f5⟩
  self := fun A i s Q E st h => by
    obtain ⟨⟨_, he⟩, _⟩ := st
    exact wpAny_pyIter_enum he h
theorem wd_enumT {K : PySem.W.Frag} {a : Addr} {ds : List D} : WalkD K (IteT K a) [(.ref a, .tuple ds)] (pairsD (rangeD 0 ds.length) ds) where
  goes := fun i H hi ⟨O, h⟩ => by
    rw [pairsD_len, rangeD_len, Nat.min_self] at hi
    obtain ⟨_, xs, e, h1, rr⟩ := rep_tup (h _ (List.mem_singleton.mpr rfl))
    cases e
    obtain ⟨x, hx, _⟩ := rr.getD (List.getElem?_eq_getElem hi)
    exact ⟨xs, x, h1.sq, hx⟩
  stops := fun H ⟨O, h⟩ => by
    rw [pairsD_len, rangeD_len, Nat.min_self]
    obtain ⟨_, xs, e, h1, rr⟩ := rep_tup (h _ (List.mem_singleton.mpr rfl))
    cases e
    exact ⟨xs, h1.sq, rr.length⟩
  yields := fun i H v H' hi ⟨O, h⟩ ⟨T, x, e1, hT, e2, fx⟩ => by
    subst e1 e2
    rw [pairsD_len, rangeD_len, Nat.min_self] at hi
    refine ⟨.tuple [.int (i : Nat), ds[i]], pairsD_get (by simp [rangeD, hi]) (List.getElem?_eq_getElem hi), same_upd hT, fun O' h' => ?_⟩
    obtain ⟨_, xs, e, h1, rr⟩ := rep_tup (h' _ (List.mem_singleton.mpr rfl))
    cases e
    obtain ⟨d, hd, r⟩ := rr.get (fx xs h1.sq)
    rw [List.getElem?_eq_getElem hi] at hd
    cases hd
    exact pair_rep hT (.int _) r
section
variable {X : Cx} {tg e : Expr} {pos p : Pos} {ta : ET}
def iEnumE (K : PySem.W.Frag) (ta : TE) : TI := fun σ H R => ta σ H fun x H1 => ∃ a, x = .ref a ∧ ((∃ xs, SqL K H1 a xs ∧ R (Ite K a) H1) ∨ ∃ xs, SqT K H1 a xs ∧ R (IteT K a) H1)
theorem pi_enumE {te : TE} {elts : List Expr} {kk : Nat} {tpos : Pos} (hg : Gl X "enumerate") (hm : X.mg "enumerate" = none) (ha : PE X e te) (hs : starEach [e] X.env = [(false, eval e X.env)] := by rfl) :
    PI X (.Tuple elts kk tpos) (.Call (.Name "enumerate" p) [e] [] pos) (iEnumE X.K te) := ⟨fun pins s σ H R I h => by
  refine Call_ (ld_blt I hg hm boot_enumerate (PyProof.Rows.callWith_type1 (thn ((pa_cons ha pa_nil (hs := by rw [hs]; rfl)).run pos pins s σ H (fun vs H1 => match vs with | [x] => ∃ a, x = .ref a ∧ ((∃ xs, SqL X.K H1 a xs ∧ R (Ite X.K a) H1) ∨ ∃ xs, SqT X.K H1 a xs ∧ R (IteT X.K a) H1) | _ => False) I h) fun us s1 ⟨vs, H1, I1, r1, q1⟩ => ?_) hs rfl))
  match vs, r1, q1 with
  | [_], .cons r .nil, ⟨a, e1, q⟩ =>
      subst e1
      cases r
      have foot : ∀ b ∈ [s1.heap.objs.size + 1, s1.heap.objs.size], FpOk X pins H1 b := fun b hb => by
        have hle : s1.heap.objs.size ≤ b := by
          rcases List.mem_cons.mp hb with z | hb
          · rw [z]; exact Nat.le_succ _
          · rw [List.mem_singleton.mp hb]; exact Nat.le_refl _
        exact I1.fpOk hle (I1.hok.fresh hle)
      rcases q with ⟨xs, hq, q⟩ | ⟨xs, hq, q⟩
      · obtain ⟨its, rv, pl, hz⟩ := I1.list hq
        refine call_enum1 (begins_list a its.toArray) pl.isList fun h' he hit hk => wpAny_pyIter_enum he ?_
        exact ⟨s1.heap.objs.size + 1, [s1.heap.objs.size + 1, s1.heap.objs.size], _, _, H1, rfl, I1.kept (t' := s1.toks) hk, turn_enum a _ _, ⟨⟨.none, he⟩, ⟨_, hit, rfl, rfl⟩, Nat.succ_ne_self _⟩, foot, q⟩
      · obtain ⟨its, rv, pl, hz⟩ := I1.tuple hq
        have lt : a < s1.heap.objs.size := pl.lt
        refine call_enum1 (begins_tuple a its.toArray) pl fun h' he hit hk => wpAny_pyIter_enum he ?_
        exact ⟨s1.heap.objs.size + 1, [s1.heap.objs.size + 1, s1.heap.objs.size], _, _, H1, rfl, I1.kept (t' := s1.toks) hk, turn_enumT a _ _ (Nat.ne_of_lt lt) (Nat.ne_of_lt (Nat.lt_succ_of_lt lt)), ⟨⟨.none, he⟩, ⟨_, hit, rfl, rfl⟩, Nat.succ_ne_self _⟩, foot, q⟩⟩
def iEnum1 (t : ET) : IT := fun E η Q => t E η fun d => match d with | .list ds => Q (pairsD (rangeD 0 ds.length) ds) | .tuple ds => Q (pairsD (rangeD 0 ds.length) ds) | _ => False
theorem di_enum {elts : List Expr} {kk : Nat} {tpos : Pos} (hg : Gl X "enumerate") (hm : X.mg "enumerate" = none) (ha : DE X e ta) (hs : starEach [e] X.env = [(false, eval e X.env)] := by rfl) :
    DI X (.Tuple elts kk tpos) (.Call (.Name "enumerate" p) [e] [] pos) (iEnum1 ta) := ⟨⟨fun pins s σ H R I ⟨c, O, η, E, Q, g, ht, k⟩ => (pi_enumE hg hm ha.pe hs).run pins s σ H R I
  ⟨c, O, η, E, _, g, ht, fun d v H' s r q => by
    cases r with
    | lst o h0 rr => exact ⟨_, rfl, .inl ⟨_, .of h0, k _ H' _ _ s (fun p hp => by cases List.mem_singleton.mp hp; exact .lst o h0 rr) wd_enumL q⟩⟩
    | tup h0 rr => exact ⟨_, rfl, .inr ⟨_, h0.sq, k _ H' _ _ s (fun p hp => by cases List.mem_singleton.mp hp; exact .tup h0 rr) wd_enumT q⟩⟩
    | _ => exact q.elim⟩⟩⟩
end
end DL

/-! DL5: targets, comprehensions. -/
namespace DL
open PySem PySem.Spec PyProof.Rows L2
section
variable {K : PySem.W.Frag} {c : Ctx} {O : Addr → Prop} {η : EnvD} {σ : L2.St} {H H1 H' : Hp}
theorem join_set_self {σ : L2.St} {i : Nat} {x : V} (h : i < σ.length) : (σ.set i (some x))[i]?.join = some x := by
  rw [List.getElem?_set_self h]
  rfl
theorem Good.set (g : Good K c O η σ H) (i : Nat) {x : V} {d : D} (r : Rep K O H x d) : Good K c O (η.set i (.dat d)) (σ.set i (some x)) H where
  len := by rw [List.length_set, List.length_set, g.len]
  hB := g.hB
  hW := g.hW
  hT := g.hT
  keep := g.keep
  draw := g.draw
  cell := fun j y h => by
    by_cases e : i = j
    · subst e
      by_cases hl : i < η.length
      · rw [List.getElem?_set_self hl] at h
        cases h
        exact ⟨x, join_set_self (g.len ▸ hl), r⟩
      · rw [List.getElem?_eq_none (by rw [List.length_set]; omega)] at h
        cases h
    · rw [List.getElem?_set_ne e] at h ⊢
      exact g.cell j y h
  inj := fun j k ds es a h1 h2 h3 h4 => by
    have nj : ∀ {m : Nat} {zs : List D}, (η.set i (.dat d))[m]? = some (.own zs) → i ≠ m := fun {m zs} h e => by
      subst e
      by_cases hl : i < η.length
      · rw [List.getElem?_set_self hl] at h; cases h
      · rw [List.getElem?_eq_none (by rw [List.length_set]; omega)] at h; cases h
    have e1 := nj h1
    have e2 := nj h2
    rw [List.getElem?_set_ne e1] at h1 h3
    rw [List.getElem?_set_ne e2] at h2 h4
    exact g.inj j k ds es a h1 h2 h3 h4
  fr := g.fr
/-- the slots at vs forgotten -/
def wipeD (η : EnvD) : List Nat → EnvD
  | [] => η
  | v :: vs => (wipeD η vs).set v .un
theorem Good.unset (g : Good K c O η σ H) (i : Nat) : Good K c O (η.set i .un) (σ.set i none) H where
  len := by rw [List.length_set, List.length_set, g.len]
  hB := g.hB
  hW := g.hW
  hT := g.hT
  keep := g.keep
  draw := g.draw
  cell := fun j y h => by
    by_cases e : i = j
    · subst e
      by_cases hl : i < η.length
      · rw [List.getElem?_set_self hl] at h
        cases h
        trivial
      · rw [List.getElem?_eq_none (by rw [List.length_set]; omega)] at h
        cases h
    · rw [List.getElem?_set_ne e] at h ⊢
      exact g.cell j y h
  inj := fun j k ds es a h1 h2 h3 h4 => by
    have nj : ∀ {m : Nat} {zs : List D}, (η.set i .un)[m]? = some (.own zs) → i ≠ m := fun {m zs} h e => by
      subst e
      by_cases hl : i < η.length
      · rw [List.getElem?_set_self hl] at h; cases h
      · rw [List.getElem?_eq_none (by rw [List.length_set]; omega)] at h; cases h
    have e1 := nj h1
    have e2 := nj h2
    rw [List.getElem?_set_ne e1] at h1 h3
    rw [List.getElem?_set_ne e2] at h2 h4
    exact g.inj j k ds es a h1 h2 h3 h4
  fr := g.fr
theorem Good.wipe (g : Good K c O η σ H) : ∀ vs : List Nat, Good K c O (wipeD η vs) (L2.wipe σ vs) H
  | [] => g
  | v :: vs => (Good.wipe g vs).unset v
/-- all that is owned may be read: nothing is changed meanwhile -/
def lendC : Cell → Cell
  | .own ds => .dat (.list ds)
  | x => x
def lend (η : EnvD) : EnvD := η.map lendC
theorem Good.lend (g : Good K c O η σ H) : Good K c c.B (lend η) σ H where
  len := by unfold DL.lend; rw [List.length_map, g.len]
  hB := fun _ h => h
  hW := g.hW
  hT := fun a h => g.hT a (g.hB a h)
  keep := g.keep
  draw := g.draw
  cell := fun i x h => by
    unfold DL.lend at h
    rw [List.getElem?_map] at h
    cases e : η[i]? with
    | none => rw [e] at h; cases h
    | some y =>
      rw [e] at h
      cases h
      have q := g.cell i y e
      cases y with
      | un => trivial
      | dat d => obtain ⟨v, e1, r⟩ := q; exact ⟨v, e1, r.weak g.hB⟩
      | own ds => obtain ⟨a, xs, e1, ha, oa, nb, h0, r⟩ := q; exact ⟨.ref a, e1, .lst nb ha (r.weak g.hB)⟩
      | drw => exact q
      | obj a o => exact ⟨q.1, fun p hp => (q.2 p hp).imp fun y r => ⟨r.1, r.2.weak g.hB⟩⟩
      | scr ns => exact q
  inj := fun i j ds es a h1 h2 h3 h4 => by
    unfold DL.lend at h1
    rw [List.getElem?_map] at h1
    cases e : η[i]? with
    | none => rw [e] at h1; cases h1
    | some y => rw [e] at h1; cases y <;> cases h1
  fr := fun p hp => (g.fr p hp).weak g.hB
theorem Rep.upd {a : Addr} {xs ys : List V} (oa : O a) (ha : H a = some (.lst xs)) {v : V} {d : D} (r : Rep K O H v d) : Rep K O (L2.upd H a (.lst ys)) v d :=
  r.map (fun b zs ob e => ⟨ob, by rw [upd_ne (fun z : b = a => ob (by rw [z]; exact oa))]; exact e⟩) fun b zs e => by
    rw [upd_ne (fun z : b = a => by rw [z, ha] at e; cases e)]; exact e
theorem RepAll.upd {a : Addr} {xs ys : List V} (oa : O a) (ha : H a = some (.lst xs)) {v : List V} {d : List D} (r : RepAll K O H v d) : RepAll K O (L2.upd H a (.lst ys)) v d :=
  r.map (fun b zs ob e => ⟨ob, by rw [upd_ne (fun z : b = a => ob (by rw [z]; exact oa))]; exact e⟩) fun b zs e => by
    rw [upd_ne (fun z : b = a => by rw [z, ha] at e; cases e)]; exact e
/-- a list that no slot owns is changed -/
theorem Good.mut (g : Good K c O η σ H) {a : Addr} {xs ys : List V} (oa : O a) (ha : H a = some (.lst xs)) (nw : ¬ Wr c.G a) (h0 : c.H0 a = none) (no : ∀ (i : Nat) (ds : List D), η[i]? = some (.own ds) → σ[i]?.join ≠ some (.ref a)) : Good K c O η σ (upd H a (.lst ys)) := by
  have rp : ∀ {v : V} {d : D}, Rep K O H v d → Rep K O (upd H a (.lst ys)) v d := fun r => r.upd oa ha
  have rps : ∀ {v : List V} {d : List D}, RepAll K O H v d → RepAll K O (upd H a (.lst ys)) v d := fun r => r.upd oa ha
  refine ⟨g.len, g.hB, g.hW, fun b h => ?_, fun b o w e => ?_, ?_, fun i x h => ?_, g.inj, fun p hp => rp (g.fr p hp)⟩
  · by_cases e : b = a
    · subst e; rw [upd_same]; intro z; cases z
    · rw [upd_ne e]; exact g.hT b h
  · rw [upd_ne (fun z => by rw [z, h0] at e; cases e)]
    exact g.keep b o w e
  · refine ⟨?_, tabs_upd g.draw.2 ha⟩
    have := g.draw.1
    cases hG : c.G with
    | none => trivial
    | some p =>
      obtain ⟨p1, p2⟩ := p
      rw [hG] at this nw
      obtain ⟨n, m, t, ns, e1, x1, x2, e2, x3⟩ := this
      refine ⟨n, m, t, ns, ?_, x1, x2, ?_, x3⟩
      · rw [upd_ne (fun z => nw (.inl ⟨_, rfl, .inl z.symm⟩))]; exact e1
      · rw [upd_ne (fun z => nw (.inl ⟨_, rfl, .inr z.symm⟩))]; exact e2
  · have q := g.cell i x h
    cases x with
    | un => trivial
    | dat d => obtain ⟨v, e, r⟩ := q; exact ⟨v, e, rp r⟩
    | own ds =>
      obtain ⟨b, zs, e, hb, ob, nb, h0', r⟩ := q
      refine ⟨b, zs, e, ?_, ob, nb, h0', rps r⟩
      rw [upd_ne (fun z : b = a => no i ds h (by rw [← z]; exact e))]
      exact hb
    | drw => exact q
    | obj b o => exact ⟨q.1, fun p hp => (q.2 p hp).imp fun y r => ⟨by rw [upd_ne (fun z : p.1 = a => by have := r.1; rw [z, ha] at this; cases this)]; exact r.1, rp r.2⟩⟩
    | scr ns =>
      obtain ⟨b, e, r⟩ := q
      exact ⟨b, e, r.map fun b' o u x => by rw [upd_ne (fun z : b' = a => by rw [z, ha] at x; cases x)]; exact x⟩
/-- a new list's address joins -/
theorem Good.more (g : Good K c O η σ H) (st : Step c.G H H1) {a : Addr} {ys : List V} (h : H a = none) (h1 : H1 a = some (.lst ys)) : Good K c (fun b => O b ∨ b = a) η σ H1 := by
  have w1 : ∀ b, Wr c.G b → (O b ∨ b = a) := fun b w => .inl (g.wO b w)
  have rp : ∀ {v : V} {d : D}, Rep K O H v d → Rep K (fun b => O b ∨ b = a) H1 v d := fun r => st.rep g.draw w1 (r.more h)
  have rps : ∀ {v : List V} {d : List D}, RepAll K O H v d → RepAll K (fun b => O b ∨ b = a) H1 v d := fun r => st.repAll g.draw w1 (r.more h)
  have g1 := g.step st
  refine ⟨g.len, fun b hb => .inl (g.hB b hb), g.hW, fun b hb => hb.elim (g1.hT b) (fun z => by rw [z, h1]; intro q; cases q), g1.keep, g1.draw, fun i x hx => ?_, g.inj, fun p hp => rp (g.fr p hp)⟩
  have q := g.cell i x hx
  cases x with
  | un => trivial
  | dat d => obtain ⟨v, e, r⟩ := q; exact ⟨v, e, rp r⟩
  | own ds =>
    obtain ⟨b, zs, e, hb, ob, nb, h0, r⟩ := q
    exact ⟨b, zs, e, st.keep b _ (fun z => nb (g.hW b z)) hb, .inl ob, nb, h0, rps r⟩
  | drw => exact q
  | obj a o => exact ⟨q.1, fun p hp => (q.2 p hp).imp fun y r => ⟨st.keep _ _ (g.draw.xd _ _ r.1) r.1, rp r.2⟩⟩
  | scr ns =>
    obtain ⟨b, e, r⟩ := q
    exact ⟨b, e, r.map fun b' o u x => st.keep b' _ (g.draw.frz b' o u x) x⟩
theorem Good.fresh0 (g : Good K c O η σ H) {a : Addr} (h : H a = none) : ¬ Wr c.G a ∧ c.H0 a = none := by
  have nw : ¬ Wr c.G a := fun z => g.draw.tr a z h
  refine ⟨nw, ?_⟩
  cases e : c.H0 a with
  | none => rfl
  | some o =>
    have := g.keep a o nw e
    rw [h] at this; cases this
theorem Good.own_ne (g : Good K c O η σ H) {a : Addr} (h : H a = none) (i : Nat) (ds : List D) (hi : η[i]? = some (.own ds)) : σ[i]?.join ≠ some (.ref a) := fun z => by
  obtain ⟨b, zs, e, hb, _⟩ := g.cell i _ hi
  rw [z] at e
  cases e
  rw [h] at hb; cases hb
end

/-! ### targets -/
abbrev GT := D → EnvD → (EnvD → Prop) → Prop
abbrev GTs := List D → EnvD → (EnvD → Prop) → Prop
def gN (i : Nat) : GT := fun d η Q => Q (η.set i (.dat d))
def gNil' : GTs := fun ds η Q => match ds with | [] => Q η | _ => False
def gCons' (g : GT) (gs : GTs) : GTs := fun ds η Q => match ds with | d :: r => g d η fun η1 => gs r η1 Q | [] => False
def gT (gs : GTs) : GT := fun d η Q => match d with | .tuple ds => gs ds η Q | _ => False
/-- the slots in is are stored, no others -/
def liftG (K : PySem.W.Frag) (is : List Nat) (g : GT) : TG := fun v σ H R => ∃ (c : Ctx) (O : Addr → Prop) (η : EnvD) (d : D) (Q : EnvD → Prop), Good K c O η σ H ∧ Rep K O H v d ∧ g d η Q ∧
  ∀ σ' η', Good K c O η' σ' H → σ'.length = σ.length → (∀ j : Nat, j ∉ is → σ'[j]? = σ[j]?) → Q η' → R σ' H
def liftGs (K : PySem.W.Frag) (is : List Nat) (g : GTs) : TGs := fun vs σ H R => ∃ (c : Ctx) (O : Addr → Prop) (η : EnvD) (ds : List D) (Q : EnvD → Prop), Good K c O η σ H ∧ RepAll K O H vs ds ∧ g ds η Q ∧
  ∀ σ' η', Good K c O η' σ' H → σ'.length = σ.length → (∀ j : Nat, j ∉ is → σ'[j]? = σ[j]?) → Q η' → R σ' H
structure DG (X : Cx) (tg : Expr) (is : List Nat) (g : GT) : Prop where
  pg : PG X tg (liftG X.K is g)
structure DGs (X : Cx) (tgs : List Expr) (is : List Nat) (g : GTs) : Prop where
  pgs : PGs X tgs (liftGs X.K is g)
section
variable {X : Cx} {pos : Pos} {tg : Expr} {tgs : List Expr} {is js : List Nat} {g : GT} {gs : GTs}
theorem dg_name (i : Nat) {x : Str} (hN : X.N.Nodup) (hi : X.N[i]? = some x := by rfl) (hx : Loc X.env.scope x := by first | exact Or.inl rfl | exact Or.inr rfl) (hf : X.fn x = true ∨ X.env.scope.names.lookup x = some .local := by first | exact .inl rfl | exact .inr rfl) : DG X (.Name x pos) [i] (gN i) :=
  ⟨⟨fun pins s σ H v u R I r ⟨c, O, η, d, Q, g, rp, q, k⟩ => (pg_name hN hi hx hf).run pins s σ H v u R I r (k _ _ (g.set i rp) (List.length_set ..) (fun j hj => List.getElem?_set_ne (fun z : i = j => hj (by rw [z]; exact List.mem_singleton.mpr rfl))) q)⟩⟩
theorem dgs_nil : DGs X [] [] gNil' := ⟨⟨fun pins s σ H vs us R I r ⟨c, O, η, ds, Q, g, rp, q, k⟩ => pgs_nil.run pins s σ H vs us R I r (by
  cases rp with
  | nil => exact ⟨rfl, k σ η g rfl (fun _ _ => rfl) q⟩
  | cons _ _ => exact q.elim)⟩⟩
theorem dgs_cons (h1 : DG X tg is g) (h2 : DGs X tgs js gs) (hs : (assignEach (tg :: tgs) X.env).map (·.2) = assign tg X.env :: (assignEach tgs X.env).map (·.2) := by rfl) : DGs X (tg :: tgs) (is ++ js) (gCons' g gs) :=
  ⟨⟨fun pins s σ H vs us R I r ⟨c, O, η, ds, Q, g, rp, q, k⟩ => (pgs_cons h1.pg h2.pgs hs).run pins s σ H vs us R I r (by
    cases rp with
    | nil => exact q.elim
    | cons r1 r2 =>
      refine ⟨_, _, rfl, c, O, η, _, _, g, r1, q, fun σ1 η1 g1 l1 e1 q1 => ⟨c, O, η1, _, Q, g1, r2, q1, fun σ2 η2 g2 l2 e2 q2 => k σ2 η2 g2 (l2.trans l1) (fun j hj => ?_) q2⟩⟩
      rw [List.mem_append, not_or] at hj
      exact (e2 j hj.2).trans (e1 j hj.1))⟩⟩
theorem dg_tup {k n : Nat} (hc : X.calm = true) (h : DGs X tgs is gs) (hn : (assignEach tgs X.env).length = n := by rfl) (hst : (assignEach tgs X.env).findIdx? (·.1) = none := by rfl) (hgs : ∀ ds η Q, gs ds η Q → ds.length = n) :
    DG X (.Tuple tgs k pos) is (gT gs) := ⟨⟨fun pins s σ H v u R I r ⟨c, O, η, d, Q, g, rp, q, kk⟩ => (pg_tup hc h.pgs hn hst).run pins s σ H v u R I r (by
  cases rp with
  | tup h1 rr => exact ⟨_, _, rfl, h1.sq, rr.length.trans (hgs _ _ _ q), c, O, η, _, Q, g, rr, q, kk⟩
  | _ => exact q.elim)⟩⟩
end

/-! ### comprehensions -/

structure DTs (X : Cx) (ifs : List Expr) (t : BT) : Prop where
  pts : PTs X ifs (liftB0 X.K t)
def bYes : BT := fun _ _ Q => Q true
section
variable {X : Cx} {e : Expr} {t : BT}
theorem dts_nil : DTs X [] bYes := ⟨⟨fun pins s σ H R I ⟨c, O, η, Q, g, q, k⟩ => pts_nil.run pins s σ H R I (k true H (.refl g.draw) q)⟩⟩
theorem dts_one (h : DT X e t) : DTs X [e] t := ⟨pts_one h.pt0⟩
end
def compD (g : GT) (tt : BT) (te : ET) (η0 : EnvD) : List D → List D → (List D → Prop) → Prop
  | [], acc, Q => Q acc
  | d :: ds, acc, Q => g d η0 fun η1 => tt never η1 fun b => if b = true then te never η1 fun y => acc.length < sizeLine ∧ compD g tt te η0 ds (acc ++ [y]) Q else compD g tt te η0 ds acc Q
def nComp (own : List Nat) (ti : IT) (g : GT) (tt : BT) (te : ET) : NT := fun E η Q => ti E η fun ds => compD g tt te (wipeD η own) ds [] Q
theorem wipe_get {σ : L2.St} : ∀ {vs : List Nat} {i : Nat}, (L2.wipe σ vs)[i]? = if i ∈ vs then σ[i]?.map (fun _ => none) else σ[i]?
  | [], i => by simp [L2.wipe]
  | v :: vs, i => by
    show ((L2.wipe σ vs).set v none)[i]? = _
    rw [List.getElem?_set]
    by_cases e : v = i
    · subst e
      rw [if_pos rfl, L2.wipe_length]
      by_cases hl : v < σ.length
      · rw [if_pos hl, if_pos (List.mem_cons_self), List.getElem?_eq_getElem hl]; rfl
      · rw [if_neg hl, if_pos (List.mem_cons_self), List.getElem?_eq_none (by omega)]; rfl
    · rw [if_neg e, wipe_get]
      by_cases hm : i ∈ vs
      · rw [if_pos hm, if_pos (List.mem_cons_of_mem _ hm)]
      · rw [if_neg hm, if_neg (by simp [hm]; exact fun z => e z.symm)]
theorem wipe_eq {σ σ' : L2.St} {vs : List Nat} (hl : σ'.length = σ.length) (h : ∀ j : Nat, j ∉ vs → σ'[j]? = σ[j]?) : L2.wipe σ' vs = L2.wipe σ vs := by
  apply List.ext_getElem?
  intro i
  rw [wipe_get, wipe_get]
  by_cases hm : i ∈ vs
  · rw [if_pos hm, if_pos hm]
    by_cases hi : i < σ.length
    · rw [List.getElem?_eq_getElem hi, List.getElem?_eq_getElem (hl ▸ hi)]; rfl
    · rw [List.getElem?_eq_none (by omega), List.getElem?_eq_none (by omega)]
  · rw [if_neg hm, if_neg hm, h i hm]
theorem wipe_wipe {σ : L2.St} {vs : List Nat} : L2.wipe (L2.wipe σ vs) vs = L2.wipe σ vs := by
  apply List.ext_getElem?
  intro i
  rw [wipe_get, wipe_get]
  by_cases hm : i ∈ vs
  · rw [if_pos hm, if_pos hm]; cases σ[i]? <;> rfl
  · rw [if_neg hm, if_neg hm]
theorem lc_lift {X : Cx} {ti : IT} {is own : List Nat} {g : GT} {tt : BT} {te : ET} (hsub : ∀ i ∈ is, i ∈ own) : RdN X (tLc (liftI X ti) (liftG X.K is g) (liftB0 X.K tt) (liftE0 X.K te) own) (nComp own ti g tt te) := by
  intro σ H c O η E Q R gd ht k
  refine ⟨c, O, η, E, _, gd, ht, fun J H1 ds F s1 hF w q D hD => ?_⟩
  have g1 := gd.toGood.step s1
  have fr0 := g1.fresh0 hD
  have hDs := s1.none gd.draw hD
  have gm : Good X.K c (fun b => O b ∨ b = D) η σ (upd H1 D (.lst [])) := g1.more (.alloc g1.draw hD) hD upd_same
  have gw := gm.wipe own
  have no : ∀ (i : Nat) (es : List PyData), (wipeD η own)[i]? = some (.own es) → (L2.wipe σ own)[i]?.join ≠ some (.ref D) := (g1.wipe own).own_ne hD
  refine lc_it w (fun i H2 => ∃ vs acc, Good X.K c (fun b => O b ∨ b = D) (wipeD η own) (L2.wipe σ own) H2 ∧ H2 D = some (.lst vs) ∧ RepAll X.K (fun b => O b ∨ b = D) H2 vs acc ∧ (∀ p ∈ F, Rep X.K (fun b => O b ∨ b = D) H2 p.1 p.2) ∧
    Step c.G H1 H2 ∧ compD g tt te (wipeD η own) (ds.drop i) acc Q) ?_ ?_ ?_ ?_
  · exact ⟨[], [], gw, upd_same, .nil, fun p hp => ((hF p hp).more hD).same (same_upd hD), .alloc g1.draw hD, q⟩
  · rintro i H2 _ ⟨vs, acc, _, _, _, h4, _⟩
    exact ⟨_, h4⟩
  · rintro i x H2 H3 hi ⟨vs, acc, g2, hD2, r2, hF2, s2, q2⟩ ⟨d, hd, sm, hx⟩
    have s3 : Step c.G H2 H3 := .same g2.draw sm
    have g3 := g2.step s3
    have ed : ds.drop i = d :: ds.drop (i + 1) := by
      obtain ⟨hl, he⟩ := List.getElem?_eq_some_iff.mp hd
      rw [List.drop_eq_getElem_cons hl, he]
    rw [ed] at q2
    refine ⟨c, _, _, d, _, g3, hx _ hF2, q2, fun σ4 η4 g4 l4 e4 q4 => ⟨?_, ?_⟩⟩
    · rw [← wipe_wipe (σ := σ)]
      exact wipe_eq l4 fun j hj => e4 j fun z => hj (hsub j z)
    · refine ⟨c, _, η4, _, g4, q4, fun b H5 s5 q5 => ?_⟩
      have f5 : ∀ p ∈ F, Rep X.K (fun b => O b ∨ b = D) H5 p.1 p.2 := fun p hp => s5.rep g3.draw g3.wO ((hF2 p hp).same sm)
      have r5 := s5.repAll g3.draw g3.wO (r2.same sm)
      have gw5 := g3.step s5
      have hD5 : H5 D = some (.lst vs) := s5.keep D _ fr0.1 (sm _ _ hD2)
      cases b with
      | false => exact ⟨vs, acc, gw5, hD5, r5, f5, s2.trans (s3.trans s5), q5⟩
      | true =>
        refine ⟨c, _, η4, _, g4.step s5, q5, fun y v H6 s6 ry q6 => ?_⟩
        obtain ⟨hz, q6⟩ := q6
        have hD6 : H6 D = some (.lst vs) := s6.keep D _ fr0.1 hD5
        have r6 := s6.repAll gw5.draw gw5.wO r5
        refine ⟨vs, hD6, by rw [r6.length]; exact hz, vs ++ [v], acc ++ [y], ?_, upd_same, ?_, ?_, ?_, q6⟩
        · exact (gw5.step s6).mut (.inr rfl) hD6 fr0.1 fr0.2 no
        · exact (r6.append (.cons ry .nil)).upd (.inr rfl) hD6
        · exact fun p hp => (s6.rep gw5.draw gw5.wO (f5 p hp)).upd (.inr rfl) hD6
        · have st := s2.trans (s3.trans (s5.trans s6))
          have gg := (gw5.step s6).mut (ys := vs ++ [v]) (.inr rfl) hD6 fr0.1 fr0.2 no
          refine ⟨fun b o w e => ?_, gg.draw⟩
          rw [upd_ne (fun z => by rw [z, hD] at e; cases e)]
          exact st.keep b o w e
  · rintro H2 ⟨vs, acc, g2, hD2, r2, hF2, s2, q2⟩
    rw [List.drop_length] at q2
    exact k _ _ ⟨acc, D, vs, rfl, s1.trans s2, hDs, hD2, r2, q2⟩
section
variable {X : Cx} {elt tg iter : Expr} {ifs : List Expr} {scope : Scope} {own : List (Str × Nat)} {is : List Nat} {pos : Pos} {ti : IT} {g : GT} {tt : BT} {te : ET}
theorem dn_lc (hc : X.calm = true) (hN : X.N.Nodup) (hi : DI X tg iter ti) (ok : BlkOk X.N X.env.scope scope own) (hsub : ∀ i ∈ is, i ∈ own.map (·.2))
    (hg : ∀ (s : Shared) (H : Hp) (C : Addr) (cl : List (Str × Addr)) (fp : List Addr), DG (X.blk s H scope (compEnvC scope cl C X.env) fp) tg is g) (ht : ∀ (s : Shared) (H : Hp) (C : Addr) (cl : List (Str × Addr)) (fp : List Addr), DTs (X.blk s H scope (compEnvC scope cl C X.env) fp) ifs tt)
    (he : ∀ (s : Shared) (H : Hp) (C : Addr) (cl : List (Str × Addr)) (fp : List Addr), DE (X.blk s H scope (compEnvC scope cl C X.env) fp) elt te) (hs : ∀ x, foldedSetIterable iter X.env x = pure x := by intro _; rfl) :
    DN X (.ListComp elt [⟨tg, iter, ifs, 0⟩] scope pos) (nComp (own.map (·.2)) ti g tt te) :=
  .of (pe_lc hc hN hi.pi ok (fun s H C cl fp => (hg s H C cl fp).pg) (fun s H C cl fp => (ht s H C cl fp).pts) (fun s H C cl fp => (he s H C cl fp).pe0) hs) (lc_lift hsub)
end
section
variable {X : Cx} {c : Ctx} {E : XP} {O : Addr → Prop} {η : EnvD} {σ : L2.St} {H H1 : Hp}
theorem Gd.set (g : Gd X c E O η σ H) (i : Nat) {x : V} {d : D} (r : Rep X.K O H x d) : Gd X c E O (η.set i (.dat d)) (σ.set i (some x)) H := ⟨g.toGood.set i r, g.er⟩
theorem Gd.unset (g : Gd X c E O η σ H) (i : Nat) : Gd X c E O (η.set i .un) (σ.set i none) H := ⟨g.toGood.unset i, g.er⟩
theorem Gd.wipe (g : Gd X c E O η σ H) (vs : List Nat) : Gd X c E O (wipeD η vs) (L2.wipe σ vs) H := ⟨g.toGood.wipe vs, g.er⟩
theorem Gd.lend (g : Gd X c E O η σ H) : Gd X c E c.B (lend η) σ H := ⟨g.toGood.lend, g.er⟩
theorem Gd.mut (g : Gd X c E O η σ H) {a : Addr} {xs ys : List V} (oa : O a) (ha : H a = some (.lst xs)) (nw : ¬ Wr c.G a) (h0 : c.H0 a = none) (no : ∀ (i : Nat) (ds : List D), η[i]? = some (.own ds) → σ[i]?.join ≠ some (.ref a)) : Gd X c E O η σ (upd H a (.lst ys)) := ⟨g.toGood.mut oa ha nw h0 no, g.er⟩
theorem Gd.more (g : Gd X c E O η σ H) (st : Step c.G H H1) {a : Addr} {ys : List V} (h : H a = none) (h1 : H1 a = some (.lst ys)) : Gd X c E (fun b => O b ∨ b = a) η σ H1 := ⟨g.toGood.more st h h1, g.er⟩
end
end DL

/-! DL6: statements. -/
namespace DL
open PySem PySem.Spec PyProof.Rows L2
/-! lengths of targets -/
def GX (g : GT) : Prop := ∀ d η Q, g d η Q → ∃ η', Q η'
def GL (gs : GTs) (n : Nat) : Prop := ∀ ds η Q, gs ds η Q → ds.length = n ∧ ∃ η', Q η'
theorem gx_n (i : Nat) : GX (gN i) := fun d η Q h => ⟨_, h⟩
theorem gx_t {gs : GTs} {n : Nat} (h : GL gs n) : GX (gT gs) := fun d η Q q => by
  cases d <;> first | exact (h _ _ _ q).2 | exact q.elim
theorem gl_nil : GL gNil' 0 := fun ds η Q h => by
  cases ds with
  | nil => exact ⟨rfl, _, h⟩
  | cons _ _ => exact h.elim
theorem gl_cons {g : GT} {gs : GTs} {n : Nat} (h1 : GX g) (h2 : GL gs n) : GL (gCons' g gs) (n + 1) := fun ds η Q h => by
  cases ds with
  | nil => exact h.elim
  | cons d r =>
    obtain ⟨η', h'⟩ := h1 _ _ _ h
    obtain ⟨e, q⟩ := h2 _ _ _ h'
    exact ⟨by rw [List.length_cons, e], q⟩
section
variable {X : Cx} {e : Expr} {es rest : List Expr} {pos p : Pos} {t : ET} {ts : AT} {K : PySem.W.Frag}
abbrev NPr : EnvD → Prop := fun _ => True
/-- behind an expression in the lent state: the state as it was -/
theorem lend_lift {σ : L2.St} {H : Hp} {c : Ctx} {O : Addr → Prop} {η : EnvD} {E : XP} {Q : D → Prop} {R : VK} (g : Gd X c E O η σ H) (h : t E (lend η) Q) (k : ∀ d v H', Step c.G H H' → Rep X.K c.B H' v d → Q d → Gd X c E O η σ H' → R v H') : liftE X t σ H R :=
  ⟨c, c.B, lend η, E, Q, g.lend, h, fun d v H' s r q => k d v H' s r q (g.step s)⟩
theorem lend_liftB {t : BT} {σ : L2.St} {H : Hp} {c : Ctx} {O : Addr → Prop} {η : EnvD} {E : XP} {Q : Bool → Prop} {R : Bool → Hp → Prop} (g : Gd X c E O η σ H) (h : t E (lend η) Q) (k : ∀ b H', Step c.G H H' → Q b → Gd X c E O η σ H' → R b H') : liftB X t σ H R :=
  ⟨c, c.B, lend η, E, Q, g.lend, h, fun b H' s q => k b H' s q (g.step s)⟩

/-! name = e -/
def sSet (i : Nat) (t : ET) : SD := fun E z η => t E η fun d => z.nx (η.set i (.dat d))
def sSetL (i : Nat) (t : ET) : SD := fun E z η => t E (lend η) fun d => flat d = true ∧ z.nx (η.set i (.dat d))
def sOwn (i : Nat) (t : NT) : SD := fun E z η => t E η fun ds => z.nx (η.set i (.own ds))
def sOwnL (i : Nat) (t : NT) : SD := fun E z η => t E (lend η) fun ds => flatAll ds = true ∧ z.nx (η.set i (.own ds))
theorem Good.setOwn {c : Ctx} {O : Addr → Prop} {η : EnvD} {σ : L2.St} {H H1 : Hp} (g : Good K c O η σ H) (st : Step c.G H H1) {a : Addr} {vs : List V} {ds : List D} (h : H a = none) (h1 : H1 a = some (.lst vs)) (r : RepAll K (fun b => O b ∨ b = a) H1 vs ds) (i : Nat) :
    Good K c (fun b => O b ∨ b = a) (η.set i (.own ds)) (σ.set i (some (.ref a))) H1 := by
  have gm := g.more st h h1
  have f0 := g.fresh0 h
  have ne := g.own_ne h
  refine ⟨by rw [List.length_set, List.length_set, gm.len], gm.hB, gm.hW, gm.hT, gm.keep, gm.draw, fun j y hj => ?_, fun j k es fs b h2 h3 h4 h5 => ?_, gm.fr⟩
  · by_cases e : i = j
    · subst e
      by_cases hl : i < η.length
      · rw [List.getElem?_set_self hl] at hj
        cases hj
        exact ⟨a, vs, join_set_self (g.len ▸ hl), h1, .inr rfl, fun z => g.hT a (g.hB a z) h, f0.2, r⟩
      · rw [List.getElem?_eq_none (by rw [List.length_set]; omega)] at hj
        cases hj
    · rw [List.getElem?_set_ne e] at hj ⊢
      exact gm.cell j y hj
  · have out : ∀ {m : Nat} {zs : List D}, (η.set i (.own ds))[m]? = some (.own zs) → m < η.length := fun {m zs} q => by
      have := (List.getElem?_eq_some_iff.mp q).1
      rwa [List.length_set] at this
    have l1 := out h2
    have l2 := out h3
    by_cases e1 : i = j
    · by_cases e2 : i = k
      · exact e1.symm.trans e2
      · subst e1
        rw [join_set_self (g.len ▸ l1)] at h4
        cases h4
        rw [List.getElem?_set_ne e2] at h3 h5
        exact absurd h5 (ne k fs h3)
    · by_cases e2 : i = k
      · subst e2
        rw [join_set_self (g.len ▸ l2)] at h5
        cases h5
        rw [List.getElem?_set_ne e1] at h2 h4
        exact absurd h4 (ne j es h2)
      · rw [List.getElem?_set_ne e1] at h2 h4
        rw [List.getElem?_set_ne e2] at h3 h5
        exact g.inj j k es fs b h2 h3 h4 h5
variable {x : Str} {pos' : Pos} {i : Nat}
theorem Gd.setOwn {c : Ctx} {E : XP} {O : Addr → Prop} {η : EnvD} {σ : L2.St} {H H1 : Hp} (g : Gd X c E O η σ H) (st : Step c.G H H1) {a : Addr} {vs : List V} {ds : List D} (h : H a = none) (h1 : H1 a = some (.lst vs)) (r : RepAll X.K (fun b => O b ∨ b = a) H1 vs ds) (i : Nat) : Gd X c E (fun b => O b ∨ b = a) (η.set i (.own ds)) (σ.set i (some (.ref a))) H1 := ⟨g.toGood.setOwn st h h1 r i, g.er⟩
theorem ds_set (i : Nat) {x : Str} {pos' : Pos} (hN : X.N.Nodup) (he : DE X e t) (hi : X.N[i]? = some x := by rfl) (hx : Loc X.env.scope x := by first | exact Or.inl rfl | exact Or.inr rfl) (hs : swapsWith e (some (.Name x pos')) pos.line X.env = pure false := by rfl)
    (hf : X.fn x = true ∨ X.env.scope.names.lookup x = some .local := by first | exact .inl rfl | exact .inr rfl) : DS X (.Assign [.Name x pos'] e pos) (sSet i t) := .of (ps_set (i := i) hN hi hx he.pe hs hf) fun σ H c O η E z g h =>
  ⟨c, O, η, E, _, g, h, fun d v H' s r q => ⟨O, _, (g.step s).set i r, q⟩⟩
theorem ds_setL (i : Nat) {x : Str} {pos' : Pos} (hN : X.N.Nodup) (he : DE X e t) (hi : X.N[i]? = some x := by rfl) (hx : Loc X.env.scope x := by first | exact Or.inl rfl | exact Or.inr rfl) (hs : swapsWith e (some (.Name x pos')) pos.line X.env = pure false := by rfl)
    (hf : X.fn x = true ∨ X.env.scope.names.lookup x = some .local := by first | exact .inl rfl | exact .inr rfl) : DS X (.Assign [.Name x pos'] e pos) (sSetL i t) := .of (ps_set (i := i) hN hi hx he.pe hs hf) fun σ H c O η E z g h =>
  lend_lift g h fun d v H' s r q g' => ⟨O, _, g'.set i (r.flat q.1), q.2⟩
/-- .. from a reading of a new list -/
theorem own_read {T : TE} {tn : NT} (i : Nat) {st : Stmt} (h : PS X st (tAsg T (gName i))) (hr : RdN X T tn) : DS X st (sOwn i tn) := .of h fun σ H c O η E z g ht => hr σ H c O η E _ _ g ht fun v H' ⟨ds, a, vs, e1, s, h0, h1, rp, q⟩ => by
  subst e1
  exact ⟨_, _, g.setOwn s h0 h1 rp i, q⟩
theorem own_readL {T : TE} {tn : NT} (i : Nat) {st : Stmt} (h : PS X st (tAsg T (gName i))) (hr : RdN X T tn) : DS X st (sOwnL i tn) := .of h fun σ H c O η E z g ht => hr σ H c c.B (lend η) E _ _ g.lend ht fun v H' ⟨ds, a, vs, e1, s, h0, h1, rp, q⟩ => by
  subst e1
  exact ⟨_, _, g.setOwn s h0 h1 (rp.flat q.1) i, q.2⟩
theorem ds_own (i : Nat) {x : Str} {pos' : Pos} {tn : NT} (hN : X.N.Nodup) (he : DN X e tn) (hi : X.N[i]? = some x := by rfl) (hx : Loc X.env.scope x := by first | exact Or.inl rfl | exact Or.inr rfl) (hs : swapsWith e (some (.Name x pos')) pos.line X.env = pure false := by rfl)
    (hf : X.fn x = true ∨ X.env.scope.names.lookup x = some .local := by first | exact .inl rfl | exact .inr rfl) : DS X (.Assign [.Name x pos'] e pos) (sOwn i tn) := by
  obtain ⟨T, h1, h2⟩ := he.ex
  exact own_read i (ps_set (i := i) hN hi hx h1 hs hf) h2
theorem ds_ownL (i : Nat) {x : Str} {pos' : Pos} {tn : NT} (hN : X.N.Nodup) (he : DN X e tn) (hi : X.N[i]? = some x := by rfl) (hx : Loc X.env.scope x := by first | exact Or.inl rfl | exact Or.inr rfl) (hs : swapsWith e (some (.Name x pos')) pos.line X.env = pure false := by rfl)
    (hf : X.fn x = true ∨ X.env.scope.names.lookup x = some .local := by first | exact .inl rfl | exact .inr rfl) : DS X (.Assign [.Name x pos'] e pos) (sOwnL i tn) := by
  obtain ⟨T, h1, h2⟩ := he.ex
  exact own_readL i (ps_set (i := i) hN hi hx h1 hs hf) h2
/-- a new list as plain data: y = [..] -/
def sNew (i : Nat) (t : NT) : SD := fun E z η => t E η fun ds => z.nx (η.set i (.dat (.list ds)))
theorem new_read {T : TE} {tn : NT} (i : Nat) {st : Stmt} (h : PS X st (tAsg T (gName i))) (hr : RdN X T tn) : DS X st (sNew i tn) := .of h fun σ H c O η E z g ht => hr σ H c O η E _ _ g ht fun v H' ⟨ds, a, vs, e1, s, h0, h1, rp, q⟩ => by
  subst e1
  exact ⟨O, _, (g.step s).set i (.lst (fun o => g.hT a o h0) h1 (rp.weak fun _ => .inl)), q⟩
/-! y = [..] in one row, y a local: the comprehension's own store -/
section
variable {elt tg iter : Expr} {ifs : List Expr} {scope : Scope} {own : List (Str × Nat)} {is : List Nat} {cpos : Pos} {ti : IT} {g : GT} {tt : BT} {te : ET} {y : Str} {py : Pos}
theorem ps_lc (i : Nat) (hc : X.calm = true) (hN : X.N.Nodup) (hy : X.N[i]? = some y) (hyl : X.env.scope.names.lookup y = some .local) (hsw : swapsWith (.ListComp elt [⟨tg, iter, ifs, 0⟩] scope cpos) (some (.Name y py)) pos.line X.env = pure true) (hi : DI X tg iter ti) (ok : BlkOk X.N X.env.scope scope own)
    (hg : ∀ (s : Shared) (H : Hp) (C : Addr) (cl : List (Str × Addr)) (fp : List Addr), DG (X.blk s H scope (compEnvC scope cl C X.env) fp) tg is g) (ht : ∀ (s : Shared) (H : Hp) (C : Addr) (cl : List (Str × Addr)) (fp : List Addr), DTs (X.blk s H scope (compEnvC scope cl C X.env) fp) ifs tt)
    (he : ∀ (s : Shared) (H : Hp) (C : Addr) (cl : List (Str × Addr)) (fp : List Addr), DE (X.blk s H scope (compEnvC scope cl C X.env) fp) elt te) (hs : ∀ x, foldedSetIterable iter X.env x = pure x := by intro _; rfl) :
    PS X (.Assign [.Name y py] (.ListComp elt [⟨tg, iter, ifs, 0⟩] scope cpos) pos) (tAsg (tLc (liftI X ti) (liftG X.K is g) (liftB0 X.K tt) (liftE0 X.K te) (own.map (·.2))) (gName i)) :=
  ps_setLc hc hN hy hyl hsw hi.pi ok (fun s H C cl fp => (hg s H C cl fp).pg) (fun s H C cl fp => (ht s H C cl fp).pts) (fun s H C cl fp => (he s H C cl fp).pe0) hs
end

/-! return, if, an expression alone -/
def sRet (t : ET) : SD := fun E z η => t E (lend η) z.rt
theorem ds_ret (h : DE X e t) : DS X (.Return (some e) pos) (sRet t) := .of (ps_ret h.pe) fun σ H c O η E z g ht => lend_lift g ht fun d v H' s r q g' => ⟨d, g'.keep, g'.draw, r, q⟩
def sRetN : SD := fun _ z _ => z.rt .none
theorem ds_retN : DS X (.Return none pos) sRetN := .of ps_retN fun σ H c O η E z g h => ⟨.none, g.keep, g.draw, .non, h⟩
def sIf (b : BT) (t u : SD) : SD := fun E z η => b E (lend η) fun k => if k = true then t E z η else u E z η
theorem ds_if {cnd : Expr} {a b : List Stmt} {tb : BT} {t u : SD} (hc : DT X cnd tb) (ha : DSs X a t) (hb : DSs X b u) : DS X (.If cnd a b pos) (sIf tb t u) := .of (ps_if hc.pt ha.pss hb.pss) fun σ H c O η E z g h =>
  lend_liftB g h fun k H' s q g' => by
    cases k with
    | true => exact ⟨c, O, η, E, z, g', q, fun _ _ q => q, fun _ _ q => q, fun _ _ q => q, fun _ _ q => q⟩
    | false => exact ⟨c, O, η, E, z, g', q, fun _ _ q => q, fun _ _ q => q, fun _ _ q => q, fun _ _ q => q⟩
def sDrop (t : ET) : SD := fun E z η => t E (lend η) fun _ => z.nx η
theorem ds_expr (he : DE X e t) (hs : swapsWith e none pos.line X.env = pure false := by rfl) : DS X (.Expr e pos) (sDrop t) := .of (ps_expr he.pe hs) fun σ H c O η E z g h => lend_lift g h fun d v H' s r q g' => ⟨O, η, g', q⟩
def sBreak : SD := fun _ z η => z.bk η
def sCont : SD := fun _ z η => z.ct η
theorem ds_break : DS X (.Break pos) sBreak := .of ps_break fun σ H c O η E z g h => ⟨O, η, g, h⟩
theorem ds_cont : DS X (.Continue pos) sCont := .of ps_continue fun σ H c O η E z g h => ⟨O, η, g, h⟩
theorem ds_pass : DS X (.Pass pos) sNext := .of ps_pass fun σ H c O η E z g h => ⟨O, η, g, h⟩
def sNever : SD := fun _ _ _ => False
theorem ds_never {st : Stmt} : DS X st sNever := .of (t := sNever) ps_never fun σ H c O η E z g h => h.elim
theorem dss_never {sts : List Stmt} : DSs X sts sNever := .of (t := sNever) pss_never fun σ H c O η E z g h => h.elim

/-! what is owned becomes plain -/
def frz (i : Nat) (η : EnvD) : EnvD := match η[i]? with | some (.own ds) => η.set i (.dat (.list ds)) | _ => η
theorem Good.frz {c : Ctx} {O : Addr → Prop} {η : EnvD} {σ : L2.St} {H : Hp} (g : Good K c O η σ H) (i : Nat) : ∃ O', Good K c O' (DL.frz i η) σ H := by
  unfold DL.frz
  split
  · rename_i ds hi
    obtain ⟨a, xs, e, ha, oa, nb, h0, r⟩ := g.cell i _ hi
    have w : ∀ b, (O b ∧ b ≠ a) → O b := fun b h => h.1
    refine ⟨fun b => O b ∧ b ≠ a, by rw [List.length_set, g.len], fun b h => ⟨g.hB b h, fun z => nb (by rw [← z]; exact h)⟩, g.hW, fun b h => g.hT b h.1, g.keep, g.draw, fun j y hj => ?_, fun j k es fs b h1 h2 h3 h4 => ?_, fun p hp => (g.fr p hp).weak w⟩
    · by_cases ej : i = j
      · subst ej
        rw [List.getElem?_set_self (List.getElem?_eq_some_iff.mp hi).1] at hj
        cases hj
        exact ⟨.ref a, e, .lst (fun z => z.2 rfl) ha (r.weak w)⟩
      · rw [List.getElem?_set_ne ej] at hj
        have q := g.cell j y hj
        cases y with
        | un => trivial
        | dat d => obtain ⟨v, e1, r1⟩ := q; exact ⟨v, e1, r1.weak w⟩
        | own es =>
          obtain ⟨b, zs, e1, hb, ob, nb1, h01, r1⟩ := q
          exact ⟨b, zs, e1, hb, ⟨ob, fun z => ej (g.inj i j ds es a hi hj e (by rw [← z]; exact e1))⟩, nb1, h01, r1.weak w⟩
        | drw => exact q
        | obj a o => exact ⟨q.1, fun p hp => (q.2 p hp).imp fun y r => ⟨r.1, r.2.weak w⟩⟩
        | scr ns => exact q
    · have ne : ∀ {m : Nat} {zs : List D}, (η.set i (.dat (.list ds)))[m]? = some (.own zs) → i ≠ m := fun {m zs} q z => by
        subst z
        rw [List.getElem?_set_self (List.getElem?_eq_some_iff.mp hi).1] at q
        cases q
      rw [List.getElem?_set_ne (ne h1)] at h1
      rw [List.getElem?_set_ne (ne h2)] at h2
      exact g.inj j k es fs b h1 h2 h3 h4
  · exact ⟨O, g⟩
theorem Gd.frz {c : Ctx} {E : XP} {O : Addr → Prop} {η : EnvD} {σ : L2.St} {H : Hp} (g : Gd X c E O η σ H) (i : Nat) : ∃ O', Gd X c E O' (DL.frz i η) σ H := (g.toGood.frz i).imp fun _ h => ⟨h, g.er⟩
def sFrz (i : Nat) (t : SD) : SD := fun E z η => t E z (frz i η)
theorem ds_frz (i : Nat) {st : Stmt} {t : SD} (h : DS X st t) : DS X st (sFrz i t) := ⟨fun pins s σ H c O η E z I g ht => by
  obtain ⟨O', g'⟩ := g.frz i
  exact h.run pins s σ H c O' _ E z I g' ht⟩

/-! x.append(e), x.extend(e) -/
def onOwn (o : Option Cell) (k : List D → Prop) : Prop := match o with | some (.own ds) => k ds | _ => False
def onList (d : D) (k : List D → Prop) : Prop := match d with | .list es => k es | _ => False
def onInt (d : D) (k : Int → Prop) : Prop := match d with | .int n => k n | _ => False
def onCInt (o : Option Cell) (k : Int → Prop) : Prop := match o with | some (.dat (.int n)) => k n | _ => False
theorem onOwn_out {o : Option Cell} {k : List D → Prop} (h : onOwn o k) : ∃ ds, o = some (.own ds) ∧ k ds := by
  unfold onOwn at h
  split at h
  · exact ⟨_, rfl, h⟩
  · exact h.elim
theorem onCInt_out {o : Option Cell} {k : Int → Prop} (h : onCInt o k) : ∃ n, o = some (.dat (.int n)) ∧ k n := by
  unfold onCInt at h
  split at h
  · exact ⟨_, rfl, h⟩
  · exact h.elim
def sApp (i : Nat) (t : ET) : SD := fun E z η => onOwn η[i]? fun ds => t E η fun d => ds.length < sizeLine ∧ z.nx (η.set i (.own (ds ++ [d])))
def sAppL (i : Nat) (t : ET) : SD := fun E z η => onOwn η[i]? fun ds => t E (lend η) fun d => flat d = true ∧ ds.length < sizeLine ∧ z.nx (η.set i (.own (ds ++ [d])))
def sExtL (i : Nat) (t : ET) : SD := fun E z η => onOwn η[i]? fun ds => t E (lend η) fun d => onList d fun es => flatAll es = true ∧ ds.length + es.length ≤ sizeLine ∧ z.nx (η.set i (.own (ds ++ es)))
theorem own_out {c : Ctx} {O : Addr → Prop} {η : EnvD} {σ : L2.St} {H : Hp} (g : Good K c O η σ H) {i : Nat} {ds : List D} (hi : η[i]? = some (.own ds)) : ∃ a xs, σ[i]? = some (some (.ref a)) ∧ H a = some (.lst xs) ∧ O a ∧ ¬ c.B a ∧ c.H0 a = none ∧ RepAll K O H xs ds := by
  obtain ⟨a, xs, e, r⟩ := g.cell i _ hi
  refine ⟨a, xs, ?_, r⟩
  cases q : σ[i]? with
  | none => rw [q] at e; cases e
  | some w => rw [q] at e; exact congrArg some e
theorem Good.grown {c : Ctx} {O : Addr → Prop} {η : EnvD} {σ : L2.St} {H : Hp} (g : Good K c O η σ H) {i : Nat} {ds : List D} (hi : η[i]? = some (.own ds)) {a : Addr} (ea : σ[i]? = some (some (.ref a))) {ys : List V} {es : List D} (r : RepAll K O H ys es) :
    Good K c O (η.set i (.own es)) σ (upd H a (.lst ys)) := by
  obtain ⟨a', xs, e, ha, oa, nb, h0, _⟩ := own_out g hi
  rw [ea] at e
  cases e
  have nw : ¬ Wr c.G a := fun z => nb (g.hW a z)
  -- the slot is emptied first
  have gi : Good K c O (η.set i .un) (σ.set i none) H := g.unset i
  have no : ∀ (j : Nat) (zs : List PyData), (η.set i .un)[j]? = some (.own zs) → (σ.set i none)[j]?.join ≠ some (.ref a) := fun j zs hj q => by
    by_cases ej : i = j
    · subst ej
      rw [List.getElem?_set_self (List.getElem?_eq_some_iff.mp hi).1] at hj
      cases hj
    · rw [List.getElem?_set_ne ej] at hj q
      exact ej (g.inj i j ds zs a hi hj (by rw [ea]; rfl) q)
  have g1 := gi.mut (ys := ys) oa ha nw h0 no
  refine ⟨by rw [List.length_set, g.len], g1.hB, g1.hW, g1.hT, g1.keep, g1.draw, fun j y hj => ?_, fun j k zs ws b h1 h2 h3 h4 => ?_, g1.fr⟩
  · by_cases ej : i = j
    · subst ej
      rw [List.getElem?_set_self (List.getElem?_eq_some_iff.mp hi).1] at hj
      cases hj
      exact ⟨a, ys, by rw [ea]; rfl, upd_same, oa, nb, h0, r.upd oa ha⟩
    · rw [List.getElem?_set_ne ej] at hj
      have q := g1.cell j y (by rw [List.getElem?_set_ne ej]; exact hj)
      rwa [List.getElem?_set_ne ej] at q
  · have there : ∀ {m : Nat} {vs : List PyData}, (η.set i (.own es))[m]? = some (.own vs) → ∃ us, η[m]? = some (.own us) := fun {m vs} q => by
      by_cases e : i = m
      · subst e; exact ⟨ds, hi⟩
      · rw [List.getElem?_set_ne e] at q; exact ⟨vs, q⟩
    obtain ⟨u1, q1⟩ := there h1
    obtain ⟨u2, q2⟩ := there h2
    exact g.inj j k u1 u2 b q1 q2 h3 h4
theorem Gd.grown {c : Ctx} {E : XP} {O : Addr → Prop} {η : EnvD} {σ : L2.St} {H : Hp} (g : Gd X c E O η σ H) {i : Nat} {ds : List D} (hi : η[i]? = some (.own ds)) {a : Addr} (ea : σ[i]? = some (some (.ref a))) {ys : List V} {es : List D} (r : RepAll X.K O H ys es) : Gd X c E O (η.set i (.own es)) σ (upd H a (.lst ys)) := ⟨g.toGood.grown hi ea r, g.er⟩
theorem own_after {c : Ctx} {O : Addr → Prop} {η : EnvD} {σ : L2.St} {H H1 : Hp} (g : Good K c O η σ H) (st : Step c.G H H1) {i : Nat} {ds : List D} (hi : η[i]? = some (.own ds)) {a : Addr} (ea : σ[i]? = some (some (.ref a))) : ∃ xs, H1 a = some (.lst xs) ∧ RepAll K O H1 xs ds := by
  obtain ⟨a', xs, e, h1, _, _, _, r⟩ := own_out (g.step st) hi
  rw [ea] at e
  cases e
  exact ⟨xs, h1, r⟩
section
variable {apos npos : Pos}
theorem ds_app (i : Nat) {x : Str} {npos : Pos} (he : DE X e t) (hN : X.N[i]? = some x := by rfl) (hv : Vis X.env.scope x := by first | exact Or.inl rfl | exact Or.inr (Or.inl rfl) | exact Or.inr (Or.inr rfl)) (hd : (x == ("__debug__" : Str)) = false := by decide) (hcd : (x == ("__classdict__" : Str)) = false := by decide)
    (hline : (apos.endLine == p.line) = true := by rfl) (hs : starEach [e] X.env = (false, eval e X.env) :: starEach [] X.env := by rfl) (hfew : ((backTo p (starEach [e] X.env)).all (fun x => !x.1) && (backToKw p (keywordEach [] X.env)).all (fun x => x.1.isSome) && decide ([e].length + ([] : List Keyword).length + (if ([] : List Keyword).isEmpty then 0 else 1) < 30)) = true := by rfl)
    (hsw : swapsWith (.Call (.Attribute (.Name x npos) "append" apos) [e] [] p) none pos.line X.env = pure false := by rfl) : DS X (.Expr (.Call (.Attribute (.Name x npos) "append" apos) [e] [] p) pos) (sApp i t) := by
  refine .of (ps_expr (pe_bm PySem.F.plainAttrs_list PySem.F.slot_list_append PySem.F.type_list_append mt_append (pe_var hN hv hd hcd) (pa_cons he.pe pa_nil hs) (by rfl) hfew hline hs) hsw) fun σ H c O η E z g h => ?_
  obtain ⟨ds, hi, h⟩ := onOwn_out h
  · obtain ⟨a, xs, ea, ha, _⟩ := own_out g.toGood hi
    refine ⟨.ref a, ea, .inl ⟨rfl, xs, .of ha⟩, c, O, η, E, _, g, h, fun d v H1 s r q => ?_⟩
    obtain ⟨ys, hy, ry⟩ := own_after g.toGood s hi ea
    exact ⟨a, ys, v, rfl, rfl, hy, by rw [ry.length]; exact q.1, O, _, (g.step s).grown hi ea (ry.append (.cons r .nil)), q.2⟩
theorem ds_appL (i : Nat) {x : Str} {npos : Pos} (he : DE X e t) (hN : X.N[i]? = some x := by rfl) (hv : Vis X.env.scope x := by first | exact Or.inl rfl | exact Or.inr (Or.inl rfl) | exact Or.inr (Or.inr rfl)) (hd : (x == ("__debug__" : Str)) = false := by decide) (hcd : (x == ("__classdict__" : Str)) = false := by decide)
    (hline : (apos.endLine == p.line) = true := by rfl) (hs : starEach [e] X.env = (false, eval e X.env) :: starEach [] X.env := by rfl) (hfew : ((backTo p (starEach [e] X.env)).all (fun x => !x.1) && (backToKw p (keywordEach [] X.env)).all (fun x => x.1.isSome) && decide ([e].length + ([] : List Keyword).length + (if ([] : List Keyword).isEmpty then 0 else 1) < 30)) = true := by rfl)
    (hsw : swapsWith (.Call (.Attribute (.Name x npos) "append" apos) [e] [] p) none pos.line X.env = pure false := by rfl) : DS X (.Expr (.Call (.Attribute (.Name x npos) "append" apos) [e] [] p) pos) (sAppL i t) := by
  refine .of (ps_expr (pe_bm PySem.F.plainAttrs_list PySem.F.slot_list_append PySem.F.type_list_append mt_append (pe_var hN hv hd hcd) (pa_cons he.pe pa_nil hs) (by rfl) hfew hline hs) hsw) fun σ H c O η E z g h => ?_
  obtain ⟨ds, hi, h⟩ := onOwn_out h
  · obtain ⟨a, xs, ea, ha, _⟩ := own_out g.toGood hi
    refine ⟨.ref a, ea, .inl ⟨rfl, xs, .of ha⟩, c, c.B, lend η, E, _, g.lend, h, fun d v H1 s r q => ?_⟩
    obtain ⟨ys, hy, ry⟩ := own_after g.toGood s hi ea
    exact ⟨a, ys, v, rfl, rfl, hy, by rw [ry.length]; exact q.2.1, O, _, (g.step s).grown hi ea (ry.append (.cons (r.flat q.1) .nil)), q.2.2⟩
theorem ds_extL (i : Nat) {x : Str} {npos : Pos} (he : DE X e t) (hN : X.N[i]? = some x := by rfl) (hv : Vis X.env.scope x := by first | exact Or.inl rfl | exact Or.inr (Or.inl rfl) | exact Or.inr (Or.inr rfl)) (hd : (x == ("__debug__" : Str)) = false := by decide) (hcd : (x == ("__classdict__" : Str)) = false := by decide)
    (hline : (apos.endLine == p.line) = true := by rfl) (hs : starEach [e] X.env = (false, eval e X.env) :: starEach [] X.env := by rfl) (hfew : ((backTo p (starEach [e] X.env)).all (fun x => !x.1) && (backToKw p (keywordEach [] X.env)).all (fun x => x.1.isSome) && decide ([e].length + ([] : List Keyword).length + (if ([] : List Keyword).isEmpty then 0 else 1) < 30)) = true := by rfl)
    (hsw : swapsWith (.Call (.Attribute (.Name x npos) "extend" apos) [e] [] p) none pos.line X.env = pure false := by rfl) : DS X (.Expr (.Call (.Attribute (.Name x npos) "extend" apos) [e] [] p) pos) (sExtL i t) := by
  refine .of (ps_expr (pe_bm PySem.F.plainAttrs_list PySem.F.slot_list_extend PySem.F.type_list_extend mt_extend (pe_var hN hv hd hcd) (pa_cons he.pe pa_nil hs) (by rfl) hfew hline hs) hsw) fun σ H c O η E z g h => ?_
  obtain ⟨ds, hi, h⟩ := onOwn_out h
  · obtain ⟨a, xs, ea, ha, _⟩ := own_out g.toGood hi
    refine ⟨.ref a, ea, .inl ⟨rfl, xs, .of ha⟩, c, c.B, lend η, E, _, g.lend, h, fun d v H1 s r q => ?_⟩
    obtain ⟨ys, hy, ry⟩ := own_after g.toGood s hi ea
    cases r with
    | lst o h1 rr => exact ⟨a, _, ys, _, rfl, rfl, hy, h1, by rw [ry.length, rr.length]; exact q.2.1, O, _, (g.step s).grown hi ea (ry.append (rr.flat q.1)), q.2.2⟩
    | _ => exact q.elim
end

/-! for, while -/
def forD (g : GT) (tb : SD) (E : XP) (z : EndsD) : List D → EnvD → Prop
  | [], η => z.nx η
  | d :: ds, η => g d η fun η1 => tb E { nx := forD g tb E z ds, rt := z.rt, bk := z.nx, ct := forD g tb E z ds } η1
def sFor (ti : IT) (g : GT) (tb : SD) : SD := fun E z η => ti E η fun ds => forD g tb E z ds η
theorem Good.frame {c : Ctx} {O : Addr → Prop} {η : EnvD} {σ : L2.St} {H : Hp} (g : Good K c O η σ H) {F : List (V × D)} (h : ∀ p ∈ F, Rep K O H p.1 p.2) : Good K { c with fr := F ++ c.fr } O η σ H where
  len := g.len
  hB := g.hB
  hW := g.hW
  hT := g.hT
  keep := g.keep
  draw := g.draw
  cell := g.cell
  inj := g.inj
  fr := fun p hp => (List.mem_append.mp hp).elim (h p) (g.fr p)
theorem Good.unframe {c : Ctx} {F : List (V × D)} {O : Addr → Prop} {η : EnvD} {σ : L2.St} {H : Hp} (g : Good K { c with fr := F ++ c.fr } O η σ H) : Good K c O η σ H where
  len := g.len
  hB := g.hB
  hW := g.hW
  hT := g.hT
  keep := g.keep
  draw := g.draw
  cell := g.cell
  inj := g.inj
  fr := fun p hp => g.fr p (List.mem_append_right _ hp)
theorem Gd.frame {c : Ctx} {E : XP} {O : Addr → Prop} {η : EnvD} {σ : L2.St} {H : Hp} (g : Gd X c E O η σ H) {F : List (V × D)} (h : ∀ p ∈ F, Rep X.K O H p.1 p.2) : Gd X { c with fr := F ++ c.fr } E O η σ H := ⟨g.toGood.frame h, g.er⟩
theorem Gd.unframe {c : Ctx} {E : XP} {F : List (V × D)} {O : Addr → Prop} {η : EnvD} {σ : L2.St} {H : Hp} (g : Gd X { c with fr := F ++ c.fr } E O η σ H) : Gd X c E O η σ H := ⟨g.toGood.unframe, g.er⟩
theorem ds_for {tg iter : Expr} {body : List Stmt} {ti : IT} {is : List Nat} {g : GT} {tb : SD} (hp : PassesOwn (model X.prog X.w) X.A X.env X.xe) (hc : X.calm = true) (hi : DI X tg iter ti) (hg : DG X tg is g) (hb : DSs X body tb) (hs : ∀ x, foldedSetIterable iter X.env x = pure x := by intro _; rfl) :
    DS X (.For tg iter body [] pos) (sFor ti g tb) := .of (ps_for hp hc hi.pi hg.pg hb.pss hs) fun σ H c O η E z gd h => by
  refine ⟨c, O, η, E, _, gd, h, fun J H1 ds F s1 hF w q => ?_⟩
  have g1 := (gd.step s1).frame hF
  refine for_it w (fun i σ2 H2 => ∃ O2 η2, Gd X { c with fr := F ++ c.fr } E O2 η2 σ2 H2 ∧ forD g tb E z (ds.drop i) η2) ⟨O, η, g1, q⟩ ?_ ?_ ?_
  · rintro i σ2 H2 _ ⟨O2, η2, g2, _⟩
    exact ⟨O2, fun p hp => g2.fr p (List.mem_append_left _ hp)⟩
  · rintro i x σ2 H2 H3 hi ⟨O2, η2, g2, q2⟩ ⟨d, hd, sm, hx⟩
    have ed : ds.drop i = d :: ds.drop (i + 1) := by
      obtain ⟨hl, he⟩ := List.getElem?_eq_some_iff.mp hd
      rw [List.drop_eq_getElem_cons hl, he]
    rw [ed] at q2
    refine ⟨_, O2, η2, d, _, (g2.step (.same g2.draw sm)).toGood, hx O2 fun p hp => g2.fr p (List.mem_append_left _ hp), q2, fun σ4 η4 g4 _ _ q4 => ?_⟩
    exact ⟨_, O2, η4, E, _, ⟨g4, g2.er⟩, q4, fun _ _ q => q, fun _ _ q => q, fun _ _ ⟨O5, η5, g5, q5⟩ => ⟨O5, η5, g5.unframe, q5⟩, fun _ _ q => q⟩
  · rintro σ2 H2 ⟨O2, η2, g2, q2⟩
    rw [List.drop_length] at q2
    exact ⟨O2, η2, g2.unframe, q2⟩
def whileD (b : BT) (tb : SD) (E : XP) (z : EndsD) : Nat → EnvD → Prop
  | 0, _ => False
  | n + 1, η => b E (lend η) fun k => if k = true then tb E { nx := whileD b tb E z n, rt := z.rt, bk := z.nx, ct := whileD b tb E z n } η else z.nx η
def sWhile (b : BT) (tb : SD) : SD := fun E z η => ∃ n, whileD b tb E z n η
theorem ds_while {cnd : Expr} {body : List Stmt} {b : BT} {tb : SD} (hp : PassesOwn (model X.prog X.w) X.A X.env X.xe) (hc : DT X cnd b) (hb : DSs X body tb) : DS X (.While cnd body [] pos) (sWhile b tb) := .of (ps_while hp hc.pt hb.pss) fun σ H c O η E z g h => by
  obtain ⟨n, h⟩ := h
  refine ⟨fun m σ2 H2 => ∃ O2 η2, Gd X c E O2 η2 σ2 H2 ∧ whileD b tb E z m η2, ⟨n, O, η, g, h⟩, fun m σ2 H2 ⟨O2, η2, g2, h2⟩ => ?_⟩
  cases m with
  | zero => exact h2.elim
  | succ m =>
    refine lend_liftB g2 h2 fun k H3 s q g3 => ?_
    cases k with
    | true =>
      refine ⟨fun σ4 H4 => ∃ O4 η4, Gd X c E O4 η4 σ4 H4 ∧ whileD b tb E z m η4, fun σ' H' q' => ⟨m, Nat.lt_succ_self _, q'⟩, ?_⟩
      exact ⟨c, O2, η2, E, _, g3, q, fun _ _ q => q, fun _ _ q => q, fun _ _ q => q, fun _ _ q => q⟩
    | false => exact ⟨O2, η2, g3, q⟩

/-! x += e, (a, b) = e -/
def sAug (i : Nat) (t : ET) : SD := fun E z η => onCInt η[i]? fun m => t E (lend η) fun d => onInt d fun n => z.nx (η.set i (.dat (.int (m + n))))
theorem ds_aug (i : Nat) {x : Str} {pos' : Pos} (hN : X.N.Nodup) (he : DE X e t) (hi : X.N[i]? = some x := by rfl) (hx : Loc X.env.scope x := by first | exact Or.inl rfl | exact Or.inr rfl) (hf : X.fn x = true ∨ X.env.scope.names.lookup x = some .local := by first | exact .inl rfl | exact .inr rfl) :
    DS X (.AugAssign (.Name x pos') .Add e pos) (sAug i t) := .of (ps_aug (i := i) hN hi hx he.pe ip_add hf) fun σ H c O η E z g h => by
  obtain ⟨m, hm, h⟩ := onCInt_out h
  · obtain ⟨v, ev, r⟩ := g.cell i _ hm
    cases r
    refine ⟨.int m, ?_, lend_lift g h fun d v H' s r q g' => ?_⟩
    · cases q : σ[i]? with
      | none => rw [q] at ev; cases ev
      | some w => rw [q] at ev; exact congrArg some ev
    · cases r <;> first | exact ⟨m, _, rfl, rfl, O, _, g'.set i (.int _), q⟩ | exact q.elim
def sAsg (t : ET) (g : GT) : SD := fun E z η => t E η fun d => g d η z.nx
theorem ds_asg {tg : Expr} {is : List Nat} {g : GT} (he : DE X e t) (hg : DG X tg is g) (hs : swapsWithSole [tg] e pos.line X.env = pure false := by rfl) (hw : swappedStores [tg] e X.env = pure none := by rfl) (h1 : (assignEach [tg] X.env).map (·.2) = [assign tg X.env] := by rfl) :
    DS X (.Assign [tg] e pos) (sAsg t g) := .of (ps_asg he.pe hg.pg hs hw h1) fun σ H c O η E z gd h =>
  ⟨c, O, η, E, _, gd, h, fun d v H' s r q => ⟨c, O, η, d, _, (gd.step s).toGood, r, q, fun σ' η' g' _ _ q' => ⟨O, η', ⟨g', gd.er⟩, q'⟩⟩⟩
/-! (x, y) = (a, b), plain or new -/
/-- what an argument list gives: plain things and new lists -/
abbrev MT := XP → EnvD → (List Cell → Prop) → Prop
def lenScr (i : Nat) : ET := fun _ η Q => match η[i]? with | some (.scr ns) => Q (.int ns.length) | _ => False
theorem de_lenScr (i : Nat) {x : Str} {npos : Pos} (hg : Gl X "len") (hm : X.mg "len" = none) (hN : X.N[i]? = some x := by rfl) (hv : Vis X.env.scope x := by first | exact Or.inl rfl | exact Or.inr (Or.inl rfl) | exact Or.inr (Or.inr rfl)) (hd : (x == ("__debug__" : Str)) = false := by decide) (hcd : (x == ("__classdict__" : Str)) = false := by decide)
    (he : starEach [.Name x npos] X.env = (false, eval (.Name x npos) X.env) :: starEach [] X.env := by rfl) : DE X (.Call (.Name "len" p) [.Name x npos] [] pos) (lenScr i) := .of (pe_callB call_len_seq hg hm PySem.boot_len (pa_cons (pe_var hN hv hd hcd) pa_nil he)) fun σ H c O η E Q g h => by
  unfold lenScr at h
  split at h
  · rename_i ns hi
    obtain ⟨a, ea, r⟩ := g.cell i _ hi
    have es : σ[i]? = some (some (.ref a)) := by
      cases q : σ[i]? with
      | none => rw [q] at ea; cases ea
      | some w => rw [q] at ea; exact congrArg some ea
    exact ⟨.ref a, es, a, _, rfl, .inl r.sq, .int ns.length, .refl g.draw, by rw [List.length_map]; exact .int _, h⟩
  · exact h.elim
end
end DL

/-! DL7: defs, calls, the law's end. -/
namespace DL
open PySem PySem.Spec PyProof.Rows L2
/-- a def keeps its promise where no repr is under way -/
structure FnG (P : Program) (w : World) (K : PySem.W.Frag) (mg : Str → Option Value) (base : Heap) (CX : CXT) (k : Nat) (f : Addr) (fd : FuncData) (ps : List Str) (sp : Sp) : Prop where
  len : ∀ vs H Q E, sp vs H Q E → vs.length = ps.length
  run : ∀ (A : Around) (outer : List Env) (s : Shared) (H : Hp) (args : Args) (us : List Value) (vs : List V) (Q : VK) (E : XK), A.guards = some [] → Room k A → Env0 P w K mg base A outer s H → BindsTo s fd args (ps.zip us) → Vals vs us →
    sp vs H Q E → codeAny (model P w) A (.call (.ref f) args) (CR CX outer P w H s Q E) s
section
variable {P : Program} {w : World} {K : PySem.W.Frag} {mg : Str → Option Value} {base : Heap} {CX : CXT} {k : Nat} {f : Addr} {fd : FuncData} {ps N : List Str} {sp : Sp}
theorem FnG.mono {j : Nat} (F : FnG P w K mg base CX j f fd ps sp) (h : j ≤ k) : FnG P w K mg base CX k f fd ps sp := ⟨F.len, fun A outer s H args us vs Q E hg hr => F.run A outer s H args us vs Q E hg (hr.mono h)⟩
/-- from its body -/
theorem fnG_of {x qual : Str} {st : Stmt} (F : Fun K x qual st f fd) (S : FnScope N ps (defScope st)) (len : ∀ vs H Q E, sp vs H Q E → vs.length = ps.length)
    (hbody : ∀ (cdv : Value) (A : Around) (outer : List Env) (s : Shared) (H : Hp) (vs : List V) (Q : VK) (E : XK), A.guards = some [] → Room k (A.deeper (envOfC qual (defScope st) s.heap.objs.size f cdv)) → sp vs H Q E →
      ∃ t, PSs (cxOf CX P w K mg base N qual (defScope st) f cdv A outer s H E) (defBody st) t ∧ t { nx := fun _ H' => Q .non H', rt := Q } (start N vs) H) : FnG P w K mg base CX (k + 1) f fd ps sp := by
  obtain ⟨oc, od, kV, doc, pm, an, cdv, ct, osl, rfl, lk, hcd⟩ := F.ex
  refine ⟨len, fun A outer s H args us vs Q E hg hr e0 hb r hsp => ?_⟩
  have hl := len _ _ _ _ hsp
  have inH : ∀ b o, base.get? b = some o → s.heap.get? b = some o := fun b o e => (e0.bs b o e).1
  have KX : K.In s.heap := e0.mod.kin.keeps inH
  have lim : s.heap.NoLimit := e0.mod.nolimit.keeps inH
  have kinds : ∀ y ∈ ps.zip us, (defScope st).names.lookup y.1 = some .local ∨
      ((defScope st).names.lookup y.1 = some .cell ∧ ((cellsFrom (s.heap.objs.size + 1) (defScope st).names []).lookup y.1).isSome = true) := by
    intro y hy
    have hm := (List.of_mem_zip (a := y.1) (b := y.2) hy).1
    exact (S.par y.1 hm).imp id fun q => ⟨q, PySem.W.cellsFrom_some _ _ _ (.inl q)⟩
  refine codeAny_call_function hr.depth (KX _ _ lk) rfl S.co S.gen rfl (PySem.W.codeRec_of KX hcd) (hb _ _ _ _ ?_)
  refine wpAny_newFunctionEnv_cells S.kind kinds fun env he s1 IC => ?_
  subst he
  refine ⟨lim.keeps IC.toInCall.keep, codeAny_func ?_⟩
  obtain ⟨t, ht, hq⟩ := hbody cdv A outer s H vs Q E hg (hr.deeper _) hsp
  have I := inv_start (CX := CX) (E := E) S hr.hd e0 hl r IC
  have leave : ∀ {σ' : L2.St} {H' : Hp} {v : V} {u : Value} {s' : Shared}, Inv (cxOf CX P w K mg base N qual (defScope st) f cdv A outer s H E) [] σ' H' s' → RelV v u → Q v H' → CE outer P w H s Q u s' :=
    fun J rv q => ⟨_, _, J.os, J.bare, J.base, J.hok, rv, q⟩
  refine wpAny_mono (ht.run [] s1 (start N vs) H _ I hq) (fun fl s' hs => ?_) fun e s' hs => hs
  match fl, hs with
  | .ret u, ⟨v, σ', H', J, rv, q⟩ => exact leave J rv q
  | .next, ⟨σ', H', J, q⟩ => exact leave (v := .non) J rfl q
  | .brk, ⟨_, _, _, q⟩ => exact q.elim
  | .cont, ⟨_, _, _, q⟩ => exact q.elim
end
section
variable {X : Cx} {CX : CXT} {k : Nat} {f : Addr} {fd : FuncData} {ps : List Str} {sp : Sp} {E : XK} {x : Str} {p pos : Pos} {e : Expr} {es : List Expr} {t : TA}
theorem run_fnG {pins : List (Addr × Obj)} {σ : L2.St} {H : Hp} {s : Shared} {Q : VK} {us : List Value} {vs : List V} (F : FnG X.prog X.w X.K X.mg X.base CX k f fd ps sp) (hgd : X.A.guards = some []) (hr : Room k X.A) (hb : Binds X.K fd ps []) (hx : Passes CX X E)
    (I : Inv X pins σ H s) (r : Vals vs us) (h : sp vs H Q E) : wpAny (model X.prog X.w) X.A (call (.ref f) us) (EP X pins σ Q) X.xe s := by
  have hl : (us ++ []).length = ps.length := by rw [List.append_nil, ← r.length]; exact F.len _ _ _ _ h
  have hb' := hb s us I.kIn hl
  rw [List.append_nil] at hb'
  refine wpAny_call (codeAny_mono (F.run X.A X.stack s H ⟨us, []⟩ us vs Q E hgd hr I.env0 hb' r h) fun out s' hq => ?_)
  match out, hq with
  | .error e, hq => exact hx pins σ H s e s' I hq
  | .ok (.ret u), hq => exact I.after hq
theorem pe_callG (F : FnG X.prog X.w X.K X.mg X.base CX k f fd ps sp) (hgd : X.A.guards = some []) (hr : Room k X.A) (hg : Gl X x) (hm : X.mg x = some (.ref f)) (hk : PySem.W.keepIn X.K (.ref f) = true) (hb : Binds X.K fd ps []) (hx : Passes CX X E) (ha : PA X (e :: es) t)
    (hdb : (x == ("__debug__" : Str)) = false := by decide) (he : starEach (e :: es) X.env = (false, eval e X.env) :: starEach es X.env := by rfl) (hpl : (backTo pos (starEach es X.env)).any (·.1) = false := by rfl) :
    PE X (.Call (.Name x p) (e :: es) [] pos) (tCB (fun vs H Q => sp vs H Q E) t) := ⟨fun pins s σ H Q I h =>
  wpAny_Call_Name_kw (ld_glob I hg hm (PySem.W.callWith_K (h₀ := X.base) I.ok.mod.kin hk (thn (ha.run pos pins s σ H _ I h) fun us s1 ⟨vs, H1, I1, r, q⟩ => ⟨I1.kIn, run_fnG F hgd hr hb hx I1 r q⟩) he hpl) hdb)⟩
theorem pe_callG0 (F : FnG X.prog X.w X.K X.mg X.base CX k f fd ps sp) (hgd : X.A.guards = some []) (hr : Room k X.A) (hg : Gl X x) (hm : X.mg x = some (.ref f)) (hk : PySem.W.keepIn X.K (.ref f) = true) (hb : Binds X.K fd ps []) (hx : Passes CX X E)
    (hdb : (x == ("__debug__" : Str)) = false := by decide) : PE X (.Call (.Name x p) [] [] pos) (tCB (fun vs H Q => sp vs H Q E) tNil) := ⟨fun pins s σ H Q I h =>
  wpAny_Call_Name_kw (ld_glob I hg hm (PySem.W.callWith_K0 I.kIn hk (run_fnG (us := []) F hgd hr hb hx I .nil h)) hdb)⟩
end

/-! ### promises over data -/
def ArgOk (K : PySem.W.Frag) (B : Addr → Prop) (G : Option (Addr × Addr)) (H : Hp) (v : V) : Cell → Prop
  | .dat d => Rep K B H v d
  | .drw => ∃ a g, v = .ref a ∧ G = some (a, g)
  | _ => False
def ArgsOk (K : PySem.W.Frag) (B : Addr → Prop) (G : Option (Addr × Addr)) (H : Hp) : List V → List Cell → Prop := Paired (ArgOk K B G H)
abbrev FT := XP → List Cell → (D → Prop) → Prop
/-- what a def over data promises -/
def spD (K : PySem.W.Frag) (n : Nat) (wf : FT) : Sp := fun vs H Q _ => vs.length = n ∧ ∃ B G cs R, (∀ a, B a → H a ≠ none) ∧ (∀ a, Wr G a → B a) ∧ DrawOk G H ∧ ArgsOk K B G H vs cs ∧ wf never cs R ∧ ∀ d v H', Step G H H' → Rep K B H' v d → R d → Q v H'
abbrev FnD (P : Program) (w : World) (K : PySem.W.Frag) (mg : Str → Option Value) (base : Heap) (k : Nat) (f : Addr) (fd : FuncData) (ps : List Str) (wf : FT) : Prop := FnG P w K mg base CX0 k f fd ps (spD K ps.length wf)
/-- a body's run -/
def bodyD (m n : Nat) (t : SD) : FT := fun E cs Q => cs.length = m ∧ t E { nx := fun _ => Q .none, rt := Q } (cs ++ List.replicate (n - cs.length) .un)
theorem bodyD_len {m n : Nat} {t : SD} : ∀ cs R, bodyD m n t never cs R → cs.length = m := fun _ _ h => h.1
theorem arg_cell {K : PySem.W.Frag} {B : Addr → Prop} {G : Option (Addr × Addr)} {H : Hp} {v : V} : ∀ {x : Cell}, ArgOk K B G H v x → CellOk K ⟨B, G, H, []⟩ B H (some v) x
  | .dat _, r => ⟨v, rfl, r⟩
  | .drw, ⟨a, g, e1, e2⟩ => ⟨a, g, congrArg some e1, e2⟩
theorem args_cell {K : PySem.W.Frag} {B : Addr → Prop} {G : Option (Addr × Addr)} {H : Hp} {x : Cell} : ∀ {vs : List V} {cs : List Cell} {i : Nat}, ArgsOk K B G H vs cs → cs[i]? = some x → CellOk K ⟨B, G, H, []⟩ B H (vs[i]?.map some).join x
  | _, _, _, .nil, e => by simp at e
  | _, _, 0, .cons r t, e => by
    simp at e
    subst e
    exact arg_cell r
  | _, _, i + 1, .cons r t, e => by
    have := args_cell (i := i) t (by simpa using e)
    simpa using this
theorem start_good {K : PySem.W.Frag} {B : Addr → Prop} {G : Option (Addr × Addr)} {H : Hp} {N : List Str} (hB : ∀ a, B a → H a ≠ none) (hW : ∀ a, Wr G a → B a) (hd : DrawOk G H) {vs : List V} {cs : List Cell} (ha : ArgsOk K B G H vs cs) :
    Good K ⟨B, G, H, []⟩ B (cs ++ List.replicate (N.length - cs.length) .un) (start N vs) H := by
  have hl : vs.length = cs.length := Paired.length ha
  have own : ∀ (i : Nat) (ds : List D), (cs ++ List.replicate (N.length - cs.length) Cell.un)[i]? ≠ some (.own ds) := fun i ds e => by
    by_cases hi : i < cs.length
    · rw [List.getElem?_append_left hi] at e
      have : ∀ {vs : List V} {cs : List Cell} {i : Nat}, ArgsOk K B G H vs cs → cs[i]? ≠ some (.own ds) := by
        intro vs cs i h
        induction h generalizing i with
        | nil => simp
        | cons r t ih =>
          cases i with
          | zero => intro e; simp at e; subst e; exact r
          | succ i => simpa using ih
      exact this ha e
    · rw [List.getElem?_append_right (by omega), List.getElem?_replicate] at e
      split at e <;> cases e
  refine ⟨?_, fun _ h => h, hW, hB, fun _ _ _ e => e, hd, fun i x h => ?_, fun i j ds es a h1 _ _ _ => absurd h1 (own i ds), fun p hp => absurd hp (by simp)⟩
  · unfold L2.start
    rw [List.length_append, List.length_append, List.length_map, List.length_replicate, List.length_replicate, hl]
  · unfold L2.start
    by_cases hi : i < cs.length
    · rw [List.getElem?_append_left hi] at h
      rw [List.getElem?_append_left (by rw [List.length_map]; omega), List.getElem?_map]
      exact args_cell ha h
    · rw [List.getElem?_append_right (by omega), List.getElem?_replicate] at h
      split at h
      · cases h; trivial
      · cases h
theorem fnD_of {P : Program} {w : World} {K : PySem.W.Frag} {mg : Str → Option Value} {base : Heap} {k : Nat} {f : Addr} {fd : FuncData} {ps N : List Str} {x qual : Str} {st : Stmt} {t : SD} (F : Fun K x qual st f fd) (S : FnScope N ps (defScope st))
    (hbody : ∀ (cdv : Value) (A : Around) (outer : List Env) (s : Shared) (H : Hp) (E : XK), A.guards = some [] → Room k (A.deeper (envOfC qual (defScope st) s.heap.objs.size f cdv)) → DSs (cxOf CX0 P w K mg base N qual (defScope st) f cdv A outer s H E).nox (defBody st) t) :
    FnD P w K mg base (k + 1) f fd ps (bodyD ps.length N.length t) := by
  refine fnG_of F S (fun vs H Q E h => h.1) fun cdv A outer s H vs Q E hg hr h => ?_
  obtain ⟨hl, B, G, cs, R, hB, hW, hd, ha, hw, kk⟩ := h
  refine ⟨_, (hbody cdv A outer s H E hg hr).pss.nox, ⟨B, G, H, []⟩, B, _, never, _, ⟨start_good (N := N) hB hW hd ha, eok_never⟩, hw.2, fun σ' H' ⟨O, η, g, q⟩ => ?_, fun v H' ⟨d, h1, h2, h3, h4⟩ => kk d v H' ⟨h1, h2⟩ h3 h4, fun σ' H' ⟨O, η, g, q⟩ => q.elim, fun σ' H' ⟨O, η, g, q⟩ => q.elim⟩
  exact kk .none .non H' ⟨g.keep, g.draw⟩ .non q
/-- arguments, the draws among them -/
abbrev CT := XP → EnvD → (List Cell → Prop) → Prop
def liftC (X : Cx) (t : CT) : TA := fun σ H R => ∃ (c : Ctx) (O : Addr → Prop) (η : EnvD) (E : XP) (Q : List Cell → Prop), Gd X c E O η σ H ∧ t E η Q ∧ ∀ cs vs H', Step c.G H H' → ArgsOk X.K O c.G H' vs cs → Q cs → R vs H'
structure DC (X : Cx) (es : List Expr) (t : CT) : Prop where
  pa : PA X es (liftC X t)
def cNil : CT := fun _ _ Q => Q []
def cCons (t : ET) (ts : CT) : CT := fun E η Q => t E η fun d => ts E η fun cs => Q (.dat d :: cs)
def isDrw (o : Option Cell) (k : Prop) : Prop := match o with | some .drw => k | _ => False
def cDrw (i : Nat) (ts : CT) : CT := fun E η Q => isDrw η[i]? (ts E η fun cs => Q (.drw :: cs))
theorem isDrw_out {o : Option Cell} {k : Prop} (h : isDrw o k) : o = some .drw ∧ k := by
  unfold isDrw at h
  split at h
  · exact ⟨rfl, h⟩
  · exact h.elim
section
variable {X : Cx} {e : Expr} {es : List Expr} {t : ET} {ts : CT} {pos p : Pos}
theorem dc_nil : DC X [] cNil := ⟨⟨fun pos pins s σ H R I ⟨c, O, η, E, Q, g, q, k⟩ => pa_nil.run pos pins s σ H R I (k [] [] H (.refl g.draw) .nil q)⟩⟩
theorem ArgOk.step {K : PySem.W.Frag} {O : Addr → Prop} {G : Option (Addr × Addr)} {H H1 : Hp} (st : Step G H H1) (dr : DrawOk G H) (hW : ∀ a, Wr G a → O a) {v : V} {x : Cell} (h : ArgOk K O G H v x) : ArgOk K O G H1 v x := by
  cases x with
  | dat d => exact st.rep dr hW h
  | drw => exact h
  | un => exact h
  | own ds => exact h
  | scr ns => exact h
  | obj a o => exact h
theorem dc_cons (h : DE X e t) (hr : DC X es ts) (hs : starEach (e :: es) X.env = (false, eval e X.env) :: starEach es X.env := by rfl) : DC X (e :: es) (cCons t ts) := ⟨⟨fun pos pins s σ H R I ⟨c, O, η, E, Q, g, q, k⟩ => (pa_cons h.pe hr.pa hs).run pos pins s σ H R I
  ⟨c, O, η, E, _, g, q, fun d v H1 s1 r1 q1 => ⟨c, O, η, E, _, g.step s1, q1, fun cs vs H2 s2 r2 q2 => k _ _ H2 (s1.trans s2) (.cons (show ArgOk X.K O c.G H2 v (.dat d) from s2.rep s1.draw g.wO r1) r2) q2⟩⟩⟩⟩
theorem dc_drw (i : Nat) {x : Str} (hr : DC X es ts) (hN : X.N[i]? = some x := by rfl) (hv : Vis X.env.scope x := by first | exact Or.inl rfl | exact Or.inr (Or.inl rfl) | exact Or.inr (Or.inr rfl)) (hd : (x == ("__debug__" : Str)) = false := by decide) (hcd : (x == ("__classdict__" : Str)) = false := by decide)
    (hs : starEach (.Name x p :: es) X.env = (false, eval (.Name x p) X.env) :: starEach es X.env := by rfl) : DC X (.Name x p :: es) (cDrw i ts) := ⟨⟨fun pos pins s σ H R I ⟨c, O, η, E, Q, g, q, k⟩ => (pa_cons (pe_var hN hv hd hcd) hr.pa hs).run pos pins s σ H R I (by
  obtain ⟨hi, q⟩ := isDrw_out q
  obtain ⟨a, gr, e1, e2⟩ := g.cell i _ hi
  refine ⟨.ref a, ?_, c, O, η, E, _, g, q, fun cs vs H2 s2 r2 q2 => k _ _ H2 s2 (.cons (show ArgOk X.K O c.G H2 (.ref a) .drw from ⟨a, gr, rfl, e2⟩) r2) q2⟩
  cases z : σ[i]? with
  | none => rw [z] at e1; cases e1
  | some w => rw [z] at e1; exact congrArg some e1)⟩⟩
def dCallF (wf : FT) (ts : CT) : ET := fun E η Q => ts E η fun cs => wf never cs Q
theorem callF_lift {X : Cx} {n : Nat} {wf : FT} {σ : L2.St} {H : Hp} {c : Ctx} {O : Addr → Prop} {η : EnvD} {E : XP} {Q : D → Prop} (hn : ∀ cs R, wf never cs R → cs.length = n) (g : Gd X c E O η σ H) (h : dCallF wf ts E η Q) :
    tCB (fun vs H Q => spD X.K n wf vs H Q E0) (liftC X ts) σ H fun v H' => ∃ d, Step c.G H H' ∧ Rep X.K O H' v d ∧ Q d :=
  ⟨c, O, η, E, _, g, h, fun cs vs H1 s1 r1 q => ⟨(Paired.length r1).trans (hn _ _ q), O, c.G, cs, Q, (g.step s1).hT, g.wO, s1.draw, r1, q, fun d v H' s r q => ⟨d, s1.trans s, r, q⟩⟩⟩
theorem de_call {k : Nat} {f : Addr} {fd : FuncData} {ps : List Str} {wf : FT} {x : Str} (F : FnD X.prog X.w X.K X.mg X.base k f fd ps wf) (hn : ∀ cs R, wf never cs R → cs.length = ps.length) (hgd : X.A.guards = some []) (hr : Room k X.A) (hg : Gl X x) (hm : X.mg x = some (.ref f)) (hk : PySem.W.keepIn X.K (.ref f) = true) (hb : Binds X.K fd ps [])
    (ha : DC X (e :: es) ts) (hdb : (x == ("__debug__" : Str)) = false := by decide) (he : starEach (e :: es) X.env = (false, eval e X.env) :: starEach es X.env := by rfl) (hpl : (backTo pos (starEach es X.env)).any (·.1) = false := by rfl) : DE X (.Call (.Name x p) (e :: es) [] pos) (dCallF wf ts) :=
  .of (pe_callG F hgd hr hg hm hk hb pass0 ha.pa hdb he hpl) fun σ H c O η E Q g h => callF_lift hn g h
theorem de_call0 {k : Nat} {f : Addr} {fd : FuncData} {ps : List Str} {wf : FT} {x : Str} (F : FnD X.prog X.w X.K X.mg X.base k f fd ps wf) (hn : ∀ cs R, wf never cs R → cs.length = ps.length) (hgd : X.A.guards = some []) (hr : Room k X.A) (hg : Gl X x) (hm : X.mg x = some (.ref f)) (hk : PySem.W.keepIn X.K (.ref f) = true) (hb : Binds X.K fd ps [])
    (hdb : (x == ("__debug__" : Str)) = false := by decide) : DE X (.Call (.Name x p) [] [] pos) (dCallF wf cNil) :=
  .of (pe_callG0 F hgd hr hg hm hk hb pass0 hdb) fun σ H c O η E Q g h => ⟨hn _ _ h, O, c.G, [], Q, g.hT, g.wO, g.draw, .nil, h, fun d v H' s r q => ⟨d, s, r, q⟩⟩
end
end DL

/-! DL8: the law's end. -/
namespace DL
open PySem PySem.Spec PyProof.Rows L2
/-- nothing is tracked but the script and the tables -/
def OnlyL (H : Hp) : Prop := (∀ a, H a = none ∨ (∃ o u, H a = some (.frz o u)) ∨ ∃ ps, H a = some (.tbl ps)) ∧ TabM H
/-- the tables, as the head leaves them -/
structure TabsC (K : PySem.W.Frag) (h : Heap) (cs : List (Addr × Addr)) : Prop where
  sys : K.lookup sysModules = none
  all : lawTabs.map (·.1) = cs.map (·.2)
  new : ∀ p ∈ cs, h.get? p.2 = some { cls := .none, data := .fields #[] }
  off : ∀ p ∈ cs, K.lookup p.2 = none
  code : ∀ p ∈ cs, PySem.W.CodeHd h p.1 p.2
theorem law_callG {P : Program} {w : World} {K : PySem.W.Frag} {mg mb : Str → Option Value} {k : Nat} {fa a : Addr} {cs : List (Addr × Addr)} {fd : FuncData} {x : Str} {sp : Sp} {s1 : Shared} {vs : List Value} {ns : List Int} (KX : K.In s1.heap) (hns : s1.heap.Ns mainGlobals mg) (hb : s1.heap.Ns builtinsNs mb)
    (hbb : ∀ x : Str, x ≠ "__name__" → mb x = bootBuiltins x) (hlim : s1.heap.NoLimit) (hg : s1.gens = #[]) (T : TabsC K s1.heap cs) (hsys : ∃ mm, s1.heap.Ns sysModules mm)
    (hbm : ∃ (bm : Addr) (ob : Obj), mg "__builtins__" = some (.ref bm) ∧ bm ≠ builtinsNs ∧ s1.heap.get? bm = some ob ∧ ob.cls = .type "module" ∧ ob.dict = some builtinsNs ∧ ob.data = .plain)
    (ha : s1.heap.get? a = some { cls := .type "list", data := .seq vs.toArray }) (hi : IntsAre vs ns) (hl : ns.length ≤ sizeLine) (hr : Room k callerA)
    (F : ∀ base : Heap, K.In base → base.Ns mainGlobals mg → (∀ p ∈ cs, LamX.TabB base mg p.1 p.2) → FnG P w K mg base CX0 k fa fd [x] sp) (hbind : ∀ (s : Shared) (u : Value), BindsTo s fd ⟨[u], []⟩ [(x, u)])
    (hsp : ∀ H : Hp, OnlyL H → SqL K H a (ns.map V.int) → sp [.ref a] H (fun v _ => v = .bl true) fun _ _ _ => False) :
    codeAny (model P w) callerA (.call (.ref fa) ⟨[.ref a], []⟩) (fun r s' => r = .ok (.ret (.bool true)) ∧ OldK s1.heap s'.heap ∧ s'.os = s1.os ∧ AllBare s'.gens) s1 := by
  have rv := vals_ints hi
  have lenV := hi.length
  -- a table's address
  have tabAt : ∀ b, (∃ q, (b, q) ∈ lawTabs) → ∃ p ∈ cs, p.2 = b := fun b ⟨q, hq⟩ => by
    have : b ∈ cs.map (·.2) := by rw [← T.all]; exact List.mem_map.mpr ⟨_, hq, rfl⟩
    exact List.mem_map.mp this
  have tabs0 : ∀ {H : Hp}, (∀ p ∈ cs, H p.2 = some (.tbl #[])) → LamX.Tabs lawTabs H := fun h p hp => by
    obtain ⟨c, hc, e⟩ := tabAt p.1 ⟨p.2, hp⟩
    exact .nil (by rw [← e]; exact h c hc)
  have aT : ∀ p ∈ cs, p.2 ≠ a := fun p hp z => by
    have q := T.new p hp
    rw [z, ha] at q
    cases q
  obtain ⟨mmS, oS, esS, epS, eS, dS, rS⟩ := hsys
  have aS : a ≠ sysModules := fun z => by
    rw [z, eS] at ha
    cases ha
    cases dS
  have pS : ∀ p ∈ cs, p.2 ≠ sysModules := fun p hp z => by
    have q := T.new p hp
    rw [z, eS] at q
    cases q
    cases dS
  have main : ∀ H : Hp, OnlyL H → (∀ p ∈ cs, H p.2 = some (.tbl #[])) → SqL K H a (ns.map V.int) → HOk P w H s1.heap → (∀ b u, H b = some u → (b = a ∧ K.lookup a = none) ∨ (∃ p ∈ cs, p.2 = b) ∨ b = sysModules) →
      codeAny (model P w) callerA (.call (.ref fa) ⟨[.ref a], []⟩) (fun r s' => r = .ok (.ret (.bool true)) ∧ OldK s1.heap s'.heap ∧ s'.os = s1.os ∧ AllBare s'.gens) s1 := by
    intro H hO hH hS hok hA
    -- what is neither a list nor an empty table is not tracked
    have free : ∀ {b : Addr} {o : Obj}, b ≠ sysModules → s1.heap.get? b = some o → (∀ vs n, o.data ≠ .seq vs n) → o.data ≠ .fields #[] → H b = none := by
      intro b o nS e n1 n2
      cases q : H b with
      | none => rfl
      | some u =>
        rcases hA b u q with ⟨rfl, _⟩ | ⟨p, hp, rfl⟩ | z
        · rw [ha] at e
          cases e
          exact (n1 _ _ rfl).elim
        · rw [T.new p hp] at e
          cases e
          exact (n2 rfl).elim
        · exact absurd z nS
    have dictFree : ∀ {b : Addr} {o : Obj} {es : Array DictEntry} {ep : Nat}, b ≠ sysModules → s1.heap.get? b = some o → o.data = .dict es ep → H b = none := fun nS e d => free nS e (fun vs n z => by rw [d] at z; cases z) (fun z => by rw [d] at z; cases z)
    have nsB : ∀ {b : Addr} {m : Str → Option Value}, b ≠ sysModules → s1.heap.Ns b m → (hidT s1.heap H).Ns b m := by
      rintro b m nS ⟨o, es, ep, e, d, r⟩
      exact ⟨o, es, ep, hidT_get e (dictFree nS e d), d, r⟩
    have kB : K.In (hidT s1.heap H) := by
      intro b o e
      refine hidT_get (KX b o e) ?_
      cases q : H b with
      | none => rfl
      | some u =>
        rcases hA b u q with ⟨rfl, z⟩ | ⟨p, hp, rfl⟩ | rfl
        · rw [z] at e
          cases e
        · rw [T.off p hp] at e
          cases e
        · rw [T.sys] at e
          cases e
    have mB : Mod K mg (hidT s1.heap H) := ⟨kB, nsB (by decide) hns, ⟨mb, nsB (by decide) hb, hbb⟩, let ⟨m, q1, q2⟩ := hlim; ⟨m, nsB (by decide) q1, q2⟩⟩
    have tB : ∀ p ∈ cs, LamX.TabB (hidT s1.heap H) mg p.1 p.2 := by
      intro p hp
      have hP := T.new p hp
      refine ⟨?_, ?_, fun z => ?_⟩
      · obtain ⟨o, us, file, tf, flags, tg, inF, text, tt, e1, r1, r2, r3, rest⟩ := T.code p hp
        refine ⟨o, us, file, tf, flags, tg, inF, text, tt, hidT_get e1 (free (fun z => ?_) e1 (fun vs n z => ?_) fun z => ?_), r1, r2, r3, rest⟩
        · rw [z, eS] at e1; cases e1; rw [r2] at dS; cases dS
        · rw [r2] at z; cases z
        · rw [r2] at z; cases z; cases r3
      · obtain ⟨bm, ob, b1, b2, b3, b4, b5, b6⟩ := hbm
        have plainAt : ∀ {o : Obj}, s1.heap.get? bm = some o → o.data = .plain := fun e => by
          rw [b3] at e
          cases e
          exact b6
        refine ⟨bm, ob, b1, b2, fun q => ?_, fun q => ?_, hidT_get b3 (free (fun z => by rw [z, eS] at b3; cases b3; rw [b6] at dS; cases dS) b3 (fun vs n z => by rw [b6] at z; cases z) fun z => by rw [b6] at z; cases z), b4, b5, b6⟩
        · obtain ⟨o, es, ep, e, hd, _⟩ := hns
          rw [← q] at e
          rw [plainAt e] at hd
          cases hd
        · rw [← q] at hP
          cases plainAt hP
      · obtain ⟨o, es, ep, e, hd, _⟩ := hns
        rw [z, hP] at e
        cases e
        cases hd
    have e0 : Env0 P w K mg (hidT s1.heap H) callerA [] s1 H := ⟨rfl, mB, fun b o e => of_hidT e, Nat.le_of_eq (hidT_size _ _), trivial, fun b hb => (nomatch hb), hok, .of_eq hg⟩
    refine codeAny_mono ((F _ kB (nsB (by decide) hns) tB).run callerA [] s1 H ⟨[.ref a], []⟩ [.ref a] [.ref a] _ _ rfl hr e0 (hbind s1 (.ref a)) (.cons rfl .nil) (hsp H hO hS)) fun r s' h => ?_
    match r, h with
    | .error e, h => exact False.elim h
    | .ok (.ret u), ⟨v, H', os, bare, un, hok', r', q⟩ =>
      have q : v = .bl true := q
      subst q
      have r' : u = Value.bool true := r'
      subst r'
      have grown : ∀ p ∈ cs, ∃ more : Array Value, s'.heap.get? p.2 = some { cls := .none, data := .fields more } := fun p hp => by
        obtain ⟨more, z⟩ := un.tbls p.2 #[] (hH p hp)
        exact ⟨_, hok' p.2 _ z⟩
      have stays : ∀ b o, (¬ ∃ p ∈ cs, p.2 = b) → s1.heap.get? b = some o → s'.heap.get? b = some o := fun b o nb e => by
        cases z : H b with
        | none => exact un.keep b o e z (fun m => nomatch m) (fun m => nomatch m)
        | some u =>
          rcases hO.1 b with z' | ⟨ob, xs, z'⟩ | ⟨ps, z'⟩
          · rw [z] at z'; cases z'
          · obtain ⟨e1, _⟩ := hok b _ z'
            obtain ⟨e2, _⟩ := hok' b _ (un.frzs b ob _ z')
            rw [e] at e1
            cases e1
            exact e2
          · rcases hA b _ z' with ⟨rfl, _⟩ | y | y
            · rcases hS with (y | ⟨oo, y⟩) | ⟨oo, its, n, y, _⟩
              · rw [z'] at y; cases y
              · rw [z'] at y; cases y
              · rcases hA b _ z' with ⟨_, y2⟩ | y2 | y2
                · rw [y2] at y; cases y
                · exact absurd y2 nb
                · exact absurd y2 aS
            · exact absurd y nb
            · obtain ⟨o9, e9⟩ := hO.2.m
              rw [y, e9] at z'
              cases z'
      refine ⟨rfl, ⟨fun b o e => ?_, fun b o e => ?_⟩, os, bare⟩
      · by_cases hbT : ∃ p ∈ cs, p.2 = b
        · obtain ⟨p, hp, rfl⟩ := hbT
          obtain ⟨more, hm⟩ := grown p hp
          rw [T.new p hp] at e
          cases e
          exact .inr (.inl ⟨((T.code p hp).tab (T.new p hp)).isCodeTable, rfl, #[], more, rfl, by rw [Array.empty_append]; exact hm⟩)
        · exact .inl (stays b o hbT e)
      · by_cases hbT : ∃ p ∈ cs, p.2 = b
        · obtain ⟨p, hp, rfl⟩ := hbT
          obtain ⟨more, hm⟩ := grown p hp
          exact ⟨_, hm⟩
        · exact ⟨o, stays b o hbT e⟩
  classical
  cases hk : K.lookup a with
  | some o =>
    have e := KX a o hk
    rw [ha] at e
    cases e
    have main2 := fun H hO hH hS hok hA => main H hO hH hS hok hA
    let H0 : Hp := fun b => if b = sysModules then some (.frz oS (.own 0)) else if ∃ p ∈ cs, p.2 = b then some (.tbl #[]) else none
    have at_S : H0 sysModules = some (.frz oS (.own 0)) := if_pos rfl
    have at_ : ∀ p ∈ cs, H0 p.2 = some (HO.tbl #[]) := fun p hp => (if_neg (pS p hp)).trans (if_pos ⟨p, hp, rfl⟩)
    have out : ∀ (b : Addr) (u : HO), H0 b = some u → (b = sysModules ∧ u = .frz oS (.own 0)) ∨ ((∃ p ∈ cs, p.2 = b) ∧ u = .tbl #[]) := fun b u z => by
      have z : (if b = sysModules then some (HO.frz oS (.own 0)) else if ∃ p ∈ cs, p.2 = b then some (HO.tbl #[]) else none) = some u := z
      by_cases h0 : b = sysModules
      · rw [if_pos h0] at z; exact .inl ⟨h0, (Option.some.inj z).symm⟩
      · rw [if_neg h0] at z
        by_cases hb : ∃ p ∈ cs, p.2 = b
        · rw [if_pos hb] at z
          exact .inr ⟨hb, (Option.some.inj z).symm⟩
        · rw [if_neg hb] at z; cases z
    refine main2 H0 ⟨fun b => ?_, tabs0 at_, oS, at_S⟩ at_ (.inr ⟨_, vs.toArray, _, hk, rfl, rfl, rfl, by rw [List.size_toArray, lenV]; exact hl, by simpa using rv⟩) (fun b u z => ?_) fun b u z => (out b u z).elim (fun y => .inr (.inr y.1)) fun y => .inr (.inl y.1)
    · by_cases h0 : b = sysModules
      · exact .inr (.inl ⟨_, _, h0 ▸ at_S⟩)
      · by_cases hb : ∃ p ∈ cs, p.2 = b
        · exact .inr (.inr ⟨_, (if_neg h0).trans (if_pos hb)⟩)
        · exact .inl ((if_neg h0).trans (if_neg hb))
    · rcases out b u z with ⟨rfl, rfl⟩ | ⟨⟨p, hp, rfl⟩, rfl⟩
      · exact ⟨eS, oS, eS⟩
      · exact T.new p hp
  | none =>
    let H0 : Hp := fun b => if b = sysModules then some (.frz oS (.own 0)) else if b = a then some (.frz { cls := .type "list", data := .seq vs.toArray } (.lst (ns.map V.int))) else if ∃ p ∈ cs, p.2 = b then some (.tbl #[]) else none
    have at_S : H0 sysModules = some (.frz oS (.own 0)) := if_pos rfl
    have at_a : H0 a = some (HO.frz { cls := .type "list", data := .seq vs.toArray } (.lst (ns.map V.int))) := (if_neg aS).trans (if_pos rfl)
    have at_ : ∀ p ∈ cs, H0 p.2 = some (HO.tbl #[]) := fun p hp => (if_neg (pS p hp)).trans ((if_neg (aT p hp)).trans (if_pos ⟨p, hp, rfl⟩))
    have out : ∀ (b : Addr) (u : HO), H0 b = some u → (b = sysModules ∧ u = .frz oS (.own 0)) ∨ (b = a ∧ u = HO.frz { cls := .type "list", data := .seq vs.toArray } (.lst (ns.map V.int))) ∨ ((∃ p ∈ cs, p.2 = b) ∧ u = .tbl #[]) := by
      intro b u z
      have z : (if b = sysModules then some (HO.frz oS (.own 0)) else if b = a then some (HO.frz { cls := .type "list", data := .seq vs.toArray } (.lst (ns.map V.int))) else if ∃ p ∈ cs, p.2 = b then some (HO.tbl #[]) else none) = some u := z
      by_cases h0 : b = sysModules
      · rw [if_pos h0] at z; exact .inl ⟨h0, (Option.some.inj z).symm⟩
      rw [if_neg h0] at z
      by_cases hb : b = a
      · rw [if_pos hb] at z
        exact .inr (.inl ⟨hb, (Option.some.inj z).symm⟩)
      · rw [if_neg hb] at z
        by_cases hb2 : ∃ p ∈ cs, p.2 = b
        · rw [if_pos hb2] at z
          exact .inr (.inr ⟨hb2, (Option.some.inj z).symm⟩)
        · rw [if_neg hb2] at z; cases z
    refine main H0 ⟨fun b => ?_, tabs0 at_, oS, at_S⟩ at_ (.inl (.inr ⟨_, at_a⟩)) (fun b u z => ?_) fun b u z => (out b u z).elim (fun y => .inr (.inr y.1)) fun y => y.elim (fun y => .inl ⟨y.1, hk⟩) fun y => .inr (.inl y.1)
    · by_cases h0 : b = sysModules
      · exact .inr (.inl ⟨_, _, h0 ▸ at_S⟩)
      by_cases hb : b = a
      · exact .inr (.inl ⟨_, _, (if_neg h0).trans (if_pos hb)⟩)
      · by_cases hb2 : ∃ p ∈ cs, p.2 = b
        · exact .inr (.inr ⟨_, (if_neg h0).trans ((if_neg hb).trans (if_pos hb2))⟩)
        · exact .inl ((if_neg h0).trans ((if_neg hb).trans (if_neg hb2)))
    · rcases out b u z with ⟨rfl, rfl⟩ | ⟨rfl, rfl⟩ | ⟨⟨p, hp, rfl⟩, rfl⟩
      · exact ⟨eS, oS, eS⟩
      · exact ⟨ha, by rw [List.length_map]; exact hl, vs, _, rv, ha⟩
      · exact T.new p hp
/-- what the head tells of the tables -/
def TabsOf (q : Program) (K : PySem.W.Frag) (h : Heap) : Prop := ∀ {d : DefRec} {x : Str} {c P : Addr}, (recsOf q).find? (fun e => e.name == x) = some d → PySem.W.tabIn K x = some (c, P) → PySem.W.CodeHd h c P ∧ h.get? P = some (PySem.W.tabObj #[])
/-- the goal that k_head leaves, from the law's promise -/
theorem walk_G {l : PySem.W.OpenLaw} {n k : Nat} {q : Program} {loose : List Str} {XP : (Str → Option Value) → Heap → Prop} {YP : World → Heap → Prop} {d : DefRec} {K : Params → PySem.W.Frag} {sp : PySem.W.Frag → Sp} {x : Str} (hn : l.most = some n) (hn2 : n ≤ sizeLine) (hdf : d.params.defaults = []) (hr : Room k callerA) (him : importsNone q = true)
    (hY : ∀ (w : World) (h : Heap), YP w h → (K w.params).In h)
    (F : ∀ (w : World) (mg : Str → Option Value) (fa : Addr) (h : Heap), (K w.params).In h → h.Ns mainGlobals mg → mg d.name = some (.ref fa) → TabsOf q (K w.params) h →
      ∃ (fd : FuncData) (cs : List (Addr × Addr)), TabsC (K w.params) h cs ∧ (∀ (s : Shared) (u : Value), BindsTo s fd ⟨[u], []⟩ [(x, u)]) ∧ ∀ base : Heap, (K w.params).In base → base.Ns mainGlobals mg → (∀ p ∈ cs, LamX.TabB base mg p.1 p.2) → FnG l.prog w (K w.params) mg base CX0 k fa fd [x] (sp (K w.params)))
    (hsp : ∀ (K : PySem.W.Frag) (H : Hp) (a : Addr) (ns : List Int), ns.length ≤ n → OnlyL H → SqL K H a (ns.map V.int) → sp K [.ref a] H (fun v _ => v = .bl true) fun _ _ _ => False) :
    PySem.W.WalkO q loose XP YP l.row.toRowW d [] (fun f vs => PySem.call f vs) := by
  refine Att.attach_call hn hdf fun w s₀ s₁ mg mb fa o pm cd doc a vs ns G Y ho hd hcd hmg hobj hints hlen hg => ?_
  have KX := hY w _ Y
  obtain ⟨fd, cs, T, hb, hF⟩ := F w mg fa _ KX G.T.g hmg fun hr ht => PySem.W.tab_of G.T KX hr ht
  exact law_callG KX G.T.g G.T.b G.T.builtins G.T.nolimit hg T (let ⟨mm, q1, _⟩ := (G.T.seer him).mods; ⟨mm, q1⟩) G.T.bmain hobj hints (Nat.le_trans hlen hn2) hr hF hb fun H hO hS => hsp _ H a ns hlen hO hS
/-- no lambdas -/
theorem no_tabs {K : PySem.W.Frag} {h : Heap} {A : FuncData → Prop} {B : FuncData → Heap → Prop} {C : Heap → Prop} {C2 : Heap → Prop} {mg : Str → Option Value} (e : lawTabs = []) (hsys : K.lookup sysModules = none) (h' : ∃ fd, A fd ∧ ∀ base, C base → C2 base → B fd base) :
    ∃ (fd : FuncData) (cs : List (Addr × Addr)), TabsC K h cs ∧ A fd ∧ ∀ base : Heap, C base → C2 base → (∀ p ∈ cs, LamX.TabB base mg p.1 p.2) → B fd base := by
  obtain ⟨fd, h1, h2⟩ := h'
  exact ⟨fd, [], ⟨hsys, by rw [e]; rfl, fun p hp => (nomatch hp), fun p hp => (nomatch hp), fun p hp => (nomatch hp)⟩, h1, fun base c c2 _ => h2 base c c2⟩
end DL

/-! DL9: draws, defs by name, parallel stores. -/
namespace DL
open PySem PySem.Spec PyProof.Rows L2
def dw (x y z : V) : List (Key × V) := [(.inr "mixed", x), (.inr "great", y), (.inr "turn", z)]
theorem key_mg : ¬ (Sum.inr "mixed" : Key) = .inr "great" := by decide
theorem key_mt : ¬ (Sum.inr "mixed" : Key) = .inr "turn" := by decide
theorem key_gt : ¬ (Sum.inr "great" : Key) = .inr "turn" := by decide
theorem dw_mixed (x y z : V) : valV (dw x y z) (.inr "mixed" : Key) = some x := valV_pos rfl
theorem dw_great (x y z : V) : valV (dw x y z) (.inr "great" : Key) = some y := (valV_neg key_mg).trans (valV_pos rfl)
theorem dw_turn (x y z : V) : valV (dw x y z) (.inr "turn" : Key) = some z := (valV_neg key_mt).trans ((valV_neg key_gt).trans (valV_pos rfl))
theorem dw_put_turn (x y z v : V) : putK (dw x y z) (.inr "turn" : Key) v = dw x y v := by
  have e1 : ¬ (Sum.inr "mixed" : Key) = .inr "turn" := by decide
  have e2 : ¬ (Sum.inr "great" : Key) = .inr "turn" := by decide
  simp [putK, dw, e1, e2]
theorem dw_put_mixed (x y z v : V) : putK (dw x y z) (.inr "mixed" : Key) v = dw v y z := by
  have e1 : ¬ (Sum.inr "great" : Key) = .inr "mixed" := by decide
  have e2 : ¬ (Sum.inr "turn" : Key) = .inr "mixed" := by decide
  simp [putK, dw, e1, e2]
theorem dget_of {H : Hp} {a : Addr} {kvs : List (Key × V)} {k : Key} {v : V} (h : H a = some (.dK kvs)) (e : valV kvs k = some v) : DGet H a (kV k) (some v) := by
  rw [← e]
  exact DGet.k h
theorem dp_ints {K : PySem.W.Frag} {H : Hp} : ∀ ns : List Int, DpAll K H (ns.map V.int) (ns.map PyData.int)
  | [] => .nil
  | n :: ns => .cons (.int n) (dp_ints ns)
theorem lay_ints : ∀ ns : List Int, PyData.canLayAll0 (ns.map PyData.int) = true
  | [] => rfl
  | n :: ns => by
    show (PyData.canLay0 (.int n) && PyData.canLayAll0 (ns.map PyData.int)) = true
    rw [lay_ints ns]
    rfl
theorem shaped_ints (ns : List Int) : SeqAt.shaped (.list (ns.map PyData.int)) = true := by
  unfold SeqAt.shaped
  have h1 : (PyData.list (ns.map PyData.int)).canLay0 = true := lay_ints ns
  have h2 : (PyData.list (ns.map PyData.int)).depth ≤ 64 := by
    simp [PyData.depth, PySem.W.depth_ints]
  rw [h1, decide_eq_true h2]
  rfl
theorem ixN_nat {n j : Nat} (h : j < n) : ixN n (j : Int) = some j := by
  unfold ixN
  simp
  omega
/-- a draw's step -/
def StepO (a g : Addr) (H H' : Hp) : Prop := (∀ b o, b ≠ a → b ≠ g → H b = some o → H' b = some o) ∧ DrawO (some (a, g)) H'
theorem step_of {a g : Addr} {H H' : Hp} (k : ∀ b o, b ≠ a → b ≠ g → H b = some o → H' b = some o) (d : DrawO (some (a, g)) H') : StepO a g H H' := ⟨k, d⟩
theorem StepO.step {a g : Addr} {H H' : Hp} (st : StepO a g H H') (h : DrawOk (some (a, g)) H) : Step (some (a, g)) H H' := by
  obtain ⟨k, d⟩ := st
  refine ⟨fun b o n e => k b o (fun z => n (.inl ⟨_, rfl, .inl z⟩)) (fun z => n (.inl ⟨_, rfl, .inr z⟩)) e, d, tabm_stay h.2 fun b u e hu => ?_⟩
  obtain ⟨_, m, t, ns, e1, _, _, e2, _⟩ := h.1
  refine k b u (fun z => ?_) (fun z => ?_) e
  · rw [z, e1] at e
    cases e
    rcases hu with ⟨_, z⟩ | ⟨_, z⟩ | ⟨_, _, z⟩ <;> cases z
  · rw [z, e2] at e
    cases e
    rcases hu with ⟨_, z⟩ | ⟨_, z⟩ | ⟨_, _, z⟩ <;> cases z

/-- a new row of draws -/
def spBegun (K : PySem.W.Frag) : Sp := fun vs H Q _ => ∃ (a : Addr) (ns : List Int), vs = [.ref a] ∧ SqL K H a (ns.map V.int) ∧ ns.length ≤ 63 ∧ ∀ d g H', H d = none → H g = none → Same H H' → DrawO (some (d, g)) H' → Q (.ref d) H'
/-- the next number below a bound -/
def spNext : Sp := fun vs H Q _ => ∃ (a g : Addr) (b : Int), vs = [.ref a, .int b] ∧ DrawO (some (a, g)) H ∧ 0 < b ∧ b < 1073741824 ∧ ∀ r H', 0 ≤ r → r < b → StepO a g H H' → Q (.int r) H'
def wNextB (Q : D → Prop) : Cell → Prop
  | .dat (.int b) => (0 < b ∧ b < 1073741824) ∧ ∀ r, 0 ≤ r → r < b → Q (.int r)
  | _ => False
def w_next : FT := fun _ cs Q => match cs with
  | [.drw, x] => wNextB Q x
  | _ => False
theorem next_len : ∀ cs R, w_next never cs R → cs.length = 2 := fun cs R h => by
  unfold w_next at h
  split at h
  · rfl
  · exact h.elim
section
variable {P : Program} {w : World} {K : PySem.W.Frag} {mg : Str → Option Value} {base : Heap} {k : Nat}
theorem next_imp {vs : List V} {H : Hp} {Q : VK} {E : XK} (h : spD K 2 w_next vs H Q E) : spNext vs H Q E := by
  obtain ⟨hl, B, G, cs, R, hB, hW, hd, ha, hw, kk⟩ := h
  unfold w_next at hw
  split at hw
  · rename_i x
    cases ha with
    | cons r1 r2 =>
      cases r2 with
      | cons r2 r3 =>
        cases r3
        obtain ⟨a, g, rfl, rfl⟩ := r1
        cases x with
        | dat d =>
          have r2 : Rep K B H _ d := r2
          cases r2 with
          | int b => exact ⟨a, g, b, rfl, hd.1, hw.1.1, hw.1.2, fun r H' h0 h1 st => kk _ _ _ (st.step hd) (.int r) (hw.2 r h0 h1)⟩
          | _ => exact hw.elim
        | _ => exact hw.elim
  · exact hw.elim
/-- a def of the text, by its name -/
structure DefIn (K : PySem.W.Frag) (mg : Str → Option Value) (x : Str) (st : Stmt) (ps : List Str) : Prop where
  ex : ∃ f fd, Fun K x x st f fd ∧ mg x = some (.ref f) ∧ Binds K fd ps []
structure HasF (P : Program) (w : World) (K : PySem.W.Frag) (mg : Str → Option Value) (base : Heap) (x : Str) (k : Nat) (ps : List Str) (wf : FT) : Prop where
  ex : ∃ f fd, mg x = some (.ref f) ∧ PySem.W.keepIn K (.ref f) = true ∧ Binds K fd ps [] ∧ FnD P w K mg base k f fd ps wf
  len : ∀ cs R, wf never cs R → cs.length = ps.length
theorem hasF_of {x : Str} {st : Stmt} {ps N : List Str} {t : SD} (Df : DefIn K mg x st ps) (S : FnScope N ps (defScope st))
    (hbody : ∀ (f : Addr) (cdv : Value) (A : Around) (outer : List Env) (s : Shared) (H : Hp) (E : XK), A.guards = some [] → Room k (A.deeper (envOfC x (defScope st) s.heap.objs.size f cdv)) → DSs (cxOf CX0 P w K mg base N x (defScope st) f cdv A outer s H E).nox (defBody st) t) :
    HasF P w K mg base x (k + 1) ps (bodyD ps.length N.length t) := by
  obtain ⟨f, fd, F, hm, hb⟩ := Df.ex
  exact ⟨⟨f, fd, hm, F.kp, hb, fnD_of F S (hbody f)⟩, bodyD_len⟩
theorem hasF_next {x : Str} {st : Stmt} {ps : List Str} (Df : DefIn K mg x st ps) (hp : ps.length = 2) (h : ∀ f fd, Fun K x x st f fd → FnG P w K mg base CX0 k f fd ps spNext) : HasF P w K mg base x k ps w_next := by
  obtain ⟨f, fd, F, hm, hb⟩ := Df.ex
  refine ⟨⟨f, fd, hm, F.kp, hb, fun vs H Q E q => q.1, fun A outer s H args us vs Q E hg hr he hbt hv hs => (h f fd F).run A outer s H args us vs Q E hg hr he hbt hv (next_imp (by rw [← hp]; exact hs))⟩, fun cs R q => (next_len cs R q).trans hp.symm⟩
end
section
variable {X : Cx} {e : Expr} {es : List Expr} {ts : CT} {pos p : Pos} {k j : Nat} {ps : List Str} {wf : FT} {x : Str}
theorem de_f (F : HasF X.prog X.w X.K X.mg X.base x j ps wf) (hgd : X.A.guards = some []) (hr : Room k X.A) (ha : DC X (e :: es) ts) (hj : j ≤ k := by decide) (hg : Gl X x := by rfl) (hdb : (x == ("__debug__" : Str)) = false := by decide) (he : starEach (e :: es) X.env = (false, eval e X.env) :: starEach es X.env := by rfl)
    (hpl : (backTo pos (starEach es X.env)).any (·.1) = false := by rfl) : DE X (.Call (.Name x p) (e :: es) [] pos) (dCallF wf ts) := by
  obtain ⟨f, fd, hm, hk, hb, G⟩ := F.ex
  exact de_call G F.len hgd (hr.mono hj) hg hm hk hb ha hdb he hpl
theorem de_f0 (F : HasF X.prog X.w X.K X.mg X.base x j ps wf) (hgd : X.A.guards = some []) (hr : Room k X.A) (hj : j ≤ k := by decide) (hg : Gl X x := by rfl) (hdb : (x == ("__debug__" : Str)) = false := by decide) : DE X (.Call (.Name x p) [] [] pos) (dCallF wf cNil) := by
  obtain ⟨f, fd, hm, hk, hb, G⟩ := F.ex
  exact de_call0 G F.len hgd (hr.mono hj) hg hm hk hb hdb
end
/-! two names at once -/
section
variable {X : Cx} {a b : Expr} {t u : ET} {tn : NT} {pos : Pos}
def sPar (i j : Nat) (t u : ET) : SD := fun E z η => t E η fun x => u E η fun y => z.nx ((η.set i (.dat x)).set j (.dat y))
theorem ds_par (i j : Nat) {x y : Str} {px py pt : Pos} {kt k2 : Nat} {pt2 : Pos} (hc : X.calm = true) (hN : X.N.Nodup) (ha : DE X a t) (hb : DE X b u) (hi : X.N[i]? = some x := by rfl) (hj : X.N[j]? = some y := by rfl) (hij : i ≠ j := by decide) (hx : X.env.scope.names.lookup x = some .local := by rfl) (hy : X.env.scope.names.lookup y = some .local := by rfl)
    (hw : swappedStores [.Tuple [.Name x px, .Name y py] kt pt] (.Tuple [a, b] k2 pt2) X.env = pure (some [x, y]) := by rfl) (hs : swapsWithSole [.Tuple [.Name x px, .Name y py] kt pt] (.Tuple [a, b] k2 pt2) pos.line X.env = pure false := by rfl)
    (sa : starEach [a, b] X.env = (false, eval a X.env) :: starEach [b] X.env := by rfl) (sb : starEach [b] X.env = (false, eval b X.env) :: starEach [] X.env := by rfl) :
    DS X (.Assign [.Tuple [.Name x px, .Name y py] kt pt] (.Tuple [a, b] k2 pt2) pos) (sPar i j t u) := .of (ps_par hc hN hi hj hij hx hy (pa_cons ha.pe (pa_cons hb.pe pa_nil sb) sa) hw hs) fun σ H c O η E z g h => by
  refine ⟨c, O, η, E, _, g, h, fun dx vx H1 s1 r1 h1 => ⟨c, O, η, E, _, g.step s1, h1, fun dy vy H2 s2 r2 q => ⟨vx, vy, rfl, O, _, ?_, q⟩⟩⟩
  have g2 := (g.step s1).step s2
  exact (g2.set i (s2.rep s1.draw g.wO r1)).set j r2
def sParN (i j : Nat) (tn : NT) (u : ET) : SD := fun E z η => tn E η fun ds => u E η fun y => z.nx ((η.set i (.own ds)).set j (.dat y))
theorem parN_core {K : PySem.W.Frag} {σ : L2.St} {H H1 H2 : Hp} {c : Ctx} {O : Addr → Prop} {η : EnvD} {a : Addr} {vs : List V} {ds : List D} {dy : D} {vy : V} (g : Good K c O η σ H) (s1 : Step c.G H H1) (h0 : H a = none) (h1 : H1 a = some (.lst vs)) (r1 : RepAll K (fun b => O b ∨ b = a) H1 vs ds)
    (s2 : Step c.G H1 H2) (r2 : Rep K (fun b => O b ∨ b = a) H2 vy dy) (i j : Nat) : Good K c (fun b => O b ∨ b = a) ((η.set i (.own ds)).set j (.dat dy)) ((σ.set i (some (.ref a))).set j (some vy)) H2 := by
  have nw := (g.fresh0 h0).1
  have w1 : ∀ b, Wr c.G b → (O b ∨ b = a) := fun b w => .inl (g.wO b w)
  exact (g.setOwn (s1.trans s2) h0 (s2.keep a _ nw h1) (s2.repAll s1.draw w1 r1) i).set j r2
theorem ds_parN (i j : Nat) {x y : Str} {px py pt : Pos} {kt k2 : Nat} {pt2 : Pos} (hc : X.calm = true) (hN : X.N.Nodup) (ha : DN X a tn) (hb : DE X b u) (hi : X.N[i]? = some x := by rfl) (hj : X.N[j]? = some y := by rfl) (hij : i ≠ j := by decide) (hx : X.env.scope.names.lookup x = some .local := by rfl) (hy : X.env.scope.names.lookup y = some .local := by rfl)
    (hw : swappedStores [.Tuple [.Name x px, .Name y py] kt pt] (.Tuple [a, b] k2 pt2) X.env = pure (some [x, y]) := by rfl) (hs : swapsWithSole [.Tuple [.Name x px, .Name y py] kt pt] (.Tuple [a, b] k2 pt2) pos.line X.env = pure false := by rfl)
    (sa : starEach [a, b] X.env = (false, eval a X.env) :: starEach [b] X.env := by rfl) (sb : starEach [b] X.env = (false, eval b X.env) :: starEach [] X.env := by rfl) :
    DS X (.Assign [.Tuple [.Name x px, .Name y py] kt pt] (.Tuple [a, b] k2 pt2) pos) (sParN i j tn u) := by
  obtain ⟨T, p1, rd⟩ := ha.ex
  refine .of (ps_par hc hN hi hj hij hx hy (pa_cons p1 (pa_cons hb.pe pa_nil sb) sa) hw hs) fun σ H c O η E z g h => rd σ H c O η E _ _ g h fun v H1 ⟨ds, a, vs, e1, s1, h0, h1, r1, q1⟩ => ?_
  subst e1
  refine ⟨c, _, η, E, _, g.more s1 h0 h1, q1, fun dy vy H2 s2 r2 q => ⟨.ref a, vy, rfl, _, _, ⟨parN_core g.toGood s1 h0 h1 r1 s2 r2 i j, g.er⟩, q⟩⟩
/-- .. by a tuple that is made (a name is captured) -/
theorem ds_asgN (i j : Nat) {x y : Str} {px py pt : Pos} {kt k2 : Nat} {pt2 : Pos} (hc : X.calm = true) (hN : X.N.Nodup) (ha : DN X a tn) (hb : DE X b u) (hi : X.N[i]? = some x := by rfl) (hj : X.N[j]? = some y := by rfl) (hx : Loc X.env.scope x := by first | exact Or.inl rfl | exact Or.inr rfl) (hy : Loc X.env.scope y := by first | exact Or.inl rfl | exact Or.inr rfl)
    (hf : X.fn x = true ∨ X.env.scope.names.lookup x = some .local := by first | exact .inl rfl | exact .inr rfl) (hf' : X.fn y = true ∨ X.env.scope.names.lookup y = some .local := by first | exact .inl rfl | exact .inr rfl)
    (hs : swapsWithSole [.Tuple [.Name x px, .Name y py] kt pt] (.Tuple [a, b] k2 pt2) pos.line X.env = pure false := by rfl) (hw : swappedStores [.Tuple [.Name x px, .Name y py] kt pt] (.Tuple [a, b] k2 pt2) X.env = pure none := by rfl)
    (h1 : (assignEach [.Tuple [.Name x px, .Name y py] kt pt] X.env).map (·.2) = [assign (.Tuple [.Name x px, .Name y py] kt pt) X.env] := by rfl)
    (hn : (assignEach [.Name x px, .Name y py] X.env).length = 2 := by rfl) (hst : (assignEach [.Name x px, .Name y py] X.env).findIdx? (·.1) = none := by rfl)
    (g1 : (assignEach [.Name x px, .Name y py] X.env).map (·.2) = assign (.Name x px) X.env :: (assignEach [.Name y py] X.env).map (·.2) := by rfl) (g2 : (assignEach [.Name y py] X.env).map (·.2) = assign (.Name y py) X.env :: (assignEach [] X.env).map (·.2) := by rfl)
    (sa : starEach [a, b] X.env = (false, eval a X.env) :: starEach [b] X.env := by rfl) (sb : starEach [b] X.env = (false, eval b X.env) :: starEach [] X.env := by rfl) :
    DS X (.Assign [.Tuple [.Name x px, .Name y py] kt pt] (.Tuple [a, b] k2 pt2) pos) (sParN i j tn u) := by
  obtain ⟨T, p1, rd⟩ := ha.ex
  refine .of (ps_asg (pe_tup (pa_cons p1 (pa_cons hb.pe pa_nil sb) sa)) (pg_tup hc (pgs_cons (pg_name (i := i) hN hi hx hf) (pgs_cons (pg_name (i := j) hN hj hy hf') pgs_nil g2) g1) hn hst) hs hw h1) fun σ H c O η E z g h => rd σ H c O η E _ _ g h fun v H1 ⟨ds, a, vs, e1, s1, h0, h1, r1, q1⟩ => ?_
  subst e1
  refine ⟨c, _, η, E, _, g.more s1 h0 h1, q1, fun dy vy H2 s2 r2 q => ⟨(by decide : 2 ≤ sizeLine), fun T hT => ?_⟩⟩
  refine ⟨T, _, rfl, .inl (.inl upd_same), rfl, _, _, rfl, _, _, rfl, rfl, _, _, ⟨parN_core g.toGood s1 h0 h1 r1 (s2.trans (.alloc s2.draw hT)) (r2.same (same_upd hT)) i j, g.er⟩, q⟩
end
end DL

/-! DL10: order of tuples, ranges as lists and tuples. -/
namespace DL
open PySem PySem.Spec PyProof.Rows L2
section
variable {X : Cx} {a b e e2 : Expr} {es rest : List Expr} {pos p p2 q2 : Pos} {ta tb tc t u : ET} {ts : AT}
/-- two ints, or two tuples of one form -/
def oOrd (f : Int → Int → Bool) (g : D → D → Bool) : OpD
  | .int i, .int j, Q => Q (.bool (f i j))
  | .tuple xs, .tuple ys, Q => (PySem.W.alike (.tuple xs) (.tuple ys) = true ∧ (PyData.tuple xs).depth ≤ 64 ∧ PyData.hasDict (.tuple xs) = false ∧ PyData.hasDict (.tuple ys) = false) ∧ Q (.bool (g (.tuple xs) (.tuple ys)))
  | _, _, _ => False
def rOrdD (K : PySem.W.Frag) (g : D → D → Bool) : R2 := fun x y H Q => ∃ xs ys, Dp K H x (.tuple xs) ∧ Dp K H y (.tuple ys) ∧ PySem.W.alike (.tuple xs) (.tuple ys) = true ∧ (PyData.tuple xs).depth ≤ 64 ∧ Q (.bl (g (.tuple xs) (.tuple ys))) H
theorem ord_room {A : Around} {xs ys : List D} (hu : A.units + 64 < cLine) (h : (PyData.tuple xs).depth ≤ 64) : A.units + min (PyData.tuple xs).depth (PyData.tuple ys).depth < cLine := by
  have := Nat.min_le_left (PyData.tuple xs).depth (PyData.tuple ys).depth
  omega
theorem op_gtD (hu : X.A.units + 64 < cLine) : OpR X (compareOp .Gt) (rOrdD X.K fun x y => PySem.W.dataLt y x) := by
  intro pins s σ H x y v u Q I rx ry h
  obtain ⟨xs, ys, hx, hy, al, dp, q⟩ := h
  obtain ⟨as, r1⟩ := Dp.reads I _ x v hx rx
  obtain ⟨bs, r2⟩ := Dp.reads I _ y u hy ry
  exact PySem.W.gt_data r1 r2 al (fun z => nomatch z) (ord_room hu dp) ⟨.bl _, H, I, rfl, q⟩
theorem op_leD (hu : X.A.units + 64 < cLine) : OpR X (compareOp .LtE) (rOrdD X.K fun x y => !PySem.W.dataLt y x) := by
  intro pins s σ H x y v u Q I rx ry h
  obtain ⟨xs, ys, hx, hy, al, dp, q⟩ := h
  obtain ⟨as, r1⟩ := Dp.reads I _ x v hx rx
  obtain ⟨bs, r2⟩ := Dp.reads I _ y u hy ry
  exact PySem.W.le_data r1 r2 al (fun z => nomatch z) (ord_room hu dp) ⟨.bl _, H, I, rfl, q⟩
theorem op_geD (hu : X.A.units + 64 < cLine) : OpR X (compareOp .GtE) (rOrdD X.K fun x y => !PySem.W.dataLt x y) := by
  intro pins s σ H x y v u Q I rx ry h
  obtain ⟨xs, ys, hx, hy, al, dp, q⟩ := h
  obtain ⟨as, r1⟩ := Dp.reads I _ x v hx rx
  obtain ⟨bs, r2⟩ := Dp.reads I _ y u hy ry
  exact PySem.W.ge_data r1 r2 al (fun z => nomatch z) (ord_room hu dp) ⟨.bl _, H, I, rfl, q⟩
theorem cm_ord {op : CmpOp} {f : Int → Int → Bool} {g : D → D → Bool} (h1 : OpR X (compareOp op) (rI0 fun i j => .bl (f i j))) (h2 : OpR X (compareOp op) (rOrdD X.K g)) : CmpR X op (oOrd f g) := by
  refine ⟨_, OpR.or h1 h2, ?_⟩
  intro G O H x y dx dy Q R B rx ry h k
  cases rx with
  | int i =>
    cases ry with
    | int j => exact .inl ⟨i, j, rfl, rfl, way_here B k (.bl _) h⟩
    | _ => exact h.elim
  | tup h1 r1 =>
    cases ry with
    | tup h2 r2 => exact .inr ⟨_, _, .tup h1.sq (r1.dp (nd_tuple h.1.2.2.1)), .tup h2.sq (r2.dp (nd_tuple h.1.2.2.2)), h.1.1, h.1.2.1, way_here B k (.bl _) h.2⟩
    | _ => exact h.elim
  | _ => cases ry <;> exact h.elim
abbrev oGt2 : OpD := oOrd (fun i j => decide (j < i)) fun x y => PySem.W.dataLt y x
abbrev oLe2 : OpD := oOrd (fun i j => decide (i ≤ j)) fun x y => !PySem.W.dataLt y x
abbrev oGe2 : OpD := oOrd (fun i j => decide (j ≤ i)) fun x y => !PySem.W.dataLt x y
theorem cm_gt2 (hu : X.A.units + 65 < cLine) : CmpR X .Gt oGt2 := cm_ord op_gt (op_gtD (Nat.lt_of_succ_lt hu))
theorem cm_le2 (hu : X.A.units + 65 < cLine) : CmpR X .LtE oLe2 := cm_ord op_le (op_leD (Nat.lt_of_succ_lt hu))
theorem cm_ge2 (hu : X.A.units + 65 < cLine) : CmpR X .GtE oGe2 := cm_ord op_ge (op_geD (Nat.lt_of_succ_lt hu))

/-! list(range(..)), tuple(range(..)) -/
theorem rgV_rep {K : PySem.W.Frag} {O : Addr → Prop} {H : Hp} {i j : Int} : RepAll K O H (rgV i j) (rangeD i (j - i).toNat) := by
  unfold rgV rangeD
  induction List.range (j - i).toNat with
  | nil => exact .nil
  | cons n l ih => exact .cons (.int _) ih
/-- the bounds of a range -/
abbrev GRg := XP → EnvD → (Int → Int → Prop) → Prop
def gRg1 (ta : ET) : GRg := fun E η Q => ta E η fun x => match x with | .int j => RgOk 0 j ∧ Q 0 j | _ => False
def gRg2 (ta tb : ET) : GRg := fun E η Q => ta E η fun x => tb E η fun y => match x, y with | .int i, .int j => RgOk i j ∧ Q i j | _, _ => False
/-- a range's rule -/
def RRg (X : Cx) (e : Expr) (t : GRg) : Prop := ∃ te, PRg X e te ∧ ∀ (σ : L2.St) (H : Hp) (c : Ctx) (O : Addr → Prop) (η : EnvD) (E : XP) (Q : Int → Int → Prop) (R : Int → Int → Hp → Prop), Gd X c E O η σ H → t E η Q → (∀ i j H', Step c.G H H' → RgOk i j → Q i j → R i j H') → te σ H R
theorem rr_1 (hg : Gl X "range") (hm : X.mg "range" = none) (ha : DE X a ta) (na : starEach [a] X.env = (false, eval a X.env) :: starEach [] X.env := by rfl) : RRg X (.Call (.Name "range" p) [a] [] pos) (gRg1 ta) := by
  refine ⟨_, prg_1 hg hm ha.pe na, fun σ H c O η E Q R g h k => ⟨c, O, η, E, _, g, h, fun d v H1 s1 r1 q => ?_⟩⟩
  cases r1 <;> first | exact ⟨_, rfl, k _ _ H1 s1 q.1 q.2⟩ | exact q.elim
theorem rr_2 (hg : Gl X "range") (hm : X.mg "range" = none) (ha : DE X a ta) (hb : DE X b tb) (na : starEach [a, b] X.env = (false, eval a X.env) :: starEach [b] X.env := by rfl) (nb : starEach [b] X.env = (false, eval b X.env) :: starEach [] X.env := by rfl) (hp : (backTo pos (starEach [b] X.env)).any (·.1) = false := by rfl) :
    RRg X (.Call (.Name "range" p) [a, b] [] pos) (gRg2 ta tb) := by
  refine ⟨_, prg_2 hg hm ha.pe hb.pe na nb hp, fun σ H c O η E Q R g h k => ⟨c, O, η, E, _, g, h, fun d v H1 s1 r1 q => ?_⟩⟩
  refine ⟨c, O, η, E, _, g.step s1, q, fun d2 v2 H2 s2 r2 q2 => ?_⟩
  cases r1 with
  | int i => cases r2 <;> first | exact ⟨_, _, rfl, rfl, k _ _ H2 (s1.trans s2) q2.1 q2.2⟩ | exact q2.elim
  | _ => cases r2 <;> exact q2.elim
def nRg (t : GRg) : NT := fun E η Q => t E η fun i j => Q (rangeD i (j - i).toNat)
def dTupRg (t : GRg) : ET := fun E η Q => t E η fun i j => Q (.tuple (rangeD i (j - i).toNat))
variable {tg : GRg}
theorem dn_listRg (hc : X.calm = true) (hg : Gl X "list") (hm : X.mg "list" = none) (h : RRg X e tg) (na : starEach [e] X.env = (false, eval e X.env) :: starEach [] X.env := by rfl) : DN X (.Call (.Name "list" p) [e] [] pos) (nRg tg) := by
  obtain ⟨te, h1, h2⟩ := h
  exact .of (pe_listRg hc hg hm h1 na) fun σ H c O η E Q R g ht k => h2 σ H c O η E _ _ g ht fun i j H1 s1 ok q => ⟨ok, newk g s1 rgV_rep q k⟩
theorem de_tupRg (hc : X.calm = true) (hg : Gl X "tuple") (hm : X.mg "tuple" = none) (h : RRg X e tg) (na : starEach [e] X.env = (false, eval e X.env) :: starEach [] X.env := by rfl) : DE X (.Call (.Name "tuple" p) [e] [] pos) (dTupRg tg) := by
  obtain ⟨te, h1, h2⟩ := h
  exact .of (pe_tupRg hc hg hm h1 na) fun σ H c O η E Q g ht => h2 σ H c O η E _ _ g ht fun i j H1 s1 ok q => ⟨ok, way_newT (g.step s1).base (way_out s1) rgV_rep q⟩
end
end DL

/-! DL11: the law's def, what the head tells. -/
namespace DL
open PySem PySem.Spec PyProof.Rows L2
theorem hu65 {k : Nat} {A : Around} (r : Room k A) : A.units + 65 < cLine := by
  have := r.un
  omega
/-- what the law has to keep -/
def spLaw (K : PySem.W.Frag) : Sp := fun vs H Q _ => ∃ (a : Addr) (ns : List Int), vs = [.ref a] ∧ ns.length ≤ 63 ∧ OnlyL H ∧ SqL K H a (ns.map V.int) ∧ ∀ H', Q (.bl true) H'
theorem spLaw_len {K : PySem.W.Frag} {vs : List V} {H : Hp} {Q : VK} {E : XK} (h : spLaw K vs H Q E) : vs.length = ["_law_script"].length := by
  obtain ⟨a, ns, rfl, _⟩ := h
  rfl
/-- the ends that the law may take -/
def zLaw : EndsD := { nx := fun _ => False, rt := fun d => d = .bool true }
def lawEnv (n : Nat) (ns : List Int) : EnvD := .scr ns :: .drw :: List.replicate n .un
theorem scr_of {K : PySem.W.Frag} {H : Hp} {a : Addr} {ns : List Int} (hO : OnlyL H) (hS : SqL K H a (ns.map V.int)) : ScrAt K H a ns := by
  rcases hS with (h | h) | h
  · rcases hO.1 a with z | ⟨o, xs, z⟩ | ⟨ps, z⟩
    · rw [h] at z; cases z
    · rw [h] at z; cases z
    · rw [h] at z; cases z
  · exact .inl h
  · exact .inr h
theorem law_go {X : Cx} {t : SD} {N : List Str} {n : Nat} {vs : List V} {H : Hp} {Q : VK} {E : XK} (hN : N.length = n + 2) (h : spLaw X.K vs H Q E) (pl : ∀ ns : List Int, ns.length ≤ 63 → t never zLaw (lawEnv n ns)) :
    tSeq (tAsg (tCB (fun vs H Q => spBegun X.K vs H Q E0) (tCons (tVar 0) tNil)) (gName 1)) (liftS X t) { nx := fun _ H' => Q .non H', rt := Q } (start N vs) H := by
  obtain ⟨a, ns, rfl, hl, hO, hS, q⟩ := h
  have e : start N [V.ref a] = some (.ref a) :: none :: List.replicate n none := by
    unfold L2.start
    rw [show ([V.ref a] : List V).length = 1 from rfl, hN, show n + 2 - 1 = n + 1 by omega]
    rfl
  rw [e]
  refine ⟨.ref a, rfl, a, ns, rfl, hS, hl, fun d g H' hd hg sm dr => ?_⟩
  have ad : d ≠ g := dr.1
  have drk : DrawOk (some (d, g)) H' := ⟨dr, hO.2.ext sm⟩
  refine ⟨⟨Wr (some (d, g)), some (d, g), H', []⟩, Wr (some (d, g)), lawEnv n ns, never, zLaw, ?_, pl ns hl, fun σ' H'' z => ?_, fun v H'' z => ?_, fun σ' H'' z => ?_, fun σ' H'' z => ?_⟩
  · refine ⟨⟨?_, fun b hb => hb, fun b hb => hb, DrawOk.tr drk, fun _ _ _ x => x, drk, ?_, ?_, fun p hp => absurd hp (by simp)⟩, eok_never⟩
    · show (lawEnv n ns).length = (some (V.ref a) :: some (V.ref d) :: List.replicate n none).length
      simp [lawEnv]
    · intro i x hx
      match i, hx with
      | 0, hx =>
        cases hx
        exact ⟨a, rfl, (scr_of hO hS).map fun b o u z => sm b _ z⟩
      | 1, hx =>
        cases hx
        exact ⟨d, g, rfl, rfl⟩
      | i + 2, hx =>
        have hx : (List.replicate n Cell.un)[i]? = some x := hx
        rw [List.getElem?_replicate] at hx
        split at hx
        · cases hx; trivial
        · cases hx
    · intro i j ds es b hi _ _ _
      exfalso
      match i, hi with
      | 0, hi => cases hi
      | 1, hi => cases hi
      | i + 2, hi =>
        have hi : (List.replicate n Cell.un)[i]? = some (.own ds) := hi
        rw [List.getElem?_replicate] at hi
        split at hi <;> cases hi
  · obtain ⟨O, η, g', z⟩ := z
    exact z.elim
  · obtain ⟨d', k1, k2, r, z⟩ := z
    have z : d' = .bool true := z
    subst z
    cases r
    exact q _
  · obtain ⟨O, η, g', z⟩ := z
    exact z.elim
  · obtain ⟨O, η, g', z⟩ := z
    exact z.elim
/-- a def that the top has written -/
def DefAt (K : PySem.W.Frag) (x : Str) (st : Stmt) : Prop := ∃ (f : Addr) (oc : Value) (od : Option Addr) (kV doc pm : Value) (an : Option Addr) (cdv ct : Value) (osl : Array (Option Value)), PySem.W.nsIn K mainGlobals x = some (some (.ref f)) ∧
  K.lookup f = some ⟨oc, od, .func (PySem.W.fnOf x x (defArgs st) (defBody st) (defScope st) .none kV doc pm an cdv ct), osl⟩ ∧ PySem.W.codeIn K cdv x = true ∧ PySem.W.keepIn K (.ref f) = true
section
variable {P : Program} {w : World} {K : PySem.W.Frag} {mg : Str → Option Value} {h : Heap} {x : Str} {st : Stmt} {ps : List Str} {k : Nat}
theorem defAt {f : Addr} {oc : Value} {od : Option Addr} {kV doc pm : Value} {an : Option Addr} {cdv ct : Value} {osl : Array (Option Value)} (a : PySem.W.nsIn K mainGlobals x = some (some (.ref f)))
    (l : K.lookup f = some ⟨oc, od, .func (PySem.W.fnOf x x (defArgs st) (defBody st) (defScope st) .none kV doc pm an cdv ct), osl⟩) (c : PySem.W.codeIn K cdv x = true) (k : PySem.W.keepIn K (.ref f) = true) : DefAt K x st := ⟨f, oc, od, kV, doc, pm, an, cdv, ct, osl, a, l, c, k⟩
def ConI (K : PySem.W.Frag) (x : Str) (i : Int) : Prop := ∃ t, PySem.W.nsIn K mainGlobals x = some (some (.int i t))
def ConS (K : PySem.W.Frag) (x : Str) (y : Str) : Prop := ∃ t, PySem.W.nsIn K mainGlobals x = some (some (.str y t))
theorem conI {i : Int} {t : Tok} (a : PySem.W.nsIn K mainGlobals x = some (some (.int i t))) : ConI K x i := ⟨t, a⟩
theorem conS {y : Str} {t : Tok} (a : PySem.W.nsIn K mainGlobals x = some (some (.str y t))) : ConS K x y := ⟨t, a⟩
abbrev BindsAs (x : Str) (st : Stmt) (ps : List Str) : Prop := ∀ (kV doc pm : Value) (an : Option Addr) (cdv ct : Value) (us : List Value), us.length = ps.length → bindArgs (PySem.W.fnOf x x (defArgs st) (defBody st) (defScope st) .none kV doc pm an cdv ct) ⟨us, []⟩ = pure (ps.zip us)
theorem defIn (X : K.In h) (G : h.Ns mainGlobals mg) (a : DefAt K x st) (hb : BindsAs x st ps) : DefIn K mg x st ps := by
  obtain ⟨f, oc, od, kV, doc, pm, an, cdv, ct, osl, a1, l1, c1, k1⟩ := a
  have F := fun_mk (st := st) l1 c1 k1
  exact ⟨⟨f, _, F, PySem.W.mg_of X G a1, F.binds hb⟩⟩
theorem law_fin {fa : Addr} (X : K.In h) (G : h.Ns mainGlobals mg) (hmg : mg "law" = some (.ref fa)) (a : DefAt K "law" st) (hb : BindsAs "law" st ["_law_script"])
    (ok : ∀ (base : Heap) (f : Addr) (fd : FuncData), K.In base → base.Ns mainGlobals mg → Fun K "law" "law" st f fd → FnG P w K mg base CX0 k f fd ["_law_script"] (spLaw K)) :
    ∃ fd : FuncData, (∀ (s : Shared) (u : Value), BindsTo s fd ⟨[u], []⟩ [("_law_script", u)]) ∧ ∀ base : Heap, K.In base → base.Ns mainGlobals mg → FnG P w K mg base CX0 k fa fd ["_law_script"] (spLaw K) := by
  obtain ⟨f, oc, od, kV, doc, pm, an, cdv, ct, osl, a1, l1, c1, k1⟩ := a
  have e := hmg.symm.trans (PySem.W.mg_of X G a1)
  cases e
  have F := fun_mk (st := st) l1 c1 k1
  exact ⟨_, fun s u => .of_eq (hb kV doc pm an cdv ct [u] rfl), fun base b1 b2 => ok base _ _ b1 b2 F⟩
end
end DL

/-! DL12: tuple * int. -/
namespace DL
open PySem PySem.Spec PyProof.Rows L2
theorem tuple_once (l : Addr) (items : Array Value) (n : Nat) (dd : Option Addr) (sl : Array (Option Value)) (u : Tok) :
    Meets (Builtin.«tuple.__mul__» ⟨[.ref l, .int 1 u], []⟩) (fun _ R s => s.heap.get? l = some { cls := .type "tuple", dict := dd, data := .seq items n, slots := sl } ∧ R (.ok (.ret (Value.ref l))) s) :=
  .of_wp fun prog w A R s h => by
    obtain ⟨hp, g, d, tk, os⟩ := s
    obtain ⟨hl, h⟩ := h
    have f1 := AutoSeq1.idx_int
    have c0 : (decide ((1 : Int) < -(2 ^ 63)) || decide ((1 : Int) ≥ 2 ^ 63)) = false := by decide
    have c1 : (items.isEmpty || (1 : Int) == 1) = true := by rw [show ((1 : Int) == 1) = true by decide, Bool.or_true]
    wp_walk using wpAny_loadPart' hl
    repeat (first
      | (refine wpAny_ite_false (decide_eq_false (by rw [c0]; exact Bool.false_ne_true)) ?_; wp_walk using wpAny_loadPart' hl)
      | (refine wpAny_ite_true (decide_eq_true c1) ?_; wp_walk using wpAny_loadPart' hl))
    exact ⟨_, rfl, h⟩
section
variable {X : Cx} {a b : Expr} {pos : Pos} {ta tb : ET}
def rOnce (K : PySem.W.Frag) : R2 := fun x y H Q => ∃ l xs, x = .ref l ∧ y = .int 1 ∧ SqT K H l xs ∧ Q (.ref l) H
theorem op_once : OpR X (binaryOp .Mult) (rOnce X.K) := by
  intro pins s σ H x y v u Q I rx ry h
  obtain ⟨l, xs, rfl, rfl, hT, q⟩ := h
  cases rx
  obtain ⟨t, rfl⟩ := ry
  obtain ⟨its, r, ⟨⟨cls, dd, data, sl⟩, ho, hc, n, hd⟩, hs⟩ := I.tuple hT
  simp only at hc hd
  subst hc hd
  refine wpAny_binaryOp_repeat_ref (T := "tuple") (U := "int") (by decide) ⟨_, ho, rfl⟩ (fun s' => typeIs_int s' 1 t) noFill_tuple_mul F.fills_int_mul F.slot_int_rmul repeat_tuple F.slot_int_index.lookup
    (call_meets F.slot_int_rmul (typeIs_int s 1 t) F.entry_int_rmul (F.args_int_rmul_2 _ _) (int_rmul_tuple 1 t l its.toArray n dd sl)
      ⟨ho, rfl, ⟨_, ho, rfl⟩, call_meets F.slot_tuple_mul ⟨_, ho, rfl⟩ F.entry_tuple_mul (F.args_tuple_mul_2 _ _) (tuple_once l its.toArray n dd sl t) ⟨ho, ?_⟩⟩)
  exact ⟨.ref l, H, I, rfl, q⟩
/-- *, tuples among them -/
def oMul2 : OpD
  | .tuple xs, .int j, Q => (xs ≠ [] ∧ 1 ≤ j ∧ j ≤ 1000 ∧ xs.length ≤ 1000) ∧ Q (.tuple (List.replicate j.toNat xs).flatten)
  | .int i, .int j, Q => CMul i j ∧ Q (.int (i * j))
  | .list xs, .int j, Q => (0 ≤ j ∧ j < 2 ^ 63 ∧ xs.length * j.toNat ≤ sizeLine) ∧ Q (.list (List.replicate j.toNat xs).flatten)
  | _, _, _ => False
theorem de_mul2 (ha : DE X a ta) (hb : DE X b tb) : DE X (.BinOp a .Mult b pos) (dOp oMul2 ta tb) := by
  refine de_op (OpR.or op_mul (OpR.or op_rep (OpR.or op_once op_repT))) ?_ ha hb
  intro G O H x y dx dy Q R B rx ry h k
  cases rx with
  | int i =>
    cases ry with
    | int j => exact .inl ⟨i, j, rfl, rfl, h.1, way_here B k (.int _) h.2⟩
    | _ => exact h.elim
  | lst o1 h1 r1 =>
    cases ry with
    | int j => exact .inr (.inl ⟨_, j, _, rfl, rfl, h1, by have := h.1.1; omega, h.1.2.1, by rw [r1.length]; exact h.1.2.2, way_new B k (r1.rep _) h.2⟩)
    | _ => exact h.elim
  | @tup l xs ds h1 r1 =>
    cases ry with
    | int j =>
      obtain ⟨⟨c1, c2, c3, c4⟩, q⟩ := h
      by_cases e : j = 1
      · subst e
        refine .inr (.inr (.inl ⟨_, _, rfl, rfl, h1.sq, way_here B k (.tup h1 r1) ?_⟩))
        have e2 : (List.replicate (1 : Int).toNat ds).flatten = ds := by
          show (List.replicate 1 ds).flatten = ds
          simp
        rwa [e2] at q
      · refine .inr (.inr (.inr ⟨_, j, xs, rfl, rfl, h1.sq, fun z => ?_, by omega, c3, by rw [r1.length]; exact c4, way_newT B k (r1.rep _) q⟩))
        subst z
        cases r1
        exact c1 rfl
    | _ => exact h.elim
  | _ => cases ry <;> exact h.elim
end
end DL

/-! DL13: several names at once: plain things and new lists. -/
namespace DL
open PySem PySem.Spec PyProof.Rows L2
section
variable {K : PySem.W.Frag} {c : Ctx} {O O' : Addr → Prop} {η η' ζ : EnvD} {σ σ' τ : L2.St} {H H1 : Hp}
/-- the same things under other numbers -/
theorem Good.renum (g : Good K c O η σ H) (f : Nat → Nat) (hl : η'.length = σ'.length) (h : ∀ m x, η'[m]? = some x → η[f m]? = some x ∧ σ'[m]?.join = σ[f m]?.join) (inj : ∀ m n x y, η'[m]? = some x → η'[n]? = some y → f m = f n → m = n) : Good K c O η' σ' H where
  len := hl
  hB := g.hB
  hW := g.hW
  hT := g.hT
  keep := g.keep
  draw := g.draw
  cell := fun m x hm => by
    obtain ⟨h1, h2⟩ := h m x hm
    rw [h2]
    exact g.cell _ x h1
  inj := fun m n ds es a h1 h2 h3 h4 => by
    obtain ⟨k1, k2⟩ := h m _ h1
    obtain ⟨l1, l2⟩ := h n _ h2
    exact inj m n _ _ h1 h2 (g.inj _ _ ds es a k1 l1 (k2 ▸ h3) (l2 ▸ h4))
  fr := g.fr
theorem Good.head (g : Good K c O (η ++ ζ) (σ ++ τ) H) (hl : η.length = σ.length) : Good K c O η σ H := g.renum id hl (fun m x hm => by
  have := (List.getElem?_eq_some_iff.mp hm).1
  exact ⟨by rw [id, List.getElem?_append_left this]; exact hm, by rw [id, List.getElem?_append_left (by omega)]⟩) fun _ _ _ _ _ _ e => e
/-- the first of the pending things is stored at i -/
theorem Good.store {x : Cell} {v : Option V} (g : Good K c O (η ++ x :: ζ) (σ ++ v :: τ) H) (hl : η.length = σ.length) (i : Nat) : Good K c O (η.set i x ++ ζ) (σ.set i v ++ τ) H := by
  have ln := g.len
  simp only [List.length_append, List.length_cons] at ln
  refine g.renum (fun m => if m < η.length then (if m = i then η.length else m) else m + 1) (by simp only [List.length_append, List.length_set]; omega) (fun m y hm => ?_) fun m n y z hm hn e => ?_
  · by_cases h1 : m < η.length
    · have hm2 : (η.set i x)[m]? = some y := by rwa [List.getElem?_append_left (by rw [List.length_set]; exact h1)] at hm
      have e1 : (σ.set i v ++ τ)[m]? = (σ.set i v)[m]? := List.getElem?_append_left (by rw [List.length_set]; omega)
      by_cases h2 : m = i
      · subst h2
        rw [List.getElem?_set_self h1] at hm2
        cases hm2
        have fm : (if m < η.length then (if m = m then η.length else m) else m + 1) = η.length := by
          rw [if_pos h1, if_pos rfl]
        rw [fm, e1, List.getElem?_set_self (by omega)]
        refine ⟨by rw [List.getElem?_append_right (Nat.le_refl _), Nat.sub_self]; rfl, ?_⟩
        rw [hl, List.getElem?_append_right (Nat.le_refl _), Nat.sub_self]
        rfl
      · rw [List.getElem?_set_ne (Ne.symm h2)] at hm2
        have fm : (if m < η.length then (if m = i then η.length else m) else m + 1) = m := by
          rw [if_pos h1, if_neg h2]
        rw [fm, e1, List.getElem?_set_ne (Ne.symm h2)]
        exact ⟨by rw [List.getElem?_append_left h1]; exact hm2, by rw [List.getElem?_append_left (by omega)]⟩
    · have hm2 : ζ[m - η.length]? = some y := by rwa [List.getElem?_append_right (by rw [List.length_set]; omega), List.length_set] at hm
      have fm : (if m < η.length then (if m = i then η.length else m) else m + 1) = m + 1 := by
        rw [if_neg h1]
      have e1 : m + 1 - η.length = (m - η.length) + 1 := by omega
      have e2 : m + 1 - σ.length = (m - σ.length) + 1 := by omega
      rw [fm]
      refine ⟨by rw [List.getElem?_append_right (by omega), e1, List.getElem?_cons_succ]; exact hm2, ?_⟩
      rw [List.getElem?_append_right (by rw [List.length_set]; omega), List.length_set, List.getElem?_append_right (by omega), e2, List.getElem?_cons_succ]
  · have e : (if m < η.length then (if m = i then η.length else m) else m + 1) = (if n < η.length then (if n = i then η.length else n) else n + 1) := e
    by_cases h1 : m < η.length
    · by_cases h2 : n < η.length
      · rw [if_pos h1, if_pos h2] at e
        split at e <;> split at e <;> omega
      · rw [if_pos h1, if_neg h2] at e
        split at e <;> omega
    · by_cases h2 : n < η.length
      · rw [if_neg h1, if_pos h2] at e
        split at e <;> omega
      · rw [if_neg h1, if_neg h2] at e
        omega
/-- one thing more, ahead of the pending ones -/
theorem Good.ahead {x : Cell} {v : V} (g : Good K c O (η ++ ζ) (σ ++ τ) H) (hl : η.length = σ.length) (hx : CellOk K c O H (some v) x) (ne : ∀ (ds : List D) (i : Nat) (es : List D) (a : Addr), x = .own ds → v = .ref a → (η ++ ζ)[i]? = some (.own es) → (σ ++ τ)[i]?.join ≠ some (.ref a)) :
    Good K c O (η ++ x :: ζ) (σ ++ some v :: τ) H where
  len := by
    have := g.len
    simp only [List.length_append, List.length_cons] at this ⊢
    omega
  hB := g.hB
  hW := g.hW
  hT := g.hT
  keep := g.keep
  draw := g.draw
  fr := g.fr
  cell := fun m y hm => by
    rcases Nat.lt_trichotomy m η.length with h | h | h
    · rw [List.getElem?_append_left h] at hm
      have := g.cell m y (by rw [List.getElem?_append_left h]; exact hm)
      rw [List.getElem?_append_left (by omega)] at this ⊢
      exact this
    · subst h
      rw [List.getElem?_append_right (Nat.le_refl _), Nat.sub_self] at hm
      cases hm
      rw [hl, List.getElem?_append_right (Nat.le_refl _), Nat.sub_self]
      exact hx
    · obtain ⟨k, rfl⟩ : ∃ k, m = η.length + k + 1 := ⟨m - η.length - 1, by omega⟩
      rw [List.getElem?_append_right (by omega), show η.length + k + 1 - η.length = k + 1 by omega, List.getElem?_cons_succ] at hm
      have := g.cell (η.length + k) y (by rw [List.getElem?_append_right (by omega), show η.length + k - η.length = k by omega]; exact hm)
      rw [List.getElem?_append_right (by omega), show η.length + k - σ.length = k by omega] at this
      rw [List.getElem?_append_right (by omega), show η.length + k + 1 - σ.length = k + 1 by omega, List.getElem?_cons_succ]
      exact this
  inj := by
    -- where a number stood before
    have back : ∀ (m : Nat) (y : Cell), (η ++ x :: ζ)[m]? = some y → (m = η.length ∧ y = x ∧ (σ ++ some v :: τ)[m]?.join = some v) ∨ ∃ k, (η ++ ζ)[k]? = some y ∧ (σ ++ some v :: τ)[m]?.join = (σ ++ τ)[k]?.join ∧ m = (if k < η.length then k else k + 1) := fun m y hm => by
      rcases Nat.lt_trichotomy m η.length with h | h | h
      · refine .inr ⟨m, ?_, ?_, by rw [if_pos h]⟩
        · rw [List.getElem?_append_left h] at hm ⊢
          exact hm
        · rw [List.getElem?_append_left (by omega), List.getElem?_append_left (by omega)]
      · subst h
        rw [List.getElem?_append_right (Nat.le_refl _), Nat.sub_self] at hm
        cases hm
        refine .inl ⟨rfl, rfl, ?_⟩
        rw [hl, List.getElem?_append_right (Nat.le_refl _), Nat.sub_self]
        rfl
      · obtain ⟨k, rfl⟩ : ∃ k, m = η.length + k + 1 := ⟨m - η.length - 1, by omega⟩
        rw [List.getElem?_append_right (by omega), show η.length + k + 1 - η.length = k + 1 by omega, List.getElem?_cons_succ] at hm
        refine .inr ⟨η.length + k, ?_, ?_, by rw [if_neg (by omega)]⟩
        · rw [List.getElem?_append_right (by omega), show η.length + k - η.length = k by omega]
          exact hm
        · rw [List.getElem?_append_right (by omega), show η.length + k + 1 - σ.length = k + 1 by omega, List.getElem?_cons_succ, List.getElem?_append_right (by omega), show η.length + k - σ.length = k by omega]
    intro m n ds es a h1 h2 h3 h4
    rcases back m _ h1 with ⟨p1, p2, p3⟩ | ⟨k, p1, p2, p3⟩
    · rcases back n _ h2 with ⟨q1, _, _⟩ | ⟨l, q1, q2, q3⟩
      · omega
      · rw [p3] at h3
        cases h3
        rw [q2] at h4
        exact absurd h4 (ne ds l es a p2.symm rfl q1)
    · rcases back n _ h2 with ⟨q1, q2, q3⟩ | ⟨l, q1, q2, q3⟩
      · rw [q3] at h4
        cases h4
        rw [p2] at h3
        exact absurd h3 (ne es k ds a q2.symm rfl p1)
      · rw [p2] at h3
        rw [q2] at h4
        have := g.inj k l ds es a p1 q1 h3 h4
        subst this
        rw [p3, q3]
end
/-! ### lists of things, plain or new -/
structure MOut (K : PySem.W.Frag) (c : Ctx) (O : Addr → Prop) (η : EnvD) (σ : L2.St) (H : Hp) (cs : List Cell) (vs : List V) (H' : Hp) (O' : Addr → Prop) : Prop where
  st : Step c.G H H'
  up : ∀ b, O b → O' b
  dn : ∀ b, O' b → O b ∨ H b = none
  gd : Good K c O' (η ++ cs) (σ ++ vs.map some) H'
  len : cs.length = vs.length
  new : ∀ (j : Nat) (ds : List D), cs[j]? = some (.own ds) → ∃ b, vs[j]? = some (.ref b) ∧ H b = none
def liftM (X : Cx) (t : MT) : TA := fun σ H R => ∃ (c : Ctx) (O : Addr → Prop) (η : EnvD) (E : XP) (Q : List Cell → Prop), Gd X c E O η σ H ∧ t E η Q ∧ ∀ cs vs H' O', MOut X.K c O η σ H cs vs H' O' → Q cs → R vs H'
structure DM (X : Cx) (es : List Expr) (t : MT) : Prop where
  pa : PA X es (liftM X t)
def mNil : MT := fun _ _ Q => Q []
def mD (t : ET) (ms : MT) : MT := fun E η Q => t E η fun d => ms E η fun cs => Q (.dat d :: cs)
def mN (t : NT) (ms : MT) : MT := fun E η Q => t E η fun ds => ms E η fun cs => Q (.own ds :: cs)
section
variable {K : PySem.W.Frag} {c : Ctx} {O O2 : Addr → Prop} {G : Option (Addr × Addr)} {H H1 H2 : Hp}
theorem Rep.on (st : Step G H1 H2) (dr : DrawOk G H1) (hW : ∀ a, Wr G a → O a) (dn : ∀ b, O2 b → O b ∨ H1 b = none) {d : D} {v : V} (r : Rep K O H1 v d) : Rep K O2 H2 v d :=
  r.map (fun a _ o e => ⟨fun z => (dn a z).elim o fun q => (by rw [q] at e; cases e), st.keep a _ (fun z => o (hW a z)) e⟩) fun a xs e => st.keep a _ (dr.tup a xs e) e
theorem RepAll.on (st : Step G H1 H2) (dr : DrawOk G H1) (hW : ∀ a, Wr G a → O a) (dn : ∀ b, O2 b → O b ∨ H1 b = none) {d : List D} {v : List V} (r : RepAll K O H1 v d) : RepAll K O2 H2 v d :=
  r.map (fun a _ o e => ⟨fun z => (dn a z).elim o fun q => (by rw [q] at e; cases e), st.keep a _ (fun z => o (hW a z)) e⟩) fun a xs e => st.keep a _ (dr.tup a xs e) e
end
section
variable {X : Cx} {e : Expr} {es : List Expr} {t : ET} {tn : NT} {ms : MT}
theorem dm_nil : DM X [] mNil := ⟨⟨fun pos pins s σ H R I ⟨c, O, η, E, Q, g, q, k⟩ => pa_nil.run pos pins s σ H R I
  (k [] [] H O ⟨.refl g.draw, fun _ h => h, fun _ h => .inl h, by rw [List.append_nil, List.map_nil, List.append_nil]; exact g.toGood, rfl, fun j ds h => by simp at h⟩ q)⟩⟩
theorem dm_d (h : DE X e t) (hr : DM X es ms) (hs : starEach (e :: es) X.env = (false, eval e X.env) :: starEach es X.env := by rfl) : DM X (e :: es) (mD t ms) := ⟨⟨fun pos pins s σ H R I ⟨c, O, η, E, Q, g, q, k⟩ => (pa_cons h.pe hr.pa hs).run pos pins s σ H R I (by
  refine ⟨c, O, η, E, _, g, q, fun d v H1 s1 r1 q1 => ⟨c, O, η, E, _, g.step s1, q1, fun cs vs H2 O2 mo q2 => k (.dat d :: cs) (v :: vs) H2 O2 ⟨s1.trans mo.st, mo.up, fun b hb => (mo.dn b hb).imp id fun z => s1.none g.draw z, ?_, congrArg Nat.succ mo.len, fun j ds hj => ?_⟩ q2⟩⟩
  · refine mo.gd.ahead g.len ⟨v, rfl, r1.on mo.st s1.draw g.wO mo.dn⟩ fun ds i es a z => nomatch z
  · cases j with
    | zero => cases hj
    | succ j =>
      obtain ⟨b, h1, h2⟩ := mo.new j ds hj
      exact ⟨b, h1, s1.none g.draw h2⟩)⟩⟩
theorem dm_n (h : DN X e tn) (hr : DM X es ms) (hs : starEach (e :: es) X.env = (false, eval e X.env) :: starEach es X.env := by rfl) : DM X (e :: es) (mN tn ms) := by
  obtain ⟨T, p1, rd⟩ := h.ex
  refine ⟨⟨fun pos pins s σ H R I ⟨c, O, η, E, Q, g, q, k⟩ => (pa_cons p1 hr.pa hs).run pos pins s σ H R I ?_⟩⟩
  refine rd σ H c O η E _ _ g q fun v H1 ⟨ds, a, vs1, e1, s1, h0, h1, r1, q1⟩ => ?_
  subst e1
  have gm := g.more s1 h0 h1
  have f0 := g.fresh0 h0
  refine ⟨c, _, η, E, _, gm, q1, fun cs vs H2 O2 mo q2 => k (.own ds :: cs) (.ref a :: vs) H2 O2 ⟨s1.trans mo.st, fun b hb => mo.up b (.inl hb), fun b hb => ?_, ?_, congrArg Nat.succ mo.len, fun j es hj => ?_⟩ q2⟩
  · rcases mo.dn b hb with (z | z) | z
    · exact .inl z
    · exact .inr (by rw [z]; exact h0)
    · exact .inr (s1.none g.draw z)
  · refine mo.gd.ahead g.len ⟨a, vs1, rfl, mo.st.keep a _ f0.1 h1, mo.up a (.inr rfl), fun z => g.hT a (g.hB a z) h0, f0.2, r1.on mo.st s1.draw (fun b w => .inl (g.wO b w)) mo.dn⟩ fun ds' i es b z1 z2 hi => ?_
    cases z2
    by_cases hl : i < η.length
    · rw [List.getElem?_append_left hl] at hi
      rw [List.getElem?_append_left (by rw [← g.len]; exact hl)]
      exact g.own_ne h0 i es hi
    · rw [List.getElem?_append_right (by omega)] at hi
      obtain ⟨b, k1, k2⟩ := mo.new _ es hi
      have ln := g.len
      rw [List.getElem?_append_right (by omega), List.getElem?_map, ← ln, k1]
      intro z
      cases z
      rw [h1] at k2
      cases k2
  · cases j with
    | zero => exact ⟨a, rfl, h0⟩
    | succ j =>
      obtain ⟨b, k1, k2⟩ := mo.new j es hj
      exact ⟨b, k1, s1.none g.draw k2⟩
end
theorem two_in {K : PySem.W.Frag} {c : Ctx} {O : Addr → Prop} {η : EnvD} {σ : L2.St} {H : Hp} {x y : Cell} {v w : V} (g : Good K c O (η ++ [x, y]) (σ ++ [v, w].map some) H) (hl : η.length = σ.length) (i j : Nat) : Good K c O ((η.set i x).set j y) ((σ.set i (some v)).set j (some w)) H := by
  have g1 := Good.store (x := x) (v := some v) (ζ := [y]) (τ := [some w]) g hl i
  have g2 := Good.store (x := y) (v := some w) (ζ := []) (τ := []) g1 (by rw [List.length_set, List.length_set, hl]) j
  rwa [List.append_nil, List.append_nil] at g2
theorem three_in {K : PySem.W.Frag} {c : Ctx} {O : Addr → Prop} {η : EnvD} {σ : L2.St} {H : Hp} {x y z : Cell} {v w u : V} (g : Good K c O (η ++ [x, y, z]) (σ ++ [v, w, u].map some) H) (hl : η.length = σ.length) (i j k : Nat) : Good K c O (((η.set i x).set j y).set k z) (((σ.set i (some v)).set j (some w)).set k (some u)) H := by
  have g1 := Good.store (x := x) (v := some v) (ζ := [y, z]) (τ := [some w, some u]) g hl i
  have g2 := Good.store (x := y) (v := some w) (ζ := [z]) (τ := [some u]) g1 (by rw [List.length_set, List.length_set, hl]) j
  have g3 := Good.store (x := z) (v := some u) (ζ := []) (τ := []) g2 (by simp [hl]) k
  rwa [List.append_nil, List.append_nil] at g3
def on2C (cs : List Cell) (k : Cell → Cell → Prop) : Prop := match cs with | [x, y] => k x y | _ => False
def on3C (cs : List Cell) (k : Cell → Cell → Cell → Prop) : Prop := match cs with | [x, y, z] => k x y z | _ => False
theorem on2C_out {cs : List Cell} {k : Cell → Cell → Prop} (h : on2C cs k) : ∃ x y, cs = [x, y] ∧ k x y := by
  unfold on2C at h
  split at h
  · exact ⟨_, _, rfl, h⟩
  · exact h.elim
theorem on3C_out {cs : List Cell} {k : Cell → Cell → Cell → Prop} (h : on3C cs k) : ∃ x y z, cs = [x, y, z] ∧ k x y z := by
  unfold on3C at h
  split at h
  · exact ⟨_, _, _, rfl, h⟩
  · exact h.elim
def sM2 (i j : Nat) (m : MT) : SD := fun E z η => m E η fun cs => on2C cs fun x y => z.nx ((η.set i x).set j y)
def sM3 (i j k : Nat) (m : MT) : SD := fun E z η => m E η fun cs => on3C cs fun x y u => z.nx (((η.set i x).set j y).set k u)
section
variable {X : Cx} {a b d : Expr} {m : MT} {pos : Pos}
theorem ds_m2 (i j : Nat) {x y : Str} {px py pt : Pos} {kt k2 : Nat} {pt2 : Pos} (hc : X.calm = true) (hN : X.N.Nodup) (ha : DM X [a, b] m) (hi : X.N[i]? = some x := by rfl) (hj : X.N[j]? = some y := by rfl) (hij : i ≠ j := by decide) (hx : X.env.scope.names.lookup x = some .local := by rfl) (hy : X.env.scope.names.lookup y = some .local := by rfl)
    (hw : swappedStores [.Tuple [.Name x px, .Name y py] kt pt] (.Tuple [a, b] k2 pt2) X.env = pure (some [x, y]) := by rfl) (hs : swapsWithSole [.Tuple [.Name x px, .Name y py] kt pt] (.Tuple [a, b] k2 pt2) pos.line X.env = pure false := by rfl) :
    DS X (.Assign [.Tuple [.Name x px, .Name y py] kt pt] (.Tuple [a, b] k2 pt2) pos) (sM2 i j m) := .of (ps_par hc hN hi hj hij hx hy ha.pa hw hs) fun σ H c O η E z g h =>
  ⟨c, O, η, E, _, g, h, fun cs vs H' O' mo q => by
    obtain ⟨x, y, rfl, q⟩ := on2C_out q
    match vs, mo.len with
    | [v, w], _ => exact ⟨v, w, rfl, O', _, ⟨two_in mo.gd g.len i j, g.er⟩, q⟩⟩
theorem ds_m3 (i j k : Nat) {x y u : Str} {px py pu pt : Pos} {kt k2 : Nat} {pt2 : Pos} (hc : X.calm = true) (hN : X.N.Nodup) (ha : DM X [a, b, d] m) (hi : X.N[i]? = some x := by rfl) (hj : X.N[j]? = some y := by rfl) (hk : X.N[k]? = some u := by rfl) (hij : i ≠ j := by decide) (hik : i ≠ k := by decide) (hjk : j ≠ k := by decide)
    (hx : X.env.scope.names.lookup x = some .local := by rfl) (hy : X.env.scope.names.lookup y = some .local := by rfl) (hu : X.env.scope.names.lookup u = some .local := by rfl)
    (hw : swappedStores [.Tuple [.Name x px, .Name y py, .Name u pu] kt pt] (.Tuple [a, b, d] k2 pt2) X.env = pure (some [x, y, u]) := by rfl) (hs : swapsWithSole [.Tuple [.Name x px, .Name y py, .Name u pu] kt pt] (.Tuple [a, b, d] k2 pt2) pos.line X.env = pure false := by rfl) :
    DS X (.Assign [.Tuple [.Name x px, .Name y py, .Name u pu] kt pt] (.Tuple [a, b, d] k2 pt2) pos) (sM3 i j k m) := .of (ps_par3 hc hN hi hj hk hij hik hjk hx hy hu ha.pa hw hs) fun σ H c O η E z g h =>
  ⟨c, O, η, E, _, g, h, fun cs vs H' O' mo q => by
    obtain ⟨x, y, u, rfl, q⟩ := on3C_out q
    match vs, mo.len with
    | [v, w, w'], _ => exact ⟨v, w, w', rfl, O', _, ⟨three_in mo.gd g.len i j k, g.er⟩, q⟩⟩
/-- .. by a tuple that is made (a name is captured) -/
theorem ds_a2 (i j : Nat) {x y : Str} {px py pt : Pos} {kt k2 : Nat} {pt2 : Pos} (hc : X.calm = true) (hN : X.N.Nodup) (ha : DM X [a, b] m) (hi : X.N[i]? = some x := by rfl) (hj : X.N[j]? = some y := by rfl) (hx : Loc X.env.scope x := by first | exact Or.inl rfl | exact Or.inr rfl) (hy : Loc X.env.scope y := by first | exact Or.inl rfl | exact Or.inr rfl)
    (hf : X.fn x = true ∨ X.env.scope.names.lookup x = some .local := by first | exact .inl rfl | exact .inr rfl) (hf' : X.fn y = true ∨ X.env.scope.names.lookup y = some .local := by first | exact .inl rfl | exact .inr rfl)
    (hs : swapsWithSole [.Tuple [.Name x px, .Name y py] kt pt] (.Tuple [a, b] k2 pt2) pos.line X.env = pure false := by rfl) (hw : swappedStores [.Tuple [.Name x px, .Name y py] kt pt] (.Tuple [a, b] k2 pt2) X.env = pure none := by rfl)
    (h1 : (assignEach [.Tuple [.Name x px, .Name y py] kt pt] X.env).map (·.2) = [assign (.Tuple [.Name x px, .Name y py] kt pt) X.env] := by rfl)
    (hn : (assignEach [.Name x px, .Name y py] X.env).length = 2 := by rfl) (hst : (assignEach [.Name x px, .Name y py] X.env).findIdx? (·.1) = none := by rfl)
    (g1 : (assignEach [.Name x px, .Name y py] X.env).map (·.2) = assign (.Name x px) X.env :: (assignEach [.Name y py] X.env).map (·.2) := by rfl) (g2 : (assignEach [.Name y py] X.env).map (·.2) = assign (.Name y py) X.env :: (assignEach [] X.env).map (·.2) := by rfl) :
    DS X (.Assign [.Tuple [.Name x px, .Name y py] kt pt] (.Tuple [a, b] k2 pt2) pos) (sM2 i j m) :=
  .of (ps_asg (pe_tup ha.pa) (pg_tup hc (pgs_cons (pg_name (i := i) hN hi hx hf) (pgs_cons (pg_name (i := j) hN hj hy hf') pgs_nil g2) g1) hn hst) hs hw h1) fun σ H c O η E z g h =>
  ⟨c, O, η, E, _, g, h, fun cs vs H' O' mo q => by
    obtain ⟨x, y, rfl, q⟩ := on2C_out q
    match vs, mo.len with
    | [v, w], _ => exact ⟨(by decide : 2 ≤ sizeLine), fun T hT => ⟨T, _, rfl, .inl (.inl upd_same), rfl, _, _, rfl, _, _, rfl, rfl, O', _, ⟨(two_in mo.gd g.len i j).step (.alloc mo.st.draw hT), g.er⟩, q⟩⟩⟩
theorem ds_a3 (i j k : Nat) {x y u : Str} {px py pu pt : Pos} {kt k2 : Nat} {pt2 : Pos} (hc : X.calm = true) (hN : X.N.Nodup) (ha : DM X [a, b, d] m) (hi : X.N[i]? = some x := by rfl) (hj : X.N[j]? = some y := by rfl) (hk : X.N[k]? = some u := by rfl) (hx : Loc X.env.scope x := by first | exact Or.inl rfl | exact Or.inr rfl) (hy : Loc X.env.scope y := by first | exact Or.inl rfl | exact Or.inr rfl)
    (hu : Loc X.env.scope u := by first | exact Or.inl rfl | exact Or.inr rfl) (hf : X.fn x = true ∨ X.env.scope.names.lookup x = some .local := by first | exact .inl rfl | exact .inr rfl) (hf' : X.fn y = true ∨ X.env.scope.names.lookup y = some .local := by first | exact .inl rfl | exact .inr rfl)
    (hf2 : X.fn u = true ∨ X.env.scope.names.lookup u = some .local := by first | exact .inl rfl | exact .inr rfl)
    (hs : swapsWithSole [.Tuple [.Name x px, .Name y py, .Name u pu] kt pt] (.Tuple [a, b, d] k2 pt2) pos.line X.env = pure false := by rfl) (hw : swappedStores [.Tuple [.Name x px, .Name y py, .Name u pu] kt pt] (.Tuple [a, b, d] k2 pt2) X.env = pure none := by rfl)
    (h1 : (assignEach [.Tuple [.Name x px, .Name y py, .Name u pu] kt pt] X.env).map (·.2) = [assign (.Tuple [.Name x px, .Name y py, .Name u pu] kt pt) X.env] := by rfl)
    (hn : (assignEach [.Name x px, .Name y py, .Name u pu] X.env).length = 3 := by rfl) (hst : (assignEach [.Name x px, .Name y py, .Name u pu] X.env).findIdx? (·.1) = none := by rfl)
    (g1 : (assignEach [.Name x px, .Name y py, .Name u pu] X.env).map (·.2) = assign (.Name x px) X.env :: (assignEach [.Name y py, .Name u pu] X.env).map (·.2) := by rfl) (g2 : (assignEach [.Name y py, .Name u pu] X.env).map (·.2) = assign (.Name y py) X.env :: (assignEach [.Name u pu] X.env).map (·.2) := by rfl)
    (g3 : (assignEach [.Name u pu] X.env).map (·.2) = assign (.Name u pu) X.env :: (assignEach [] X.env).map (·.2) := by rfl) :
    DS X (.Assign [.Tuple [.Name x px, .Name y py, .Name u pu] kt pt] (.Tuple [a, b, d] k2 pt2) pos) (sM3 i j k m) :=
  .of (ps_asg (pe_tup ha.pa) (pg_tup hc (pgs_cons (pg_name (i := i) hN hi hx hf) (pgs_cons (pg_name (i := j) hN hj hy hf') (pgs_cons (pg_name (i := k) hN hk hu hf2) pgs_nil g3) g2) g1) hn hst) hs hw h1) fun σ H c O η E z g h =>
  ⟨c, O, η, E, _, g, h, fun cs vs H' O' mo q => by
    obtain ⟨x, y, u, rfl, q⟩ := on3C_out q
    match vs, mo.len with
    | [v, w, w'], _ => exact ⟨(by decide : 3 ≤ sizeLine), fun T hT => ⟨T, _, rfl, .inl (.inl upd_same), rfl, _, _, rfl, _, _, rfl, _, _, rfl, rfl, O', _, ⟨(three_in mo.gd g.len i j k).step (.alloc mo.st.draw hT), g.er⟩, q⟩⟩⟩
end
end DL

/-! DL14: starred items. -/
namespace DL
open PySem PySem.Spec PyProof.Rows L2
section
variable {X : Cx} {e : Expr} {es : List Expr} {t : ET} {ts : AT} {p : Pos}
def aStar (t : ET) (ts : AT) : AT := fun E η Q => t E η fun d => match d with
  | .list ds => ts E η fun es => Q (ds ++ es)
  | .tuple ds => ts E η fun es => Q (ds ++ es)
  | _ => False
theorem da_star (h : DE X e t) (hr : DA X es ts) (hs : starEach (.Starred e p :: es) X.env = (true, eval e X.env) :: starEach es X.env := by rfl) : DA X (.Starred e p :: es) (aStar t ts) := .of (StX.pa_star h.pe hr.pa hs) fun σ H c O η E Q g h => by
  refine ⟨c, O, η, E, _, g, h, fun d v H1 s1 r1 q1 => ?_⟩
  have g1 := g.step s1
  cases r1 with
  | @lst a xs ds o h0 rr =>
    exact ⟨a, xs, rfl, .inr (.inl (.of h0)), c, O, η, E, _, g1, q1, fun es' vs H2 s2 r2 q => ⟨ds ++ es', s1.trans s2, (s2.repAll g1.draw g1.wO rr).append r2, q⟩⟩
  | @tup a xs ds h0 rr =>
    exact ⟨a, xs, rfl, .inl h0.sq, c, O, η, E, _, g1, q1, fun es' vs H2 s2 r2 q => ⟨ds ++ es', s1.trans s2, (s2.repAll g1.draw g1.wO rr).append r2, q⟩⟩
  | _ => exact q1.elim
end
end DL

/-! DL16: the turns of a zip of two tuples whose pair is kept. -/
namespace DL
open PySem PySem.Spec PyProof.Rows L2
section
variable {prog : Program} {w : World} {A : Around} {E : Value → Shared → Prop} {s : Shared}
theorem zipK_item {z TI TO T i1 i2 l1 l2 : Addr} {f : Bool} {oT : Obj} {k : Nat} {xs ys : Array Value} {x y : Value} {Q : Value → Shared → Prop} (D : ZipApart z TI TO i1 i2 l1 l2) (hz : IsZipHeld s.heap z TI TO T f) (hT : s.heap.get? T = some oT) (hI : IsPair s.heap TI (.ref i1) (.ref i2))
    (h1 : s.heap.IsTupleIter i1 l1 k) (h2 : s.heap.IsTupleIter i2 l2 k) (t1 : s.heap.IsTuple l1 xs) (t2 : s.heap.IsTuple l2 ys) (hx : xs[k]? = some x) (hy : ys[k]? = some y)
    (q : ∀ h', IsZipHeld h' z TI TO T true → h'.IsTupleIter i1 l1 (k + 1) → h'.IsTupleIter i2 l2 (k + 1) → IsPair h' s.heap.objs.size x y → h'.objs.size = s.heap.objs.size + 1 → (∀ c o, c ≠ z → c ≠ i1 → c ≠ i2 → s.heap.get? c = some o → h'.get? c = some o) → Q (.ref s.heap.objs.size) { s with heap := h' }) :
    wpAny (model prog w) A (Builtin.«zip.__next__» ⟨[.ref z], []⟩) (fun fin s' => ∃ v, fin = .done (.ret v) ∧ Q v s') E s := by
  show wpAny _ _ (field (.ref z) 2 >>= _) _ _ _
  refine wpAny_bind (wpAny_field hz rfl (x := .bool false) rfl ?_)
  show wpAny _ _ (field (.ref z) 3 >>= _) _ _ _
  refine wpAny_bind (wpAny_field hz rfl (x := .ref TI) rfl (wpAny_bind (wpAny_seqItems hI rfl ?_)))
  show wpAny _ _ (Builtin.SmallTypes.ownedTupleIsFree (.ref z) >>= _) _ _ _
  refine wpAny_bind (wpAny_tupleHeld_zip hz hT fun g1 z1 b1 => ?_)
  simp only [Bool.false_eq_true, if_false]
  refine wpAny_bind ?_
  rw [← Array.forIn_toList]
  simp only [List.forIn_cons, List.forIn_nil]
  refine wpAny_bind (wpAny_bind (wpAny_holding ?_))
  show wpAny _ _ (Builtin.SmallTypes.nextOf (.ref i1) >>= _) _ _ _
  have t1a : g1.IsTuple l1 xs := let ⟨o, e, r⟩ := t1; ⟨o, b1.extBut _ _ D.l1z e, r⟩
  have t2a : g1.IsTuple l2 ys := let ⟨o, e, r⟩ := t2; ⟨o, b1.extBut _ _ D.l2z e, r⟩
  refine wpAny_bind (RZ.nextOf_tuple_item (s := { s with heap := g1 }) (h1.at fun o e => b1.extBut _ _ D.i1z e) t1a hx fun g2 n1 b2 => wpAny_pure (wpAny_pure ?_))
  refine wpAny_bind (wpAny_bind (wpAny_holding ?_))
  show wpAny _ _ (Builtin.SmallTypes.nextOf (.ref i2) >>= _) _ _ _
  have t2b : g2.IsTuple l2 ys := let ⟨o, e, r⟩ := t2a; ⟨o, b2.extBut _ _ D.l2i1 e, r⟩
  refine wpAny_bind (RZ.nextOf_tuple_item (s := { s with heap := g2 }) (h2.at fun o e => b2.extBut _ _ D.i12.symm (b1.extBut _ _ D.i2z e)) t2b hy fun g3 n2 b3 => wpAny_pure (wpAny_pure (wpAny_pure ?_)))
  show wpAny _ _ (newTuple [x, y] >>= _) _ _ _
  refine wpAny_bind (wpAny_newTuple (wpAny_pure ⟨_, rfl, ?_⟩))
  have sz : g3.objs.size = s.heap.objs.size := by rw [b3.1, b2.1, b1.1]
  have zz : IsZipHeld g3 z TI TO T true := b3.extBut _ _ D.i2z.symm (b2.extBut _ _ D.i1z.symm z1)
  show Q (.ref g3.objs.size) _
  have pr : IsPair (g3.push { cls := .type "tuple", data := .seq #[x, y] }) g3.objs.size x y := Heap.get?_push_size _ rfl
  have sp : (g3.push { cls := .type "tuple", data := .seq #[x, y] }).objs.size = g3.objs.size + 1 := Heap.size_push ..
  rw [sz] at pr sp ⊢
  exact q _ (Heap.get?_push_of_some _ zz) ((n1.at fun o e => b3.extBut _ _ D.i12 e).at fun o e => Heap.get?_push_of_some _ e) (n2.at fun o e => Heap.get?_push_of_some _ e) pr sp fun c o c1 c2 c3 e => Heap.get?_push_of_some _ (b3.extBut _ _ c3 (b2.extBut _ _ c2 (b1.extBut _ _ c1 e)))
/-- the zip's object -/
def IsZ (h : Heap) (z TI TO : Addr) (f0 : Value) (f1 : Bool) : Prop := h.get? z = some { cls := .type "zip", dict := none, data := .fields #[f0, .bool f1, .bool false, .ref TI, .ref TO], slots := #[] }
/-- .. its pair is free: the pair is used anew -/
theorem zipF_item {z TI TO i1 i2 l1 l2 : Addr} {f0 : Value} {f1 : Bool} {k : Nat} {xs ys : Array Value} {x y u v : Value} {Q : Value → Shared → Prop} (D : ZipApart z TI TO i1 i2 l1 l2) (hz : IsZ s.heap z TI TO f0 f1) (fr : ∀ R : Bool → Shared → Prop, R true s → wpAny (model prog w) A (Builtin.SmallTypes.ownedTupleIsFree (.ref z)) R E s)
    (hI : IsPair s.heap TI (.ref i1) (.ref i2)) (hO : IsPair s.heap TO u v) (h1 : s.heap.IsTupleIter i1 l1 k) (h2 : s.heap.IsTupleIter i2 l2 k) (t1 : s.heap.IsTuple l1 xs) (t2 : s.heap.IsTuple l2 ys) (hx : xs[k]? = some x) (hy : ys[k]? = some y)
    (q : ∀ h', IsZ h' z TI TO (rawInt s.heap.objs.size) false → IsPair h' TO x y → h'.IsTupleIter i1 l1 (k + 1) → h'.IsTupleIter i2 l2 (k + 1) → IsPair h' s.heap.objs.size x y → h'.objs.size = s.heap.objs.size + 1 → (∀ c o, c ≠ z → c ≠ TO → c ≠ i1 → c ≠ i2 → s.heap.get? c = some o → h'.get? c = some o) → Q (.ref s.heap.objs.size) { s with heap := h' }) :
    wpAny (model prog w) A (Builtin.«zip.__next__» ⟨[.ref z], []⟩) (fun fin s' => ∃ v, fin = .done (.ret v) ∧ Q v s') E s := by
  show wpAny _ _ (field (.ref z) 2 >>= _) _ _ _
  refine wpAny_bind (wpAny_field hz rfl (x := .bool false) rfl ?_)
  show wpAny _ _ (field (.ref z) 3 >>= _) _ _ _
  refine wpAny_bind (wpAny_field hz rfl (x := .ref TI) rfl (wpAny_bind (wpAny_seqItems hI rfl ?_)))
  show wpAny _ _ (Builtin.SmallTypes.ownedTupleIsFree (.ref z) >>= _) _ _ _
  refine wpAny_bind (fr _ ?_)
  simp only [if_true]
  refine wpAny_bind (wpAny_rule (wpAny_bind (wpAny_field hz rfl (x := .ref TO) rfl ?_)))
  refine wpAny_bind (wpAny_setField_rec hz (by simp) fun g1 z1 b1 => wpAny_bind ?_)
  replace z1 : IsZ g1 z TI TO .ellipsis f1 := z1
  simp only [List.zipIdx_cons, List.zipIdx_nil, List.forIn_cons, List.forIn_nil]
  refine wpAny_bind (wpAny_bind (wpAny_onRaise ?_))
  show wpAny _ _ (Builtin.SmallTypes.nextOf (.ref i1) >>= _) _ _ _
  have t1a : g1.IsTuple l1 xs := let ⟨o, e, r⟩ := t1; ⟨o, b1.extBut _ _ D.l1z e, r⟩
  have t2a : g1.IsTuple l2 ys := let ⟨o, e, r⟩ := t2; ⟨o, b1.extBut _ _ D.l2z e, r⟩
  refine wpAny_bind (RZ.nextOf_tuple_item (s := { s with heap := g1 }) (h1.at fun o e => b1.extBut _ _ D.i1z e) t1a hx fun g2 n1 b2 => wpAny_pure ?_)
  have p2 : IsPair g2 TO u v := b2.extBut _ _ D.TOi1 (b1.extBut _ _ D.TOz hO)
  refine wpAny_bind (wpAny_seqItems p2 rfl (wpAny_bind (wpAny_updateSeq_pair p2 fun g3 p3 b3 => ?_)))
  replace p3 : IsPair g3 TO x v := p3
  refine wpAny_bind (wpAny_letGo (wpAny_pure ?_))
  refine wpAny_bind (wpAny_bind (wpAny_onRaise ?_))
  show wpAny _ _ (Builtin.SmallTypes.nextOf (.ref i2) >>= _) _ _ _
  have t2b : g3.IsTuple l2 ys := let ⟨o, e, r⟩ := t2a; ⟨o, b3.extBut _ _ D.l2TO (b2.extBut _ _ D.l2i1 e), r⟩
  refine wpAny_bind (RZ.nextOf_tuple_item (s := { s with heap := g3 }) (h2.at fun o e => b3.extBut _ _ D.TOi2.symm (b2.extBut _ _ D.i12.symm (b1.extBut _ _ D.i2z e))) t2b hy fun g4 n2 b4 => wpAny_pure ?_)
  have p4 : IsPair g4 TO x v := b4.extBut _ _ D.TOi2 p3
  refine wpAny_bind (wpAny_seqItems p4 rfl (wpAny_bind (wpAny_updateSeq_pair p4 fun g5 p5 b5 => ?_)))
  replace p5 : IsPair g5 TO x y := p5
  refine wpAny_bind (wpAny_letGo (wpAny_pure (wpAny_pure ?_)))
  refine wpAny_bind (wpAny_seqItems p5 rfl (wpAny_bind (wpAny_newTuple ?_)))
  have sz : g5.objs.size = s.heap.objs.size := by rw [b5.1, b4.1, b3.1, b2.1, b1.1]
  have z5 : IsZ g5 z TI TO .ellipsis f1 := b5.extBut _ _ D.TOz.symm (b4.extBut _ _ D.i2z.symm (b3.extBut _ _ D.TOz.symm (b2.extBut _ _ D.i1z.symm z1)))
  have kp : ∀ c o, c ≠ z → c ≠ TO → c ≠ i1 → c ≠ i2 → s.heap.get? c = some o → g5.get? c = some o := fun c o c1 c2 c3 c4 e => b5.extBut _ _ c2 (b4.extBut _ _ c4 (b3.extBut _ _ c2 (b2.extBut _ _ c3 (b1.extBut _ _ c1 e))))
  have m1 : g5.IsTupleIter i1 l1 (k + 1) := n1.at fun o e => b5.extBut _ _ D.TOi1.symm (b4.extBut _ _ D.i12 (b3.extBut _ _ D.TOi1.symm e))
  have m2 : g5.IsTupleIter i2 l2 (k + 1) := n2.at fun o e => b5.extBut _ _ D.TOi2.symm e
  have zl : z < g5.objs.size := Heap.lt_size z5
  show wpAny _ _ (Builtin.SmallTypes.ownedTupleHandOut (.ref z) (.ref g5.objs.size) >>= _) _ _ _
  refine wpAny_bind ?_
  unfold Builtin.SmallTypes.ownedTupleHandOut
  have z6 : IsZ (g5.push { cls := .type "tuple", data := .seq #[x, y] }) z TI TO .ellipsis f1 := Heap.get?_push_of_some _ z5
  refine wpAny_bind (wpAny_setField_rec z6 (by simp) fun g7 z7 b7 => ?_)
  replace z7 : IsZ g7 z TI TO (rawInt g5.objs.size) f1 := z7
  refine wpAny_setField_rec z7 (by simp) fun g8 z8 b8 => ?_
  replace z8 : IsZ g8 z TI TO (rawInt g5.objs.size) false := z8
  have up : ∀ c o, c ≠ z → g5.get? c = some o → g8.get? c = some o := fun c o c1 e => b8.extBut _ _ c1 (b7.extBut _ _ c1 (Heap.get?_push_of_some _ e))
  have pr : IsPair g8 g5.objs.size x y := b8.extBut _ _ (Nat.ne_of_gt zl) (b7.extBut _ _ (Nat.ne_of_gt zl) (Heap.get?_push_size _ rfl))
  have s8 : g8.objs.size = g5.objs.size + 1 := by rw [b8.1, b7.1, Heap.size_push]
  rw [sz] at z8 pr s8
  refine wpAny_pure ⟨_, rfl, ?_⟩
  show Q (.ref g5.objs.size) _
  rw [sz]
  exact q g8 z8 (up _ _ D.TOz p5) (m1.at fun o e => up _ o D.i1z e) (m2.at fun o e => up _ o D.i2z e) pr s8 fun c o c1 c2 c3 c4 e => up c o c1 (kp c o c1 c2 c3 c4 e)
theorem alive_any {a : Addr} {Q : Option Obj → Shared → Prop} (q : Q (s.heap.get? a) s) : wpAny (model prog w) A (loadIfAlive a) Q E s := by
  intro Γ p x
  simpa [loadIfAlive] using q
/-- the zip of two tuples, its pair free or kept, after k turns -/
structure ZSt (h : Heap) (z TI TO i1 i2 l1 l2 : Addr) (k : Nat) : Prop where
  ob : ∃ f0 f1, IsZ h z TI TO f0 f1 ∧ (f0 = .none ∨ ∃ T : Addr, f0 = rawInt T)
  its : IsPair h TI (.ref i1) (.ref i2)
  own : ∃ u v, IsPair h TO u v
  it1 : h.IsTupleIter i1 l1 k
  it2 : h.IsTupleIter i2 l2 k
theorem zip_item {z TI TO i1 i2 l1 l2 : Addr} {k : Nat} {xs ys : Array Value} {x y : Value} {Q : Value → Shared → Prop} (D : ZipApart z TI TO i1 i2 l1 l2) (S : ZSt s.heap z TI TO i1 i2 l1 l2 k) (t1 : s.heap.IsTuple l1 xs) (t2 : s.heap.IsTuple l2 ys) (hx : xs[k]? = some x) (hy : ys[k]? = some y)
    (q : ∀ h', ZSt h' z TI TO i1 i2 l1 l2 (k + 1) → IsPair h' s.heap.objs.size x y → h'.objs.size = s.heap.objs.size + 1 → (∀ c o, c ≠ z → c ≠ TO → c ≠ i1 → c ≠ i2 → s.heap.get? c = some o → h'.get? c = some o) → Q (.ref s.heap.objs.size) { s with heap := h' }) :
    wpAny (model prog w) A (Builtin.«zip.__next__» ⟨[.ref z], []⟩) (fun fin s' => ∃ v, fin = .done (.ret v) ∧ Q v s') E s := by
  obtain ⟨f0, f1, hz, hf⟩ := S.ob
  obtain ⟨u, v, hO⟩ := S.own
  have freeway : (∀ R : Bool → Shared → Prop, R true s → wpAny (model prog w) A (Builtin.SmallTypes.ownedTupleIsFree (.ref z)) R E s) → wpAny (model prog w) A (Builtin.«zip.__next__» ⟨[.ref z], []⟩) (fun fin s' => ∃ v, fin = .done (.ret v) ∧ Q v s') E s := fun fr =>
    zipF_item D hz fr S.its hO S.it1 S.it2 t1 t2 hx hy fun h' z' p' a1 a2 pr sz kp => q h' ⟨⟨_, _, z', .inr ⟨_, rfl⟩⟩, kp _ _ D.TIz D.TITO D.TIi1 D.TIi2 S.its, ⟨_, _, p'⟩, a1, a2⟩ pr sz kp
  rcases hf with rfl | ⟨T, rfl⟩
  · refine freeway fun R r => ?_
    unfold Builtin.SmallTypes.ownedTupleIsFree
    exact wpAny_bind (wpAny_field hz rfl (x := .none) rfl (wpAny_pure r))
  · cases hT : s.heap.get? T with
    | none =>
      refine freeway fun R r => ?_
      unfold Builtin.SmallTypes.ownedTupleIsFree
      refine wpAny_bind (wpAny_field hz rfl (x := rawInt T) rfl ?_)
      show wpAny _ _ (loadIfAlive ((T : Int).toNat) >>= _) _ _ _
      rw [Int.toNat_natCast]
      refine wpAny_bind (alive_any ?_)
      rw [hT]
      exact wpAny_pure r
    | some oT =>
      refine zipK_item (T := T) (f := f1) D hz hT S.its S.it1 S.it2 t1 t2 hx hy fun h' z' a1 a2 pr sz kp => q h' ⟨⟨_, _, z', .inr ⟨T, rfl⟩⟩, kp _ _ D.TIz D.TIi1 D.TIi2 S.its, ⟨u, v, kp _ _ D.TOz D.TOi1 D.TOi2 hO⟩, a1, a2⟩ pr sz fun c o c1 _ c3 c4 e => kp c o c1 c3 c4 e
/-- the end: the first tuple is through -/
theorem zip_end {z TI TO i1 i2 l1 l2 : Addr} {k : Nat} {xs : Array Value} {Q : Fin → Shared → Prop} (hh : A.handled = none) (D : ZipApart z TI TO i1 i2 l1 l2) (S : ZSt s.heap z TI TO i1 i2 l1 l2 k) (t1 : s.heap.IsTuple l1 xs) (hx : xs[k]? = none)
    (q : ∀ h' e, (∀ c o, c ≠ z → c ≠ TO → c ≠ i1 → c ≠ i2 → s.heap.get? c = some o → h'.get? c = some o) → (∃ o, h'.get? e = some o ∧ o.cls = .type "StopIteration") → E (.ref e) { s with heap := h' }) :
    wpAny (model prog w) A (Builtin.«zip.__next__» ⟨[.ref z], []⟩) Q E s := by
  obtain ⟨f0, f1, hz, hf⟩ := S.ob
  have freeway : (∀ R : Bool → Shared → Prop, R true s → wpAny (model prog w) A (Builtin.SmallTypes.ownedTupleIsFree (.ref z)) R E s) → wpAny (model prog w) A (Builtin.«zip.__next__» ⟨[.ref z], []⟩) Q E s := fun fr => by
    show wpAny _ _ (field (.ref z) 2 >>= _) _ _ _
    refine wpAny_bind (wpAny_field hz rfl (x := .bool false) rfl ?_)
    show wpAny _ _ (field (.ref z) 3 >>= _) _ _ _
    refine wpAny_bind (wpAny_field hz rfl (x := .ref TI) rfl (wpAny_bind (wpAny_seqItems S.its rfl ?_)))
    show wpAny _ _ (Builtin.SmallTypes.ownedTupleIsFree (.ref z) >>= _) _ _ _
    refine wpAny_bind (fr _ ?_)
    simp only [if_true]
    refine wpAny_bind (wpAny_rule (wpAny_bind (wpAny_field hz rfl (x := .ref TO) rfl ?_)))
    refine wpAny_bind (wpAny_setField_rec hz (by simp) fun g1 z1 b1 => wpAny_bind ?_)
    replace z1 : IsZ g1 z TI TO .ellipsis f1 := z1
    simp only [List.zipIdx_cons, List.zipIdx_nil, List.forIn_cons, List.forIn_nil]
    refine wpAny_bind (wpAny_bind (wpAny_onRaise ?_))
    show wpAny _ _ (Builtin.SmallTypes.nextOf (.ref i1) >>= _) _ _ _
    have t1a : g1.IsTuple l1 xs := let ⟨o, e, r⟩ := t1; ⟨o, b1.extBut _ _ D.l1z e, r⟩
    refine wpAny_bind (RZ.nextOf_tuple_end (s := { s with heap := g1 }) hh (S.it1.at fun o e => b1.extBut _ _ D.i1z e) t1a hx fun g2 e b2 he => ?_)
    obtain ⟨oe, hoe, hce⟩ := he
    have z2 : IsZ g2 z TI TO .ellipsis f1 := b2 _ _ D.i1z.symm z1
    have ez : e ≠ z := fun c => by
      subst c
      rw [z2] at hoe
      cases hoe
      simp at hce
    exact wpAny_setField_rec z2 (by simp) fun g3 _ b3 => q g3 e (fun c o c1 _ c3 _ x => b3.extBut _ _ c1 (b2 _ _ c3 (b1.extBut _ _ c1 x))) ⟨oe, b3.extBut _ _ ez hoe, hce⟩
  rcases hf with rfl | ⟨T, rfl⟩
  · refine freeway fun R r => ?_
    unfold Builtin.SmallTypes.ownedTupleIsFree
    exact wpAny_bind (wpAny_field hz rfl (x := .none) rfl (wpAny_pure r))
  · cases hT : s.heap.get? T with
    | none =>
      refine freeway fun R r => ?_
      unfold Builtin.SmallTypes.ownedTupleIsFree
      refine wpAny_bind (wpAny_field hz rfl (x := rawInt T) rfl ?_)
      show wpAny _ _ (loadIfAlive ((T : Int).toNat) >>= _) _ _ _
      rw [Int.toNat_natCast]
      refine wpAny_bind (alive_any ?_)
      rw [hT]
      exact wpAny_pure r
    | some oT =>
      show wpAny _ _ (field (.ref z) 2 >>= _) _ _ _
      refine wpAny_bind (wpAny_field hz rfl (x := .bool false) rfl ?_)
      show wpAny _ _ (field (.ref z) 3 >>= _) _ _ _
      refine wpAny_bind (wpAny_field hz rfl (x := .ref TI) rfl (wpAny_bind (wpAny_seqItems S.its rfl ?_)))
      show wpAny _ _ (Builtin.SmallTypes.ownedTupleIsFree (.ref z) >>= _) _ _ _
      refine wpAny_bind (wpAny_tupleHeld_zip (T := T) (f := f1) hz hT fun g1 z1 b1 => ?_)
      simp only [Bool.false_eq_true, if_false]
      refine wpAny_bind ?_
      rw [← Array.forIn_toList]
      simp only [List.forIn_cons, List.forIn_nil]
      refine wpAny_bind (wpAny_bind (wpAny_holding ?_))
      show wpAny _ _ (Builtin.SmallTypes.nextOf (.ref i1) >>= _) _ _ _
      have t1a : g1.IsTuple l1 xs := let ⟨o, e, r⟩ := t1; ⟨o, b1.extBut _ _ D.l1z e, r⟩
      refine wpAny_bind (RZ.nextOf_tuple_end (s := { s with heap := g1 }) hh (S.it1.at fun o e => b1.extBut _ _ D.i1z e) t1a hx fun g2 e b2 he => ?_)
      exact q g2 e (fun c o c1 _ c3 _ x => b2 _ _ c3 (b1.extBut _ _ c1 x)) he
theorem nextOf_zip {z TI TO i1 i2 l1 l2 : Addr} {k : Nat} {xs ys : Array Value} {x y : Value} {Q : Value → Shared → Prop} (D : ZipApart z TI TO i1 i2 l1 l2) (S : ZSt s.heap z TI TO i1 i2 l1 l2 k) (t1 : s.heap.IsTuple l1 xs) (t2 : s.heap.IsTuple l2 ys) (hx : xs[k]? = some x) (hy : ys[k]? = some y)
    (q : ∀ h', ZSt h' z TI TO i1 i2 l1 l2 (k + 1) → IsPair h' s.heap.objs.size x y → h'.objs.size = s.heap.objs.size + 1 → (∀ c o, c ≠ z → c ≠ TO → c ≠ i1 → c ≠ i2 → s.heap.get? c = some o → h'.get? c = some o) → Q (.ref s.heap.objs.size) { s with heap := h' }) :
    wpAny (model prog w) A (Builtin.SmallTypes.nextOf (.ref z)) Q E s := by
  obtain ⟨f0, f1, hz, hf⟩ := S.ob
  have ty : s.TypeIs (.ref z) "zip" := ⟨_, hz, rfl⟩
  unfold Builtin.SmallTypes.nextOf
  exact wpAny_bind (wpAny_callSpecial?_slot (name := Str.ofString "__next__") ty F.slot_zip_next
    (wpAny_call_entry F.slot_zip_next ty F.entry_zip_next (zip_item D S t1 t2 hx hy fun h' a b c d => wpAny_pure (q h' a b c d)) (F.args_zip_next_1 _)))
end
end DL

/-! DL17: enumerate of a zip of two tuples: its turns. -/
namespace DL
open PySem PySem.Spec PyProof.Rows L2
section
variable {prog : Program} {w : World} {A : Around} {E : Value → Shared → Prop} {s : Shared}
/-- the number in front of the zip's pair: two new tuples -/
theorem enumZ_item {e z TI TO i1 i2 l1 l2 : Addr} {k : Nat} {old : Value} {xs ys : Array Value} {x y : Value} {Q : Value → Shared → Prop} (D : ZipApart z TI TO i1 i2 l1 l2) (he : IsEnum s.heap e z k old) (ne : e ≠ z ∧ e ≠ TO ∧ e ≠ i1 ∧ e ≠ i2 ∧ e ≠ TI) (S : ZSt s.heap z TI TO i1 i2 l1 l2 k)
    (t1 : s.heap.IsTuple l1 xs) (t2 : s.heap.IsTuple l2 ys) (hx : xs[k]? = some x) (hy : ys[k]? = some y)
    (q : ∀ h' tk, IsEnumOut h' e z ((k : Int) + 1) (.ref s.heap.objs.size) (s.heap.objs.size + 1) → ZSt h' z TI TO i1 i2 l1 l2 (k + 1) → IsPair h' s.heap.objs.size x y → h'.get? (s.heap.objs.size + 1) = some { cls := .type "tuple", data := .seq #[.int k tk, .ref s.heap.objs.size] } →
      (∀ c o, c ≠ e → c ≠ z → c ≠ TO → c ≠ i1 → c ≠ i2 → s.heap.get? c = some o → h'.get? c = some o) → Q (.ref (s.heap.objs.size + 1)) { s with heap := h', toks := tk + 1 }) :
    wpAny (model prog w) A (Builtin.«enumerate.__next__» ⟨[.ref e], []⟩) (fun fin s' => ∃ v, fin = .done (.ret v) ∧ Q v s') E s := by
  obtain ⟨hp, g, d, tk, os⟩ := s
  obtain ⟨n1, n2, n3, n4, n5⟩ := ne
  show wpAny _ _ (field (.ref e) 2 >>= _) _ _ _
  refine wpAny_bind (wpAny_field he rfl (x := .ref z) rfl ?_)
  refine wpAny_bind (nextOf_zip (s := ⟨hp, g, d, tk, os⟩) D S t1 t2 hx hy fun h1 S1 p1 z1 k1 => ?_)
  replace p1 : IsPair h1 hp.objs.size x y := p1
  replace z1 : h1.objs.size = hp.objs.size + 1 := z1
  have e1 : IsEnum h1 e z k old := k1 _ _ n1 n2 n3 n4 he
  have el : e < hp.objs.size := Heap.lt_size he
  show wpAny _ _ (field (.ref e) 3 >>= _) _ _ ⟨h1, g, d, tk, os⟩
  refine wpAny_bind (wpAny_field e1 rfl (x := rawInt k) rfl ?_)
  show wpAny _ _ (field (.ref e) 4 >>= _) _ _ ⟨h1, g, d, tk, os⟩
  refine wpAny_bind (wpAny_field e1 rfl (x := .none) rfl ?_)
  show wpAny _ _ (mkInt k >>= _) _ _ ⟨h1, g, d, tk, os⟩
  refine wpAny_bind (wpAny_mkInt ?_)
  show wpAny _ _ (setField (.ref e) 3 (rawInt ((k : Int) + 1)) >>= _) _ _ ⟨h1, g, d, tk + 1, os⟩
  refine wpAny_bind (wpAny_setField_rec e1 (by simp) fun h2 e2 b2 => ?_)
  replace b2 : Heap.SameBut e h1 h2 := b2
  replace e2 : IsEnum h2 e z ((k : Int) + 1) old := e2
  show wpAny _ _ (setField (.ref e) 4 .none >>= _) _ _ ⟨h2, g, d, tk + 1, os⟩
  refine wpAny_bind (wpAny_setField_rec e2 (by simp) fun h3 e3 b3 => ?_)
  replace b3 : Heap.SameBut e h2 h3 := b3
  replace e3 : IsEnum h3 e z ((k : Int) + 1) old := e3
  show wpAny _ _ (newTuple [.int k tk, .ref hp.objs.size] >>= _) _ _ ⟨h3, g, d, tk + 1, os⟩
  refine wpAny_bind (wpAny_newTuple ?_)
  have s3 : h3.objs.size = hp.objs.size + 1 := by rw [b3.1, b2.1, z1]
  have up3 : ∀ c o, c ≠ e → h1.get? c = some o → h3.get? c = some o := fun c o c1 x => b3.extBut c o c1 (b2.extBut c o c1 x)
  have at4 : (h3.push { cls := .type "tuple", data := .seq #[.int k tk, .ref hp.objs.size] }).get? (hp.objs.size + 1) = some { cls := .type "tuple", data := .seq #[.int k tk, .ref hp.objs.size] } := by
    rw [← s3]
    exact Heap.get?_push_size _ rfl
  have e4 : IsEnum (h3.push { cls := .type "tuple", data := .seq #[.int k tk, .ref hp.objs.size] }) e z ((k : Int) + 1) old := Heap.get?_push_of_some _ e3
  have up4 : ∀ c o, c ≠ e → h1.get? c = some o → (h3.push { cls := .type "tuple", data := .seq #[.int k tk, .ref hp.objs.size] }).get? c = some o := fun c o c1 x => Heap.get?_push_of_some _ (up3 c o c1 x)
  show wpAny _ _ (Builtin.SmallTypes.ownedTupleIsFree (.ref e) >>= _) _ _ ⟨h3.push { cls := .type "tuple", data := .seq #[.int k tk, .ref hp.objs.size] }, g, d, tk + 1, os⟩
  rw [s3]
  generalize h3.push { cls := .type "tuple", data := .seq #[.int k tk, .ref hp.objs.size] } = h4 at at4 e4 up4 ⊢
  refine wpAny_bind ?_
  unfold Builtin.SmallTypes.ownedTupleIsFree
  refine wpAny_bind (wpAny_field e4 rfl (x := .none) rfl (wpAny_pure ?_))
  simp only [if_true]
  refine wpAny_bind (wpAny_rule (wpAny_bind (wpAny_field e4 rfl (x := old) rfl ?_)))
  refine wpAny_bind (wpAny_setField_rec e4 (by simp) fun h5 e5 b5 => ?_)
  replace b5 : Heap.SameBut e h4 h5 := b5
  replace e5 : IsEnum h5 e z ((k : Int) + 1) (.ref hp.objs.size) := e5
  show wpAny _ _ (Builtin.SmallTypes.ownedTupleHandOut (.ref e) (.ref (hp.objs.size + 1)) >>= _) _ _ ⟨h5, g, d, tk + 1, os⟩
  refine wpAny_bind ?_
  unfold Builtin.SmallTypes.ownedTupleHandOut
  refine wpAny_bind (wpAny_setField_rec e5 (by simp) fun h6 e6 b6 => ?_)
  replace b6 : Heap.SameBut e h5 h6 := b6
  replace e6 : IsEnumOut h6 e z ((k : Int) + 1) (.ref hp.objs.size) (hp.objs.size + 1) := e6
  refine wpAny_setField_rec e6 (by simp) fun h7 e7 b7 => ?_
  replace b7 : Heap.SameBut e h6 h7 := b7
  replace e7 : IsEnumOut h7 e z ((k : Int) + 1) (.ref hp.objs.size) (hp.objs.size + 1) := e7
  have up7 : ∀ c o, c ≠ e → h4.get? c = some o → h7.get? c = some o := fun c o c1 x => b7.extBut c o c1 (b6.extBut c o c1 (b5.extBut c o c1 x))
  have up : ∀ c o, c ≠ e → h1.get? c = some o → h7.get? c = some o := fun c o c1 x => up7 c o c1 (up4 c o c1 x)
  refine wpAny_bind (wpAny_letGo (wpAny_pure ⟨_, rfl, q h7 tk e7 ?_ (up _ _ (Nat.ne_of_gt el) p1) (up7 _ _ (Nat.ne_of_gt (Nat.lt_succ_of_lt el)) at4) fun c o c1 c2 c3 c4 c5 x => up c o c1 (k1 c o c2 c3 c4 c5 x)⟩))
  obtain ⟨f0, f1, zo, hf⟩ := S1.ob
  obtain ⟨u, v, ow⟩ := S1.own
  exact ⟨⟨f0, f1, up _ _ (Ne.symm n1) zo, hf⟩, up _ _ (Ne.symm n5) S1.its, ⟨u, v, up _ _ (Ne.symm n2) ow⟩, S1.it1.at fun o x => up _ o (Ne.symm n3) x, S1.it2.at fun o x => up _ o (Ne.symm n4) x⟩
end
end DL

/-! DL18: enumerate(zip(a, b)), a and b tuples. -/
namespace DL
open PySem PySem.Spec PyProof.Rows L2
section
variable {X : Cx} {pins : List (Addr × Obj)} {σ : L2.St} {H H' : Hp} {s : Shared} {h' : Heap}
/-- a turn that lays new things -/
theorem turned_many {t' : Nat} {ch : List Addr} (I : Inv X pins σ H s) (k : ∀ b o, b ∉ ch → s.heap.get? b = some o → h'.get? b = some o) (hf : ∀ b ∈ ch, FpOk X pins H b) (old : ∀ b u, H b = some u → H' b = some u) (free : ∀ b o, s.heap.get? b = some o → H b = none → H' b = none)
    (new : ∀ b u, H' b = some u → H b = none → ObjOk X.prog X.w H' h' b u) : Inv X pins σ H' { s with heap := h', toks := t' } := by
  have nit : ∀ b u, H b = some u → b ∉ ch := fun b u e z => by
    have q := (hf b z).1
    rw [q] at e
    cases e
  refine I.step (g' := s.gens) (d' := s.drawn) (ch := ch) (fun b hb => ⟨(hf b hb).2.2.2.1, (hf b hb).2.1, (hf b hb).2.2.2.2.1, (hf b hb).2.2.2.2.2⟩) (fun b o _ _ hc e _ => k b o hc e) (fun b o _ _ hc e _ => ⟨o.slots, k b o hc e⟩)
    (fun b o _ e n => free b o e n) (fun b o hc e => ⟨o, k b o hc e⟩) (fun b xs e => old b _ e) (fun b o u e => old b _ e) (fun b ps e => ⟨#[], by rw [old b _ e]; simp⟩) (fun m hm => ?_) (fun b u e => ?_) I.bare
  · obtain ⟨o, es, ep, ho, r⟩ := hm
    exact ⟨o, es, ep, k _ o (fun z => (hf _ z).2.1 rfl) ho, r⟩
  · cases e0 : H b with
    | none => exact new b u e e0
    | some v =>
      have : v = u := by
        have := old b v e0
        rw [e] at this
        cases this
        rfl
      subst this
      refine (I.hok b v e0).stay (fun c w hc q => k c w ?_ q) (fun c q => old c _ q) fun c xs q => old c _ q
      rcases hc with z | z
      · rw [z]; exact nit b v e0
      · exact nit c _ z
end
section
variable {prog : Program} {w : World} {A : Around} {E : Value → Shared → Prop} {s : Shared}
theorem pyNext_enumZ {e z TI TO i1 i2 l1 l2 : Addr} {k : Nat} {old : Value} {xs ys : Array Value} {x y : Value} {Q : Option Value → Shared → Prop} (D : ZipApart z TI TO i1 i2 l1 l2) (he : IsEnum s.heap e z k old) (ne : e ≠ z ∧ e ≠ TO ∧ e ≠ i1 ∧ e ≠ i2 ∧ e ≠ TI) (S : ZSt s.heap z TI TO i1 i2 l1 l2 k)
    (t1 : s.heap.IsTuple l1 xs) (t2 : s.heap.IsTuple l2 ys) (hx : xs[k]? = some x) (hy : ys[k]? = some y)
    (q : ∀ h' tk, IsEnumOut h' e z ((k : Int) + 1) (.ref s.heap.objs.size) (s.heap.objs.size + 1) → ZSt h' z TI TO i1 i2 l1 l2 (k + 1) → IsPair h' s.heap.objs.size x y → h'.get? (s.heap.objs.size + 1) = some { cls := .type "tuple", data := .seq #[.int k tk, .ref s.heap.objs.size] } →
      (∀ c o, c ≠ e → c ≠ z → c ≠ TO → c ≠ i1 → c ≠ i2 → s.heap.get? c = some o → h'.get? c = some o) → Q (some (.ref (s.heap.objs.size + 1))) { s with heap := h', toks := tk + 1 }) : wpAny (model prog w) A (pyNext (.ref e)) Q E s := by
  have ty : s.TypeIs (.ref e) "enumerate" := ⟨_, he, rfl⟩
  unfold pyNext
  exact wpAny_bind (wpAny_attempt (wpAny_callSpecial?_slot (name := Str.ofString "__next__") ty F.slot_enumerate_next
    (wpAny_call_entry F.slot_enumerate_next ty F.entry_enumerate_next (enumZ_item D he ne S t1 t2 hx hy fun h' tk a b c d g => wpAny_pure (q h' tk a b c d g)) (F.args_enumerate_next_1 _))))
theorem pyNext_enumZ_end {e z TI TO i1 i2 l1 l2 : Addr} {k : Nat} {j : Int} {old : Value} {xs : Array Value} {Q : Option Value → Shared → Prop} (hh : A.handled = none) (D : ZipApart z TI TO i1 i2 l1 l2) (he : IsEnum s.heap e z j old) (S : ZSt s.heap z TI TO i1 i2 l1 l2 k) (t1 : s.heap.IsTuple l1 xs) (hx : xs[k]? = none)
    (q : ∀ h', (∀ c o, c ≠ z → c ≠ TO → c ≠ i1 → c ≠ i2 → s.heap.get? c = some o → h'.get? c = some o) → Q none { s with heap := h' }) : wpAny (model prog w) A (pyNext (.ref e)) Q E s := by
  have ty : s.TypeIs (.ref e) "enumerate" := ⟨_, he, rfl⟩
  obtain ⟨f0, f1, hz, _⟩ := S.ob
  have tz : s.TypeIs (.ref z) "zip" := ⟨_, hz, rfl⟩
  unfold pyNext
  refine wpAny_bind (wpAny_attempt (wpAny_callSpecial?_slot (name := Str.ofString "__next__") ty F.slot_enumerate_next
    (wpAny_call_entry F.slot_enumerate_next ty F.entry_enumerate_next ?_ (F.args_enumerate_next_1 _))))
  show wpAny _ _ (field (.ref e) 2 >>= _) _ _ _
  refine wpAny_bind (wpAny_field he rfl (x := .ref z) rfl (wpAny_bind ?_))
  unfold Builtin.SmallTypes.nextOf
  refine wpAny_bind (wpAny_callSpecial?_slot (name := Str.ofString "__next__") tz F.slot_zip_next
    (wpAny_call_entry F.slot_zip_next tz F.entry_zip_next (zip_end (by simpa using hh) D S t1 hx fun h' x kp hx' => ?_) (F.args_zip_next_1 _)))
  obtain ⟨o, ho, hc⟩ := hx'
  refine wpAny_bind (wpAny_isInstance (T := "StopIteration") (b := true) ⟨o, ho, hc⟩ isSubtype_stop ?_)
  exact wpAny_pure (q _ kp)
end
end DL

/-! DL19: enumerate(zip(a, b)) as an iterable. -/
namespace DL
open PySem PySem.Spec PyProof.Rows L2
/-- the tuples at a and b, the items in new pairs, each with its number in another new pair -/
def IteZ (K : PySem.W.Frag) (a b : Addr) : It where
  go := fun i H => ∃ (xs ys : List V) (x y : V), SqT K H a xs ∧ SqT K H b ys ∧ xs[i]? = some x ∧ ys[i]? = some y
  yld := fun i H v H' => ∃ T U x y, v = .ref U ∧ H T = none ∧ H U = none ∧ T ≠ U ∧ H' = upd (upd H T (.tup [x, y])) U (.tup [.int (i : Nat), .ref T]) ∧ (∀ xs, SqT K H a xs → xs[i]? = some x) ∧ ∀ ys, SqT K H b ys → ys[i]? = some y
  stop := fun i H => ∃ xs ys : List V, SqT K H a xs ∧ SqT K H b ys ∧ xs.length = i
theorem turn_enumZ {P : Program} {w : World} {K : PySem.W.Frag} {elts : List Expr} {kk : Nat} {tpos : Pos} {a b e z TI TO i1 i2 : Addr} (D : ZipApart z TI TO i1 i2 a b) (ne : e ≠ z ∧ e ≠ TO ∧ e ≠ i1 ∧ e ≠ i2 ∧ e ≠ TI) :
    Turn P w K (.Tuple elts kk tpos) (IteZ K a b) [e, z, TI, TO, i1, i2] e (fun i h => (∃ old, IsEnum h e z ((i : Nat) : Int) old) ∧ ZSt h z TI TO i1 i2 a b i) where
  mem := List.mem_cons_self
  obj := fun i h st c hc => by
    obtain ⟨⟨old, he⟩, S⟩ := st
    obtain ⟨f0, f1, hz, _⟩ := S.ob
    obtain ⟨u, v, hO⟩ := S.own
    obtain ⟨o1, q1, _, d1⟩ := S.it1
    obtain ⟨o2, q2, _, d2⟩ := S.it2
    have ec : c = e ∨ c = z ∨ c = TI ∨ c = TO ∨ c = i1 ∨ c = i2 := by simpa using hc
    rcases ec with rfl | rfl | rfl | rfl | rfl | rfl
    · exact ⟨_, he, fun v q => nomatch q⟩
    · exact ⟨_, hz, fun v q => nomatch q⟩
    · exact ⟨_, S.its, fun v q => nomatch q⟩
    · exact ⟨_, hO, fun v q => nomatch q⟩
    · exact ⟨o1, q1, fun v q => by rw [d1] at q; cases q⟩
    · exact ⟨o2, q2, fun v q => by rw [d2] at q; cases q⟩
  keep := fun i h h' st k => by
    obtain ⟨⟨old, he⟩, S⟩ := st
    obtain ⟨f0, f1, hz, hf⟩ := S.ob
    obtain ⟨u, v, hO⟩ := S.own
    exact ⟨⟨old, k e (by simp) _ he⟩, ⟨f0, f1, k z (by simp) _ hz, hf⟩, k TI (by simp) _ S.its, ⟨u, v, k TO (by simp) _ hO⟩, S.it1.at fun o q => k i1 (by simp) o q, S.it2.at fun o q => k i2 (by simp) o q⟩
  item := by
    intro X hP hw hK hc i pins s σ H E I hf st hg
    subst hP hw hK
    obtain ⟨⟨old, he⟩, S⟩ := st
    obtain ⟨xs, ys, x, y, qx, qy, hx, hy⟩ := hg
    obtain ⟨its, rv, p1, _⟩ := I.tuple qx
    obtain ⟨its2, rv2, p2, _⟩ := I.tuple qy
    obtain ⟨u, hu, ru⟩ := rv.get hx
    obtain ⟨u2, hu2, ru2⟩ := rv2.get hy
    have lte : e < s.heap.objs.size := Heap.lt_size he
    refine pyNext_enumZ D he ne S p1 p2 (x := u) (y := u2) (by simpa using hu) (by simpa using hu2) fun h1 tk ho S1 pr at1 kp => ⟨_, rfl, wpAny_letOwnedTupleGo_enum (s := { s with heap := h1, toks := tk + 1 }) ho fun h2 he2 sb => ?_⟩
    have up : ∀ c o, c ≠ e → h1.get? c = some o → h2.get? c = some o := fun c o c1 q => (sb.2 c c1).trans q
    have ltT : s.heap.objs.size ≠ e := Nat.ne_of_gt lte
    have ltU : s.heap.objs.size + 1 ≠ e := Nat.ne_of_gt (Nat.lt_succ_of_lt lte)
    have gT := up _ _ ltT pr
    have gU := up _ _ ltU at1
    have nT : H s.heap.objs.size = none := I.hok.fresh (Nat.le_refl _)
    have nU : H (s.heap.objs.size + 1) = none := I.hok.fresh (Nat.le_succ _)
    have TU : s.heap.objs.size ≠ s.heap.objs.size + 1 := Nat.ne_of_lt (Nat.lt_succ_self _)
    have J : Inv X pins σ (upd (upd H s.heap.objs.size (.tup [x, y])) (s.heap.objs.size + 1) (.tup [.int (i : Nat), .ref s.heap.objs.size])) { s with heap := h2, toks := tk + 1 } := by
      refine turned_many (ch := [e, z, TI, TO, i1, i2]) I (fun c o hb q => up c o (fun q' => hb (by simp [q'])) (kp c o (fun q' => hb (by simp [q'])) (fun q' => hb (by simp [q'])) (fun q' => hb (by simp [q'])) (fun q' => hb (by simp [q'])) (fun q' => hb (by simp [q'])) q)) hf
        (fun c u q => by rw [upd_ne (ne_of_none q nU), upd_ne (ne_of_none q nT)]; exact q) (fun c o q n => ?_) fun c u q n => ?_
      · have lc : c < s.heap.objs.size := Heap.lt_size q
        rw [upd_ne (Nat.ne_of_lt (Nat.lt_succ_of_lt lc)), upd_ne (Nat.ne_of_lt lc)]
        exact n
      · by_cases cU : c = s.heap.objs.size + 1
        · subst cU
          rw [upd_same] at q
          cases q
          exact ⟨(by decide : 2 ≤ sizeLine), [.int i tk, .ref s.heap.objs.size], .cons ⟨tk, rfl⟩ (.cons rfl .nil), _, gU, rfl, _, rfl⟩
        · rw [upd_ne cU] at q
          by_cases cT : c = s.heap.objs.size
          · subst cT
            rw [upd_same] at q
            cases q
            exact ⟨(by decide : 2 ≤ sizeLine), [u, u2], .cons ru (.cons ru2 .nil), _, gT, rfl, _, rfl⟩
          · rw [upd_ne cT, n] at q
            cases q
    obtain ⟨f0, f1, hz, hf0⟩ := S1.ob
    obtain ⟨v1, v2, hO⟩ := S1.own
    refine ⟨.ref (s.heap.objs.size + 1), _, J, rfl, ⟨_, _, x, y, rfl, nT, nU, TU, rfl, fun l hl => by rw [I.tuple_inj hl qx]; exact hx, fun l hl => by rw [I.tuple_inj hl qy]; exact hy⟩,
      ⟨⟨.ref s.heap.objs.size, ?_⟩, ⟨f0, f1, up _ _ (Ne.symm ne.1) hz, hf0⟩, up _ _ (Ne.symm ne.2.2.2.2) S1.its, ⟨v1, v2, up _ _ (Ne.symm ne.2.1) hO⟩, S1.it1.at fun o q => up _ o (Ne.symm ne.2.2.1) q, S1.it2.at fun o q => up _ o (Ne.symm ne.2.2.2.1) q⟩, fun c hcm => ?_⟩
    · have : ((i + 1 : Nat) : Int) = (i : Int) + 1 := by omega
      rw [this]
      exact he2
    · have hc0 := (hf c hcm).1
      have lc : c ≠ s.heap.objs.size ∧ c ≠ s.heap.objs.size + 1 := by
        obtain ⟨⟨old', he'⟩, S'⟩ : (∃ old, IsEnum s.heap e z ((i : Nat) : Int) old) ∧ ZSt s.heap z TI TO i1 i2 a b i := ⟨⟨old, he⟩, S⟩
        obtain ⟨f0', f1', hz', _⟩ := S'.ob
        obtain ⟨_, _, hO'⟩ := S'.own
        obtain ⟨_, q1, _⟩ := S'.it1
        obtain ⟨_, q2, _⟩ := S'.it2
        have lt : c < s.heap.objs.size := by
          have ec : c = e ∨ c = z ∨ c = TI ∨ c = TO ∨ c = i1 ∨ c = i2 := by simpa using hcm
          rcases ec with rfl | rfl | rfl | rfl | rfl | rfl
          · exact lte
          · exact Heap.lt_size hz'
          · exact Heap.lt_size S'.its
          · exact Heap.lt_size hO'
          · exact Heap.lt_size q1
          · exact Heap.lt_size q2
        exact ⟨Nat.ne_of_lt lt, Nat.ne_of_lt (Nat.lt_succ_of_lt lt)⟩
      rw [upd_ne lc.2, upd_ne lc.1]
      exact hc0
  done := by
    intro X hP hw hK hc i pins s σ H E I hf st hg
    subst hP hw hK
    obtain ⟨⟨old, he⟩, S⟩ := st
    obtain ⟨xs, ys, qx, qy, hl⟩ := hg
    obtain ⟨its, rv, p1, _⟩ := I.tuple qx
    have hn : its.toArray[i]? = none := by
      have := rv.length
      simp
      omega
    exact pyNext_enumZ_end (I.ok.hd hc) D he S p1 hn fun h' kp => ⟨rfl, I.turnedL (t' := s.toks) (ch := [e, z, TI, TO, i1, i2]) (fun c o hb q =>
      kp c o (fun q' => hb (by simp [q'])) (fun q' => hb (by simp [q'])) (fun q' => hb (by simp [q'])) (fun q' => hb (by simp [q'])) q) hf⟩
  self := fun A i s Q E st h => by
    obtain ⟨⟨_, he⟩, _⟩ := st
    exact wpAny_pyIter_enum he h
end DL

/-! DL20: enumerate(zip(a, b)): made. -/
namespace DL
open PySem PySem.Spec PyProof.Rows L2
set_option maxHeartbeats 1000000 in
theorem meets_enum0 {z TI TO : Addr} {f0 : Value} :
    Meets (Builtin.«enumerate.__new__» ⟨[.type "enumerate", .ref z], []⟩) (fun _ R s => IsZip s.heap z TI TO f0 ∧ R (.ok (.ret (.ref s.heap.objs.size)))
      { s with heap := s.heap.push { cls := .type "enumerate", data := .fields #[.none, .bool false, .ref z, rawInt 0, .none, .none] } }) :=
  .of_wp fun prog w A R s h => by
    obtain ⟨hp, g, d, tk, os⟩ := s
    obtain ⟨h1, h⟩ := h
    have sub1 := sub_enumerate
    have it1 : ∀ {A' : Around} {E : Value → Shared → Prop} {Q : Value → Shared → Prop}, Q (.ref z) ⟨hp, g, d, tk, os⟩ → wpAny (model prog w) A' (pyIter (.ref z)) Q E ⟨hp, g, d, tk, os⟩ := fun q => wpAny_pyIter_zip h1 q
    wp_walk using it1
    refine wpAny_stack_any fun st => wpAny_pure ?_
    split
    next c _ _ _ _ _ =>
      cases (c == Value.type "enumerate")
      · (wp_walk using it1); exact ⟨_, rfl, h⟩
      · (wp_walk using it1); exact ⟨_, rfl, h⟩
    · (wp_walk using it1); exact ⟨_, rfl, h⟩
section
variable {prog : Program} {w : World} {A : Around} {E : Value → Shared → Prop} {s : Shared}
theorem call_enum0 {z TI TO : Addr} {f0 : Value} {Q : Value → Shared → Prop} (h1 : IsZip s.heap z TI TO f0) (q : ∀ h', IsEnum h' s.heap.objs.size z 0 .none → (∀ b u, s.heap.get? b = some u → h'.get? b = some u) → Q (.ref s.heap.objs.size) { s with heap := h' }) :
    wpAny (model prog w) A (call (.type "enumerate") [.ref z]) Q E s := by
  refine callType_new F.called_enumerate (by decide) (F.typeCall_enumerate_1 _) (F.newCall_enumerate_1 _) (fun obj => F.args_object_init_2 obj _) F.entry_enumerate_new meets_enum0 ⟨h1, ?_⟩
  have at2 := Heap.get?_push_size s.heap (o := { cls := .type "enumerate", data := .fields #[.none, .bool false, .ref z, rawInt 0, .none, .none] }) rfl
  exact ⟨⟨_, at2, rfl⟩, q _ at2 fun b u x => Heap.get?_push_of_some _ x⟩
end
end DL

/-! DL21: enumerate(zip(a, b)) of two tuples, in the head of a loop. -/
namespace DL
open PySem PySem.Spec PyProof.Rows L2
theorem wd_enumZ {K : PySem.W.Frag} {a b : Addr} {ds es : List D} (hl : ds.length ≤ es.length) : WalkD K (IteZ K a b) [(.ref a, .tuple ds), (.ref b, .tuple es)] (pairsD (rangeD 0 ds.length) (pairsD ds es)) where
  goes := fun i H hi ⟨O, h⟩ => by
    rw [pairsD_len, rangeD_len, pairsD_len] at hi
    have h1 : i < ds.length := by omega
    have h2 : i < es.length := by omega
    obtain ⟨_, xs, e, ha, rr⟩ := rep_tup (h (.ref a, .tuple ds) (by simp))
    cases e
    obtain ⟨_, ys, e, hb, rs⟩ := rep_tup (h (.ref b, .tuple es) (by simp))
    cases e
    obtain ⟨x, hx, _⟩ := rr.getD (List.getElem?_eq_getElem h1)
    obtain ⟨y, hy, _⟩ := rs.getD (List.getElem?_eq_getElem h2)
    exact ⟨xs, ys, x, y, ha.sq, hb.sq, hx, hy⟩
  stops := fun H ⟨O, h⟩ => by
    rw [pairsD_len, rangeD_len, pairsD_len]
    obtain ⟨_, xs, e, ha, rr⟩ := rep_tup (h (.ref a, .tuple ds) (by simp))
    cases e
    obtain ⟨_, ys, e, hb, rs⟩ := rep_tup (h (.ref b, .tuple es) (by simp))
    cases e
    refine ⟨xs, ys, ha.sq, hb.sq, ?_⟩
    have := rr.length
    omega
  yields := fun i H v H' hi ⟨O, h⟩ ⟨T, U, x, y, e1, hT, hU, hTU, e2, fx, fy⟩ => by
    subst e1 e2
    rw [pairsD_len, rangeD_len, pairsD_len] at hi
    have h1 : i < ds.length := by omega
    have h2 : i < es.length := by omega
    have hU' : upd H T (.tup [x, y]) U = none := by rw [upd_ne (Ne.symm hTU)]; exact hU
    refine ⟨.tuple [.int (i : Nat), .tuple [ds[i], es[i]]], pairsD_get (by simp [rangeD, h1]) (pairsD_get (List.getElem?_eq_getElem h1) (List.getElem?_eq_getElem h2)), fun c o q => same_upd hU' c o (same_upd hT c o q), fun O' h' => ?_⟩
    obtain ⟨_, xs, e, ha, rr⟩ := rep_tup (h' (.ref a, .tuple ds) (by simp))
    cases e
    obtain ⟨_, ys, e, hb, rs⟩ := rep_tup (h' (.ref b, .tuple es) (by simp))
    cases e
    obtain ⟨d, hd, r⟩ := rr.get (fx xs ha.sq)
    obtain ⟨d', hd', r'⟩ := rs.get (fy ys hb.sq)
    rw [List.getElem?_eq_getElem h1] at hd
    rw [List.getElem?_eq_getElem h2] at hd'
    cases hd
    cases hd'
    exact pair_rep hU' (.int _) (pair_rep hT r r')
theorem ne5 (n : Nat) : n + 5 ≠ n + 4 ∧ n + 5 ≠ n + 3 ∧ n + 5 ≠ n ∧ n + 5 ≠ n + 1 ∧ n + 5 ≠ n + 2 := ⟨by omega, by omega, by omega, by omega, by omega⟩
section
variable {X : Cx} {e e2 : Expr} {pos p pos2 p2 tpos : Pos} {ts : AT} {elts : List Expr} {kk : Nat}
def iEnumZA (K : PySem.W.Frag) (ta : TA) : TI := fun σ H R => ta σ H fun vs H1 => ∃ a b xs ys, vs = [.ref a, .ref b] ∧ SqT K H1 a xs ∧ SqT K H1 b ys ∧ R (IteZ K a b) H1
theorem pi_enumZ {ta : TA} (hg : Gl X "enumerate") (hm : X.mg "enumerate" = none) (hg2 : Gl X "zip") (hm2 : X.mg "zip" = none) (ha : PA X [e, e2] ta)
    (hs : starEach [e, e2] X.env = (false, eval e X.env) :: starEach [e2] X.env := by rfl) (hpl : (backTo pos2 (starEach [e2] X.env)).any (·.1) = false := by rfl)
    (hs1 : starEach [.Call (.Name "zip" p2) [e, e2] [] pos2] X.env = [(false, eval (.Call (.Name "zip" p2) [e, e2] [] pos2) X.env)] := by rfl) :
    PI X (.Tuple elts kk tpos) (.Call (.Name "enumerate" p) [.Call (.Name "zip" p2) [e, e2] [] pos2] [] pos) (iEnumZA X.K ta) := by
  refine ⟨fun pins s σ H R I h => ?_⟩
  refine Call_ (ld_blt I hg hm boot_enumerate (PyProof.Rows.callWith_type1 ?_ hs1 rfl))
  rw [hs1]
  show wpAny _ _ (spliced ((false, eval (.Call (.Name "zip" p2) [e, e2] [] pos2) X.env) :: [])) _ _ s
  refine Calls.spliced_cons (Call_ (ld_blt I hg2 hm2 PyProof.Rows.boot_zip (PyProof.Rows.callWith_type1 (thn (ha.run pos2 pins s σ H _ I h) fun us s1 ⟨vs, H1, I1, r1, q1⟩ => ?_) hs hpl)))
  obtain ⟨a, b, xs, ys, ex, hqx, hqy, q⟩ := q1
  subst ex
  cases r1 with
  | cons r rr =>
    cases rr with
    | cons r' rr =>
      cases rr
      cases r
      cases r'
      obtain ⟨its, rv, p1, _⟩ := I1.tuple hqx
      obtain ⟨its2, rv2, p2', _⟩ := I1.tuple hqy
      obtain ⟨o1, ho1, _⟩ := id p1
      obtain ⟨o2, ho2, _⟩ := id p2'
      have fresh6 : ∀ c, c ∈ [s1.heap.objs.size + 5, s1.heap.objs.size + 4, s1.heap.objs.size + 2, s1.heap.objs.size + 3, s1.heap.objs.size, s1.heap.objs.size + 1] → FpOk X pins H1 c := fun c hcm => by
        have e' : c = s1.heap.objs.size + 5 ∨ c = s1.heap.objs.size + 4 ∨ c = s1.heap.objs.size + 2 ∨ c = s1.heap.objs.size + 3 ∨ c = s1.heap.objs.size ∨ c = s1.heap.objs.size + 1 := by simpa using hcm
        have hle : s1.heap.objs.size ≤ c := by
          rcases e' with z | z | z | z | z | z
          · rw [z]; exact Nat.le_add_right _ _
          · rw [z]; exact Nat.le_add_right _ _
          · rw [z]; exact Nat.le_add_right _ _
          · rw [z]; exact Nat.le_add_right _ _
          · rw [z]; exact Nat.le_refl _
          · rw [z]; exact Nat.le_add_right _ _
        exact I1.fpOk hle (I1.hok.fresh hle)
      refine RZ.call_zipT (show s1.heap.IsTuple a its.toArray from p1) (show s1.heap.IsTuple b its2.toArray from p2') fun h' hz hTI hTO h1 h2 hsz hk => Calls.spliced_nil ?_
      refine call_enum0 (s := { s1 with heap := h' }) hz fun h3 he hk3 => wpAny_pyIter_enum he ?_
      have he : IsEnum h3 (s1.heap.objs.size + 5) (s1.heap.objs.size + 4) 0 .none := by rw [← hsz]; exact he
      have I3 : Inv X pins σ H1 { s1 with heap := h3 } := I1.kept (t' := s1.toks) fun c o q => hk3 c o (hk c o q)
      have ee : h'.objs.size = s1.heap.objs.size + 5 := hsz
      show ∃ _, _
      rw [ee]
      refine ⟨s1.heap.objs.size + 5, [s1.heap.objs.size + 5, s1.heap.objs.size + 4, s1.heap.objs.size + 2, s1.heap.objs.size + 3, s1.heap.objs.size, s1.heap.objs.size + 1], _, _, H1, rfl, I3, turn_enumZ (PySem.W.ktu_apart s1.heap.objs.size a b (Heap.lt_size ho1) (Heap.lt_size ho2)) (ne5 _),
        ⟨⟨.none, he⟩, ⟨⟨_, _, hk3 _ _ hz, .inl rfl⟩, hk3 _ _ hTI, ⟨_, _, hk3 _ _ hTO⟩, h1.at fun o q => hk3 _ o q, h2.at fun o q => hk3 _ o q⟩⟩, fresh6, q⟩
def iEnumZ (ts : AT) : IT := fun E η Q => ts E η fun ds => match ds with | [.tuple xs, .tuple ys] => xs.length ≤ ys.length ∧ Q (pairsD (rangeD 0 xs.length) (pairsD xs ys)) | _ => False
theorem di_enumZ (hg : Gl X "enumerate") (hm : X.mg "enumerate" = none) (hg2 : Gl X "zip") (hm2 : X.mg "zip" = none) (ha : DA X [e, e2] ts)
    (hs : starEach [e, e2] X.env = (false, eval e X.env) :: starEach [e2] X.env := by rfl) (hpl : (backTo pos2 (starEach [e2] X.env)).any (·.1) = false := by rfl)
    (hs1 : starEach [.Call (.Name "zip" p2) [e, e2] [] pos2] X.env = [(false, eval (.Call (.Name "zip" p2) [e, e2] [] pos2) X.env)] := by rfl) :
    DI X (.Tuple elts kk tpos) (.Call (.Name "enumerate" p) [.Call (.Name "zip" p2) [e, e2] [] pos2] [] pos) (iEnumZ ts) := ⟨⟨fun pins s σ H R I ⟨c, O, η, E, Q, g, ht, k⟩ =>
  (pi_enumZ hg hm hg2 hm2 ha.pa hs hpl hs1).run pins s σ H R I ⟨c, O, η, E, _, g, ht, fun ds vs H' s r q => by
    match ds, q with
    | [.tuple xs, .tuple ys], ⟨hl, q⟩ =>
      cases r with
      | cons r1 r2 =>
        cases r2 with
        | cons r2 r3 =>
          cases r3
          obtain ⟨a, us, e1, h1, rr1⟩ := rep_tup r1
          obtain ⟨b, ws, e2, h2, rr2⟩ := rep_tup r2
          subst e1 e2
          exact ⟨a, b, us, ws, rfl, h1.sq, h2.sq, k _ H' _ _ s (fun p hp => by
            simp only [List.mem_cons, List.mem_nil_iff, or_false] at hp
            rcases hp with rfl | rfl
            · exact r1
            · exact r2) (wd_enumZ hl) q⟩⟩⟩⟩
end
end DL

/-! DL22: list.extend by a tuple. -/
namespace DL
open PySem PySem.Spec PyProof.Rows L2
theorem list_extend_tupG (l : Addr) (items : Array Value) (n : Nat) (b : Addr) (items2 : Array Value) (n2 : Nat) (dd : Option Addr) (sl : Array (Option Value)) (hs0 : ¬(!items.isEmpty && Builtin.List.listTooLong (items.size + items2.size)) = true) (hs1 : items.size ≤ sizeLine) (hs2 : items.size + items2.size ≤ sizeLine + 1) :
    Meets (Builtin.«list.extend» ⟨[.ref l, .ref b], []⟩) (fun _ R s => s.heap.get? l = some { cls := .type "list", dict := none, data := .seq items n, slots := #[] } ∧ s.heap.get? b = some { cls := .type "tuple", dict := dd, data := .seq items2 n2, slots := sl } ∧ R (.ok (.ret Value.none)) { s with heap := s.heap.update l (Obj.mapSeq fun x => x ++ items2), toks := s.toks }) :=
  .of_wp fun prog w A R s h => by
    obtain ⟨hp, g, d, tk, os⟩ := s; obtain ⟨hl, hb, h⟩ := h; have f1 := AutoSeq1.idx_int; have f2 := AutoSeq1.sub_tuple_tuple; have f3 := AutoSeq1.sub_list_list; have f4 := AutoSeq1.sub_tuple_list; have f5 := AutoSeq1.sub_list_tuple
    have hz' : (items ++ items2).size ≤ sizeLine + 1 := by rw [Array.size_append]; exact hs2
    wp_walk using (wpAny_updateSeq hl rfl (hz := hs1) (_hz' := hz')), wpAny_loadPart' hl, wpAny_loadPart' hb; exact ⟨_, rfl, h⟩
section
variable {X : Cx} {e : Expr} {pos p apos : Pos} {t : ET}
def rExtT (K : PySem.W.Frag) : V → List V → Hp → VK → Prop := fun x vs H Q => ∃ l b xs zs, x = .ref l ∧ vs = [.ref b] ∧ H l = some (.lst xs) ∧ SqT K H b zs ∧ xs.length + zs.length ≤ sizeLine ∧ Q .non (upd H l (.lst (xs ++ zs)))
theorem mt_extendT : MtM X "list.extend" (rExtT X.K) := by
  intro pins s σ H x v vs us Q I rx rv h
  obtain ⟨l, b, xs, zs, rfl, rfl, hH, hB, hz, q⟩ := h
  cases rx
  obtain ⟨u, rfl, ru⟩ := rv.one
  cases ru
  obtain ⟨z, its, n, r, hl, e⟩ := I.lstM hH
  obtain ⟨its2, r2, ⟨⟨cls, dd, data, sl⟩, ho, hc, n2, hd⟩, hl2⟩ := I.tuple hB
  simp only at hc hd
  subst hc hd
  have el : its.length = xs.length := r.length.symm
  have el2 : its2.length = zs.length := r2.length.symm
  have hsz : its.toArray.size + its2.toArray.size ≤ sizeLine := by rw [List.size_toArray, List.size_toArray]; omega
  have hlong : ¬ (!its.toArray.isEmpty && Builtin.List.listTooLong (its.toArray.size + its2.toArray.size)) = true := by
    rw [notLongL hsz, Bool.and_false]
    exact Bool.false_ne_true
  refine call_meets F.slot_list_extend ⟨_, e, rfl⟩ F.entry_list_extend (F.args_list_extend_2 _ _)
    (list_extend_tupG l its.toArray n b its2.toArray n2 dd sl hlong (by rw [List.size_toArray]; omega) (by omega)) ⟨e, ho, ?_⟩
  refine ⟨.non, _, I.lset (its' := its ++ its2) hH e (by simp) (r.append r2) ?_, rfl, q⟩
  rw [List.length_append]
  omega
theorem MtM.or {id : String} {r r' : V → List V → Hp → VK → Prop} (h : MtM X id r) (h' : MtM X id r') : MtM X id (fun x xs H Q => r x xs H Q ∨ r' x xs H Q) := by
  intro pins s σ H x v vs us Q I rx rv q
  exact q.elim (h pins s σ H x v vs us Q I rx rv) (h' pins s σ H x v vs us Q I rx rv)
def onSeqE (d : D) (k : List D → Prop) : Prop := match d with | .list es => k es | .tuple es => k es | _ => False
def sExtS (i : Nat) (t : ET) : SD := fun E z η => onOwn η[i]? fun ds => t E (lend η) fun d => onSeqE d fun es => flatAll es = true ∧ ds.length + es.length ≤ sizeLine ∧ z.nx (η.set i (.own (ds ++ es)))
theorem ds_extS (i : Nat) {x : Str} {npos : Pos} (he : DE X e t) (hN : X.N[i]? = some x := by rfl) (hv : Vis X.env.scope x := by first | exact Or.inl rfl | exact Or.inr (Or.inl rfl) | exact Or.inr (Or.inr rfl)) (hd : (x == ("__debug__" : Str)) = false := by decide) (hcd : (x == ("__classdict__" : Str)) = false := by decide)
    (hline : (apos.endLine == p.line) = true := by rfl) (hs : starEach [e] X.env = (false, eval e X.env) :: starEach [] X.env := by rfl) (hfew : ((backTo p (starEach [e] X.env)).all (fun x => !x.1) && (backToKw p (keywordEach [] X.env)).all (fun x => x.1.isSome) && decide ([e].length + ([] : List Keyword).length + (if ([] : List Keyword).isEmpty then 0 else 1) < 30)) = true := by rfl)
    (hsw : swapsWith (.Call (.Attribute (.Name x npos) "extend" apos) [e] [] p) none pos.line X.env = pure false := by rfl) : DS X (.Expr (.Call (.Attribute (.Name x npos) "extend" apos) [e] [] p) pos) (sExtS i t) := by
  refine .of (ps_expr (pe_bm PySem.F.plainAttrs_list PySem.F.slot_list_extend PySem.F.type_list_extend (MtM.or mt_extend mt_extendT) (pe_var hN hv hd hcd) (pa_cons he.pe pa_nil hs) (by rfl) hfew hline hs) hsw) fun σ H c O η E z g h => ?_
  obtain ⟨ds, hi, h⟩ := onOwn_out h
  · obtain ⟨a, xs, ea, ha, _⟩ := own_out g.toGood hi
    refine ⟨.ref a, ea, .inl ⟨rfl, xs, .of ha⟩, c, c.B, lend η, E, _, g.lend, h, fun d v H1 s r q => ?_⟩
    obtain ⟨ys, hy, ry⟩ := own_after g.toGood s hi ea
    cases r with
    | lst o h1 rr => exact .inl ⟨a, _, ys, _, rfl, rfl, hy, h1, by rw [ry.length, rr.length]; exact q.2.1, O, _, (g.step s).grown hi ea (ry.append (rr.flat q.1)), q.2.2⟩
    | tup h1 rr => exact .inr ⟨a, _, ys, _, rfl, rfl, hy, h1.sq, by rw [ry.length, rr.length]; exact q.2.1, O, _, (g.step s).grown hi ea (ry.append (rr.flat q.1)), q.2.2⟩
    | _ => exact q.elim
end
end DL

/-! PL0: data, order, loops: no program in sight. -/
namespace PL
open PySem DL
/-! ### data of ints -/
def T (l : List Int) : D := .tuple (l.map .int)
theorem eqv_int (i j : Int) : PyData.eqv (.int i) (.int j) = decide (i = j) := by
  unfold PyData.eqv
  rw [Bool.eq_iff_iff]
  simp
mutual
/-- no truth value, no dict -/
def noB : D → Bool
  | .none => true
  | .bool _ => false
  | .int _ => true
  | .str _ => true
  | .list xs => noBs xs
  | .tuple xs => noBs xs
  | .dict _ => false
def noBs : List D → Bool
  | [] => true
  | x :: xs => noB x && noBs xs
end
mutual
theorem eqv_iff : ∀ x y : D, noB x = true → noB y = true → (PyData.eqv x y = true ↔ x = y)
  | .none, y, _, hy => by cases y <;> simp_all [PyData.eqv, noB]
  | .bool _, y, h, _ => by simp [noB] at h
  | .int i, y, _, hy => by cases y <;> simp_all [PyData.eqv, noB]
  | .str x, y, _, hy => by cases y <;> simp_all [PyData.eqv, noB]
  | .list xs, y, hx, hy => by
    cases y with
    | list ys =>
      have := eqvs_iff xs ys (by simpa [noB] using hx) (by simpa [noB] using hy)
      simpa [PyData.eqv] using this
    | _ => simp_all [PyData.eqv, noB]
  | .tuple xs, y, hx, hy => by
    cases y with
    | tuple ys =>
      have := eqvs_iff xs ys (by simpa [noB] using hx) (by simpa [noB] using hy)
      simpa [PyData.eqv] using this
    | _ => simp_all [PyData.eqv, noB]
  | .dict _, _, h, _ => by simp [noB] at h
theorem eqvs_iff : ∀ xs ys : List D, noBs xs = true → noBs ys = true → (PyData.eqvAll xs ys = true ↔ xs = ys)
  | [], [], _, _ => by simp [PyData.eqvAll]
  | [], _ :: _, _, _ => by simp [PyData.eqvAll]
  | _ :: _, [], _, _ => by simp [PyData.eqvAll]
  | x :: xs, y :: ys, hx, hy => by
    simp only [noBs, Bool.and_eq_true] at hx hy
    have h1 := eqv_iff x y hx.1 hy.1
    have h2 := eqvs_iff xs ys hx.2 hy.2
    simp only [PyData.eqvAll, Bool.and_eq_true, h1, h2, List.cons.injEq]
end
theorem noBs_map {α : Type} (f : α → D) (h : ∀ a, noB (f a) = true) : ∀ l : List α, noBs (l.map f) = true
  | [] => rfl
  | a :: l => by
    rw [List.map_cons, noBs, h a, noBs_map f h l]
    rfl
theorem noBs_all : ∀ {l : List D}, (∀ d ∈ l, noB d = true) → noBs l = true
  | [], _ => rfl
  | a :: l, h => by
    rw [noBs, h a List.mem_cons_self, noBs_all fun d hd => h d (List.mem_cons_of_mem _ hd)]
    rfl
theorem noB_T (l : List Int) : noB (T l) = true := by
  unfold T noB
  exact noBs_map _ (fun _ => rfl) l
theorem map_int_inj : ∀ {l m : List Int}, l.map PyData.int = m.map PyData.int → l = m
  | [], [], _ => rfl
  | [], _ :: _, h => by simp at h
  | _ :: _, [], h => by simp at h
  | a :: l, b :: m, h => by
    simp only [List.map_cons, List.cons.injEq, PyData.int.injEq] at h
    rw [h.1, map_int_inj h.2]
theorem T_inj {l m : List Int} (h : T l = T m) : l = m := by
  unfold T at h
  exact map_int_inj (PyData.tuple.inj h)
theorem eqv_T (l m : List Int) : PyData.eqv (T l) (T m) = decide (l = m) := by
  rw [Bool.eq_iff_iff, eqv_iff _ _ (noB_T l) (noB_T m), decide_eq_true_eq]
  exact ⟨T_inj, fun e => by rw [e]⟩
theorem any_int (l : List Int) (x : Int) : ((l.map PyData.int).any fun z => PyData.eqv z (.int x)) = decide (x ∈ l) := by
  rw [Bool.eq_iff_iff, List.any_eq_true, decide_eq_true_eq]
  constructor
  · rintro ⟨z, hz, e⟩
    obtain ⟨i, hi, rfl⟩ := List.mem_map.mp hz
    rw [eqv_int, decide_eq_true_eq] at e
    rwa [← e]
  · intro h
    exact ⟨_, List.mem_map.mpr ⟨x, h, rfl⟩, by rw [eqv_int]; simp⟩
theorem eqv_str (x : Str) : PyData.eqv (.str x) (.str x) = true := by simp [PyData.eqv]

/-! ### data that may be compared and shown -/
structure Rp (k w : Nat) (d : D) : Prop where
  lay : d.canLay0 = true
  dep : d.depth ≤ k
  wei : d.weight ≤ w
  sho : d.intsShort 13 = true
  can : d.showable = true
theorem Rp.mono {k w k' w' : Nat} {d : D} (r : Rp k w d) (h : k ≤ k') (h' : w ≤ w') : Rp k' w' d := ⟨r.lay, Nat.le_trans r.dep h, Nat.le_trans r.wei h', r.sho, r.can⟩
theorem Rp.shaped {k w : Nat} {d : D} (r : Rp k w d) (h : k ≤ 64) : SeqAt.shaped d = true := by
  unfold SeqAt.shaped
  rw [r.lay, decide_eq_true (Nat.le_trans r.dep h)]
  rfl
theorem Rp.repr {k w : Nat} {d : D} (r : Rp k w d) (h : k ≤ 60) (hw : w ≤ 2 ^ 20) : reprOk d ∧ d.hasDict = false := by
  refine ⟨⟨r.can, ?_, Nat.le_trans r.dep h⟩, PyData.hasDict_of_canLay d r.lay⟩
  refine PyData.shown_fits_of_layable0 (B := 13) (by decide) (by decide) ?_ r.sho
  unfold PyData.layable0
  have h1 := r.dep
  have h2 := r.wei
  rw [r.lay, decide_eq_true (show d.depth ≤ 64 by omega), decide_eq_true (show d.weight ≤ 2 ^ 20 by omega)]
  rfl
theorem log2_lt {n k : Nat} (h : n < 2 ^ k) (hk : 0 < k) : n.log2 < k := by
  by_cases e : n = 0
  · subst e
    simpa using hk
  · exact (Nat.log2_lt e).mpr h
theorem rp_int {i : Int} (h : i.natAbs < 10 ^ 12) : Rp 0 41 (.int i) := by
  have h0 : i.natAbs.log2 < 40 := log2_lt (Nat.lt_trans h (by decide)) (by decide)
  refine ⟨rfl, Nat.le_refl _, ?_, ?_, ?_⟩
  · unfold PyData.weight
    split <;> omega
  · have := PyData.intsShortAll_ints [i] (by simpa using h)
    simpa [PyData.intsShortAll] using this
  · unfold PyData.showable
    exact decide_eq_true (by omega)
theorem rp_bool (b : Bool) : Rp 0 0 (.bool b) := ⟨rfl, Nat.le_refl _, Nat.le_refl _, rfl, rfl⟩
theorem rp_none : Rp 0 0 .none := ⟨rfl, Nat.le_refl _, Nat.le_refl _, rfl, rfl⟩
structure Rps (k w : Nat) (ds : List D) : Prop where
  lay : PyData.canLayAll0 ds = true
  dep : PyData.depthAll ds ≤ k
  wei : PyData.weightAll ds ≤ w
  sho : PyData.intsShortAll 13 ds = true
  can : PyData.showableAll ds = true
theorem rps_of {k w : Nat} : ∀ {ds : List D} {n : Nat}, (∀ d ∈ ds, Rp k w d) → ds.length ≤ n → Rps k (n * (w + 1)) ds
  | [], n, _, _ => ⟨rfl, Nat.zero_le _, Nat.zero_le _, rfl, rfl⟩
  | d :: ds, n, h, hn => by
    have r := h d List.mem_cons_self
    have ih := rps_of (n := ds.length) (fun x hx => h x (List.mem_cons_of_mem _ hx)) (Nat.le_refl _)
    refine ⟨?_, ?_, ?_, ?_, ?_⟩
    · rw [PyData.canLayAll0, r.lay, ih.lay]; rfl
    · rw [PyData.depthAll]; exact Nat.max_le.mpr ⟨r.dep, ih.dep⟩
    · rw [PyData.weightAll]
      have h1 := r.wei
      have h2 := ih.wei
      have h3 : (ds.length + 1) * (w + 1) ≤ n * (w + 1) := Nat.mul_le_mul_right _ (by simpa using hn)
      rw [Nat.add_mul, Nat.one_mul] at h3
      omega
    · rw [PyData.intsShortAll, r.sho, ih.sho]; rfl
    · rw [PyData.showableAll, r.can, ih.can]; rfl
theorem Rps.tup {k w : Nat} {ds : List D} (r : Rps k w ds) : Rp (k + 1) w (.tuple ds) := by
  refine ⟨?_, ?_, ?_, ?_, ?_⟩
  · rw [PyData.canLay0]; exact r.lay
  · rw [PyData.depth]; exact Nat.succ_le_succ r.dep
  · rw [PyData.weight]; exact r.wei
  · rw [PyData.intsShort]; exact r.sho
  · rw [PyData.showable]; exact r.can
theorem Rps.lst {k w : Nat} {ds : List D} (r : Rps k w ds) : Rp (k + 1) w (.list ds) := by
  refine ⟨?_, ?_, ?_, ?_, ?_⟩
  · rw [PyData.canLay0]; exact r.lay
  · rw [PyData.depth]; exact Nat.succ_le_succ r.dep
  · rw [PyData.weight]; exact r.wei
  · rw [PyData.intsShort]; exact r.sho
  · rw [PyData.showable]; exact r.can
theorem rp_tup {k w : Nat} {ds : List D} (n : Nat) (h : ∀ d ∈ ds, Rp k w d) (hn : ds.length ≤ n) : Rp (k + 1) (n * (w + 1)) (.tuple ds) := (rps_of h hn).tup
theorem rp_lst {k w : Nat} {ds : List D} (n : Nat) (h : ∀ d ∈ ds, Rp k w d) (hn : ds.length ≤ n) : Rp (k + 1) (n * (w + 1)) (.list ds) := (rps_of h hn).lst
theorem eqOk_rp {k w k' w' : Nat} {x y : D} (h : Rp k w x) (h' : Rp k' w' y) (hk : k ≤ 64 := by decide) (hk' : k' ≤ 64 := by decide) : eqOk x y = true := by
  unfold eqOk
  split
  · rfl
  · rw [h.shaped hk, h'.shaped hk']
    rfl

/-! ### loops -/
theorem compD_of {g : GT} {tt : BT} {te : ET} {η0 : EnvD} (f : D → Option D) : ∀ {ds acc : List D} {Q : List D → Prop},
    (∀ d ∈ ds, ∀ R : Option D → Prop, R (f d) → g d η0 fun η1 => tt never η1 fun b => if b = true then te never η1 fun y => R (some y) else R none) → acc.length + ds.length ≤ sizeLine → Q (acc ++ ds.filterMap f) → compD g tt te η0 ds acc Q
  | [], acc, Q, _, _, q => by
    simp only [List.filterMap_nil, List.append_nil] at q
    exact q
  | d :: ds, acc, Q, h, hl, q => by
    refine h d List.mem_cons_self (fun o => match o with | some y => acc.length < sizeLine ∧ compD g tt te η0 ds (acc ++ [y]) Q | none => compD g tt te η0 ds acc Q) ?_
    rw [List.length_cons] at hl
    cases e : f d with
    | none => exact compD_of f (fun x hx => h x (List.mem_cons_of_mem _ hx)) (by omega) (by rwa [List.filterMap_cons_none e] at q)
    | some y =>
      refine ⟨by omega, compD_of f (fun x hx => h x (List.mem_cons_of_mem _ hx)) (by rw [List.length_append, List.length_singleton]; omega) ?_⟩
      rw [List.filterMap_cons_some e] at q
      rwa [List.append_assoc, List.singleton_append]
/-- the kept ones, each told by k -/
theorem compD_fl {α : Type} (h k : α → D) (p : α → Bool) {g : GT} {tt : BT} {te : ET} {η0 : EnvD} : ∀ {xs : List α} {acc : List D} {Q : List D → Prop},
    (∀ a ∈ xs, ∀ (R1 : D → Prop) (R0 : Prop), (p a = true → R1 (k a)) → (p a = false → R0) → g (h a) η0 fun η1 => tt never η1 fun b => if b = true then te never η1 R1 else R0) → acc.length + xs.length ≤ sizeLine → Q (acc ++ (xs.filter p).map k) → compD g tt te η0 (xs.map h) acc Q
  | [], acc, Q, _, _, q => by
    simp only [List.filter_nil, List.map_nil, List.append_nil] at q
    exact q
  | a :: xs, acc, Q, each, hl, q => by
    rw [List.length_cons] at hl
    refine each a List.mem_cons_self _ _ (fun e => ⟨by omega, ?_⟩) fun e => ?_
    · refine compD_fl h k p (fun x hx => each x (List.mem_cons_of_mem _ hx)) (by rw [List.length_append, List.length_singleton]; omega) ?_
      rw [List.filter_cons_of_pos e, List.map_cons] at q
      rwa [List.append_assoc, List.singleton_append]
    · refine compD_fl h k p (fun x hx => each x (List.mem_cons_of_mem _ hx)) (by omega) ?_
      rwa [List.filter_cons_of_neg (by rw [e]; decide)] at q
theorem compD_mp {α : Type} (h k : α → D) {g : GT} {tt : BT} {te : ET} {η0 : EnvD} {xs : List α} {acc : List D} {Q : List D → Prop}
    (each : ∀ a ∈ xs, ∀ (R1 : D → Prop) (R0 : Prop), R1 (k a) → g (h a) η0 fun η1 => tt never η1 fun b => if b = true then te never η1 R1 else R0) (hl : acc.length + xs.length ≤ sizeLine) (q : Q (acc ++ xs.map k)) : compD g tt te η0 (xs.map h) acc Q := by
  refine compD_fl h k (fun _ => true) (fun a ha R1 R0 h1 _ => each a ha R1 R0 (h1 rfl)) hl ?_
  rwa [List.filter_eq_self.mpr fun _ _ => rfl]
theorem cut1 {α : Type} (xs : List α) : cutD xs (some 1) none = xs.drop 1 := by
  unfold cutD
  have e : HT.sIx xs.length 0 (some 1) = min 1 xs.length := HT.sIx_nat xs.length 0 1
  rw [e, HT.sIx_none]
  cases xs with
  | nil => rfl
  | cons x xs =>
    have e2 : min 1 (x :: xs).length = 1 := by simp
    rw [e2, List.take_of_length_le (by simp)]
/-- each kept or not, as it comes -/
theorem compD_sub {g : GT} {tt : BT} {te : ET} {η0 : EnvD} : ∀ {ds acc : List D} {Q : List D → Prop},
    (∀ d ∈ ds, ∀ (R1 : D → Prop) (R0 : Prop), R1 d → R0 → g d η0 fun η1 => tt never η1 fun b => if b = true then te never η1 R1 else R0) → acc.length + ds.length ≤ sizeLine → (∀ out : List D, out.Sublist ds → Q (acc ++ out)) → compD g tt te η0 ds acc Q
  | [], acc, Q, _, _, q => by
    have := q [] (List.Sublist.refl _)
    rwa [List.append_nil] at this
  | d :: ds, acc, Q, h, hl, q => by
    rw [List.length_cons] at hl
    refine h d List.mem_cons_self _ _ ⟨by omega, ?_⟩ ?_
    · refine compD_sub (fun x hx => h x (List.mem_cons_of_mem _ hx)) (by rw [List.length_append, List.length_singleton]; omega) fun out ho => ?_
      rw [List.append_assoc, List.singleton_append]
      exact q _ (ho.cons₂ d)
    · exact compD_sub (fun x hx => h x (List.mem_cons_of_mem _ hx)) (by omega) fun out ho => q _ (ho.cons d)
theorem forD_inv {g : GT} {tb : SD} {E : XP} {z : EndsD} (J : List D → EnvD → Prop) (h : ∀ d ds η, J (d :: ds) η → ∀ nx : EnvD → Prop, (∀ η', J ds η' → nx η') → g d η fun η1 => tb E { nx := nx, rt := z.rt, bk := z.nx, ct := nx } η1) (h0 : ∀ η, J [] η → z.nx η) :
    ∀ {ds : List D} {η : EnvD}, J ds η → forD g tb E z ds η
  | [], η, j => h0 η j
  | d :: ds, η, j => h d ds η j _ fun η' j' => forD_inv J h h0 j'
theorem whileD_inv {b : BT} {tb : SD} {E : XP} {z : EndsD} (J : Nat → EnvD → Prop)
    (h : ∀ n η, J n η → ∀ nx : EnvD → Prop, (∀ m η', n = m + 1 → J m η' → nx η') → b E (lend η) fun k => if k = true then tb E { nx := nx, rt := z.rt, bk := z.nx, ct := nx } η else z.nx η) : ∀ {n : Nat} {η : EnvD}, J n η → whileD b tb E z (n + 1) η
  | 0, η, j => h 0 η j _ fun m η' e _ => nomatch e
  | n + 1, η, j => h (n + 1) η j _ fun m η' e j' => by
    have e : m = n := by omega
    subst e
    exact whileD_inv J h j'

/-! ### order -/
theorem le_lt (a b : D) : PySem.W.dataLe false id a b = !PySem.W.dataLt b a := rfl
theorem sortD_perm (ds : List D) : (sortD ds).Perm ds := List.mergeSort_perm _ _
theorem sort_two : ∀ {l m : List D}, l.Perm m → l.Pairwise (fun a b => PySem.W.dataLe false id a b = true) → m.Pairwise (fun a b => PySem.W.dataLt a b = true) → l = m
  | [], m, p, _, _ => (List.nil_perm.mp p).symm
  | x :: xs, [], p, _, _ => absurd (List.perm_nil.mp p) (by simp)
  | x :: xs, y :: ys, p, hl, hm => by
    obtain ⟨h1, h2⟩ := List.pairwise_cons.mp hl
    obtain ⟨m1, m2⟩ := List.pairwise_cons.mp hm
    have e : x = y := by
      rcases List.mem_cons.mp (p.mem_iff.mp List.mem_cons_self) with e | hx
      · exact e
      · rcases List.mem_cons.mp (p.mem_iff.mpr List.mem_cons_self) with e | hy
        · exact e.symm
        · have a := m1 x hx
          have b := h1 y hy
          rw [le_lt, a] at b
          exact absurd b (by decide)
    subst e
    rw [sort_two (List.Perm.cons_inv p) h2 m2]
theorem sortD_eq {ds m : List D} (p : m.Perm ds) (hm : m.Pairwise (fun a b => PySem.W.dataLt a b = true)) : sortD ds = m :=
  sort_two ((sortD_perm ds).trans p.symm) (PySem.W.sort_pairwise (PySem.W.sortLe_total _ _ _) ds) hm
def ltL : List Int → List Int → Bool
  | [], [] => false
  | [], _ :: _ => true
  | _ :: _, [] => false
  | a :: l, b :: m => if a = b then ltL l m else decide (a < b)
theorem dataLt_T : ∀ l m : List Int, PySem.W.dataLt (T l) (T m) = ltL l m
  | [], [] => by decide +kernel
  | [], b :: m => by
    unfold T ltL
    rw [PySem.W.dataLt_tuple, List.map_cons, PySem.W.toks_all_cons]
    rfl
  | a :: l, [] => by
    unfold T ltL
    rw [PySem.W.dataLt_tuple, List.map_cons, PySem.W.toks_all_cons]
    rfl
  | a :: l, b :: m => by
    have ih := dataLt_T l m
    unfold T at ih ⊢
    rw [PySem.W.dataLt_tuple] at ih ⊢
    unfold ltL
    rw [List.map_cons, List.map_cons]
    by_cases e : a = b
    · rw [if_pos e, PySem.W.dataLt_all_yes rfl (by rw [eqv_int, decide_eq_true e])]
      exact ih
    · rw [if_neg e, PySem.W.dataLt_all_no rfl (by rw [eqv_int, decide_eq_false e]), PySem.W.dataLt_int]
/-- ascending -/
abbrev Asc (l : List Int) : Prop := l.Pairwise (· < ·)
theorem sortD_ints {l m : List Int} (p : m.Perm l) (h : Asc m) : sortD (l.map .int) = m.map .int := by
  refine sortD_eq (p.map _) ?_
  rw [List.pairwise_map]
  refine h.imp fun {a b} hab => ?_
  rw [PySem.W.dataLt_int, decide_eq_true hab]
/-- two ascending lists of the same members are one -/
theorem asc_ext : ∀ {l m : List Int}, Asc l → Asc m → (∀ x, x ∈ l ↔ x ∈ m) → l = m
  | [], [], _, _, _ => rfl
  | [], b :: m, _, _, h => absurd ((h b).mpr List.mem_cons_self) (by simp)
  | a :: l, [], _, _, h => absurd ((h a).mp List.mem_cons_self) (by simp)
  | a :: l, b :: m, hl, hm, h => by
    obtain ⟨l1, l2⟩ := List.pairwise_cons.mp hl
    obtain ⟨m1, m2⟩ := List.pairwise_cons.mp hm
    have e : a = b := by
      rcases List.mem_cons.mp ((h a).mp List.mem_cons_self) with e | ha
      · exact e
      · rcases List.mem_cons.mp ((h b).mpr List.mem_cons_self) with e | hb
        · exact e.symm
        · have := m1 a ha
          have := l1 b hb
          omega
    subst e
    refine congrArg _ (asc_ext l2 m2 fun x => ⟨fun hx => ?_, fun hx => ?_⟩)
    · rcases List.mem_cons.mp ((h x).mp (List.mem_cons_of_mem _ hx)) with e | z
      · have := l1 x hx
        omega
      · exact z
    · rcases List.mem_cons.mp ((h x).mpr (List.mem_cons_of_mem _ hx)) with e | z
      · have := m1 x hx
        omega
      · exact z
theorem Asc.nodup {l : List Int} (h : Asc l) : l.Nodup := h.imp fun {a b} hab e => by omega
end PL

/-! DLset0: a set of nested tuples: searching, adding. -/
namespace DS
open PySem PySem.Spec PyProof.Rows L2
variable {P : Program} {w : World} {A : Around} {E : Value → Shared → Prop} {s : Shared}
mutual
/-- ints, tuples of such .. -/
def numK : NestedKey → Bool
  | .num _ => true
  | .tup ks => numKs ks
  | _ => false
def numKs : List NestedKey → Bool
  | [] => true
  | k :: ks => numK k && numKs ks
end
/-- the key k at a -/
structure At (h : Heap) (k : NestedKey) (a : Addr) : Prop where
  is : NestedIs h k (.ref a)
  dep : k.depth ≤ 8
  num : numK k = true
theorem At.knd {h : Heap} {k : NestedKey} {a : Addr} (x : At h k a) : (nestedKind P w).is h k a := ⟨x.is, x.dep⟩
abbrev hsh (w : World) (k : NestedKey) : Int := k.hash w
theorem At.keep {h h' : Heap} {k : NestedKey} {a : Addr} (x : At h k a) (hk : ∀ c o, h.get? c = some o → h'.get? c = some o) : At h' k a := ⟨NestedIs.at (fun c o vs n e _ => hk c o e) _ _ x.is, x.dep, x.num⟩
theorem all_each {h : Heap} {n : Nat} : ∀ {ks : List NestedKey} {vs : List Value}, NestedAll h ks vs → NestedKey.depthAll ks ≤ n → ∀ v ∈ vs, ∃ k, NestedIs h k v ∧ k.depth ≤ n
  | _, _, .nil, _, v, hv => by cases hv
  | k :: ks, _ :: vs, .cons r t, hd, v, hv => by
    simp only [NestedKey.depthAll] at hd
    rcases List.mem_cons.mp hv with e | hv
    · subst e
      exact ⟨k, r, by omega⟩
    · exact all_each t (by omega) v hv
/-- no item is of a class statement -/
theorem cls_ok : ∀ (n : Nat) (k : NestedKey) (v : Value) (Q : Bool → Shared → Prop), NestedIs s.heap k v → k.depth ≤ n → Q false s → wpAny (model P w) A (ofAClassStatement n v) Q E s := by
  intro n
  induction n with
  | zero =>
    intro k v Q hk hd q
    cases hk with
    | tup h1 h2 h3 h4 => simp [NestedKey.depth] at hd
    | _ => exact wpAny_pure q
  | succ n ih =>
    intro k v Q hk hd q
    cases hk with
    | @tup a o vs m ks h1 h2 h3 h4 =>
      simp only [NestedKey.depth] at hd
      have ty : s.TypeIs (.ref a) "tuple" := ⟨o, h1, h2⟩
      unfold ofAClassStatement
      refine wpAny_bind (wpAny_typeOf ty ?_)
      dsimp only
      have et : (("tuple" : String) == "tuple") = true := by decide
      simp only [et, if_true, Bool.not_true, Bool.false_eq_true, if_false]
      try refine wpAny_bind (wpAny_pure ?_)
      try simp only [Bool.not_true, Bool.false_eq_true, if_false]
      show wpAny _ _ (seqItems? (.ref a) >>= _) _ _ s
      refine wpAny_bind (wpAny_seqItems h1 h3 ?_)
      dsimp only
      refine wpAny_bind ?_
      show wpAny _ _ (forIn vs _ _) _ _ s
      rw [← Array.forIn_toList]
      have each := all_each h4 (n := n) (by omega)
      refine wpAny_forIn_list _ (fun left r s' => (r.1 = none ∧ s' = s) ∧ ∀ u ∈ left, ∃ k, NestedIs s.heap k u ∧ k.depth ≤ n) _ ?_ ?_ _ _ ⟨⟨rfl, rfl⟩, each⟩
      · rintro u left r s' ⟨⟨er, rfl⟩, each⟩
        obtain ⟨k, hk, hd⟩ := each u List.mem_cons_self
        refine wpAny_bind (ih k u _ hk hd ?_)
        simp only [Bool.false_eq_true, if_false]
        exact wpAny_pure ⟨⟨rfl, rfl⟩, fun x hx => each x (List.mem_cons_of_mem _ hx)⟩
      · rintro ⟨r1, r2⟩ s' ⟨⟨er, rfl⟩, _⟩
        simp only at er
        subst er
        exact wpAny_pure q
    | _ => exact wpAny_pure q
theorem all_each2 {h : Heap} {n : Nat} : ∀ {ks : List NestedKey} {vs : List Value}, NestedAll h ks vs → NestedKey.depthAll ks ≤ n → numKs ks = true → ∀ v ∈ vs, ∃ k, NestedIs h k v ∧ k.depth ≤ n ∧ numK k = true
  | _, _, .nil, _, _, v, hv => by cases hv
  | k :: ks, _ :: vs, .cons r t, hd, hn, v, hv => by
    simp only [NestedKey.depthAll] at hd
    simp only [numKs, Bool.and_eq_true] at hn
    rcases List.mem_cons.mp hv with e | hv
    · subst e
      exact ⟨k, r, by omega, hn.1⟩
    · exact all_each2 t (by omega) hn.2 v hv
/-- every item's hash is its value's -/
theorem byv_ok : ∀ (n : Nat) (k : NestedKey) (v : Value) (Q : Bool → Shared → Prop), NestedIs s.heap k v → k.depth ≤ n → numK k = true → Q true s → wpAny (model P w) A (hashByValue n v) Q E s := by
  intro n
  induction n with
  | zero =>
    intro k v Q hk hd hn q
    cases hk with
    | tup h1 h2 h3 h4 => simp [NestedKey.depth] at hd
    | none => cases hn
    | text x u => cases hn
    | _ => exact wpAny_pure q
  | succ n ih =>
    intro k v Q hk hd hn q
    cases hk with
    | @tup a o vs m ks h1 h2 h3 h4 =>
      simp only [NestedKey.depth] at hd
      have ty : s.TypeIs (.ref a) "tuple" := ⟨o, h1, h2⟩
      unfold hashByValue
      refine wpAny_bind (wpAny_specialOf ty F.slot_tuple_hash.lookup ?_)
      show wpAny _ _ (seqItems? (.ref a) >>= _) _ _ s
      refine wpAny_bind (wpAny_seqItems h1 h3 ?_)
      refine wpAny_bind ?_
      show wpAny _ _ (forIn vs _ _) _ _ s
      rw [← Array.forIn_toList]
      have each := all_each2 h4 (n := n) (by omega) (by rw [numK] at hn; exact hn)
      refine wpAny_forIn_list _ (fun left r s' => (r.1 = none ∧ s' = s) ∧ ∀ u ∈ left, ∃ k, NestedIs s.heap k u ∧ k.depth ≤ n ∧ numK k = true) _ ?_ ?_ _ _ ⟨⟨rfl, rfl⟩, each⟩
      · rintro u left r s' ⟨⟨er, rfl⟩, each⟩
        obtain ⟨k, hk, hd, hn⟩ := each u List.mem_cons_self
        refine wpAny_bind (ih k u _ hk hd hn ?_)
        simp only [Bool.not_true, Bool.false_eq_true, if_false]
        exact wpAny_pure ⟨⟨rfl, rfl⟩, fun x hx => each x (List.mem_cons_of_mem _ hx)⟩
      · rintro ⟨r1, r2⟩ s' ⟨⟨er, rfl⟩, _⟩
        simp only at er
        subst er
        exact wpAny_pure q
    | none => cases hn
    | text x u => cases hn
    | _ => exact wpAny_pure q
/-- the search asks nothing that could be seen -/
theorem unseen {k : NestedKey} {b : Addr} {Q : Bool → Shared → Prop} (hk : At s.heap k b) {ys : List Value} (hy : ∀ y ∈ ys, ∃ m c, y = Value.ref c ∧ At s.heap m c) (q : Q false s) : wpAny (model P w) A (searchCouldBeSeen (.ref b) ys) Q E s := by
  unfold searchCouldBeSeen
  refine wpAny_bind ?_
  refine wpAny_forIn_list _ (fun left r s' => (r.1 = none ∧ s' = s) ∧ ∀ y ∈ left, ∃ m c, y = Value.ref c ∧ At s.heap m c) _ ?_ ?_ _ _ ⟨⟨rfl, rfl⟩, hy⟩
  · rintro u left r s' ⟨⟨er, rfl⟩, each⟩
    obtain ⟨m, c, rfl, hc⟩ := each u List.mem_cons_self
    have more : ∀ y ∈ left, ∃ m c, y = Value.ref c ∧ At s'.heap m c := fun x hx => each x (List.mem_cons_of_mem _ hx)
    dsimp only
    by_cases hv : (b == c || (carriedByValue (.ref b) && carriedByValue (.ref c))) = true
    · exact wp_if_pos hv (wpAny_pure ⟨⟨rfl, rfl⟩, more⟩)
    · refine wp_if_neg hv ?_
      refine wpAny_bind ((nestedKind P w).quiet hk.knd ?_)
      simp only [Bool.not_true, Bool.false_eq_true, if_false]
      refine wpAny_bind ((nestedKind P w).quiet hc.knd ?_)
      simp only [Bool.not_true, Bool.false_eq_true, if_false]
      refine wpAny_bind (cls_ok 8 k _ _ hk.is hk.dep ?_)
      simp only [Bool.false_eq_true, if_false]
      refine wpAny_bind (cls_ok 8 m _ _ hc.is hc.dep ?_)
      simp only [Bool.false_eq_true, if_false]
      exact wpAny_pure ⟨⟨rfl, rfl⟩, more⟩
  · rintro ⟨r1, r2⟩ s' ⟨⟨er, rfl⟩, _⟩
    simp only at er
    subst er
    exact wpAny_pure q
/-- the rows of the set at its addresses and keys -/
abbrev Row := Addr × NestedKey
def rws (w : World) (L : List Row) : List (Int × Value) := L.map fun p => (hsh w p.2, Value.ref p.1)
theorem rws_len (L : List Row) : (rws w L).length = L.length := List.length_map _
structure SetK (w : World) (h : Heap) (a : Addr) (L : List Row) (es : Array (Int × Value)) (ep : Nat) (t : SetTable) : Prop where
  here : ∃ o, h.get? a = some o ∧ o.ExactSet ∧ o.data = .set es ep t
  row : es.toList = rws w L
  ok : TabOk t (L.map fun p => hsh w p.2)
  one : (L.map Prod.snd).Nodup
  at_ : ∀ p ∈ L, At h p.2 p.1
  pl : t.plain = true
  ld : w.params.followText "set-order" = true ∨ t.led = true
  lo : L.length * 5 < t.mask * 3
  lt : L.length < 64
variable {a : Addr} {L : List Row} {es : Array (Int × Value)} {ep : Nat} {t : SetTable}
theorem SetK.size (S : SetK w s.heap a L es ep t) : es.size = L.length := by
  have := congrArg List.length S.row
  rwa [Array.length_toList, rws_len] at this
theorem SetK.psize (S : SetK w s.heap a L es ep t) : t.place.toList.length = L.length := by
  have := S.ok.sz
  rwa [List.length_map, ← Array.length_toList] at this
theorem SetK.fits (S : SetK w s.heap a L es ep t) : t.fits es.size = true := by
  have h1 := S.ok.sz
  rw [List.length_map] at h1
  have h2 := S.size
  have h3 := S.lo
  unfold SetTable.fits SetTable.fill
  rw [S.ok.dm, Bool.and_eq_true, beq_iff_eq, decide_eq_true_eq]
  exact ⟨h1.trans h2.symm, by show t.place.size + 0 ≤ t.mask; omega⟩
theorem SetK.at_i (S : SetK w s.heap a L es ep t) {i : Nat} {p : Row} (h : L[i]? = some p) : es[i]? = some (hsh w p.2, Value.ref p.1) := by
  rw [← Array.getElem?_toList, S.row]
  unfold rws
  rw [List.getElem?_map, h]
  rfl
/-- the n-th step of the way of the hash h -/
abbrev step (m : Nat) (h : Int) (n : Nat) : SetTable.Probe := nth m (runAt m (SetTable.bits h % (m + 1)) (SetTable.bits h)) n
theorem step_dummy (m : Nat) (h : Int) (n : Nat) : (step m h n).dummy = none := by
  have key : ∀ (n : Nat) (p : SetTable.Probe), p.dummy = none → (nth m p n).dummy = none := by
    intro n
    induction n with
    | zero => exact fun p h => h
    | succ n ih =>
      intro p h
      refine ih (adv m p) ?_
      unfold adv
      split <;> exact h
  exact key n _ rfl
theorem step_more (m : Nat) (h : Int) (n q : Nat) : nth m (step m h n) q = step m h (n + q) := (nth_add m n _ q).symm
/-- the search from the n-th step on: k is found, or the empty slot at the way's end -/
theorem search_k (S : SetK w s.heap a L es ep t) {x : Addr} {k : NestedKey} (hx : At s.heap k x) (hu : A.units + 8 < cLine) {K : Nat} (hKf : K < 10 * SetTable.turns t.mask) (free : way t.mask (hsh w k) K ∉ t.place.toList) (full : ∀ c, c < K → way t.mask (hsh w k) c ∈ t.place.toList)
    {Q : SetFound → Shared → Prop} (qin : k ∈ L.map Prod.snd → Q (.there none) s) (qout : k ∉ L.map Prod.snd → Q (.free (way t.mask (hsh w k) K) false) s) :
    ∀ (f n : Nat) (from_ : Option SetTable.Probe), from_.getD (t.probeStart (hsh w k)) = step t.mask (hsh w k) n → n ≤ K → K - n < f →
      (∀ (i : Nat) p, L[i]? = some p → p.2 = k → ∃ c, n ≤ c ∧ c < K ∧ t.place.toList[i]? = some (way t.mask (hsh w k) c)) → wpAny (model P w) A (setSearchFrom a (.ref x) (hsh w k) true f from_) Q E s
  | 0, n, from_, _, _, hf, _ => absurd hf (Nat.not_lt_zero _)
  | f + 1, n, from_, hfrom, hn, hf, reach => by
    obtain ⟨o, ho, hex, hdat⟩ := S.here
    have odd : ¬ t.gaveWay = true := by
      unfold SetTable.gaveWay
      rw [mask_odd S.ok.mok]
      decide
    rw [setSearchFrom_succ]
    refine wpAny_bind (wpAny_setState_of ho hdat S.fits ?_)
    dsimp only
    refine wp_if_neg odd ?_
    try refine wpAny_bind (wpAny_pure ?_)
    have wy : ∀ q, (nth t.mask (step t.mask (hsh w k) n) q).j = way t.mask (hsh w k) (n + q) := fun q => congrArg SetTable.Probe.j (step_more t.mask (hsh w k) n q)
    have hof : ∀ (i : Nat) p, L[i]? = some p → (es[i]?.map (·.1)).getD 0 = hsh w p.2 := fun i p e => by
      rw [S.at_i e]
      rfl
    have spec := go_spec t S.ok.ris S.ok.dm (fun i => (es[i]?.map (·.1)).getD 0) (hsh w k) (10 * SetTable.turns t.mask) (K - n) (step t.mask (hsh w k) n) (step_dummy _ _ _) (by omega) (fun q hq => by rw [wy]; exact full _ (by omega)) (by rw [wy, show n + (K - n) = K by omega]; exact free)
    rcases spec with ⟨q, i, hq, hi, hh, first, hpr⟩ | ⟨none_, hpr⟩
    · have hpr2 : t.probe (fun i => (es[i]?.map (·.1)).getD 0) (hsh w k) (from_.getD (t.probeStart (hsh w k))) = some (.candidate (way t.mask (hsh w k) (n + q)) i (step t.mask (hsh w k) (n + (q + 1)))) := by
        rw [hfrom, ← wy, ← step_more]
        exact hpr
      rw [hpr2]
      dsimp only
      rw [wy] at hi
      have hil : i < L.length := by
        have := (List.getElem?_eq_some_iff.mp hi).1
        rwa [S.psize] at this
      obtain ⟨p, hp⟩ : ∃ p, L[i]? = some p := ⟨_, List.getElem?_eq_getElem hil⟩
      have hm : p ∈ L := List.mem_of_getElem? hp
      have after : wpAny (model P w) A (searchRest a (.ref x) (hsh w k) true f es t (way t.mask (hsh w k) (n + q)) i (step t.mask (hsh w k) (n + (q + 1)))) Q E s := by
        unfold searchRest
        rw [S.at_i hp]
        dsimp only
        refine wpAny_bind (wpAny_holding ((nestedKind P w).eqBool hu (S.at_ p hm).knd hx.knd ?_))
        refine wpAny_bind (wpAny_setState_of ho hdat S.fits ?_)
        dsimp only
        by_cases same : p.2 = k
        · refine wp_if_pos (by simp [same]) (wpAny_pure (qin ?_))
          exact List.mem_map.mpr ⟨p, hm, same⟩
        · refine wp_if_neg (by simp [same]) ?_
          try refine wpAny_bind (wpAny_pure ?_)
          rw [sameMem]
          dsimp only
          have live := slot_live S.ok.ris hi
          simp only [if_true, live, S.at_i hp]
          refine wpAny_bind (wpAny_isSame_ref_self (wpAny_bind (wpAny_pure ?_)))
          simp only [if_true]
          refine wp_if_neg (by simp [same]) ?_
          refine search_k S hx hu hKf free full qin qout f (n + (q + 1)) _ rfl (by omega) (by omega) fun i0 p0 e0 k0 => ?_
          obtain ⟨c, c1, c2, c3⟩ := reach i0 p0 e0 k0
          refine ⟨c, ?_, c2, c3⟩
          rcases Nat.lt_trichotomy c (n + q) with z | z | z
          · refine absurd ?_ (first (c - n) i0 (by omega) (by rw [wy, show n + (c - n) = c by omega]; exact c3))
            exact (hof i0 p0 e0).trans (by rw [k0])
          · subst z
            have l0 := slot_live S.ok.ris c3
            rw [live] at l0
            injection l0 with l0
            subst l0
            rw [hp] at e0
            cases e0
            exact absurd k0 same
          · omega
      by_cases led : t.led = true
      · refine wp_if_neg (by simp [led]) ?_
        try refine wpAny_bind (wpAny_pure ?_)
        exact after
      · refine wp_if_pos (by simp [led]) ?_
        refine wpAny_bind (unseen hx (fun y hy => ?_) ?_)
        · obtain ⟨e, he, rfl⟩ := List.mem_map.mp hy
          have he1 : e ∈ es.toList := by
            have : e ∈ es ∧ e.1 = hsh w k := by simpa using he
            simpa using this.1
          rw [S.row] at he1
          obtain ⟨p2, hp2, rfl⟩ := List.mem_map.mp he1
          exact ⟨p2.2, p2.1, rfl, S.at_ p2 hp2⟩
        · refine wp_if_neg (by decide) ?_
          try refine wpAny_bind (wpAny_pure ?_)
          exact after
    · have hpr2 : t.probe (fun i => (es[i]?.map (·.1)).getD 0) (hsh w k) (from_.getD (t.probeStart (hsh w k))) = some (.empty (way t.mask (hsh w k) K) none) := by
        rw [hfrom, show way t.mask (hsh w k) K = (nth t.mask (step t.mask (hsh w k) n) (K - n)).j by rw [wy, show n + (K - n) = K by omega]]
        exact hpr
      rw [hpr2]
      dsimp only
      refine wpAny_pure (qout fun hm => ?_)
      obtain ⟨p0, hp0, k0⟩ := List.mem_map.mp hm
      obtain ⟨i0, hi0⟩ := List.mem_iff_getElem?.mp hp0
      obtain ⟨c, c1, c2, c3⟩ := reach i0 p0 hi0 k0
      refine none_ (c - n) i0 (by omega) (by rw [wy, show n + (c - n) = c by omega]; exact c3) ?_
      exact (hof i0 p0 hi0).trans (by rw [k0])
theorem search0 (S : SetK w s.heap a L es ep t) {x : Addr} {k : NestedKey} (hx : At s.heap k x) (hu : A.units + 8 < cLine) {Q : SetFound → Shared → Prop} (qin : k ∈ L.map Prod.snd → Q (.there none) s)
    (qout : ∀ K, k ∉ L.map Prod.snd → way t.mask (hsh w k) K ∉ t.place.toList → (∀ c, c < K → way t.mask (hsh w k) c ∈ t.place.toList) → Q (.free (way t.mask (hsh w k) K) false) s) : wpAny (model P w) A (setSearch a (.ref x) (hsh w k) true) Q E s := by
  have lo := S.lo
  obtain ⟨K, hKf, free, full⟩ := S.ok.first (by rw [List.length_map]; omega) (hsh w k)
  have few : K < 100000 := by
    have : 10 * SetTable.turns t.mask ≤ 1420 := by
      unfold SetTable.turns
      rcases S.ok.mok with e | e | e <;> omega
    omega
  unfold setSearch
  refine search_k S hx hu hKf free full qin (fun hn => qout K hn free full) 100000 0 none rfl (Nat.zero_le _) (by omega) fun i p hp hk => ?_
  have hh : (L.map fun p => hsh w p.2)[i]? = some (hsh w k) := by
    rw [List.getElem?_map, hp, ← hk]
    rfl
  have hil : i < t.place.toList.length := by
    rw [S.psize]
    exact (List.getElem?_eq_some_iff.mp hp).1
  obtain ⟨c, hc, e⟩ := S.ok.before free hh (List.getElem?_eq_getElem hil)
  exact ⟨c, Nat.zero_le _, hc, by rw [List.getElem?_eq_getElem hil, e]⟩
end DS

/-! DLset1: adding, set(xs). -/
namespace DS
open PySem PySem.Spec PyProof.Rows L2
variable {P : Program} {w : World} {A : Around} {E : Value → Shared → Prop} {s : Shared}
variable {a : Addr} {L : List Row} {es : Array (Int × Value)} {ep : Nat} {t : SetTable}
/-- a key stays, whatever becomes of the set -/
theorem At.but {h h' : Heap} {k : NestedKey} {b : Addr} {o : Obj} (x : At h k b) (ho : h.get? a = some o) (hd : o.data = .set es ep t) (hs : Heap.SameBut a h h') : At h' k b := by
  refine ⟨NestedIs.at (fun c oc vs n e d => ?_) _ _ x.is, x.dep, x.num⟩
  have ne : c ≠ a := fun z => by
    subst z
    rw [ho] at e
    cases e
    rw [hd] at d
    cases d
  exact (hs.2 c ne).trans e
theorem rws_ins (L : List Row) (p : Nat) (r : Row) : rws w (L.take p ++ r :: L.drop p) = (rws w L).take p ++ (hsh w r.2, Value.ref r.1) :: (rws w L).drop p := by
  simp [rws, List.map_take, List.map_drop]
theorem hs_ins (L : List Row) (p : Nat) (r : Row) : (L.take p ++ r :: L.drop p).map (fun q => hsh w q.2) = (L.map fun q => hsh w q.2).take p ++ hsh w r.2 :: (L.map fun q => hsh w q.2).drop p := by
  simp [List.map_take, List.map_drop]
/-- the rows told in another order -/
theorem reorder (L : List Row) (es : Array (Int × Value)) (hr : es.toList = rws w L) : ∀ ns : List Nat, (∀ i ∈ ns, i < L.length) →
    ns.filterMap (fun i => es[i]?) = rws w (ns.filterMap fun i => L[i]?) ∧ ((ns.filterMap fun i => L[i]?).map fun p => hsh w p.2) = ns.map fun i => (es.map (·.1)).getD i 0
  | [], _ => ⟨rfl, rfl⟩
  | i :: ns, h => by
    obtain ⟨h1, h2⟩ := reorder L es hr ns fun j hj => h j (List.mem_cons_of_mem _ hj)
    have hi := h i List.mem_cons_self
    have e1 : L[i]? = some L[i] := List.getElem?_eq_getElem hi
    have e2 : es[i]? = some (hsh w L[i].2, Value.ref L[i].1) := by
      rw [← Array.getElem?_toList, hr]
      unfold rws
      rw [List.getElem?_map, e1]
      rfl
    have e3 : (es.map (·.1)).getD i 0 = hsh w L[i].2 := by
      have : (es.map (·.1))[i]? = some (hsh w L[i].2) := by
        rw [Array.getElem?_map, e2]
        rfl
      simp [Array.getD_eq_getD_getElem?, this]
    refine ⟨?_, ?_⟩
    · rw [List.filterMap_cons_some e2, List.filterMap_cons_some e1, h1]
      rfl
    · rw [List.filterMap_cons_some e1, List.map_cons, List.map_cons, h2, e3]
theorem pick_all {α : Type} (L : List α) : (List.range L.length).filterMap (fun i => L[i]?) = L := by
  have key : ∀ n, n ≤ L.length → (List.range n).filterMap (fun i => L[i]?) = L.take n := by
    intro n
    induction n with
    | zero => exact fun _ => rfl
    | succ n ih =>
      intro hn
      have e := List.getElem?_eq_getElem (show n < L.length from hn)
      rw [List.range_succ, List.filterMap_append, ih (by omega), List.filterMap_cons_some e, List.filterMap_nil, ← take_next e]
  rw [key _ (Nat.le_refl _), List.take_length]
/-- laid anew in a larger table -/
theorem relay_k {o : Obj} (ho : s.heap.get? a = some o) (hex : o.ExactSet) (hd : o.data = .set es ep t) (row : es.toList = rws w L) (psz : t.place.size = es.size) (dm : t.dummies = #[]) (fl : es.size ≤ t.mask) (one : (L.map Prod.snd).Nodup) (at_ : ∀ p ∈ L, At s.heap p.2 p.1)
    (pl : t.plain = true) (ld : w.params.followText "set-order" = true ∨ t.led = true) (lt : L.length < 64) {want M : Nat} (hw : SetTable.sizeAbove want - 1 = M) (hM : MaskOk M) (h128 : SetTable.sizeAbove want ≤ 128) (lo : L.length * 5 < M * 3) {Q : Unit → Shared → Prop}
    (q : ∀ h' L' es' ep' t', Heap.SameBut a s.heap h' → SetK w h' a L' es' ep' t' → L'.Perm L → Q () { s with heap := h' }) : wpAny (model P w) A (setRelay a want) Q E s := by
  have esz : es.size = L.length := by
    have := congrArg List.length row
    rwa [Array.length_toList, rws_len] at this
  have fits : t.fits es.size = true := by
    unfold SetTable.fits SetTable.fill
    rw [dm, Bool.and_eq_true, beq_iff_eq, decide_eq_true_eq]
    exact ⟨psz, by show t.place.size + 0 ≤ t.mask; omega⟩
  obtain ⟨t', order, e, pm, T, em, el, epl, edm⟩ := relaid_ok t (hs := es.map (·.1)) (wanted := want) hw hM (by rw [Array.size_map]; omega)
  rw [Array.size_map, esz] at pm
  obtain ⟨r1, r2⟩ := reorder L es row order.toList fun i hi => List.mem_range.mp (pm.mem_iff.mp hi)
  have pL : (order.toList.filterMap fun i => L[i]?).Perm L := by
    have := pm.filterMap fun i => L[i]?
    rwa [pick_all] at this
  generalize (order.toList.filterMap fun i => L[i]?) = L2 at r1 r2 pL
  rw [← r2] at T
  have rl : (order.filterMap (es[·]?)).toList = rws w L2 := by first | (rw [Array.toList_filterMap]; exact r1) | simpa using r1
  have sz2 : (order.filterMap (es[·]?)).size = es.size := by
    have := congrArg List.length rl
    rw [Array.length_toList, rws_len, pL.length_eq] at this
    omega
  rw [setRelay_eq]
  refine wpAny_bind (wpAny_setState_of ho hd fits ?_)
  dsimp only
  refine wp_if_neg (by rw [sizeLine_eq]; omega) ?_
  try refine wpAny_bind (wpAny_pure ?_)
  rw [e]
  dsimp only
  refine wpAny_bind (wp_if_neg (by rw [sz2]; simp) ?_)
  try refine wpAny_bind (wpAny_pure ?_)
  refine wpAny_pure ?_
  dsimp only
  refine wpAny_storeSet_of ho hd ?_ (by rw [sz2, sizeLine_eq]; omega)
  have sb : Heap.SameBut a s.heap (s.heap.update a (Obj.putSet (order.filterMap (es[·]?)) t')) := .update ..
  refine q _ L2 _ (ep + 1) t' sb ⟨⟨_, store_at ho hd, ⟨hex.1, hex.2.1, hex.2.2⟩, rfl⟩, rl, T, (pL.map Prod.snd).nodup_iff.mpr one, fun p hp => (at_ p (pL.mem_iff.mp hp)).but ho hd sb, epl.trans pl, ?_, ?_, ?_⟩ pL
  · rw [el]; exact ld
  · rw [pL.length_eq, em]; exact lo
  · rw [pL.length_eq]; exact lt
/-- one key more -/
theorem add_k (S : SetK w s.heap a L es ep t) {x : Addr} {k : NestedKey} (hx : At s.heap k x) (hu : A.units + 8 < cLine) (few : L.length + 1 < 64) {Q : Bool → Shared → Prop}
    (q : ∀ b h' L' es' ep' t', Heap.SameBut a s.heap h' → SetK w h' a L' es' ep' t' → ((k ∈ L.map Prod.snd ∧ L' = L) ∨ (k ∉ L.map Prod.snd ∧ L'.Perm ((x, k) :: L))) → Q b { s with heap := h' }) : wpAny (model P w) A (setAddHashed a (.ref x) (hsh w k)) Q E s := by
  obtain ⟨o, ho, hex, hd⟩ := S.here
  have esz := S.size
  have lo := S.lo
  unfold setAddHashed
  refine wpAny_holding ?_
  rw [show (100000 : Nat) = 99999 + 1 from rfl, setAddHashedIn_succ]
  refine wpAny_bind (wpAny_setState_of ho hd S.fits ?_)
  dsimp only
  refine wp_if_neg (by simp [byScan, Value.scannable]) ?_
  try refine wpAny_bind (wpAny_pure ?_)
  refine wpAny_bind (search0 S hx hu (fun hm => ?_) fun K hm free full => ?_)
  · exact wpAny_pure (q false s.heap L es ep t (.refl a s.heap) S (.inl ⟨hm, rfl⟩))
  · dsimp only
    refine wpAny_bind (wpAny_setState_of ho hd S.fits ?_)
    dsimp only
    obtain ⟨p1, p2, p3, p4, p5, p6, _, _, p9⟩ := S.ok.put free full
    have pl1 : (t.put (way t.mask (hsh w k) K)).1.plain = true := p6.trans S.pl
    cases hput : t.put (way t.mask (hsh w k) K) with
    | mk t1 pp =>
    rw [hput] at p1 p3 p4 p5 p9 pl1
    dsimp only at p1 p3 p4 p5 p9 pl1 ⊢
    rw [List.length_map] at p9
    subst p1
    first
      | (refine wpAny_bind ?_; refine wp_if_pos pl1 ?_; refine byv_ok 8 k _ _ hx.is hx.dep hx.num ?_)
      | refine wp_if_pos pl1 (wpAny_bind (byv_ok 8 k _ _ hx.is hx.dep hx.num ?_))
    simp only [if_true]
    generalize SetTable.below t.place (way t.mask (hsh w k) K) = pp at p2 p3 ⊢
    have row1 : (SetTable.insertAt es pp (hsh w k, Value.ref x)).toList = rws w (L.take pp ++ (x, k) :: L.drop pp) := by rw [SetTable.toList_insertAt, rws_ins, S.row]
    rw [← hs_ins L pp (x, k)] at p3
    have pm : (L.take pp ++ (x, k) :: L.drop pp).Perm ((x, k) :: L) := put_perm L pp (x, k)
    generalize L.take pp ++ (x, k) :: L.drop pp = L1 at row1 p3 pm
    generalize SetTable.insertAt es pp (hsh w k, Value.ref x) = es1 at row1 ⊢
    have len1 : L1.length = L.length + 1 := pm.length_eq
    have esz1 : es1.size = L.length + 1 := by
      have := congrArg List.length row1
      rwa [Array.length_toList, rws_len, len1] at this
    have one1 : (L1.map Prod.snd).Nodup := (pm.map Prod.snd).nodup_iff.mpr (List.nodup_cons.mpr ⟨hm, S.one⟩)
    refine wpAny_bind (wpAny_storeSet_of ho hd ?_ (by rw [esz1, sizeLine_eq]; omega))
    have sb : Heap.SameBut a s.heap (s.heap.update a (Obj.putSet es1 t1)) := .update ..
    have ho1 := store_at (es' := es1) (t' := t1) ho hd
    generalize s.heap.update a (Obj.putSet es1 t1) = h1 at sb ho1 ⊢
    have at1 : ∀ p ∈ L1, At h1 p.2 p.1 := fun p hp => by
      rcases List.mem_cons.mp (pm.mem_iff.mp hp) with e | hp
      · subst e
        exact hx.but ho hd sb
      · exact (S.at_ p hp).but ho hd sb
    have ld1 : w.params.followText "set-order" = true ∨ t1.led = true := by rw [p5]; exact S.ld
    have full_iff : t1.tooFull = true ↔ (L.length + 1) * 5 ≥ t1.mask * 3 := by
      unfold SetTable.tooFull
      rw [decide_eq_true_eq, p9]
    by_cases tf : t1.tooFull = true
    · first
        | (refine wpAny_bind ?_; refine wp_if_pos (by simp [tf]) ?_)
        | (refine wp_if_pos (by simp [tf]) ?_; refine wpAny_bind ?_)
      have big := full_iff.mp tf
      rw [p4] at big
      have psz1 : t1.place.size = es1.size := by rw [p3.sz, List.length_map, len1, esz1]
      rw [esz]
      have next : ∀ M, SetTable.sizeAbove (SetTable.grown (L.length + 1)) - 1 = M → MaskOk M → SetTable.sizeAbove (SetTable.grown (L.length + 1)) ≤ 128 → (L.length + 1) * 5 < M * 3 → es1.size ≤ t1.mask →
          wpAny (model P w) A (setRelay a (SetTable.grown (L.length + 1))) (fun _ s' => wpAny (model P w) A (pure true) Q E s') E { s with heap := h1 } := fun M m1 m2 m3 m4 m5 =>
        relay_k (s := { s with heap := h1 }) ho1 ⟨hex.1, hex.2.1, hex.2.2⟩ rfl row1 psz1 p3.dm m5 one1 at1 pl1 ld1 (by rw [len1]; exact few) m1 m2 m3 (by rw [len1]; exact m4) fun h2 L2 es2 ep2 t2 sb2 S2 pm2 =>
          wpAny_pure (q true h2 L2 es2 ep2 t2 (sb.trans sb2) S2 (.inr ⟨hm, pm2.trans pm⟩))
      rcases S.ok.mok with e | e | e
      · have l4 : L.length = 4 := by omega
        exact next 31 (by rw [l4, size_20]) (.inr (.inl rfl)) (by rw [l4, size_20]; decide) (by omega) (by rw [esz1, p4, e]; omega)
      · have l18 : L.length = 18 := by omega
        exact next 127 (by rw [l18, size_76]) (.inr (.inr rfl)) (by rw [l18, size_76]; decide) (by omega) (by rw [esz1, p4, e]; omega)
      · omega
    · first
        | refine wp_if_neg (by simp [tf]) ?_
        | (refine wpAny_bind ?_; refine wp_if_neg (by simp [tf]) ?_; refine wpAny_pure ?_)
      have small : ¬ ((L.length + 1) * 5 ≥ t1.mask * 3) := fun z => tf (full_iff.mpr z)
      exact wpAny_pure (q true h1 L1 es1 (ep + 1) t1 sb ⟨⟨_, ho1, ⟨hex.1, hex.2.1, hex.2.2⟩, rfl⟩, row1, p3, one1, at1, pl1, ld1, by rw [len1]; omega, by rw [len1]; exact few⟩ (.inr ⟨hm, pm⟩))
end DS

/-! DLset2: set(xs) of a list of nested tuples. -/
namespace DS
open PySem PySem.Spec PyProof.Rows L2
variable {P : Program} {w : World} {A : Around} {E : Value → Shared → Prop} {s : Shared}
/-- what the set has of the first i rows -/
structure From (ks : List Row) (i : Nat) (L : List Row) : Prop where
  sub : ∀ p ∈ L, p ∈ ks.take i
  all : ∀ p ∈ ks.take i, p.2 ∈ L.map Prod.snd
  len : L.length ≤ i
theorem From.next {ks L L' : List Row} {i : Nat} {x : Row} (g : From ks i L) (h : ks[i]? = some x) (c : (x.2 ∈ L.map Prod.snd ∧ L' = L) ∨ (x.2 ∉ L.map Prod.snd ∧ L'.Perm (x :: L))) : From ks (i + 1) L' := by
  have e := take_next h
  rcases c with ⟨hm, rfl⟩ | ⟨_, pm⟩
  · refine ⟨fun p hp => ?_, fun p hp => ?_, Nat.le_succ_of_le g.len⟩
    · rw [e]; exact List.mem_append_left _ (g.sub p hp)
    · rw [e] at hp
      rcases List.mem_append.mp hp with z | z
      · exact g.all p z
      · rw [List.mem_singleton] at z
        subst z
        exact hm
  · have mem : ∀ y, y ∈ L' ↔ y = x ∨ y ∈ L := fun y => by rw [pm.mem_iff, List.mem_cons]
    refine ⟨fun p hp => ?_, fun p hp => ?_, by rw [pm.length_eq]; exact Nat.succ_le_succ g.len⟩
    · rw [e]
      rcases (mem p).mp hp with z | z
      · exact List.mem_append_right _ (List.mem_singleton.mpr z)
      · exact List.mem_append_left _ (g.sub p z)
    · rw [e] at hp
      rw [(pm.map Prod.snd).mem_iff, List.map_cons, List.mem_cons]
      rcases List.mem_append.mp hp with z | z
      · exact .inr (g.all p z)
      · rw [List.mem_singleton] at z
        exact .inl (by rw [z])
theorem SetK.on {h h' : Heap} {a : Addr} {L : List Row} {es : Array (Int × Value)} {ep : Nat} {t : SetTable} (S : SetK w h a L es ep t) (ha : ∀ o, h.get? a = some o → h'.get? a = some o) (hk : ∀ p ∈ L, At h' p.2 p.1) : SetK w h' a L es ep t := by
  obtain ⟨o, ho, r⟩ := S.here
  exact ⟨⟨o, ha o ho, r⟩, S.row, S.ok, S.one, hk, S.pl, S.ld, S.lo, S.lt⟩
/-- the object of a new set -/
abbrev newSet (w : World) : Obj := { cls := .type "set", dict := none, data := .set #[] 0 (.fresh 0 0 (!w.params.followText "set-order")) }
theorem setK_new {h : Heap} {a : Addr} (e : h.get? a = some (newSet w)) : SetK w h a [] #[] 0 (.fresh 0 0 (!w.params.followText "set-order")) := by
  refine ⟨⟨_, e, ⟨rfl, rfl, rfl⟩, rfl⟩, rfl, ⟨.nil, rfl, rfl, .inl rfl, fun x z => (by cases z), fun i h j z => (by simp at z)⟩, .nil, fun p z => (by cases z), rfl, ?_, (by show 0 * 5 < 7 * 3; decide), (by show 0 < 64; decide)⟩
  show _ ∨ (!w.params.followText "set-order") = true
  cases w.params.followText "set-order" with
  | true => exact .inl rfl
  | false => exact .inr rfl
/-- the turns of update -/
theorem turns_k {I : Addr} {fp wr : List Addr} {G : Array GenState → Array GenState → Prop} {n : Nat} {Pv : Nat → Value → Prop} {St : Nat → Shared → Prop} {R : Result → Shared → Prop} (W : WalksS P w A.in1 I fp wr G n Pv St) (b : Addr) (hb : b ∉ fp) (ks : List Row) (hn : n = ks.length)
    (few : ks.length < 64) (val : ∀ i v, Pv i v → ∃ p, ks[i]? = some p ∧ v = .ref p.1) (h0 : Heap) (hk : ∀ p ∈ ks, At h0 p.2 p.1) (b0 : h0.get? b = none) (w0 : ∀ c ∈ wr, h0.get? c = none) (hu : A.in1.units + 8 < cLine) :
    ∀ (left i : Nat) (s : Shared), n - i = left → i ≤ n → St i s → (∀ c o, h0.get? c = some o → s.heap.get? c = some o) → (∃ L es ep t, SetK w s.heap b L es ep t ∧ From ks i L) →
      (∀ s' L es ep t, Moved (b :: wr) G s s' → SetK w s'.heap b L es ep t → From ks n L → (∀ c o, h0.get? c = some o → s'.heap.get? c = some o) → R (.ok (.ret .none)) s') → codeAny (model P w) A (.builtin "set.update.loop" ⟨[.ref b, .ref I], []⟩) R s := by
  have bw : b ∉ wr := fun z => hb (W.sub _ z)
  have up : ∀ c ∈ wr, c ∈ b :: wr := fun c z => List.mem_cons_of_mem _ z
  have stay : ∀ {s s' : Shared}, Moved wr G s s' → (∀ c o, h0.get? c = some o → s.heap.get? c = some o) → ∀ c o, h0.get? c = some o → s'.heap.get? c = some o := fun m k c o e => m.heap c o (fun z => by rw [w0 c z] at e; cases e) (k c o e)
  intro left
  induction left with
  | zero =>
    intro i s e hi st k ⟨L, es, ep, t, S, g⟩ fin
    have : i = n := by omega
    subst this
    refine codeAny_builtin F.entry_set_update_loop ?_
    rw [Around.under_plainId F.plain_set_update_loop _]
    show wpAny _ A.in1 (pyNext (.ref I) >>= _) _ _ s
    refine wpAny_bind (W.done s _ _ st fun s' m => ?_)
    have k' := stay m k
    show wpAny _ A.in1 (ret Value.none) _ _ s'
    exact wpAny_pure (fin s' L es ep t (m.mono up) (S.on (fun o e => m.heap b o bw e) fun p hp => (hk p (List.mem_of_mem_take (g.sub p hp))).keep k') g k')
  | succ left ih =>
    intro i s e hi st k ⟨L, es, ep, t, S, g⟩ fin
    have hlt : i < n := by omega
    refine codeAny_builtin F.entry_set_update_loop ?_
    rw [Around.under_plainId F.plain_set_update_loop _]
    show wpAny _ A.in1 (pyNext (.ref I) >>= _) _ _ s
    refine wpAny_bind (W.item i s _ _ hlt st fun v s' hP st' m => ?_)
    obtain ⟨p, hp, rfl⟩ := val i v hP
    have k' := stay m k
    have S' : SetK w s'.heap b L es ep t := S.on (fun o e => m.heap b o bw e) fun r hr => (hk r (List.mem_of_mem_take (g.sub r hr))).keep k'
    have hx : At s'.heap p.2 p.1 := (hk p (List.mem_of_getElem? hp)).keep k'
    show wpAny _ A.in1 (holding [Value.ref p.1] (setAdd b (.ref p.1)) >>= _) _ _ s'
    refine wpAny_bind (wpAny_holding ?_)
    unfold setAdd
    refine wpAny_holding ?_
    refine wpAny_bind ((nestedKind P w).pyHash hu hx.knd ?_)
    refine add_k (s := { s' with toks := s'.toks + (nestedKind P w).draws p.2 }) S' hx hu (by have := g.len; omega) fun c h' L' es' ep' t' sb S2 c2 => ?_
    have k2 : ∀ c o, h0.get? c = some o → h'.get? c = some o := fun c o e => (sb.2 c (fun z => by rw [z, b0] at e; cases e)).trans (k' c o e)
    refine wpAny_pure ⟨plainId_quiet F.plain_set_update_loop _, ih (i + 1) _ (by omega) hlt (W.frame _ s' _ _ st' (Nat.le_add_right _ _) fun c hc o e => ?_) k2 ⟨L', es', ep', t', S2, g.next hp c2⟩ fun s2 L2 es2 ep2 t2 m2 S3 g3 k3 => ?_⟩
    · exact (sb.2 c fun z => hb (z ▸ hc)).trans e
    · refine fin s2 L2 es2 ep2 t2 (Moved.trans W.gtrans ((m.mono up).then_heap (Nat.le_add_right _ _) fun c o hc e => ?_) m2) S3 g3 k3
      exact (sb.2 c fun z => hc (by rw [z]; exact List.mem_cons_self)).trans e
set_option maxHeartbeats 3200000 in
/-- set(xs) -/
theorem call_set_k {l : Addr} {items : Array Value} (ks : List Row) {Q : Value → Shared → Prop} (hh : A.handled = none) (hl : s.heap.IsList l items) (hit : items.toList = ks.map fun p => Value.ref p.1) (hk : ∀ p ∈ ks, At s.heap p.2 p.1) (few : ks.length < 64) (hu : A.units + 11 < cLine)
    (q : ∀ (h' : Heap) (tk : Nat) L es ep t, SetK w h' s.heap.objs.size L es ep t → From ks ks.length L → (∀ c o, s.heap.get? c = some o → h'.get? c = some o) → Q (.ref s.heap.objs.size) { s with heap := h', toks := tk }) : wpAny (model P w) A (call (.type "set") [.ref l]) Q E s := by
  have isz : items.size = ks.length := by
    have := congrArg List.length hit
    rwa [Array.length_toList, List.length_map] at this
  obtain ⟨c0, tl, hmro⟩ := F.called_set.mro
  have f1 := F.called_set.made
  have f2 := F.called_set.sub
  refine wpAny_call (codeAny_of_tree ?_)
  show wpAny _ _ (callAny (.type "set") _) _ _ _
  refine wpAny_pure ⟨Code.quiet_builtin _ (by decide +kernel), codeAny_builtin F.entry_type_call ?_⟩
  rw [Around.under_plain (weight_type_call_type "set" [.ref l] []) rfl]
  have f3 := F.called_set.notType
  have f4 := F.called_set.canCreate
  have f5 := F.typeCall_set_1 (.ref l)
  repeat (any_goals (first | assumption | wp_step))
  refine codeAny_mono (code_set_led1 (.ref l) (E := E) (Q₁ := fun ob s1 => ob = .ref s.heap.objs.size ∧ s1 = { s with heap := s.heap.push (newSet w) }) ⟨rfl, rfl⟩) fun r s1 hr => ?_
  match r, hr with
  | .error e, hr => exact hr
  | .ok (.ret ob), ⟨e1, e2⟩ =>
    subst e1
    subst e2
    have gS : (s.heap.push (newSet w)).get? s.heap.objs.size = some (newSet w) := Heap.get?_push_size _ rfl
    have tS : Shared.TypeIs { s with heap := s.heap.push (newSet w) } (.ref s.heap.objs.size) "set" := ⟨_, gS, rfl⟩
    have f6 := F.called_set.init.lookup
    have f7 := F.called_set.init.bind (.ref s.heap.objs.size)
    repeat (any_goals (first | assumption | wp_step))
    refine codeAny_mono (codeAny_call_builtin (R := wants (fun r s2 => r = .none ∧ ∃ h' tk L es ep t, s2 = { s with heap := h', toks := tk } ∧ SetK w h' s.heap.objs.size L es ep t ∧ From ks ks.length L ∧ ∀ c o, s.heap.get? c = some o → h'.get? c = some o) E) F.called_set.init.plain F.entry_set_init (check_set_init_1 tS ?_)) fun r2 s2 h2 => ?_
    · obtain ⟨⟨ocls, odict, odata, oslots⟩, hol, hcl, nl, hdl⟩ := hl
      simp only at hcl hdl
      subst hcl
      subst hdl
      have g1 : (s.heap.push (newSet w)).get? l = some { cls := .type "list", dict := odict, data := .seq items nl, slots := oslots } := Heap.get?_push_of_some _ hol
      have f8 := F.sub_list_set
      have f9 := F.sub_list_frozenset
      have ne0 : (Value.type "list" == Value.type "dict") = false := by decide
      have l1 : (s.heap.push (newSet w)).IsList l items := ⟨_, g1, rfl, nl, rfl⟩
      unfold Builtin.«set.__init__» noKeywords Builtin.Frozenset.updateFrom
      generalize hPI : pyIter = PI
      wp_walk
      subst hPI
      refine wpAny_pyIter_list l1 ?_
      refine wpAny_bind (wpAny_runValue ?_)
      have llt : l < s.heap.objs.size := Heap.lt_size hol
      have hh3 : A.in1.in1.in1.handled = none := by simp [hh]
      have psz : (s.heap.push (newSet w)).objs.size = s.heap.objs.size + 1 := Heap.size_push ..
      have lne : l ≠ (s.heap.push (newSet w)).objs.size := by rw [psz]; exact Nat.ne_of_lt (Nat.lt_succ_of_lt llt)
      have nofp : s.heap.objs.size ∉ [(s.heap.push (newSet w)).objs.size, l] := by
        rw [psz]
        simp only [List.mem_cons, List.not_mem_nil, or_false, not_or]
        exact ⟨Nat.ne_of_lt (Nat.lt_succ_self _), Nat.ne_of_gt llt⟩
      have val : ∀ (i : Nat) (v : Value), items[i]? = some v → ∃ p, ks[i]? = some p ∧ v = .ref p.1 := fun i v hv => by
        rw [← Array.getElem?_toList, hit, List.getElem?_map] at hv
        obtain ⟨p, hp, e⟩ := Option.map_eq_some_iff.mp hv
        exact ⟨p, hp, e.symm⟩
      have none_of : ∀ c, s.heap.objs.size ≤ c → s.heap.get? c = none := fun c hc => by
        cases e : s.heap.get? c with
        | none => rfl
        | some o => exact absurd (Nat.lt_of_lt_of_le (Heap.lt_size e) hc) (Nat.lt_irrefl _)
      refine turns_k ((Walks.list hh3 _ l lne items).toS) s.heap.objs.size nofp ks isz few val s.heap hk (none_of _ (Nat.le_refl _)) (fun c hc => none_of c (by rw [List.mem_singleton.mp hc, psz]; exact Nat.le_succ _)) (by show A.units + 3 + 8 < cLine; omega) (items.size - 0) 0 _ (by omega) (Nat.zero_le _)
        ⟨⟨_, Heap.get?_push_size _ rfl, rfl, rfl⟩, l1.push _⟩ (fun c o e => Heap.get?_push_of_some _ (Heap.get?_push_of_some _ e)) ?start ?fin
      case start => exact ⟨[], #[], 0, _, setK_new (Heap.get?_push_of_some _ gS), ⟨fun p z => (by cases z), fun p z => (by simp at z), Nat.le_refl _⟩⟩
      case fin =>
        rintro ⟨h', g2, d', tk', os'⟩ L es ep t m S g k
        have eg : g2 = s.gens := m.gens
        have ed : d' = s.drawn := m.drawn
        have eo : os' = s.os := m.os
        subst eg
        subst ed
        subst eo
        show wpAny _ _ _ _ _ _
        refine wpAny_pure ?_
        show wpAny _ _ (ret Value.none) _ _ _
        rw [isz] at g
        exact wpAny_pure ⟨rfl, h', tk', L, es, ep, t, rfl, S, g, k⟩
    · match r2, h2 with
      | .error e, h2 => exact h2
      | .ok (.ret u), ⟨e3, h', tk, L, es, ep, t, e4, S, g, k⟩ =>
        subst e3
        subst e4
        repeat (any_goals (first | assumption | wp_step))
        exact q _ _ _ _ _ _ S g k
end DS

/-! DLset3: sorted(set). -/
namespace DS
open PySem PySem.Spec PyProof.Rows L2 DL
mutual
def keyD : D → NestedKey
  | .int i => .num i
  | .tuple xs => .tup (keyDs xs)
  | _ => .none
def keyDs : List D → List NestedKey
  | [] => []
  | x :: xs => keyD x :: keyDs xs
end
mutual
def datK : NestedKey → D
  | .num i => .int i
  | .tup ks => .tuple (datKs ks)
  | _ => .none
def datKs : List NestedKey → List D
  | [] => []
  | k :: ks => datK k :: datKs ks
end
mutual
theorem dat_key : ∀ d : D, itup d = true → datK (keyD d) = d ∧ numK (keyD d) = true ∧ (keyD d).depth = d.depth
  | .int i, _ => ⟨rfl, rfl, rfl⟩
  | .tuple xs, h => by
    obtain ⟨h1, h2, h3⟩ := dat_keys xs (by simpa [itup] using h)
    refine ⟨?_, ?_, ?_⟩
    · rw [keyD, datK, h1]
    · rw [keyD, numK, h2]
    · rw [keyD, NestedKey.depth, h3, PyData.depth]
  | .none, h => by simp [itup] at h
  | .bool _, h => by simp [itup] at h
  | .str _, h => by simp [itup] at h
  | .list _, h => by simp [itup] at h
  | .dict _, h => by simp [itup] at h
theorem dat_keys : ∀ ds : List D, itupAll ds = true → datKs (keyDs ds) = ds ∧ numKs (keyDs ds) = true ∧ NestedKey.depthAll (keyDs ds) = PyData.depthAll ds
  | [], _ => ⟨rfl, rfl, rfl⟩
  | d :: ds, h => by
    simp only [itupAll, Bool.and_eq_true] at h
    obtain ⟨h1, h2, h3⟩ := dat_key d h.1
    obtain ⟨k1, k2, k3⟩ := dat_keys ds h.2
    refine ⟨?_, ?_, ?_⟩
    · rw [keyDs, datKs, h1, k1]
    · rw [keyDs, numKs, h2, k2]; rfl
    · rw [keyDs, NestedKey.depthAll, h3, k3, PyData.depthAll]
end
mutual
theorem reads_key {h : Heap} : ∀ (d : D) (v : Value) (as : List Addr), itup d = true → Reads h v d as → as = [] ∧ NestedIs h (keyD d) v
  | .int i, _, _, _, r => by cases r; exact ⟨rfl, .int _ _⟩
  | .tuple xs, _, _, hi, r => by
    cases r with
    | tuple h1 h2 h3 h4 =>
      obtain ⟨e, n⟩ := reads_keys xs _ _ (by simpa [itup] using hi) h4
      exact ⟨e, .tup h1 h2 h3 n⟩
  | .none, _, _, h, _ => by simp [itup] at h
  | .bool _, _, _, h, _ => by simp [itup] at h
  | .str _, _, _, h, _ => by simp [itup] at h
  | .list _, _, _, h, _ => by simp [itup] at h
  | .dict _, _, _, h, _ => by simp [itup] at h
theorem reads_keys {h : Heap} : ∀ (ds : List D) (vs : List Value) (as : List Addr), itupAll ds = true → ReadsAll h vs ds as → as = [] ∧ NestedAll h (keyDs ds) vs
  | [], _, _, _, r => by cases r; exact ⟨rfl, .nil⟩
  | d :: ds, _, _, hi, r => by
    simp only [itupAll, Bool.and_eq_true] at hi
    cases r with
    | cons h1 h2 =>
      obtain ⟨e1, n1⟩ := reads_key d _ _ hi.1 h1
      obtain ⟨e2, n2⟩ := reads_keys ds _ _ hi.2 h2
      subst e1
      subst e2
      exact ⟨rfl, .cons n1 n2⟩
end
mutual
theorem itup_noB : ∀ d : D, itup d = true → PL.noB d = true
  | .int i, _ => rfl
  | .tuple xs, h => by
    rw [PL.noB]
    exact itups_noB xs (by simpa [itup] using h)
  | .none, h => by simp [itup] at h
  | .bool _, h => by simp [itup] at h
  | .str _, h => by simp [itup] at h
  | .list _, h => by simp [itup] at h
  | .dict _, h => by simp [itup] at h
theorem itups_noB : ∀ ds : List D, itupAll ds = true → PL.noBs ds = true
  | [], _ => rfl
  | d :: ds, h => by
    simp only [itupAll, Bool.and_eq_true] at h
    rw [PL.noBs, itup_noB d h.1, itups_noB ds h.2]
    rfl
end
/-- unlike data stand one before the other -/
theorem lt_of_ne {x y : D} (al : PySem.W.alike x y = true) (hx : itup x = true) (hy : itup y = true) (ne : x ≠ y) (h : PySem.W.dataLt y x = false) : PySem.W.dataLt x y = true := by
  cases e : PySem.W.dataLt x y with
  | true => rfl
  | false =>
    have te : PySem.W.keyToks x = PySem.W.keyToks y := PyProof.Rows.lex_total _ _ e h
    have nv : PyData.eqv x y = false := by
      cases z : PyData.eqv x y with
      | false => rfl
      | true => exact absurd ((PL.eqv_iff x y (itup_noB x hx) (itup_noB y hy)).mp z) ne
    have k := (PySem.W.toks_eqv x y al).2 nv [] [.inl 0]
    rw [te, PySem.W.lex_pre] at k
    rw [PyProof.Rows.lex_irrefl] at k
    exact absurd k (by decide)
theorem perm_back {α β : Type} (f : α → β) : ∀ {L : List α} {vs : List β}, vs.Perm (L.map f) → ∃ L1 : List α, L1.Perm L ∧ vs = L1.map f
  | [], vs, p => ⟨[], .nil, List.perm_nil.mp p⟩
  | x :: L, vs, p => by
    obtain ⟨a, b, rfl⟩ := List.append_of_mem (p.mem_iff.mpr (show f x ∈ (x :: L).map f from List.mem_cons_self))
    have p2 : (a ++ b).Perm (L.map f) := by
      have := List.perm_middle.symm.trans p
      rw [List.map_cons] at this
      exact this.cons_inv
    obtain ⟨L1, h1, h2⟩ := perm_back f p2
    obtain ⟨La, Lb, rfl, rfl, rfl⟩ := List.append_eq_map_iff.mp h2
    exact ⟨La ++ x :: Lb, List.perm_middle.trans (h1.cons x), by simp⟩
theorem each_rows {R : Value → D → Prop} : ∀ {L : List Row}, (∀ p ∈ L, R (.ref p.1) (datK p.2)) → PySem.W.EachIs R (L.map fun p => Value.ref p.1) (L.map fun p => datK p.2)
  | [], _ => .nil
  | p :: L, h => .cons (h p List.mem_cons_self) (each_rows fun r hr => h r (List.mem_cons_of_mem _ hr))
section
variable {P : Program} {w : World} {A : Around} {E : Value → Shared → Prop} {s : Shared} {a : Addr} {L : List Row} {es : Array (Int × Value)} {ep : Nat} {t : SetTable}
theorem sorted_k (S : SetK w s.heap a L es ep t) (hh : A.handled = none) (rd : ∀ p ∈ L, Reads s.heap (.ref p.1) (datK p.2) []) (al : PySem.W.AllAlike (L.map fun p => datK p.2)) (so : ∀ p ∈ L, ∃ x r, datK p.2 = .tuple (x :: r)) (dp : ∀ p ∈ L, (datK p.2).depth ≤ 8) (hu : A.units + 64 < cLine) {Q : Value → Shared → Prop}
    (q : ∀ s' p (out : List Value) (c : Nat) (bs : List D), (∀ b o, s.heap.get? b = some o → s'.heap.get? b = some o) → s'.gens = s.gens → s'.os = s.os → s.heap.objs.size ≤ p → s'.heap.get? p = some (seqObj "list" out.toArray c) → bs.Perm (L.map fun p => datK p.2) →
      PySem.W.EachIs (fun v d => ∃ r ∈ L, v = .ref r.1 ∧ d = datK r.2) out (bs.mergeSort (PySem.W.dataLe false id)) → Q (.ref p) s') : wpAny (model P w) A (call (.builtin "sorted") [.ref a]) Q E s := by
  obtain ⟨o, ho, hex, hd⟩ := S.here
  have esz := S.size
  have lt := S.lt
  refine Calls.call_function_entry kind_sorted plain_sorted entry_sorted (args_sorted1 _) ?_
  unfold Builtin.«sorted»
  refine wpAny_bind (m := checkCount "sorted" 1 1 _) (wpAny_pure ?_)
  refine wpAny_bind (collect_set (A := A.in1) hh ⟨o, ho, hex.1, hd⟩ S.fits (by unfold scanBound; omega) S.ok.ris S.ld fun s1 vs k1 z1 g1 o1 pm => ?_)
  have ev : es.toList.map (·.2) = L.map fun p => Value.ref p.1 := by
    rw [S.row]
    unfold rws
    rw [List.map_map]
    rfl
  rw [ev] at pm
  obtain ⟨L1, p1, rfl⟩ := perm_back (fun p : Row => Value.ref p.1) pm
  have in1 : ∀ p ∈ L1, p ∈ L := fun p hp => p1.mem_iff.mp hp
  have l1 : L1.length < 64 := by rw [p1.length_eq]; exact lt
  refine wpAny_bind (wpAny_newList ?_ (by rw [sizeLine_eq, List.length_map]; omega))
  have hoL : (s1.heap.push (seqObj "list" (L1.map fun p => Value.ref p.1).toArray 0)).get? s1.heap.objs.size = some (seqObj "list" (L1.map fun p => Value.ref p.1).toArray 0) := Heap.get?_push_size _ rfl
  have keep : ∀ b u, s.heap.get? b = some u → (s1.heap.push (seqObj "list" (L1.map fun p => Value.ref p.1).toArray 0)).get? b = some u := fun b u e => Heap.get?_push_of_some _ (k1 b u e)
  have pmD : (L1.map fun p => datK p.2).Perm (L.map fun p => datK p.2) := p1.map _
  refine wpAny_bind (wpAny_holding (PySem.W.list_sort_data (s := { s1 with heap := s1.heap.push (seqObj "list" (L1.map fun p => Value.ref p.1).toArray 0) }) (enc := id) (R := fun v d => ∃ r ∈ L, v = .ref r.1 ∧ d = datK r.2) (bs := L1.map fun p => datK p.2) hoL (each_rows fun p hp => ⟨p, in1 p hp, rfl, rfl⟩)
    (each_rows fun p hp => ⟨[], PyProof.Rows.Reads.keeps keep (rd p (in1 p hp)), by simp⟩) ?_ ?_ (by rw [List.length_map, sizeLine_eq]; omega) ?_ fun out lo eo => ?_))
  · rw [List.map_id]
    exact fun d hd d' hd' => al d (pmD.mem_iff.mp hd) d' (pmD.mem_iff.mp hd')
  · rw [List.map_id]
    refine .inl fun d hd => ?_
    obtain ⟨p, hp, rfl⟩ := List.mem_map.mp hd
    exact so p (in1 p hp)
  · intro d hd
    obtain ⟨p, hp, rfl⟩ := List.mem_map.mp hd
    have := dp p (in1 p hp)
    show A.units + 1 + 1 + (datK p.2).depth < cLine
    omega
  · obtain ⟨c, hc⟩ := sortedHeap_at (vs := L1.map fun p => Value.ref p.1) (out := out.toArray) hoL
    refine wpAny_pure ⟨_, rfl, q _ s1.heap.objs.size out c _ (fun b u e => ?_) g1 o1 z1 hc pmD eo⟩
    have e1 := k1 b u e
    have hlt := Heap.lt_size e1
    show (sortedHeap (s1.heap.push (seqObj "list" (L1.map fun p => Value.ref p.1).toArray 0)) s1.heap.objs.size _ _).get? b = some u
    rw [sortedHeap_old (Nat.ne_of_lt hlt) (by rw [size_push']; exact Nat.lt_succ_of_lt hlt)]
    exact Heap.get?_push_of_some _ e1
end
end DS

/-! DLset: sorted(set(xs)), xs a list of tuples of ints, nested. -/
namespace DL
open PySem PySem.Spec PyProof.Rows L2
/-- what may stand in the set -/
def SetOk (xs : List D) : Prop := xs.length < 64 ∧ xs.all itup = true ∧ PySem.W.AllAlike xs ∧ (∀ d, d ∈ xs → ∃ x r, d = .tuple (x :: r)) ∧ ∀ d, d ∈ xs → d.depth ≤ 8
def nSortSet (t : ET) : NT := fun E η Q => t E η fun d => match d with
  | .list xs => SetOk xs ∧ ∀ ys, ys.Pairwise (fun a b => PySem.W.dataLt a b = true) → (∀ d, d ∈ ys ↔ d ∈ xs) → Q ys
  | _ => False
theorem refsV : ∀ {ks : List DS.Row} {us : List Value}, Vals (ks.map fun p => V.ref p.1) us → us = ks.map fun p => Value.ref p.1
  | [], _, .nil => rfl
  | p :: ks, _, .cons r t => by
    cases r
    rw [refsV t]
    rfl
theorem rows_of {K : PySem.W.Frag} {O : Addr → Prop} {H : Hp} : ∀ {xs : List V} {ds : List D}, RepAll K O H xs ds → (∀ d ∈ ds, itup d = true ∧ ∃ x r, d = .tuple (x :: r)) →
    ∃ ks : List DS.Row, xs = ks.map (fun p => V.ref p.1) ∧ ds = ks.map (fun p => DS.datK p.2) ∧ ∀ p ∈ ks, Rep K O H (.ref p.1) (DS.datK p.2) ∧ itup (DS.datK p.2) = true ∧ DS.keyD (DS.datK p.2) = p.2
  | _, _, .nil, _ => ⟨[], rfl, rfl, fun p hp => by cases hp⟩
  | _, d :: _, .cons r t, h => by
    obtain ⟨ks, e1, e2, h3⟩ := rows_of t fun x hx => h x (List.mem_cons_of_mem _ hx)
    obtain ⟨hi, x, l, rfl⟩ := h d List.mem_cons_self
    have dk := (DS.dat_key _ hi).1
    cases r with
    | @tup a _ _ h1 h2 =>
      refine ⟨(a, DS.keyD (.tuple (x :: l))) :: ks, by rw [e1]; rfl, by rw [List.map_cons, ← e2, dk], fun p hp => ?_⟩
      rcases List.mem_cons.mp hp with z | z
      · subst z
        show Rep K O H (.ref a) (DS.datK (DS.keyD _)) ∧ itup (DS.datK (DS.keyD _)) = true ∧ DS.keyD (DS.datK (DS.keyD _)) = _
        rw [dk]
        exact ⟨.tup h1 h2, hi, rfl⟩
      · exact h3 p z
def tSortSet (K : PySem.W.Frag) (ta : TE) : TE := fun σ H Q => ta σ H fun x H1 => ∃ (l : Addr) (xs : List V) (ds : List D) (O : Addr → Prop), x = V.ref l ∧ H1 l = some (.lst xs) ∧ RepAll K O H1 xs ds ∧ SetOk ds ∧
  ∀ p ys es, H1 p = none → RepAll K O H1 ys es → es.Pairwise (fun a b => PySem.W.dataLt a b = true) → (∀ d, d ∈ es ↔ d ∈ ds) → ys.length ≤ sizeLine → Q (.ref p) (upd H1 p (.lst ys))
section
variable {X : Cx} {e : Expr} {t : ET} {p p2 q2 pos : Pos}
theorem pe_sortSet {ta : TE} (hc : X.calm = true) (hu : X.A.units + 65 < cLine) (hg : Gl X "sorted") (hm : X.mg "sorted" = none) (hg2 : Gl X "set") (hm2 : X.mg "set" = none) (ha : PE X e ta) (na : starEach [e] X.env = (false, eval e X.env) :: starEach [] X.env)
    (nb : starEach [.Call (.Name "set" p2) [e] [] q2] X.env = (false, eval (.Call (.Name "set" p2) [e] [] q2) X.env) :: starEach [] X.env) : PE X (.Call (.Name "sorted" p) [.Call (.Name "set" p2) [e] [] q2] [] pos) (tSortSet X.K ta) := by
  refine ⟨fun pins s σ H Q I h => ?_⟩
  refine Call_ (ld_blt I hg hm (show bootBuiltins "sorted" = some (.builtin "sorted") by decide +kernel) ?_)
  refine PyProof.Rows.callWith_builtin1 (PyProof.Rows.args_cons ?_ nb) nb rfl
  refine Call_ (ld_blt I hg2 hm2 PyProof.Rows.boot_set ?_)
  refine PyProof.Rows.callWith_type1 (PyProof.Rows.args_cons (thn (ha.run pins s σ H _ I h) fun v s1 ⟨x, H1, I1, r1, q1⟩ => PyProof.Rows.args_nil ?_) na) na rfl
  obtain ⟨l, xs, ds, O, rfl, hl, rx, ⟨few, hit, hal, hne, hdp⟩, q1⟩ := q1
  cases r1
  rw [List.all_eq_true] at hit
  obtain ⟨ks, rfl, rfl, hks⟩ := rows_of rx fun d hd => ⟨hit d hd, hne d hd⟩
  obtain ⟨its, rv, pl, hz⟩ := I1.list (.of hl)
  rw [List.length_map] at few
  have eI := refsV rv
  have inD : ∀ p ∈ ks, DS.datK p.2 ∈ ks.map fun p => DS.datK p.2 := fun p hp => List.mem_map.mpr ⟨p, hp, rfl⟩
  have rd1 : ∀ p ∈ ks, Reads s1.heap (.ref p.1) (DS.datK p.2) [] ∧ DS.At s1.heap p.2 p.1 := fun p hp => by
    obtain ⟨r, hi, ek⟩ := hks p hp
    obtain ⟨as, rd⟩ := Dp.reads I1 _ _ (.ref p.1) (r.dp (nd_alike _ (hal _ (inD p hp) _ (inD p hp)))) rfl
    obtain ⟨e0, n0⟩ := DS.reads_key _ _ _ hi rd
    subst e0
    obtain ⟨_, k2, k3⟩ := DS.dat_key _ hi
    rw [ek] at n0 k2 k3
    exact ⟨rd, n0, by rw [k3]; exact hdp _ (inD p hp), k2⟩
  refine DS.call_set_k (P := X.prog) (w := X.w) ks (I1.ok.hd hc) pl.isList (by simpa using eI) (fun p hp => (rd1 p hp).2) few (by omega) fun h' tk L es ep t S g k => PyProof.Rows.args_nil ?_
  have I2 : Inv X pins σ H1 { s1 with heap := h', toks := tk } := I1.kept k
  have sub : ∀ p ∈ L, p ∈ ks := fun p hp => List.mem_of_mem_take (g.sub p hp)
  have inL : ∀ p ∈ L, DS.datK p.2 ∈ ks.map fun p => DS.datK p.2 := fun p hp => inD p (sub p hp)
  refine DS.sorted_k (s := { s1 with heap := h', toks := tk }) S (I1.ok.hd hc) (fun p hp => PyProof.Rows.Reads.keeps k (rd1 p (sub p hp)).1) ?_ (fun p hp => hne _ (inL p hp)) (fun p hp => hdp _ (inL p hp)) (by omega) fun s' b out c bs k2 g2 o2 hb hout pm eo => ?_
  · intro d hd d' hd'
    obtain ⟨p, hp, rfl⟩ := List.mem_map.mp hd
    obtain ⟨p', hp', rfl⟩ := List.mem_map.mp hd'
    exact hal _ (inL p hp) _ (inL p' hp')
  · have eo2 : PySem.W.EachIs (fun u d => ∃ x, RelV x u ∧ Rep X.K O H1 x d) out (sortD bs) := eo.mono fun v d ⟨r, hr, e1, e2⟩ => by
      subst e1
      subst e2
      exact ⟨.ref r.1, rfl, (hks r (sub r hr)).1⟩
    obtain ⟨ys, hv, hy⟩ := each_out eo2
    have pmS : (sortD bs).Perm (L.map fun p => DS.datK p.2) := (List.mergeSort_perm _ _).trans pm
    have hlen : ys.length ≤ sizeLine := by
      have := S.lt
      rw [hy.length, pmS.length_eq, List.length_map, sizeLine_eq]
      omega
    have hn : H1 b = none := I2.hok.fresh hb
    have J : Inv X pins σ (upd H1 b (.lst ys)) { ({ s1 with heap := h', toks := tk } : Shared) with heap := s'.heap, gens := s'.gens, drawn := s'.drawn, toks := s'.toks } :=
      I2.call (ch := []) (Un.laid k2 hb hn) (I2.hok.laid k2 hb ⟨hlen, out, c, hv, hout⟩) (by rw [g2]; exact I2.bare) (fun _ z => nomatch z)
    have e9 : s' = { ({ s1 with heap := h', toks := tk } : Shared) with heap := s'.heap, gens := s'.gens, drawn := s'.drawn, toks := s'.toks } := by
      cases s'
      cases s1
      cases o2
      rfl
    rw [e9]
    refine ⟨.ref b, _, J, rfl, q1 b ys (sortD bs) hn hy ?_ ?_ hlen⟩
    · have nd : (L.map fun p => DS.datK p.2).Nodup := by
        refine List.pairwise_map.mpr (List.Pairwise.imp_of_mem (fun {x y} hx hy ne e => ne ?_) (List.pairwise_map.mp S.one))
        have ex := (hks x (sub x hx)).2.2
        have ey := (hks y (sub y hy)).2.2
        rw [← ex, ← ey, e]
      have nd2 : (sortD bs).Nodup := pmS.nodup_iff.mpr nd
      have le := PySem.W.sort_pairwise (PySem.W.sortLe_total (PyProof.Rows.listOrd PyProof.Rows.itemOrd) false fun b : D => PySem.W.keyToks (id b)) bs
      refine List.Pairwise.imp_of_mem (fun {x y} hx hy ⟨h1, h2⟩ => ?_) (List.Pairwise.and nd2 le)
      obtain ⟨px, hpx, rfl⟩ := List.mem_map.mp (pmS.mem_iff.mp hx)
      obtain ⟨py, hpy, rfl⟩ := List.mem_map.mp (pmS.mem_iff.mp hy)
      refine DS.lt_of_ne (hal _ (inL px hpx) _ (inL py hpy)) (hit _ (inL px hpx)) (hit _ (inL py hpy)) h1 ?_
      have h3 : (!PySem.W.dataLt (DS.datK py.2) (DS.datK px.2)) = true := h2
      simpa using h3
    · intro d
      rw [pmS.mem_iff]
      constructor
      · intro hd
        obtain ⟨p, hp, rfl⟩ := List.mem_map.mp hd
        exact inL p hp
      · intro hd
        obtain ⟨p, hp, rfl⟩ := List.mem_map.mp hd
        obtain ⟨r, hr, er⟩ := List.mem_map.mp (g.all p (by rw [List.take_length]; exact hp))
        exact List.mem_map.mpr ⟨r, hr, by rw [er]⟩
theorem dn_sortSet (hc : X.calm = true) (hu : X.A.units + 65 < cLine) (hg : Gl X "sorted") (hm : X.mg "sorted" = none) (hg2 : Gl X "set") (hm2 : X.mg "set" = none) (h : DE X e t) (na : starEach [e] X.env = (false, eval e X.env) :: starEach [] X.env := by rfl)
    (nb : starEach [.Call (.Name "set" p2) [e] [] q2] X.env = (false, eval (.Call (.Name "set" p2) [e] [] q2) X.env) :: starEach [] X.env := by rfl) :
    DN X (.Call (.Name "sorted" p) [.Call (.Name "set" p2) [e] [] q2] [] pos) (nSortSet t) := by
  refine .of (pe_sortSet hc hu hg hm hg2 hm2 h.pe na nb) fun σ H c O η E Q R g ht k => ?_
  refine ⟨c, O, η, E, _, g, ht, fun d v H1 s1 r1 q => ?_⟩
  cases r1 with
  | @lst a xs ds o h0 rr =>
    exact ⟨a, xs, ds, O, rfl, h0, rr, q.1, fun b ys es hn ry hp hm hl => newk g s1 ry (q.2 es hp hm) k b hn⟩
  | _ => exact q.elim
end
end DL

/-! DL15: sorted of a tuple. -/
namespace DL
open PySem PySem.Spec PyProof.Rows L2
section
variable {prog : Program} {w : World} {A : Around} {E : Value → Shared → Prop} {s : Shared}
theorem collect_tup {l : Addr} {vs : List Value} {Q : List Value → Shared → Prop} (hl : s.heap.IsTuple l vs.toArray) (hz : vs.length ≤ sizeLine)
    (q : Q vs { s with heap := (s.heap.push (seqObj "list" #[] 0)).update s.heap.objs.size (Obj.mapSeq (· ++ vs.toArray)) }) : wpAny (model prog w) A (collect (.ref l)) Q E s := by
  obtain ⟨o, ho, hc, n, hd⟩ := id hl
  have here := Heap.get?_push_size s.heap (o := seqObj "list" #[] 0) rfl
  have ho2 : (s.heap.push (seqObj "list" #[] 0)).get? l = some o := Heap.get?_push_of_some _ ho
  unfold collect
  refine wpAny_bind (wpAny_runValue (codeAny_builtin entry_proto_collect' ?_))
  show wpAny _ _ (do again (.builtin "list.__iadd__" ⟨[← newList [], .ref l], []⟩)) _ _ s
  refine wpAny_bind (wpAny_newList (wpAny_pure ⟨Code.quiet_builtin _ (by decide +kernel), codeAny_builtin entry_list_iadd' ?_⟩))
  show wpAny _ _ (Builtin.List.listExtendWith (.ref s.heap.objs.size) (.ref l) (.ref s.heap.objs.size)) _ _ { s with heap := s.heap.push (seqObj "list" #[] 0) }
  unfold Builtin.List.listExtendWith
  refine wpAny_bind (wpAny_typeOf (T := "tuple") ⟨o, ho2, hc⟩ ?_)
  have tt : (Value.type "tuple" == Value.type "tuple") = true := by rfl
  rw [if_pos (by rw [tt]; simp)]
  refine wpAny_bind (listItems_at ho2 hd ?_)
  refine wpAny_bind (listItems_at (xs := #[]) (n := 0) here rfl ?_)
  rw [if_neg (by simp)]
  refine wpAny_bind (listUpdate_at (xs := #[]) (n := 0) here rfl ?_ (Nat.zero_le _) (by show (#[] ++ vs.toArray).size ≤ sizeLine + 1; simp only [Array.size_append, List.size_toArray, List.length_nil]; omega))
  refine wpAny_pure ?_
  show wpAny (model prog w) A (do
      let o ← load s.heap.objs.size
      match o.data with
      | .seq xs _ => pure xs.toList
      | _ => unsupported "internal:collect") Q E { s with heap := (s.heap.push (seqObj "list" #[] 0)).update s.heap.objs.size (Obj.mapSeq (· ++ vs.toArray)) }
  refine wpAny_bind (wpAny_load (get?_update_seq here _) ?_)
  show wpAny _ _ (pure ((#[] : Array Value) ++ vs.toArray).toList) Q E _
  rw [show ((#[] : Array Value) ++ vs.toArray).toList = vs by simp]
  exact wpAny_pure q
end
section
variable {X : Cx} {e : Expr} {ts : AT} {p pos : Pos}
def SrtT (ds : List D) : Prop := ds.all itup = true ∧ PySem.W.AllAlike ds ∧ PySem.W.Sortable ds ∧ ∀ d, d ∈ ds → d.depth ≤ 60
def rSortTup (K : PySem.W.Frag) : List V → Hp → VK → Prop := fun vs H Q => ∃ (a : Addr) (xs : List V) (ds : List D) (O : Addr → Prop), vs = [.ref a] ∧ SqT K H a xs ∧ RepAll K O H xs ds ∧ SrtT ds ∧ ∀ p ys, H p = none → RepAll K O H ys (sortD ds) → Q (.ref p) (upd H p (.lst ys))
theorem cr_sortTup (hu : X.A.units + 65 < cLine) : CallR X (.builtin "sorted") (rSortTup X.K) := by
  intro pins s σ H vs us Q I r h
  obtain ⟨a, xs, ds, O, rfl, ha, rx, ⟨hit, hal, hso, hdp⟩, q⟩ := h
  rw [Vals.ref1 r]
  rw [List.all_eq_true] at hit
  obtain ⟨its, rv, hT, hz⟩ := I.tuple ha
  have e2 := rx.each2 rv
  have er := RepAll.each I (nd_all hal) rx rv
  have hl := rx.length
  have hl2 := rv.length
  have hz : its.length ≤ sizeLine := by rw [← hl2]; exact hz
  refine Calls.call_function_entry kind_sorted plain_sorted entry_sorted (args_sorted1 _) ?_
  unfold Builtin.«sorted»
  refine wpAny_bind (m := checkCount "sorted" 1 1 _) (wpAny_pure ?_)
  refine wpAny_bind (collect_tup hT hz ?_)
  generalize hh : (s.heap.push (seqObj "list" #[] 0)).update s.heap.objs.size (Obj.mapSeq (· ++ its.toArray)) = h1
  have k1 : ∀ b u, s.heap.get? b = some u → h1.get? b = some u := fun b u e => by
    have hlt := Heap.lt_size e
    rw [← hh, Heap.get?_update_ne _ _ _ _ (Nat.ne_of_lt hlt)]
    exact Heap.get?_push_of_some _ e
  have z1 : s.heap.objs.size ≤ h1.objs.size := by
    rw [← hh, Heap.size_update, size_push']
    exact Nat.le_succ _
  clear hh
  refine wpAny_bind (wpAny_newList ?_ hz)
  have hoL : (h1.push (seqObj "list" its.toArray 0)).get? h1.objs.size = some (seqObj "list" its.toArray 0) := Heap.get?_push_size _ rfl
  have keep : ∀ b u, s.heap.get? b = some u → (h1.push (seqObj "list" its.toArray 0)).get? b = some u := fun b u e => Heap.get?_push_of_some _ (k1 b u e)
  have em : ds.map id = ds := List.map_id _
  refine wpAny_bind (wpAny_holding (PySem.W.list_sort_data (s := { s with heap := h1.push (seqObj "list" its.toArray 0) }) (enc := id) (R := fun u d => ∃ x, RelV x u ∧ Rep X.K O H x d) (bs := ds) hoL e2 ?_ (by rw [em]; exact hal) (by rw [em]; exact hso) (by rw [← hl, hl2]; exact hz) ?_ fun out lo eo => ?_))
  · have er2 := PySem.W.each_mem er
    exact er2.mono fun u d ⟨⟨as, rd⟩, hd⟩ => by
      have ea := (DS.reads_key d u as (hit d hd) rd).1
      subst ea
      exact ⟨[], PyProof.Rows.Reads.keeps keep rd, by simp⟩
  · intro d hd
    have := hdp d hd
    show X.A.units + 1 + 1 + d.depth < cLine
    omega
  · obtain ⟨c, hc⟩ := sortedHeap_at (vs := its) (out := out.toArray) hoL
    obtain ⟨ys, hv, hy⟩ := each_out eo
    have hlen : ys.length ≤ sizeLine := by
      rw [hy.length, (List.mergeSort_perm _ _).length_eq, ← hl, hl2]
      exact hz
    have old : ∀ b u, s.heap.get? b = some u → (sortedHeap (h1.push (seqObj "list" its.toArray 0)) h1.objs.size its out.toArray).get? b = some u := fun b u e => by
      have hlt := Heap.lt_size (k1 b u e)
      rw [sortedHeap_old (Nat.ne_of_lt hlt) (by rw [size_push']; exact Nat.lt_succ_of_lt hlt)]
      exact keep b u e
    refine wpAny_pure ⟨_, rfl, .ref h1.objs.size, _, I.laid (o := .lst ys) (t' := s.toks) old z1 ⟨hlen, out, c, hv, hc⟩, rfl, q _ ys (I.hok.fresh z1) hy⟩
def fSortedT : List D → (List D → Prop) → Prop
  | [.tuple xs], Q => SrtT xs ∧ Q (sortD xs)
  | _, _ => False
theorem dn_sortedT (hu : X.A.units + 65 < cLine) (hg : Gl X "sorted") (hm : X.mg "sorted" = none) (ha : DA X [e] ts) (he : starEach [e] X.env = (false, eval e X.env) :: starEach [] X.env := by rfl) : DN X (.Call (.Name "sorted" p) [e] [] pos) (nCall fSortedT ts) := by
  refine dn_callB (cr_sortTup hu) ?_ hg hm (by decide +kernel) ha (he := he)
  intro G O H xs ds Q R B r h k
  match ds, h with
  | [.tuple zs], ⟨h1, h2⟩ =>
    cases r with
    | cons r1 r2 =>
      cases r2
      cases r1 with
      | tup h0 rr => exact ⟨_, _, zs, O, rfl, h0.sq, rr, h1, fun p ys hp hy => k _ _ hy h2 p hp⟩
end
end DL

/-! DL23: dicts whose keys are tuples of ints (nested): dict(pairs), d[k], list(d), {}. -/
namespace DL
open PySem PySem.Spec PyProof.Rows L2
/-! ### keys -/
mutual
theorem hash_nk (w : World) : ∀ d : D, itup d = true → (nk d).hash w = hashD d
  | .int i, _ => rfl
  | .tuple xs, h => by
    have := hashes_nks w xs (by simpa [itup] using h)
    rw [nk, NestedKey.hash, hashD, this]
  | .none, h => by simp [itup] at h
  | .bool _, h => by simp [itup] at h
  | .str _, h => by simp [itup] at h
  | .list _, h => by simp [itup] at h
  | .dict _, h => by simp [itup] at h
theorem hashes_nks (w : World) : ∀ xs : List D, itupAll xs = true → NestedKey.hashes w (nks xs) = hashesD xs
  | [], _ => rfl
  | x :: xs, h => by
    simp only [itupAll, Bool.and_eq_true] at h
    rw [nks, NestedKey.hashes, hashesD, hash_nk w x h.1, hashes_nks w xs h.2]
end
mutual
theorem nk_inj : ∀ d e : D, itup d = true → itup e = true → nk d = nk e → d = e
  | .int i, .int j, _, _, h => by simp only [nk, NestedKey.num.injEq] at h; rw [h]
  | .int i, .tuple ys, _, _, h => by simp [nk] at h
  | .tuple xs, .int j, _, _, h => by simp [nk] at h
  | .tuple xs, .tuple ys, h1, h2, h => by
    simp only [nk, NestedKey.tup.injEq] at h
    rw [nks_inj xs ys (by simpa [itup] using h1) (by simpa [itup] using h2) h]
  | .none, _, h, _, _ => by simp [itup] at h
  | .bool _, _, h, _, _ => by simp [itup] at h
  | .str _, _, h, _, _ => by simp [itup] at h
  | .list _, _, h, _, _ => by simp [itup] at h
  | .dict _, _, h, _, _ => by simp [itup] at h
  | .int _, .none, _, h, _ => by simp [itup] at h
  | .int _, .bool _, _, h, _ => by simp [itup] at h
  | .int _, .str _, _, h, _ => by simp [itup] at h
  | .int _, .list _, _, h, _ => by simp [itup] at h
  | .int _, .dict _, _, h, _ => by simp [itup] at h
  | .tuple _, .none, _, h, _ => by simp [itup] at h
  | .tuple _, .bool _, _, h, _ => by simp [itup] at h
  | .tuple _, .str _, _, h, _ => by simp [itup] at h
  | .tuple _, .list _, _, h, _ => by simp [itup] at h
  | .tuple _, .dict _, _, h, _ => by simp [itup] at h
theorem nks_inj : ∀ xs ys : List D, itupAll xs = true → itupAll ys = true → nks xs = nks ys → xs = ys
  | [], [], _, _, _ => rfl
  | [], y :: ys, _, _, h => by simp [nks] at h
  | x :: xs, [], _, _, h => by simp [nks] at h
  | x :: xs, y :: ys, h1, h2, h => by
    simp only [itupAll, Bool.and_eq_true] at h1 h2
    simp only [nks, List.cons.injEq] at h
    rw [nk_inj x y h1.1 h2.1 h.1, nks_inj xs ys h1.2 h2.2 h.2]
end
mutual
theorem depth_nk : ∀ d : D, itup d = true → (nk d).depth = d.depth
  | .int i, _ => rfl
  | .tuple xs, h => by
    have := depth_nks xs (by simpa [itup] using h)
    rw [nk, NestedKey.depth, PyData.depth, this]
  | .none, h => by simp [itup] at h
  | .bool _, h => by simp [itup] at h
  | .str _, h => by simp [itup] at h
  | .list _, h => by simp [itup] at h
  | .dict _, h => by simp [itup] at h
theorem depth_nks : ∀ xs : List D, itupAll xs = true → NestedKey.depthAll (nks xs) = PyData.depthAll xs
  | [], _ => rfl
  | x :: xs, h => by
    simp only [itupAll, Bool.and_eq_true] at h
    rw [nks, NestedKey.depthAll, PyData.depthAll, depth_nk x h.1, depth_nks xs h.2]
end
theorem keyOk_out {d : D} (h : keyOk d = true) : (∃ xs, d = .tuple xs) ∧ itup d = true ∧ d.depth ≤ 8 := by
  unfold keyOk at h
  simp only [Bool.and_eq_true, decide_eq_true_eq] at h
  refine ⟨?_, h.1.2, h.2⟩
  cases d <;> simp [isTup] at h
  exact ⟨_, rfl⟩
section
variable {X : Cx} {pins : List (Addr × Obj)} {σ : L2.St} {H : Hp} {s : Shared} {O : Addr → Prop}
mutual
theorem Rep.nested (I : Inv X pins σ H s) : ∀ {d : D} {v : V} {u : Value}, itup d = true → Rep X.K O H v d → RelV v u → NestedIs s.heap (nk d) u
  | _, _, u, _, .int i, r => by
    obtain ⟨t, rfl⟩ := r
    exact .int i t
  | _, _, u, h, .tup ht ra, r => by
    cases r
    obtain ⟨its, rv, ⟨o, ho, hc, n, hd⟩, _⟩ := I.tuple ht.sq
    exact .tup ho hc hd (by simpa using RepAll.nested I (by simpa [itup] using h) ra rv)
  | _, _, _, h, .non, _ => by simp [itup] at h
  | _, _, _, h, .bl _, _ => by simp [itup] at h
  | _, _, _, h, .str _, _ => by simp [itup] at h
  | _, _, _, h, .lst .., _ => by simp [itup] at h
  | _, _, _, h, .dct .., _ => by simp [itup] at h
theorem RepAll.nested (I : Inv X pins σ H s) : ∀ {ds : List D} {vs : List V} {us : List Value}, itupAll ds = true → RepAll X.K O H vs ds → Vals vs us → NestedAll s.heap (nks ds) us
  | _, _, _, _, .nil, .nil => .nil
  | _, _, _, h, .cons r t, .cons q l => by
    simp only [itupAll, Bool.and_eq_true] at h
    exact .cons (Rep.nested I h.1 r q) (RepAll.nested I h.2 t l)
end
theorem key_is (I : Inv X pins σ H s) {d : D} {v : V} (k : keyOk d = true) (r : Rep X.K O H v d) : ∃ b, v = .ref b ∧ (nestedKind X.prog X.w).is s.heap (nk d) b := by
  obtain ⟨⟨xs, rfl⟩, h2, h3⟩ := keyOk_out k
  cases r with
  | tup ht ra =>
    exact ⟨_, rfl, Rep.nested I h2 (.tup ht ra) rfl, by rw [depth_nk _ h2]; exact h3⟩
/-- the dict's table -/
def tabOf : List (D × D) → List Addr → List Value → List (NestedKey × Addr × Value)
  | p :: kvs, b :: bs, x :: xs => (nk p.1, b, x) :: tabOf kvs bs xs
  | _, _, _ => []
theorem tab_ents (w : World) (P : Program) : ∀ {kvs : List (D × D)} {bs : List Addr} {xs : List Value}, (∀ p ∈ kvs, itup p.1 = true) → (tabOf kvs bs xs).map (entryOfKey (nestedKind P w)) = entsOf kvs (bs.map .ref) xs
  | [], _, _, _ => by simp [tabOf, entsOf]
  | _ :: _, [], _, _ => by simp [tabOf, entsOf]
  | _ :: _, _ :: _, [], _ => by simp [tabOf, entsOf]
  | p :: kvs, b :: bs, x :: xs, h => by
    simp only [tabOf, List.map_cons, entsOf]
    rw [tab_ents w P fun q hq => h q (List.mem_cons_of_mem _ hq)]
    refine congrArg (· :: _) ?_
    show (⟨NestedKey.hash w (nk p.1), .ref b, x⟩ : DictEntry) = _
    rw [hash_nk w _ (h p List.mem_cons_self)]
theorem tab_keys : ∀ {kvs : List (D × D)} {bs : List Addr} {xs : List Value}, kvs.length = bs.length → kvs.length = xs.length → (tabOf kvs bs xs).map (·.1) = kvs.map fun p => nk p.1
  | [], _, _, _, _ => by simp [tabOf]
  | _ :: _, [], _, h, _ => by simp at h
  | _ :: _, _ :: _, [], _, h => by simp at h
  | p :: kvs, b :: bs, x :: xs, h1, h2 => by
    simp only [tabOf, List.map_cons]
    rw [tab_keys (by simpa using h1) (by simpa using h2)]
theorem refs_of_keys : ∀ {kvs : List (D × D)} {ks : List V}, (∀ p ∈ kvs, keyOk p.1 = true) → RepAll X.K O H ks (kvs.map (·.1)) → ∃ bs : List Addr, ks = bs.map V.ref ∧ bs.length = kvs.length
  | [], _, _, .nil => ⟨[], rfl, rfl⟩
  | p :: kvs, _, h, .cons r t => by
    obtain ⟨⟨xs, e⟩, _⟩ := keyOk_out (h p List.mem_cons_self)
    have r : Rep X.K O H _ p.1 := r
    rw [e] at r
    obtain ⟨bs, rfl, hl⟩ := refs_of_keys (fun q hq => h q (List.mem_cons_of_mem _ hq)) t
    cases r with
    | @tup b => exact ⟨b :: bs, rfl, by rw [List.length_cons, List.length_cons, hl]⟩
theorem vals_refs : ∀ {bs : List Addr} {us : List Value}, Vals (bs.map V.ref) us → us = bs.map Value.ref
  | [], _, .nil => rfl
  | b :: bs, _, .cons r t => by
    cases (show _ = Value.ref b from r)
    rw [vals_refs t]
    rfl
theorem tab_is (I : Inv X pins σ H s) : ∀ {kvs : List (D × D)} {bs : List Addr} {xs : List Value}, (∀ p ∈ kvs, keyOk p.1 = true) → RepAll X.K O H (bs.map V.ref) (kvs.map (·.1)) → ∀ x ∈ tabOf kvs bs xs, (nestedKind X.prog X.w).is s.heap x.1 x.2.1
  | [], _, _, _, _, x, hx => by simp [tabOf] at hx
  | _ :: _, [], _, _, _, x, hx => by simp [tabOf] at hx
  | _ :: _, _ :: _, [], _, _, x, hx => by simp [tabOf] at hx
  | p :: kvs, b :: bs, z :: xs, h, .cons r t, x, hx => by
    rcases List.mem_cons.mp (show x ∈ (nk p.1, b, z) :: tabOf kvs bs xs from hx) with e | hx
    · subst e
      obtain ⟨b', e1, e2⟩ := key_is I (h p List.mem_cons_self) r
      cases e1
      exact e2
    · exact tab_is I (fun q hq => h q (List.mem_cons_of_mem _ hq)) t x hx
theorem nodup_nk : ∀ {kvs : List (D × D)}, (∀ p ∈ kvs, keyOk p.1 = true) → (kvs.map (·.1)).Nodup → (kvs.map fun p => nk p.1).Nodup
  | [], _, _ => List.nodup_nil
  | p :: kvs, h, n => by
    rw [List.map_cons, List.nodup_cons] at n ⊢
    refine ⟨fun z => n.1 ?_, nodup_nk (fun q hq => h q (List.mem_cons_of_mem _ hq)) n.2⟩
    obtain ⟨q, hq, e⟩ := List.mem_map.mp z
    have := nk_inj _ _ (keyOk_out (h q (List.mem_cons_of_mem _ hq))).2.1 (keyOk_out (h p List.mem_cons_self)).2.1 e
    exact List.mem_map.mpr ⟨q, hq, this⟩
/-- what stands at a dict -/
theorem dict_at (I : Inv X pins σ H s) {a : Addr} {es : Array DictEntry} {ep : Nat} {ks vs : List V} {kvs : List (D × D)} (h : H a = some (dictO a es ep)) (k : DictOk es ks vs kvs) (rk : RepAll X.K O H ks (kvs.map (·.1))) (rv : RepAll X.K O H vs (kvs.map (·.2))) :
    ∃ (bs : List Addr) (xs : List Value), ks = bs.map V.ref ∧ bs.length = kvs.length ∧ Vals vs xs ∧ xs.length = kvs.length ∧ es.toList = entsOf kvs (bs.map .ref) xs ∧ s.heap.DictOfH (nestedKind X.prog X.w) a (tabOf kvs bs xs) := by
  obtain ⟨⟨o, h1, h2, h3⟩, _⟩ := I.hok a _ h
  obtain ⟨us, xs, e1, e2, e3⟩ := k.ents
  obtain ⟨bs, rfl, hl⟩ := refs_of_keys k.keys rk
  have eu := vals_refs e1
  subst eu
  have hx : xs.length = kvs.length := by
    have a1 := e2.length
    have a2 := rv.length
    rw [List.length_map] at a2
    omega
  exact ⟨bs, xs, rfl, hl, e2, hx, e3, o, es, ep, h1, h2, h3, by rw [e3, tab_ents _ _ fun p hp => (keyOk_out (k.keys p hp)).2.1], tab_is I k.keys rk, by rw [tab_keys hl.symm hx.symm]; exact nodup_nk k.keys k.nd⟩
theorem Rep.dict_in {v : V} {kvs : List (D × D)} {K : PySem.W.Frag} (r : Rep K O H v (.dict kvs)) : ∃ a es ep ks vs, v = .ref a ∧ ¬ O a ∧ H a = some (dictO a es ep) ∧ (a == sysModules) = false ∧ DictOk es ks vs kvs ∧ RepAll K O H ks (kvs.map (·.1)) ∧ RepAll K O H vs (kvs.map (·.2)) := by
  cases r with
  | dct o h sm k r1 r2 => exact ⟨_, _, _, _, _, rfl, o, h, sm, k, r1, r2⟩
end
/-! ### d[k] -/
def dLook (kvs : List (D × D)) (k : D) : Option D := (kvs.find? fun p => PyData.eqv p.1 k).map (·.2)
mutual
theorem eqv_itup : ∀ d e : D, itup d = true → itup e = true → (PyData.eqv d e = true ↔ d = e)
  | .int i, .int j, _, _ => by simp [PyData.eqv]
  | .int i, .tuple ys, _, _ => by simp [PyData.eqv]
  | .tuple xs, .int j, _, _ => by simp [PyData.eqv]
  | .tuple xs, .tuple ys, h1, h2 => by
    have := eqv_itups xs ys (by simpa [itup] using h1) (by simpa [itup] using h2)
    simpa [PyData.eqv] using this
  | .none, _, h, _ => by simp [itup] at h
  | .bool _, _, h, _ => by simp [itup] at h
  | .str _, _, h, _ => by simp [itup] at h
  | .list _, _, h, _ => by simp [itup] at h
  | .dict _, _, h, _ => by simp [itup] at h
  | .int _, .none, _, h => by simp [itup] at h
  | .int _, .bool _, _, h => by simp [itup] at h
  | .int _, .str _, _, h => by simp [itup] at h
  | .int _, .list _, _, h => by simp [itup] at h
  | .int _, .dict _, _, h => by simp [itup] at h
  | .tuple _, .none, _, h => by simp [itup] at h
  | .tuple _, .bool _, _, h => by simp [itup] at h
  | .tuple _, .str _, _, h => by simp [itup] at h
  | .tuple _, .list _, _, h => by simp [itup] at h
  | .tuple _, .dict _, _, h => by simp [itup] at h
theorem eqv_itups : ∀ xs ys : List D, itupAll xs = true → itupAll ys = true → (PyData.eqvAll xs ys = true ↔ xs = ys)
  | [], [], _, _ => by simp [PyData.eqvAll]
  | [], y :: ys, _, _ => by simp [PyData.eqvAll]
  | x :: xs, [], _, _ => by simp [PyData.eqvAll]
  | x :: xs, y :: ys, h1, h2 => by
    simp only [itupAll, Bool.and_eq_true] at h1 h2
    simp only [PyData.eqvAll, Bool.and_eq_true, eqv_itup x y h1.1 h2.1, eqv_itups xs ys h1.2 h2.2, List.cons.injEq]
end
/-- the item of a table at a key -/
theorem tab_look {K : PySem.W.Frag} {O : Addr → Prop} {H : Hp} {k d : D} (hk : itup k = true) : ∀ {kvs : List (D × D)} {bs : List Addr} {xs : List Value} {vs : List V}, (∀ p ∈ kvs, itup p.1 = true) → bs.length = kvs.length → Vals vs xs → RepAll K O H vs (kvs.map (·.2)) → dLook kvs k = some d →
    ∃ x v, valueAt (pairsH (tabOf kvs bs xs)) (nk k) = some x ∧ RelV v x ∧ Rep K O H v d
  | [], _, _, _, _, _, _, _, h => by simp [dLook] at h
  | _ :: _, [], _, _, _, h, _, _, _ => by simp at h
  | p :: kvs, b :: bs, _, _, hi, hl, .cons q l, .cons r t, h => by
    by_cases e : p.1 = k
    · have e2 : PyData.eqv p.1 k = true := (eqv_itup _ _ (hi p List.mem_cons_self) hk).mpr e
      unfold dLook at h
      rw [List.find?_cons_of_pos (p := fun z : D × D => PyData.eqv z.1 k) e2] at h
      cases h
      refine ⟨_, _, ?_, q, r⟩
      simp [tabOf, pairsH, valueAt, e]
    · have e2 : ¬ PyData.eqv p.1 k = true := fun z => e ((eqv_itup _ _ (hi p List.mem_cons_self) hk).mp z)
      have e3 : nk p.1 ≠ nk k := fun z => e (nk_inj _ _ (hi p List.mem_cons_self) hk z)
      unfold dLook at h
      rw [List.find?_cons_of_neg (p := fun z : D × D => PyData.eqv z.1 k) e2] at h
      obtain ⟨x, v, h1, h2, h3⟩ := tab_look hk (fun z hz => hi z (List.mem_cons_of_mem _ hz)) (by simpa using hl) l t h
      refine ⟨x, v, ?_, h2, h3⟩
      simpa [tabOf, pairsH, valueAt, e3] using h1
section
variable {X : Cx} {a b e : Expr} {es : List Expr} {pos p : Pos} {ta tb : ET} {ts : AT}
def rIxDict (K : PySem.W.Frag) : R2 := fun x y H Q => ∃ (O : Addr → Prop) (kvs : List (D × D)) (k d : D), Rep K O H x (.dict kvs) ∧ Rep K O H y k ∧ keyOk k = true ∧ dLook kvs k = some d ∧ ∀ v, Rep K O H v d → Q v H
theorem ix_dict (hu : X.A.units + 65 < cLine) : IxR X (rIxDict X.K) := by
  intro value slice pins s σ H x y v u Q I rx ry h hs
  obtain ⟨O, kvs, k, d, hx, hy, hk, hl, q⟩ := h
  obtain ⟨a, es, ep, ks, vs, rfl, _, ha, _, ok, r1, r2⟩ := hx.dict_in
  cases rx
  obtain ⟨b, rfl, his⟩ := key_is I hk hy
  cases ry
  obtain ⟨bs, xs, rfl, h1, h2, h3, h4, hD⟩ := dict_at I ha ok r1 r2
  obtain ⟨x, w, e1, e2, e3⟩ := tab_look (keyOk_out hk).2.1 (fun p hp => (keyOk_out (ok.keys p hp)).2.1) h1 h2 r2 hl
  have hm : s.heap.DictKeyed (nestedKind X.prog X.w) a (pairsH (tabOf kvs bs xs)) := ⟨_, hD, rfl⟩
  refine subscriptTail_builtinR (x := x) hm.typeIs PySem.F.slot_dict_getitem.lookup (getItem_keyed (by show X.A.units + 1 + 8 < cLine; omega) his hm e1 ⟨rfl, ?_⟩) hs
  exact ⟨w, H, I.tok _, e2, q w e3⟩
def oIxD : OpD
  | .dict kvs, k, Q => keyOk k = true ∧ onS (dLook kvs k) Q
  | x, k, Q => oIx x k Q
theorem de_ixD (hu : X.A.units + 65 < cLine) (ha : DE X a ta) (hb : DE X b tb) (hs : PlainIx b := by exact fun _ _ => rfl) : DE X (.Subscript a b pos) (dOp oIxD ta tb) := .of (pe_ix (IxR.or ix_seq (ix_dict hu)) ha.pe hb.pe hs) fun σ H c O η E Q g h => by
  refine bin_lift (r := oIxD) ?_ g h fun d v H' s r q => ⟨d, s, r, q⟩
  intro G O H x y dx dy Q R B rx ry h k
  cases rx with
  | dct o1 h1 sm ok r1 r2 =>
    obtain ⟨hk, h⟩ := h
    obtain ⟨d, hd, h⟩ := onS_out h
    exact .inr ⟨O, _, _, d, .dct o1 h1 sm ok r1 r2, ry, hk, hd, fun v rv => way_here B k rv h⟩
  | lst o1 h1 r1 =>
    cases ry with
    | int i =>
      obtain ⟨d, hd, h⟩ := onS_out (show onS (atI _ i) Q from h)
      obtain ⟨z, hz, rz⟩ := r1.atI hd
      exact .inl (.inl ⟨_, _, i, z, rfl, rfl, .of h1, hz, way_here B k rz h⟩)
    | _ => exact (show False from h).elim
  | tup h1 r1 =>
    cases ry with
    | int i =>
      obtain ⟨d, hd, h⟩ := onS_out (show onS (atI _ i) Q from h)
      obtain ⟨z, hz, rz⟩ := r1.atI hd
      exact .inl (.inr (.inl ⟨_, _, i, z, rfl, rfl, h1.sq, hz, way_here B k rz h⟩))
    | _ => exact (show False from h).elim
  | str x =>
    cases ry with
    | int i =>
      obtain ⟨hl, h⟩ := (show x.length ≤ sizeLine ∧ onS (atI x.cps.toList i) (fun n => Q (.str ⟨#[n]⟩)) from h)
      obtain ⟨n, hn, h⟩ := onS_out h
      exact .inl (.inr (.inr ⟨x, i, n, rfl, rfl, hl, hn, way_here B k (.str _) h⟩))
    | _ => exact (show False from h).elim
  | _ => cases ry <;> exact (show False from h).elim
end
end DL

/-! DL24: dict(pairs), list(d). -/
namespace DL
open PySem PySem.Spec PyProof.Rows L2
theorem stored_nodup {K : Type} [DecidableEq K] : ∀ {ps acc : List (K × Addr × Value)}, ((acc ++ ps).map (·.1)).Nodup → storedAllH acc ps = acc ++ ps
  | [], acc, _ => by simp [storedAllH]
  | p :: ps, acc, h => by
    have hn : atKey acc p.1 = none := by
      refine atKey_none_of_get fun j q e => ?_
      rw [List.map_append, List.nodup_append] at h
      exact h.2.2 p.1 (List.mem_map.mpr ⟨(p.1, q), List.mem_of_getElem? e, rfl⟩) p.1 (by simp) rfl
    have e : storedAllH acc (p :: ps) = storedAllH (storedH acc p.1 p.2.1 p.2.2) ps := rfl
    rw [e, storedH_new hn, stored_nodup (by simpa using h)]
    simp
def pairD (p : D × D) : D := .tuple [p.1, p.2]
/-- what dict(..) asks of its pairs -/
structure KvOk (kvs : List (D × D)) : Prop where
  keys : ∀ p ∈ kvs, keyOk p.1 = true
  nd : (kvs.map (·.1)).Nodup
section
variable {X : Cx} {pins : List (Addr × Obj)} {σ : L2.St} {H : Hp} {s : Shared} {O : Addr → Prop}
theorem pairs_at (I : Inv X pins σ H s) : ∀ {kvs : List (D × D)} {xs : List V}, RepAll X.K O H xs (kvs.map pairD) → ∃ (Tl : List Addr) (ks vs : List V) (us ws : List Value), xs = Tl.map V.ref ∧ Tl.length = kvs.length ∧ RepAll X.K O H ks (kvs.map (·.1)) ∧ RepAll X.K O H vs (kvs.map (·.2)) ∧ Vals ks us ∧ Vals vs ws ∧
    ∀ j k v, (us.zip ws)[j]? = some (k, v) → PairAt s.heap (Tl.getD j 0) k v
  | [], _, .nil => ⟨[], [], [], [], [], rfl, rfl, .nil, .nil, .nil, .nil, fun j k v e => by simp at e⟩
  | p :: kvs, _, .cons r t => by
    obtain ⟨Tl, ks, vs, us, ws, e1, e2, e3, e4, e5, e6, e7⟩ := pairs_at I t
    have r : Rep X.K O H _ (.tuple [p.1, p.2]) := r
    cases r with
    | @tup a xs ds ht ra =>
      cases ra with
      | cons r1 ra =>
        cases ra with
        | cons r2 ra =>
          cases ra
          obtain ⟨its, rv, ⟨o, ho, hc, n, hd⟩, _⟩ := I.tuple ht.sq
          cases rv with
          | cons q1 rv =>
            cases rv with
            | cons q2 rv =>
              cases rv
              refine ⟨a :: Tl, _ :: ks, _ :: vs, _ :: us, _ :: ws, by rw [e1]; rfl, by rw [List.length_cons, List.length_cons, e2], .cons r1 e3, .cons r2 e4, .cons q1 e5, .cons q2 e6, fun j k v e => ?_⟩
              cases j with
              | zero =>
                simp only [List.zip_cons_cons, List.getElem?_cons_zero, Option.some.injEq, Prod.mk.injEq] at e
                obtain ⟨rfl, rfl⟩ := e
                exact .inl ⟨o, ho, hc, n, hd⟩
              | succ j => exact e7 j k v (by simpa using e)
theorem tab_get : ∀ {kvs : List (D × D)} {bs : List Addr} {ws : List Value} {i : Nat} {k v : Value}, kvs.length = bs.length → ((bs.map Value.ref).zip ws)[i]? = some (k, v) → ∃ kk b, (tabOf kvs bs ws)[i]? = some (kk, b, v) ∧ k = .ref b
  | _, [], _, _, _, _, _, h => by simp at h
  | _, _ :: _, [], _, _, _, _, h => by simp at h
  | [], _ :: _, _ :: _, _, _, _, h, _ => by simp at h
  | p :: kvs, b :: bs, w :: ws, 0, k, v, _, h => by
    simp at h
    obtain ⟨rfl, rfl⟩ := h
    exact ⟨_, b, rfl, rfl⟩
  | p :: kvs, b :: bs, w :: ws, i + 1, k, v, hl, h => by
    obtain ⟨kk, b', h1, h2⟩ := tab_get (kvs := kvs) (bs := bs) (ws := ws) (i := i) (by simpa using hl) (by simpa using h)
    exact ⟨kk, b', by simpa [tabOf] using h1, h2⟩
theorem tab_len : ∀ {kvs : List (D × D)} {bs : List Addr} {ws : List Value}, kvs.length = bs.length → kvs.length = ws.length → (tabOf kvs bs ws).length = kvs.length
  | [], _, _, _, _ => by simp [tabOf]
  | _ :: _, [], _, h, _ => by simp at h
  | _ :: _, _ :: _, [], _, h => by simp at h
  | p :: kvs, b :: bs, x :: xs, h1, h2 => by
    simp only [tabOf, List.length_cons]
    rw [tab_len (by simpa using h1) (by simpa using h2)]
theorem dictO_ok {P : Program} {w : World} {H : Hp} {h : Heap} {a : Addr} {es : Array DictEntry} {ep : Nat} (x : ∃ o, h.get? a = some o ∧ o.ExactDict ∧ o.data = .dict es ep) : ObjOk P w H h a (dictO a es ep) := by
  obtain ⟨o, h1, h2, h3⟩ := x
  exact ⟨⟨o, h1, h2, h3⟩, ⟨o, h1⟩, fun _ _ ⟨o, e1, e2, e3⟩ st => ⟨o, st o e1, e2, e3⟩⟩
end
section
variable {X : Cx} {e : Expr} {pos p : Pos} {ts : AT}
def rDictP (K : PySem.W.Frag) : List V → Hp → VK → Prop := fun vs H Q => ∃ (a : Addr) (xs : List V) (kvs : List (D × D)) (O : Addr → Prop), vs = [.ref a] ∧ H a = some (.lst xs) ∧ RepAll K O H xs (kvs.map pairD) ∧ KvOk kvs ∧
  ∀ p es ep ks vs, H p = none → (p == sysModules) = false → DictOk es ks vs kvs → RepAll K O H ks (kvs.map (·.1)) → RepAll K O H vs (kvs.map (·.2)) → Q (.ref p) (upd H p (dictO p es ep))
theorem cr_dictP (hc : X.calm = true) (hu : X.A.units + 65 < cLine) : CallR X (.type "dict") (rDictP X.K) := by
  intro pins s σ H vs us Q I r h
  obtain ⟨a, xs, kvs, O, rfl, ha, rx, ok, q⟩ := h
  rw [Vals.ref1 r]
  obtain ⟨its, rv, pl, hz⟩ := I.list (.of ha)
  obtain ⟨Tl, ks, vs, us, ws, e1, e2, rk, rvv, vk, vv, pa⟩ := pairs_at I rx
  subst e1
  have ei := vals_refs rv
  subst ei
  obtain ⟨bs, rfl, hl⟩ := refs_of_keys ok.keys rk
  have eu := vals_refs vk
  subst eu
  rw [List.length_map] at hz
  have lw : ws.length = kvs.length := by
    have a1 := vv.length
    have a2 := rvv.length
    rw [List.length_map] at a2
    omega
  have lz : ((bs.map Value.ref).zip ws).length = kvs.length := by rw [List.length_zip, List.length_map, hl, lw]; simp
  have nk' : ((tabOf kvs bs ws).map (·.1)).Nodup := by rw [tab_keys hl.symm lw.symm]; exact nodup_nk ok.keys ok.nd
  have st := @nestedKind_stays X.prog X.w
  obtain ⟨ol, nl, hol, hcl, hdl, hdat⟩ := pl
  refine call_dict_pairsH (knd := nestedKind X.prog X.w) (ps := tabOf kvs bs ws) (PairArg.list a _ (fun j => Tl.getD j 0) ((bs.map Value.ref).zip ws)) (I.ok.hd hc) (by show X.A.units + 1 + 1 + 8 < cLine; omega) ⟨⟨ol, nl, hol, hcl, hdl, hdat⟩, ?_, fun j k v e => ⟨?_, pa j k v e⟩⟩ ⟨?_, fun i k v e => tab_get hl.symm e⟩ ?_ (by omega) fun h' tk hd' hk => ?_
  · simp [lz, e2]
  · have hj : j < Tl.length := by
      have := (List.getElem?_eq_some_iff.mp e).1
      omega
    simp [List.getD, hj]
  · rw [lz, tab_len hl.symm lw.symm]
  · intro h' hk x hx
    exact st.stays (fun b o vs n e _ => hk b o (Nat.ne_of_lt (Heap.lt_size e)) (by simp) e) (tab_is I ok.keys rk x hx)
  · rw [stored_nodup (by simpa using nk')] at hd'
    obtain ⟨o, es, ep, h1, h2, h3, h4, _, _⟩ := hd'
    rw [List.nil_append, tab_ents _ _ fun p hp => (keyOk_out (ok.keys p hp)).2.1] at h4
    have hm : (s.heap.objs.size == sysModules) = false := beq_eq_false_iff_ne.mpr (Nat.ne_of_gt I.big)
    exact ⟨.ref s.heap.objs.size, upd H s.heap.objs.size (dictO s.heap.objs.size es ep), I.laid (t' := tk) (fun b o e => hk b o (by simp) e) (Nat.le_refl _) (dictO_ok ⟨o, h1, h2, h3⟩), rfl,
      q _ es ep _ vs (I.hok.fresh (Nat.le_refl _)) hm ⟨⟨_, ws, vk, vv, h4⟩, ok.keys, ok.nd, by omega⟩ rk rvv⟩
def fDictP : CallD
  | [.list ps], Q => ∃ kvs, ps = kvs.map pairD ∧ KvOk kvs ∧ Q (.dict kvs)
  | _, _ => False
theorem de_dictP (hc : X.calm = true) (hu : X.A.units + 65 < cLine) (hg : Gl X "dict") (hm : X.mg "dict" = none) (ha : DA X [e] ts) (he : starEach [e] X.env = (false, eval e X.env) :: starEach [] X.env := by rfl) : DE X (.Call (.Name "dict" p) [e] [] pos) (dCall fDictP ts) := by
  refine de_callTy (cr_dictP hc hu) ?_ hg hm (by decide +kernel) ha (he := he)
  intro G O H xs ds Q R B r h k
  match ds, h with
  | [.list ps], ⟨kvs, e, ok, q⟩ =>
    subst e
    cases r with
    | cons r1 r2 =>
      cases r2
      cases r1 with
      | lst o h0 rr => exact ⟨_, _, kvs, O, rfl, h0, rr, ok, fun p es ep ks vs hp sm dk rk rv => k _ _ _ (.alloc B.draw hp) (.dct (B.not hp) upd_same sm dk (rk.same (same_upd hp)) (rv.same (same_upd hp))) q⟩
/-! list(d) -/
def rListD (K : PySem.W.Frag) : List V → Hp → VK → Prop := fun vs H Q => ∃ (O : Addr → Prop) (v : V) (kvs : List (D × D)), vs = [v] ∧ Rep K O H v (.dict kvs) ∧ ∀ p ks, H p = none → RepAll K O H ks (kvs.map (·.1)) → Q (.ref p) (upd H p (.lst ks))
theorem ents_get : ∀ {kvs : List (D × D)} {us ws : List Value} {i : Nat} {en : DictEntry}, (entsOf kvs us ws)[i]? = some en → us[i]? = some en.key
  | [], _, _, _, _, h => by simp [entsOf] at h
  | _ :: _, [], _, _, _, h => by simp [entsOf] at h
  | _ :: _, _ :: _, [], _, _, h => by simp [entsOf] at h
  | p :: kvs, u :: us, w :: ws, 0, en, h => by simp [entsOf] at h; subst h; rfl
  | p :: kvs, u :: us, w :: ws, i + 1, en, h => by simpa using ents_get (kvs := kvs) (us := us) (ws := ws) (i := i) (by simpa [entsOf] using h)
theorem ents_len : ∀ {kvs : List (D × D)} {us ws : List Value}, us.length = kvs.length → ws.length = kvs.length → (entsOf kvs us ws).length = kvs.length
  | [], _, _, _, _ => by simp [entsOf]
  | _ :: _, [], _, h, _ => by simp at h
  | _ :: _, _ :: _, [], _, h => by simp at h
  | p :: kvs, u :: us, w :: ws, h1, h2 => by
    simp only [entsOf, List.length_cons]
    rw [ents_len (by simpa using h1) (by simpa using h2)]
theorem cr_listD (hc : X.calm = true) : CallR X (.type "list") (rListD X.K) := by
  intro pins s σ H vs us Q I r h
  obtain ⟨O, v, kvs, rfl, hr, q⟩ := h
  obtain ⟨a, es, ep, ks, vs, rfl, _, ha, sm, ok, rk, rv⟩ := hr.dict_in
  rw [Vals.ref1 r]
  obtain ⟨bs, xs, rfl, h1, h2, h3, h4, _⟩ := dict_at I ha ok rk rv
  obtain ⟨⟨o, g1, g2, g3⟩, _⟩ := I.hok a _ ha
  have el : es.size = kvs.length := by
    rw [← Array.length_toList, h4, ents_len (by rw [List.length_map, h1]) h3]
  refine PySem.W.kdl_call (KdlSrc.rawDict (es := es) (ep := ep) sm) (I.ok.hd hc) ⟨o, g1, g2, g3⟩ (by have := ok.few; omega) fun h' tk acc c' hk hn hi => ?_
  have ea : acc.toList = bs.map Value.ref := by
    refine List.ext_getElem? fun i => ?_
    rw [Array.getElem?_toList]
    by_cases hi2 : i < es.size
    · have hia : i < acc.size := by rw [hi.1]; exact hi2
      obtain ⟨hz, e⟩ := hi.2 i acc[i] (Array.getElem?_eq_getElem hia)
      have := ents_get (kvs := kvs) (us := bs.map Value.ref) (ws := xs) (i := i) (en := es[i]) (by rw [← h4, Array.getElem?_toList]; exact Array.getElem?_eq_getElem hi2)
      rw [this, Array.getElem?_eq_getElem hia, e]
    · rw [Array.getElem?_eq_none (by rw [hi.1]; omega), List.getElem?_eq_none (by rw [List.length_map, h1]; omega)]
  have va : Vals (bs.map V.ref) acc.toList := by
    obtain ⟨us, _, e1, _, _⟩ := ok.ents
    have := vals_refs e1
    rw [ea, ← this]
    exact e1
  refine ⟨.ref s.heap.objs.size, upd H s.heap.objs.size (.lst (bs.map V.ref)), I.laid (t' := tk) hk (Nat.le_refl _) (show ObjOk X.prog X.w _ _ _ (.lst (bs.map V.ref)) from ⟨by have := ok.few; rw [List.length_map]; omega, acc.toList, c', va, ?_⟩), rfl, q _ _ (I.hok.fresh (Nat.le_refl _)) rk⟩
  rw [Array.toArray_toList]
  exact hn
theorem callR_or {f : Value} {T T' : List V → Hp → VK → Prop} (h : CallR X f T) (h' : CallR X f T') : CallR X f fun vs H Q => T vs H Q ∨ T' vs H Q := fun pins s σ H vs us Q I r q => q.elim (h pins s σ H vs us Q I r) (h' pins s σ H vs us Q I r)
def fListD : List D → (List D → Prop) → Prop
  | [.dict kvs], Q => Q (kvs.map (·.1))
  | ds, Q => fList ds Q
theorem dn_listD (hc : X.calm = true) (hg : Gl X "list") (hm : X.mg "list" = none) (ha : DA X [e] ts) (he : starEach [e] X.env = (false, eval e X.env) :: starEach [] X.env := by rfl) : DN X (.Call (.Name "list" p) [e] [] pos) (nCall fListD ts) := by
  refine dn_callTy (callR_or call_list_of (cr_listD hc)) ?_ hg hm boot_list ha (he := he)
  intro G O H xs ds Q R B r h k
  match ds, h with
  | [.list zs], h =>
    cases r with
    | cons r1 r2 =>
      cases r2
      cases r1 with
      | lst o h0 rr => exact .inl ⟨_, _, rfl, .inl (.of h0), k _ _ rr h⟩
  | [.tuple zs], h =>
    cases r with
    | cons r1 r2 =>
      cases r2
      cases r1 with
      | tup h0 rr => exact .inl ⟨_, _, rfl, .inr h0.sq, k _ _ rr h⟩
  | [.dict kvs], h =>
    cases r with
    | cons r1 r2 =>
      cases r2
      exact .inr ⟨O, _, kvs, rfl, r1, fun p ks hp rk => k _ _ rk h p hp⟩
end
end DL

/-! DLset4: sorted(set(xs)), xs a tuple of ints. -/
namespace DL
open PySem PySem.Spec PyProof.Rows L2
def nSortSetI (t : ET) : NT := fun E η Q => t E η fun d => match d with
  | .tuple xs => xs.length < 64 ∧ xs.all isI = true ∧ ∀ ns : List Int, ns.Pairwise (· < ·) → (∀ i, i ∈ ns ↔ i ∈ xs.map iOf) → Q (ns.map .int)
  | _ => False
def tSortSetI (K : PySem.W.Frag) (ta : TE) : TE := fun σ H Q => ta σ H fun x H1 => ∃ (l : Addr) (ns : List Int), x = V.ref l ∧ SqT K H1 l (ns.map V.int) ∧ ns.length < 64 ∧
  ∀ (p : Addr) (ns' : List Int), H1 p = none → ns'.Pairwise (· < ·) → (∀ i, i ∈ ns' ↔ i ∈ ns) → ns'.length ≤ ns.length → Q (.ref p) (upd H1 p (.lst (ns'.map V.int)))
theorem rep_ints {K : PySem.W.Frag} {O : Addr → Prop} {H : Hp} : ∀ ns : List Int, RepAll K O H (ns.map V.int) (ns.map PyData.int)
  | [] => .nil
  | n :: ns => .cons (.int n) (rep_ints ns)
section
variable {X : Cx} {e : Expr} {t : ET} {p p2 q2 pos : Pos}
theorem pe_sortSetI {ta : TE} (hc : X.calm = true) (hg : Gl X "sorted") (hm : X.mg "sorted" = none) (hg2 : Gl X "set") (hm2 : X.mg "set" = none) (ha : PE X e ta) (na : starEach [e] X.env = (false, eval e X.env) :: starEach [] X.env)
    (nb : starEach [.Call (.Name "set" p2) [e] [] q2] X.env = (false, eval (.Call (.Name "set" p2) [e] [] q2) X.env) :: starEach [] X.env) : PE X (.Call (.Name "sorted" p) [.Call (.Name "set" p2) [e] [] q2] [] pos) (tSortSetI X.K ta) := by
  refine ⟨fun pins s σ H Q I h => ?_⟩
  refine Call_ (ld_blt I hg hm (show bootBuiltins "sorted" = some (.builtin "sorted") by decide +kernel) ?_)
  refine PyProof.Rows.callWith_builtin1 (PyProof.Rows.args_cons ?_ nb) nb rfl
  refine Call_ (ld_blt I hg2 hm2 PyProof.Rows.boot_set ?_)
  refine PyProof.Rows.callWith_type1 (PyProof.Rows.args_cons (thn (ha.run pins s σ H _ I h) fun v s1 ⟨x, H1, I1, r1, q1⟩ => PyProof.Rows.args_nil ?_) na) na rfl
  obtain ⟨l, ns, rfl, hl, few, q1⟩ := q1
  cases r1
  obtain ⟨its, rv, hT, hz⟩ := I1.tuple hl
  refine call_set_tupI (P := X.prog) (w := X.w) ns (I1.ok.hd hc) hT (by simpa using rv.ints) (by unfold scanBound; omega) fun h' tk c R hc2 k => PyProof.Rows.args_nil ?_
  have I2 : Inv X pins σ H1 { s1 with heap := h', toks := tk } := I1.kept k
  refine sorted_set (s := { s1 with heap := h', toks := tk }) R (I1.ok.hd hc) (by omega) fun s' b out c3 ns' k2 g2 o2 hb hout hi pw hm4 hl4 => ?_
  have hn : H1 b = none := I2.hok.fresh hb
  have hlen : (ns'.map V.int).length ≤ sizeLine := by
    rw [List.length_map, hl4, sizeLine_eq]
    omega
  have J : Inv X pins σ (upd H1 b (.lst (ns'.map V.int))) { ({ s1 with heap := h', toks := tk } : Shared) with heap := s'.heap, gens := s'.gens, drawn := s'.drawn, toks := s'.toks } :=
    I2.call (ch := []) (Un.laid k2 hb hn) (I2.hok.laid k2 hb ⟨hlen, out.toList, c3, vals_of_ints hi, by simpa using hout⟩) (by rw [g2]; exact I2.bare) (fun _ z => nomatch z)
  have e9 : s' = { ({ s1 with heap := h', toks := tk } : Shared) with heap := s'.heap, gens := s'.gens, drawn := s'.drawn, toks := s'.toks } := by
    cases s'
    cases s1
    cases o2
    rfl
  rw [e9]
  exact ⟨.ref b, _, J, rfl, q1 b ns' hn pw (fun i => by rw [hm4]; simp) (by omega)⟩
theorem dn_sortSetI (hc : X.calm = true) (hg : Gl X "sorted") (hm : X.mg "sorted" = none) (hg2 : Gl X "set") (hm2 : X.mg "set" = none) (h : DE X e t) (na : starEach [e] X.env = (false, eval e X.env) :: starEach [] X.env := by rfl)
    (nb : starEach [.Call (.Name "set" p2) [e] [] q2] X.env = (false, eval (.Call (.Name "set" p2) [e] [] q2) X.env) :: starEach [] X.env := by rfl) :
    DN X (.Call (.Name "sorted" p) [.Call (.Name "set" p2) [e] [] q2] [] pos) (nSortSetI t) := by
  refine .of (pe_sortSetI hc hg hm hg2 hm2 h.pe na nb) fun σ H c O η E Q R g ht k => ?_
  refine ⟨c, O, η, E, _, g, ht, fun d v H1 s1 r1 q => ?_⟩
  cases r1 with
  | @tup a xs ds h0 rr =>
    obtain ⟨few, hi, q⟩ := q
    have ex := ints_of' rr hi
    subst ex
    refine ⟨a, ds.map iOf, rfl, h0.sq, by rwa [List.length_map], fun b ns hn hp hm hl => ?_⟩
    exact newk g s1 (rep_ints ns) (q ns hp hm) k b hn
  | _ => exact q.elim
end
end DL

/-! DLmin: min of a list of data, sum of lists. -/
namespace DL
open PySem PySem.Spec PyProof.Rows L2
def CmpOn (h0 : Heap) (prog : Program) (w : World) (A : Around) (op : CmpOp) (P : Nat → Value → Prop) (bt : Nat → Nat → Bool) : Prop :=
  ∀ i j vi vj (s : Shared) (Q : Value → Shared → Prop) (E : Value → Shared → Prop), (∀ c o, h0.get? c = some o → s.heap.get? c = some o) → P i vi → P j vj → Q (.bool (bt i j)) s → wpAny (model prog w) A (richCompare op vi vj) Q E s
section
variable {prog : Program} {w : World} {A : Around} {R : Result → Shared → Prop} {I : Addr} {fp wr : List Addr} {n : Nat} {P : Nat → Value → Prop} {St : Nat → Heap → Prop} {h0 : Heap}
theorem min_loopH (W : Walks prog w A.in1 I fp wr n P St) (bt : Nat → Nat → Bool) (hcmp : CmpOn h0 prog w A.in1 .Lt P bt) (S : Addr) (hSf : S ∉ fp) (S0 : h0.get? S = none) (w0 : ∀ c ∈ wr, h0.get? c = none) :
    ∀ (k j : Nat) (s : Shared) (vb : Value) (c : Nat), n - (j + 1) = k → j + 1 ≤ n → St (j + 1) s.heap → (∀ c o, h0.get? c = some o → s.heap.get? c = some o) → P (argBest bt j) vb →
    s.heap.get? S = some { cls := .type "list", dict := none, data := .seq #[vb, vb] c, slots := #[] } →
    (∀ v h' tk, P (argBest bt (n - 1)) v → (∀ b o, b ∉ wr → b ≠ S → s.heap.get? b = some o → h'.get? b = some o) → R (.ok (.ret v)) { s with heap := h', toks := tk }) →
    codeAny (model prog w) A (.builtin "min.loop" ⟨[.ref I, .none, .ref S], []⟩) R s := by
  have hSw : S ∉ wr := fun h => hSf (W.sub _ h)
  have hname : (toString "min" ++ toString ".loop" : String) = "min.loop" := by decide
  intro k
  induction k with
  | zero =>
    intro j s vb c hk hj hst K0 hPb hS hR
    have hin : j + 1 = n := by omega
    refine codeAny_builtin PySem.F.entry_min_loop ?_
    rw [Around.under_plainId PySem.F.plain_min_loop _]
    show wpAny _ A.in1 (seqItems? (.ref S) >>= _) _ _ s
    refine wpAny_bind (wpAny_seqItems hS rfl ?_)
    show wpAny _ A.in1 (tryCatch (pyNext (.ref I)) _ >>= _) _ _ s
    refine wpAny_bind (wpAny_tryCatch (W.done s _ _ (hin ▸ hst) fun h' tk hk' => ?_))
    have hS' := hk' S _ hSw hS
    show wpAny _ A.in1 (updateSeq S (fun _ => #[]) >>= _) _ _ _
    refine wpAny_bind ?_
    refine wpAny_updateSeq hS' rfl (wpAny_bind (wpAny_letGo (wpAny_pure ?_)))
    refine hR vb _ tk (by rw [← hin]; exact hPb) fun b o hbw hbS e => (Heap.get?_update_other _ _ (Ne.symm hbS)).trans (hk' b o hbw e)
  | succ k ih =>
    intro j s vb c hk hj hst K0 hPb hS hR
    have hlt : j + 1 < n := by omega
    refine codeAny_builtin PySem.F.entry_min_loop ?_
    rw [Around.under_plainId PySem.F.plain_min_loop _]
    show wpAny _ A.in1 (seqItems? (.ref S) >>= _) _ _ s
    refine wpAny_bind (wpAny_seqItems hS rfl ?_)
    show wpAny _ A.in1 (tryCatch (pyNext (.ref I)) _ >>= _) _ _ s
    refine wpAny_bind (wpAny_tryCatch (W.item (j + 1) s _ _ hlt hst fun v h' tk hP hst' hk' => ?_))
    have hS' := hk' S _ hSw hS
    have K1 : ∀ c o, h0.get? c = some o → h'.get? c = some o := fun c o e => hk' c o (fun z => by rw [w0 c z] at e; cases e) (K0 c o e)
    have neS : ∀ c o, h0.get? c = some o → S ≠ c := fun c o e z => by rw [← z, S0] at e; cases e
    show wpAny _ A.in1 (tryCatch (holding [v, v] (richCompare .Lt v vb >>= _)) _ >>= _) _ _ _
    refine wpAny_bind (wpAny_tryCatch (wpAny_holding (wpAny_bind (hcmp (j + 1) (argBest bt j) v vb _ _ _ K1 hP hPb ?_))))
    refine wpAny_bind (wpAny_holding (wpAny_truthy_bool ?_))
    refine wpAny_bind (wpAny_letGo (wpAny_pure ?_))
    cases hb : bt (j + 1) (argBest bt j) with
    | true =>
      simp only [if_true]
      refine wpAny_bind ?_
      refine wpAny_updateSeq hS' rfl (wpAny_bind (wpAny_letGo ?_))
      rw [hname]
      refine wpAny_pure ⟨plainId_quiet PySem.F.plain_min_loop _, ih (j + 1) _ v _ (by omega) hlt (W.frame _ _ _ hst' fun b hbf o e => ?_) (fun c o e => (Heap.get?_update_other _ _ (neS c o e)).trans (K1 c o e)) (by simp only [argBest, hb, if_true]; exact hP) (Heap.get?_update_self _ hS' rfl)
        fun v' h'' tk'' hP' hk'' => ?_⟩
      · exact (Heap.get?_update_other _ _ (fun h : S = b => hSf (by rw [h]; exact hbf))).trans e
      · exact hR v' h'' tk'' hP' fun b o hbw hbS e => hk'' b o hbw hbS ((Heap.get?_update_other _ _ (Ne.symm hbS)).trans (hk' b o hbw e))
    | false =>
      simp only [Bool.false_eq_true, if_false]
      refine wpAny_bind (wpAny_letGo ?_)
      rw [hname]
      refine wpAny_pure ⟨plainId_quiet PySem.F.plain_min_loop _, ih (j + 1) _ vb c (by omega) hlt hst' K1 (by simp only [argBest, hb, Bool.false_eq_true, if_false]; exact hPb) hS' fun v' h'' tk'' hP' hk'' => ?_⟩
      exact hR v' h'' tk'' hP' fun b o hbw hbS e => hk'' b o hbw hbS (hk' b o hbw e)
end
section
variable {prog : Program} {w : World} {A : Around} {E : Value → Shared → Prop} {s : Shared} {l : Addr} {its : List Value}
theorem min_data {Q : Value → Shared → Prop} (bt : Nat → Nat → Bool) (hh : A.handled = none) (hl : s.heap.IsList l its.toArray) (hne : 0 < its.length) (hcmp : CmpOn s.heap prog w A.in1 .Lt (fun i v => its[i]? = some v) bt)
    (h : ∀ v h' tk, its[argBest bt (its.length - 1)]? = some v → (∀ b o, s.heap.get? b = some o → h'.get? b = some o) → Q v { s with heap := h', toks := tk }) : wpAny (model prog w) A (call (.builtin "min") [.ref l]) Q E s := by
  have hname : (toString "min" ++ toString ".loop" : String) = "min.loop" := by decide
  have hlt : l < s.heap.objs.size := by obtain ⟨_, e, _⟩ := hl; exact Heap.lt_size e
  have none_of : ∀ c, s.heap.objs.size ≤ c → s.heap.get? c = none := fun c hc => by
    cases e : s.heap.get? c with
    | none => rfl
    | some o => exact absurd (Nat.lt_of_lt_of_le (Heap.lt_size e) hc) (Nat.lt_irrefl _)
  refine call_function_tree PySem.F.kind_min PySem.F.plain_min PySem.F.entry_min (PySem.F.args_min1 _) ?_
  show wpAny _ A.in1 (Builtin.Builtins.bindParams "min" ["key", "default"] 0 ⟨[], []⟩ >>= _) _ _ s
  refine wpAny_bind (wpAny_of_eq (show Builtin.Builtins.bindParams "min" ["key", "default"] 0 ⟨[], []⟩ = pure [none, none] from rfl) ?_)
  refine wpAny_bind (wpAny_pure ?_)
  refine wpAny_bind (wpAny_pyIter_list hl ?_)
  refine wpAny_bind (wpAny_newObj_type ?_)
  rw [hname]
  have psz : (s.heap.push { cls := .type "list_iterator", data := .fields #[.ref l, .int 0 0] }).objs.size = s.heap.objs.size + 1 := Heap.size_push ..
  have hlI : l ≠ s.heap.objs.size := Nat.ne_of_lt hlt
  have W := Walks.list (prog := prog) (w := w) (A := A.in1) hh s.heap.objs.size l hlI its.toArray
  generalize hS : (s.heap.push { cls := .type "list_iterator", data := .fields #[.ref l, .int 0 0] }).objs.size = S at *
  subst psz
  have hSf : s.heap.objs.size + 1 ∉ [s.heap.objs.size, l] := by
    simp only [List.mem_cons, List.not_mem_nil, or_false, not_or]
    exact ⟨Nat.ne_of_gt (Nat.lt_succ_self _), Nat.ne_of_gt (Nat.lt_succ_of_lt hlt)⟩
  have w0 : ∀ c ∈ [s.heap.objs.size], s.heap.get? c = none := fun c hc => none_of c (by rw [List.mem_singleton.mp hc]; exact Nat.le_refl _)
  have S0 := none_of (s.heap.objs.size + 1) (Nat.le_succ _)
  have kk : ∀ c o, s.heap.get? c = some o → ((s.heap.push { cls := .type "list_iterator", data := .fields #[.ref l, .int 0 0] }).push { cls := .type "list", data := .seq #[] }).get? c = some o := fun c o e => Heap.get?_push_of_some _ (Heap.get?_push_of_some _ e)
  have hSS : ((s.heap.push { cls := .type "list_iterator", data := .fields #[.ref l, .int 0 0] }).push { cls := .type "list", data := .seq #[] }).get? (s.heap.objs.size + 1) = some { cls := .type "list", dict := none, data := .seq #[] 0, slots := #[] } := by
    have := Heap.get?_push_size (s.heap.push { cls := .type "list_iterator", data := .fields #[.ref l, .int 0 0] }) (o := { cls := .type "list", data := .seq #[] }) rfl
    rwa [hS] at this
  have hIt : ((s.heap.push { cls := .type "list_iterator", data := .fields #[.ref l, .int 0 0] }).push { cls := .type "list", data := .seq #[] }).IsListIter s.heap.objs.size l 0 := ⟨_, Heap.get?_push_of_some _ (Heap.get?_push_size _ rfl), rfl, rfl⟩
  have hLl : ((s.heap.push { cls := .type "list_iterator", data := .fields #[.ref l, .int 0 0] }).push { cls := .type "list", data := .seq #[] }).IsList l its.toArray := (hl.push _).push _
  generalize (s.heap.push { cls := .type "list_iterator", data := .fields #[.ref l, .int 0 0] }).push { cls := .type "list", data := .seq #[] } = h1 at *
  refine wpAny_pure ⟨plainId_quiet PySem.F.plain_min_loop _, ?_⟩
  refine codeAny_builtin PySem.F.entry_min_loop ?_
  rw [Around.under_plainId PySem.F.plain_min_loop _]
  show wpAny _ A.in1 (seqItems? (.ref (s.heap.objs.size + 1)) >>= _) _ _ _
  refine wpAny_bind (wpAny_seqItems hSS rfl ?_)
  show wpAny _ A.in1 (tryCatch (pyNext (.ref s.heap.objs.size)) _ >>= _) _ _ _
  refine wpAny_bind (wpAny_tryCatch (W.item 0 _ _ _ (by simpa using hne) ⟨hIt, hLl⟩ fun v h' tk hP hst' hk' => ?_))
  have hS' := hk' (s.heap.objs.size + 1) _ (by simp) hSS
  show wpAny _ A.in1 (updateSeq (s.heap.objs.size + 1) (fun _ => #[v, v]) >>= _) _ _ _
  refine wpAny_bind ?_
  refine wpAny_updateSeq hS' rfl ?_
  rw [hname]
  have neS : ∀ c o, s.heap.get? c = some o → s.heap.objs.size + 1 ≠ c := fun c o e z => by rw [← z, S0] at e; cases e
  have K1 : ∀ c o, s.heap.get? c = some o → h'.get? c = some o := fun c o e => hk' c o (fun z => by rw [w0 c z] at e; cases e) (kk c o e)
  refine wpAny_pure ⟨plainId_quiet PySem.F.plain_min_loop _, min_loopH (h0 := s.heap) W bt (by simpa using hcmp) (s.heap.objs.size + 1) hSf S0 w0 _ 0 _ v _ rfl (by rw [List.size_toArray]; exact hne) (W.frame _ _ _ hst' fun b hbf o e => ?_) (fun c o e => (Heap.get?_update_other _ _ (neS c o e)).trans (K1 c o e)) hP (Heap.get?_update_self _ hS' rfl) fun v' h'' tk'' hP' hk'' => ?_⟩
  · exact (Heap.get?_update_other _ _ (fun h : s.heap.objs.size + 1 = b => hSf (by rw [h]; exact hbf))).trans e
  · refine h v' h'' tk'' (by simpa using hP') fun b o e => hk'' b o (fun z => by rw [w0 b z] at e; cases e) (Ne.symm (neS b o e)) ((Heap.get?_update_other _ _ (neS b o e)).trans (K1 b o e))
end
end DL
namespace DL
open PySem PySem.Spec PyProof.Rows L2
/-- the least of some data: the first of the least -/
def pickD (b d : D) : D := bif PySem.W.dataLt d b then d else b
def minD : List D → D
  | [] => .none
  | x :: xs => xs.foldl pickD x
def ltAt (ds : List D) (i j : Nat) : Bool := PySem.W.dataLt (ds.getD i .none) (ds.getD j .none)
theorem minD_at (ds : List D) : ∀ k, k < ds.length → ds[argBest (ltAt ds) k]? = some (minD (ds.take (k + 1))) ∧ argBest (ltAt ds) k ≤ k
  | 0, h => by
    cases ds with
    | nil => cases h
    | cons x xs => exact ⟨rfl, Nat.le_refl _⟩
  | k + 1, h => by
    obtain ⟨e, hb⟩ := minD_at ds k (by omega)
    have et : ds.take (k + 1 + 1) = ds.take (k + 1) ++ [ds[k + 1]] := take_next (List.getElem?_eq_getElem h)
    have em : minD (ds.take (k + 1 + 1)) = pickD (minD (ds.take (k + 1))) ds[k + 1] := by
      rw [et]
      cases e2 : ds.take (k + 1) with
      | nil =>
        have := congrArg List.length e2
        rw [List.length_take, List.length_nil] at this
        omega
      | cons y ys =>
        simp only [List.cons_append, minD, List.foldl_append, List.foldl_cons, List.foldl_nil]
    have e1 : ds.getD (k + 1) .none = ds[k + 1] := by rw [List.getD_eq_getElem?_getD, List.getElem?_eq_getElem h]; rfl
    have e2 : ds.getD (argBest (ltAt ds) k) .none = minD (ds.take (k + 1)) := by rw [List.getD_eq_getElem?_getD, e]; rfl
    have eb : ltAt ds (k + 1) (argBest (ltAt ds) k) = PySem.W.dataLt ds[k + 1] (minD (ds.take (k + 1))) := by
      show PySem.W.dataLt (ds.getD (k + 1) .none) (ds.getD (argBest (ltAt ds) k) .none) = _
      rw [e1, e2]
    rw [em, argBest, eb, pickD]
    cases PySem.W.dataLt ds[k + 1] (minD (ds.take (k + 1))) with
    | true => exact ⟨by simp [h], Nat.le_refl _⟩
    | false => exact ⟨by simpa using e, by simpa using Nat.le_succ_of_le hb⟩
def MinOk (ds : List D) : Prop := ds ≠ [] ∧ PySem.W.AllAlike ds ∧ ∀ d, d ∈ ds → d ≠ .none ∧ d.depth ≤ 60
def rMinD (K : PySem.W.Frag) : List V → Hp → VK → Prop := fun vs H Q => ∃ (a : Addr) (xs : List V) (ds : List D) (O : Addr → Prop), vs = [.ref a] ∧ SqL K H a xs ∧ RepAll K O H xs ds ∧ MinOk ds ∧ ∀ x, Rep K O H x (minD ds) → Q x H
theorem each_get {R : Value → D → Prop} : ∀ {us : List Value} {ds : List D}, PySem.W.EachIs R us ds → ∀ (i : Nat) (u : Value), us[i]? = some u → ∃ d, ds[i]? = some d ∧ R u d
  | _, _, .nil, i, u, h => by cases i <;> cases h
  | _, _, .cons r t, 0, u, h => by cases h; exact ⟨_, rfl, r⟩
  | _, _, .cons r t, i + 1, u, h => by
    obtain ⟨d, h1, h2⟩ := each_get t i u (by simpa using h)
    exact ⟨d, by simpa using h1, h2⟩
theorem cr_minD {X : Cx} (hc : X.calm = true) (hu : X.A.units + 65 < cLine) : CallR X (.builtin "min") (rMinD X.K) := by
  intro pins s σ H vs us Q I r h
  obtain ⟨a, xs, ds, O, rfl, hs, rx, ⟨hne, hal, hds⟩, q⟩ := h
  rw [Vals.ref1 r]
  obtain ⟨its, rv, hl, hz⟩ := I.list hs
  have er := rx.each I (nd_all hal) rv
  have e2 := rx.each2 rv
  have ll : its.length = ds.length := by rw [← rv.length, rx.length]
  have n0 : 0 < ds.length := List.length_pos_iff.mpr hne
  refine min_data (ltAt ds) (I.ok.hd hc) hl.isList (by omega) (fun i j vi vj s' Q' E' K hi hj q' => ?_) fun v h' tk hv k => ?_
  · obtain ⟨di, d1, as, r1⟩ := each_get er i vi hi
    obtain ⟨dj, d2, bs, r2⟩ := each_get er j vj hj
    have m1 := List.mem_of_getElem? d1
    have m2 := List.mem_of_getElem? d2
    have e1 : ds.getD i .none = di := by rw [List.getD_eq_getElem?_getD, d1]; rfl
    have e2 : ds.getD j .none = dj := by rw [List.getD_eq_getElem?_getD, d2]; rfl
    unfold ltAt at q'
    rw [e1, e2] at q'
    exact PySem.W.lt_data (PyProof.Rows.Reads.keeps K r1) (PyProof.Rows.Reads.keeps K r2) (hal _ m1 _ m2) (hds _ m1).1 (by have := (hds _ m1).2; show X.A.units + 1 + _ < cLine; omega) q'
  · obtain ⟨d, h1, x, rx1, rep⟩ := each_get e2 _ v hv
    have em := (minD_at ds (ds.length - 1) (by omega)).1
    rw [show ds.length - 1 + 1 = ds.length by omega, List.take_length] at em
    rw [ll, em] at h1
    cases h1
    exact ⟨x, H, I.kept k, rx1, q x rep⟩
def fMinL : CallD
  | [.list xs], Q => MinOk xs ∧ Q (minD xs)
  | _, _ => False
theorem de_minL {X : Cx} {e : Expr} {ts : AT} {p pos : Pos} (hc : X.calm = true) (hu : X.A.units + 65 < cLine) (hg : Gl X "min") (hm : X.mg "min" = none) (ha : DA X [e] ts) (he : starEach [e] X.env = (false, eval e X.env) :: starEach [] X.env := by rfl) : DE X (.Call (.Name "min" p) [e] [] pos) (dCall fMinL ts) := by
  refine de_callB (cr_minD hc hu) ?_ hg hm (by decide +kernel) ha (he := he)
  intro G O H xs ds Q R B r h k
  match ds, h with
  | [.list zs], ⟨h1, h2⟩ =>
    cases r with
    | cons r1 r2 =>
      cases r2
      cases r1 with
      | lst o h0 rr => exact ⟨_, _, zs, O, rfl, .of h0, rr, h1, fun x rp => way_here B k rp h2⟩
/-! sum of lists -/
def accL (ys : List V) (ls : List (Addr × List V)) (i : Nat) : List V := ys ++ ((ls.take i).map (·.2)).flatten
theorem accL_next {ys : List V} {ls : List (Addr × List V)} {i : Nat} {p : Addr × List V} (h : ls[i]? = some p) : accL ys ls (i + 1) = accL ys ls i ++ p.2 := by
  unfold accL
  have e := take_next h
  rw [e, List.map_append, List.flatten_append, List.append_assoc]
  simp
section
variable {prog : Program} {w : World} {A : Around} {R : Result → Shared → Prop} {I : Addr} {fp wr : List Addr} {n : Nat} {P : Nat → Value → Prop} {St : Nat → Heap → Prop} {h0 : Heap}
theorem sum_loopL (W : Walks prog w A.in1 I fp wr n P St) (S : Addr) (hSf : S ∉ fp) (S0 : h0.get? S = none) (w0 : ∀ c ∈ wr, h0.get? c = none) (ys : List V) (ls : List (Addr × List V)) (hn : n = ls.length)
    (val : ∀ i v, P i v → ∃ a its c p, v = .ref a ∧ ls[i]? = some p ∧ Vals p.2 its ∧ h0.get? a = some (seqObj "list" its.toArray c)) (fit : (accL ys ls ls.length).length ≤ sizeLine) (hfp : ∀ b ∈ fp, b < S) :
    ∀ (k i : Nat) (s : Shared) (b : Addr) (its : List Value) (cb c : Nat), n - i = k → i ≤ n → St i s.heap → (∀ c o, h0.get? c = some o → s.heap.get? c = some o) → Vals (accL ys ls i) its → s.heap.get? b = some (seqObj "list" its.toArray cb) → b ∉ wr → b ≠ S →
    s.heap.get? S = some { cls := .type "list", dict := none, data := .seq #[.ref b] c, slots := #[] } →
    (∀ b' h' tk its' cb', (∀ c o, h0.get? c = some o → h'.get? c = some o) → Vals (accL ys ls n) its' → h'.get? b' = some (seqObj "list" its'.toArray cb') → ((i = n ∧ b' = b) ∨ S + 1 ≤ b') → R (.ok (.ret (.ref b'))) { s with heap := h', toks := tk }) →
    codeAny (model prog w) A (.builtin "sum.loop" ⟨[.ref I, .ref S, rawInt 2, rawInt 0], []⟩) R s := by
  have hSw : S ∉ wr := fun h => hSf (W.sub _ h)
  have neS : ∀ c o, h0.get? c = some o → S ≠ c := fun c o e z => by rw [← z, S0] at e; cases e
  intro k
  induction k with
  | zero =>
    intro i s b its cb c hk hi hst K0 rv hb bf bS hS hR
    have hin : i = n := by omega
    subst hin
    refine codeAny_builtin PySem.F.entry_sum_loop ?_
    rw [Around.under_plainId PySem.F.plain_sum_loop _]
    show wpAny _ A.in1 (seqItems? (.ref S) >>= _) _ _ s
    refine wpAny_bind (wpAny_seqItems hS rfl ?_)
    show wpAny _ A.in1 (tryCatch (pyNext (.ref I)) _ >>= _) _ _ s
    refine wpAny_bind (wpAny_tryCatch (W.done s _ _ hst fun h' tk hk' => ?_))
    exact wpAny_pure (hR b h' tk its cb (fun c o e => hk' c o (fun z => by rw [w0 c z] at e; cases e) (K0 c o e)) rv (hk' b _ bf hb) (.inl ⟨rfl, rfl⟩))
  | succ k ih =>
    intro i s b its cb c hk hi hst K0 rv hb bf bS hS hR
    have hlt : i < n := by omega
    refine codeAny_builtin PySem.F.entry_sum_loop ?_
    rw [Around.under_plainId PySem.F.plain_sum_loop _]
    show wpAny _ A.in1 (seqItems? (.ref S) >>= _) _ _ s
    refine wpAny_bind (wpAny_seqItems hS rfl ?_)
    show wpAny _ A.in1 (tryCatch (pyNext (.ref I)) _ >>= _) _ _ s
    refine wpAny_bind (wpAny_tryCatch (W.item i s _ _ hlt hst fun v h' tk hP hst' hk' => ?_))
    obtain ⟨a, its2, c2, p, rfl, hp, rv2, ha⟩ := val i v hP
    have hS' := hk' S _ hSw hS
    have hb' := hk' b _ bf hb
    have K1 : ∀ c o, h0.get? c = some o → h'.get? c = some o := fun c o e => hk' c o (fun z => by rw [w0 c z] at e; cases e) (K0 c o e)
    have en := accL_next (ys := ys) hp
    have fit1 : (accL ys ls i).length + p.2.length ≤ sizeLine := by
      have e1 : accL ys ls ls.length = accL ys ls (i + 1) ++ ((ls.drop (i + 1)).map (·.2)).flatten := by
        unfold accL
        rw [List.take_length, List.append_assoc, ← List.flatten_append, ← List.map_append, List.take_append_drop]
      have := congrArg List.length e1
      rw [List.length_append, en, List.length_append] at this
      omega
    have hsz : its.toArray.size + its2.toArray.size ≤ sizeLine := by
      rw [List.size_toArray, List.size_toArray, ← rv.length, ← rv2.length]
      exact fit1
    show wpAny _ A.in1 ((holding [Value.ref a] (binaryOp .Add (.ref b) (.ref a))).attempt >>= _) _ _ _
    refine wpAny_bind (wpAny_attempt (wpAny_holding (PySem.P.add_list hb' (K1 _ _ ha) ?_ hsz)))
    show wpAny _ A.in1 (updateSeq S (fun _ => #[.ref h'.objs.size]) >>= _) _ _ _
    have hS1 : (h'.push { cls := .type "list", data := .seq (its.toArray ++ its2.toArray) }).get? S = some { cls := .type "list", dict := none, data := .seq #[.ref b] c, slots := #[] } := Heap.get?_push_of_some _ hS'
    have hN1 : (h'.push { cls := .type "list", data := .seq (its.toArray ++ its2.toArray) }).get? h'.objs.size = some (seqObj "list" (its ++ its2).toArray 0) := by
      rw [← List.append_toArray]
      exact Heap.get?_push_size _ rfl
    have z1 : S < h'.objs.size := Heap.lt_size hS'
    have neN : S ≠ h'.objs.size := Nat.ne_of_lt z1
    have nfN : h'.objs.size ∉ fp := fun m => absurd (Nat.lt_trans (hfp _ m) z1) (Nat.lt_irrefl _)
    have psz : (h'.push { cls := .type "list", data := .seq (its.toArray ++ its2.toArray) }).objs.size = h'.objs.size + 1 := Heap.size_push ..
    have hst1 : St (i + 1) (h'.push { cls := .type "list", data := .seq (its.toArray ++ its2.toArray) }) := W.frame _ _ _ hst' fun b _ o e => Heap.get?_push_of_some _ e
    have K2 : ∀ c o, h0.get? c = some o → (h'.push { cls := .type "list", data := .seq (its.toArray ++ its2.toArray) }).get? c = some o := fun c o e => Heap.get?_push_of_some _ (K1 c o e)
    generalize h'.push { cls := .type "list", data := .seq (its.toArray ++ its2.toArray) } = h2 at *
    refine wpAny_bind (wpAny_updateSeq hS1 rfl ?_)
    have hS₂ := Heap.get?_update_self (Obj.mapSeq fun _ => #[Value.ref h'.objs.size]) hS1 rfl
    refine wpAny_bind (wpAny_letGo ?_)
    have oth : ∀ c, S ≠ c → ((h2.update S (Obj.mapSeq fun _ => #[Value.ref h'.objs.size])).update S (Obj.mapSeq fun _ => #[Value.ref h'.objs.size])).get? c = h2.get? c := fun c e => (Heap.get?_update_other _ _ e).trans (Heap.get?_update_other _ _ e)
    have zz : ((h2.update S (Obj.mapSeq fun _ => #[Value.ref h'.objs.size])).update S (Obj.mapSeq fun _ => #[Value.ref h'.objs.size])).objs.size = h'.objs.size + 1 := by rw [Heap.size_update, Heap.size_update, psz]
    refine wpAny_bind (wpAny_updateSeq hS₂ rfl (wpAny_pure ⟨plainId_quiet PySem.F.plain_sum_loop _, ih (i + 1) _ h'.objs.size (its ++ its2) 0 _ (by omega) hlt (W.frame _ _ _ hst1 fun b hb o e => ?_) (fun c o e => (oth c (neS c o e)).trans (K2 c o e)) (by rw [en]; exact rv.append rv2) ((oth _ neN).trans hN1) (fun z => nfN (W.sub _ z)) (Ne.symm neN) (Heap.get?_update_self _ hS₂ rfl) fun b' h'' tk'' its' cb' K3 rv3 hb3 hz3 => ?_⟩))
    · exact (oth b fun e => hSf (by rw [e]; exact hb)).trans e
    · refine hR b' h'' tk'' its' cb' K3 rv3 hb3 (.inr ?_)
      rcases hz3 with ⟨_, e⟩ | e
      · rw [e]
        exact z1
      · exact e
end
theorem args_sum2 (a b : Value) : argsOk "sum" ⟨[a, b], []⟩ := by unfold argsOk; kernel_rfl
section
variable {prog : Program} {w : World} {A : Around} {E : Value → Shared → Prop} {s : Shared} {l b0 : Addr} {items : List Value}
theorem sum_lists {Q : Value → Shared → Prop} (ys : List V) (ls : List (Addr × List V)) (hh : A.handled = none) (hl : s.heap.IsList l items.toArray) (hb0 : ∃ its c, Vals ys its ∧ s.heap.get? b0 = some (seqObj "list" its.toArray c)) (hn : items.length = ls.length)
    (val : ∀ (i : Nat) (v : Value), items[i]? = some v → ∃ a its c p, v = .ref a ∧ ls[i]? = some p ∧ Vals p.2 its ∧ s.heap.get? a = some (seqObj "list" its.toArray c)) (fit : (accL ys ls ls.length).length ≤ sizeLine)
    (q : ∀ b' h' tk its' cb', (∀ c o, s.heap.get? c = some o → h'.get? c = some o) → Vals (accL ys ls ls.length) its' → h'.get? b' = some (seqObj "list" its'.toArray cb') → ((ls = [] ∧ b' = b0) ∨ s.heap.objs.size ≤ b') → Q (.ref b') { s with heap := h', toks := tk }) :
    wpAny (model prog w) A (call (.builtin "sum") [.ref l, .ref b0]) Q E s := by
  have hlt : l < s.heap.objs.size := by obtain ⟨_, e, _⟩ := hl; exact Heap.lt_size e
  obtain ⟨its0, c0, rv0, hb0⟩ := hb0
  have none_of : ∀ c, s.heap.objs.size ≤ c → s.heap.get? c = none := fun c hc => by
    cases e : s.heap.get? c with
    | none => rfl
    | some o => exact absurd (Nat.lt_of_lt_of_le (Heap.lt_size e) hc) (Nat.lt_irrefl _)
  refine call_function_tree PySem.F.kind_sum PySem.F.plain_sum PySem.F.entry_sum (args_sum2 _ _) ?_
  unfold Builtin.«sum»
  simp only [List.length_cons, List.length_nil]
  rw [if_neg (by decide)]
  refine wpAny_bind (wpAny_of_eq (show Builtin.Builtins.bindParams "sum" ["start"] 0 ⟨[.ref b0], []⟩ = pure [some (.ref b0)] from rfl) ?_)
  refine wpAny_bind (wpAny_pyIter_list hl ?_)
  have psz : (s.heap.push { cls := .type "list_iterator", data := .fields #[.ref l, .int 0 0] }).objs.size = s.heap.objs.size + 1 := Heap.size_push ..
  have hb1 : (s.heap.push { cls := .type "list_iterator", data := .fields #[.ref l, .int 0 0] }).get? b0 = some (seqObj "list" its0.toArray c0) := Heap.get?_push_of_some _ hb0
  have ty : Shared.TypeIs { s with heap := s.heap.push { cls := .type "list_iterator", data := .fields #[.ref l, .int 0 0] } } (.ref b0) "list" := ⟨_, hb1, rfl⟩
  refine wpAny_bind (wpAny_pure ?_)
  simp only [List.forIn_cons, List.forIn_nil]
  refine wpAny_bind (wpAny_bind (wpAny_bind (wpAny_isInstance (T := "list") (b := false) ty PySem.F.sub_list_str ?_)))
  simp only [Bool.false_eq_true, if_false]
  refine wpAny_pure (wpAny_bind (wpAny_bind (wpAny_isInstance (T := "list") (b := false) ty PySem.F.sub_list_bytes ?_)))
  simp only [Bool.false_eq_true, if_false]
  refine wpAny_pure (wpAny_bind (wpAny_bind (wpAny_isInstance (T := "list") (b := false) ty PySem.F.sub_list_bytearray ?_)))
  simp only [Bool.false_eq_true, if_false]
  refine wpAny_pure (wpAny_pure ?_)
  refine wpAny_bind (wpAny_newObj_type ?_)
  have hlI : l ≠ s.heap.objs.size := Nat.ne_of_lt hlt
  have hbI : b0 < s.heap.objs.size := Heap.lt_size hb0
  have W := Walks.list (prog := prog) (w := w) (A := A.in1) hh s.heap.objs.size l hlI items.toArray
  have hSS : ((s.heap.push { cls := .type "list_iterator", data := .fields #[.ref l, .int 0 0] }).push { cls := .type "list", data := .seq #[.ref b0] }).get? (s.heap.objs.size + 1) = some { cls := .type "list", dict := none, data := .seq #[.ref b0] 0, slots := #[] } := by
    have := Heap.get?_push_size (s.heap.push { cls := .type "list_iterator", data := .fields #[.ref l, .int 0 0] }) (o := { cls := .type "list", data := .seq #[.ref b0] }) rfl
    rwa [psz] at this
  rw [show (s.heap.push { cls := .type "list_iterator", data := .fields #[.ref l, .int 0 0] }).objs.size = s.heap.objs.size + 1 from psz]
  have kk : ∀ c o, s.heap.get? c = some o → ((s.heap.push { cls := .type "list_iterator", data := .fields #[.ref l, .int 0 0] }).push { cls := .type "list", data := .seq #[.ref b0] }).get? c = some o := fun c o e => Heap.get?_push_of_some _ (Heap.get?_push_of_some _ e)
  have hIt : ((s.heap.push { cls := .type "list_iterator", data := .fields #[.ref l, .int 0 0] }).push { cls := .type "list", data := .seq #[.ref b0] }).IsListIter s.heap.objs.size l 0 := ⟨_, Heap.get?_push_of_some _ (Heap.get?_push_size _ rfl), rfl, rfl⟩
  have hLl : ((s.heap.push { cls := .type "list_iterator", data := .fields #[.ref l, .int 0 0] }).push { cls := .type "list", data := .seq #[.ref b0] }).IsList l items.toArray := (hl.push _).push _
  have hB2 := kk _ _ hb0
  generalize (s.heap.push { cls := .type "list_iterator", data := .fields #[.ref l, .int 0 0] }).push { cls := .type "list", data := .seq #[.ref b0] } = h1 at *
  refine wpAny_pure ⟨plainId_quiet PySem.F.plain_sum_loop _, ?_⟩
  have hnz : items.toArray.size = ls.length := by rw [List.size_toArray, hn]
  refine sum_loopL (h0 := s.heap) W (s.heap.objs.size + 1) ?_ (none_of _ (Nat.le_succ _)) (fun c hc => none_of c (by rw [List.mem_singleton.mp hc]; exact Nat.le_refl _)) ys ls hnz (fun i v hv => val i v (by simpa using hv)) fit ?_ _ 0 _ b0 its0 c0 _ rfl (Nat.zero_le _) ⟨hIt, hLl⟩ kk ?_ hB2 ?_ ?_ hSS fun b' h' tk its' cb' K rv hb hz => ?_
  · simp only [List.mem_cons, List.not_mem_nil, or_false, not_or]
    exact ⟨Nat.ne_of_gt (Nat.lt_succ_self _), Nat.ne_of_gt (Nat.lt_succ_of_lt hlt)⟩
  · intro b hb
    rcases List.mem_cons.mp hb with e | hb
    · rw [e]
      exact Nat.lt_succ_self _
    · rw [List.mem_singleton.mp hb]
      exact Nat.lt_succ_of_lt hlt
  · show Vals (accL ys ls 0) its0
    unfold accL
    simpa using rv0
  · exact fun z => Nat.ne_of_lt hbI (List.mem_singleton.mp z)
  · exact Nat.ne_of_lt (Nat.lt_succ_of_lt hbI)
  · rw [hnz] at rv
    refine q b' h' tk its' cb' K rv hb ?_
    rcases hz with ⟨e1, e2⟩ | e
    · refine .inl ⟨List.length_eq_zero_iff.mp (by rw [← hnz, ← e1]), e2⟩
    · exact .inr (Nat.le_trans (Nat.le_succ _) (Nat.le_trans (Nat.le_succ _) e))
end
/-- lists of lists -/
def isL : D → Bool
  | .list _ => true
  | _ => false
def lOf : D → List D
  | .list xs => xs
  | _ => []
def rSumL (K : PySem.W.Frag) : List V → Hp → VK → Prop := fun vs H Q => ∃ (a b0 : Addr) (ys : List V) (ls : List (Addr × List V)), vs = [.ref a, .ref b0] ∧ SqL K H a (ls.map fun p => V.ref p.1) ∧ H b0 = some (.lst ys) ∧ (∀ p, p ∈ ls → H p.1 = some (.lst p.2)) ∧ (accL ys ls ls.length).length ≤ sizeLine ∧
  (ls = [] → Q (.ref b0) H) ∧ ∀ p, H p = none → Q (.ref p) (upd H p (.lst (accL ys ls ls.length)))
theorem refsVL : ∀ {ls : List (Addr × List V)} {us : List Value}, Vals (ls.map fun p => V.ref p.1) us → us = ls.map fun p => Value.ref p.1
  | [], _, .nil => rfl
  | p :: ls, _, .cons r t => by
    cases r
    rw [refsVL t]
    rfl
theorem cr_sumL {X : Cx} (hc : X.calm = true) : CallR X (.builtin "sum") (rSumL X.K) := by
  intro pins s σ H vs us Q I r h
  obtain ⟨a, b0, ys, ls, rfl, ha, hb, hp, fit, q0, q⟩ := h
  obtain ⟨its, rv, hl, hz⟩ := I.list ha
  obtain ⟨z0, its0, n0, rv0, hl0, e0⟩ := I.lstM hb
  have eI := refsVL rv
  cases r with
  | cons r1 r2 =>
  cases r2 with
  | cons r2 r3 =>
  cases r3
  cases r1
  cases r2
  refine sum_lists ys ls (I.ok.hd hc) hl.isList ⟨its0, n0, rv0, e0⟩ (by rw [eI, List.length_map]) (fun i v hv => ?_) fit fun b' h' tk its' cb' k rv' hb' hz' => ?_
  · rw [eI, List.getElem?_map] at hv
    obtain ⟨p, h1, h2⟩ := Option.map_eq_some_iff.mp hv
    obtain ⟨z2, its2, n2, rv2, _, e2⟩ := I.lstM (hp p (List.mem_of_getElem? h1))
    exact ⟨p.1, its2, n2, p, h2.symm, h1, rv2, e2⟩
  · rcases hz' with ⟨e1, rfl⟩ | e
    · exact ⟨.ref _, H, I.kept k, rfl, q0 e1⟩
    · exact ⟨.ref b', _, I.laid (o := .lst (accL ys ls ls.length)) k e ⟨fit, its', cb', rv', hb'⟩, rfl, q b' (I.hok.fresh e)⟩
theorem rows_lists {K : PySem.W.Frag} {O : Addr → Prop} {H : Hp} : ∀ {xs : List V} {ds : List D}, RepAll K O H xs ds → ds.all isL = true →
    ∃ ls : List (Addr × List V), xs = ls.map (fun p => V.ref p.1) ∧ (∀ p ∈ ls, H p.1 = some (.lst p.2)) ∧ RepAll K O H ((ls.map (·.2)).flatten) ((ds.map lOf).flatten)
  | _, _, .nil, _ => ⟨[], rfl, fun _ hp => (nomatch hp), .nil⟩
  | _, d :: _, .cons r t, h => by
    rw [List.all_cons, Bool.and_eq_true] at h
    obtain ⟨ls, e1, h2, h3⟩ := rows_lists t h.2
    cases r with
    | @lst a ys es o h0 rr => exact ⟨(a, ys) :: ls, by rw [e1]; rfl, fun p hp => by
        rcases List.mem_cons.mp hp with z | z
        · rw [z]
          exact h0
        · exact h2 p z, by simpa [lOf] using rr.append h3⟩
    | _ => exact absurd h.1 (by simp [isL])
def fSumL : CallD
  | [.list xs, .list ys], Q => xs.all isL = true ∧ ys.length + (xs.map lOf).flatten.length ≤ sizeLine ∧ Q (.list (ys ++ (xs.map lOf).flatten))
  | _, _ => False
theorem de_sumL {X : Cx} {e e2 : Expr} {ts : AT} {p pos : Pos} (hc : X.calm = true) (hg : Gl X "sum") (hm : X.mg "sum" = none) (ha : DA X [e, e2] ts) (he : starEach [e, e2] X.env = (false, eval e X.env) :: starEach [e2] X.env := by rfl) (hpl : (backTo pos (starEach [e2] X.env)).any (·.1) = false := by rfl) : DE X (.Call (.Name "sum" p) [e, e2] [] pos) (dCall fSumL ts) := by
  refine de_callB (cr_sumL hc) ?_ hg hm (by decide +kernel) ha (he := he) (hpl := hpl)
  intro G O H xs ds Q R B r h k
  match ds, h with
  | [.list zs, .list ys], ⟨h1, h2, h3⟩ =>
    cases r with
    | cons r1 r2 =>
    cases r2 with
    | cons r2 r3 =>
      cases r3
      cases r1 with
      | @lst a xs0 _ o h0 rr =>
      cases r2 with
      | @lst b ys0 _ o2 h02 rr2 =>
        obtain ⟨ls, rfl, hp, r3⟩ := rows_lists rr h1
        have ea : accL ys0 ls ls.length = ys0 ++ (ls.map (·.2)).flatten := by
          unfold accL
          rw [List.take_length]
        refine ⟨a, b, ys0, ls, rfl, .of h0, h02, hp, ?_, fun e => ?_, fun p hp => ?_⟩
        · rw [ea, List.length_append, rr2.length, r3.length]
          exact h2
        · subst e
          cases rr
          refine way_here B k (.lst o2 h02 rr2) ?_
          simpa using h3
        · rw [ea]
          exact way_new B k (rr2.append r3) h3 p hp
end DL

/-! DLe1: C(v): an exception class of the program whose __init__ says super().__init__(text) and keeps its argument in a field. -/
namespace DL
open PySem PySem.Spec PyProof.Rows L2
/-- what the written part says of such a class -/
structure ExFacts (P : Program) (K : PySem.W.Frag) (B newId initId : String) (bmB : List Value) (C : Addr) (fld : Str) (fI cc cda : Addr) (q : Str) (params : Arguments) (body : List Stmt) (scope : Scope) (fd : FuncData) : Prop where
  base : ExcBaseFacts B newId initId bmB
  kxs : PySem.W.KxsFacts B initId
  sto : StoreFacts B bmB "object.__setattr__" "object"
  cls : PySem.W.excInitIn K C bmB newId = true
  over : PySem.W.excOver K C bmB = true
  ini : PySem.W.findIn K (.ref C) "__init__" = some (some (.ref fI))
  iniT : PySem.W.typeIn K (.ref fI) = some (.type "function")
  fn : ∃ oc od osl, K.lookup fI = some ⟨oc, od, .func fd, osl⟩
  fdE : ∃ dV kV doc pm an ct, fd = PySem.W.ksFn "__init__" q params body scope dV kV doc pm an (.ref cda) ct cc
  code : PySem.W.codeIn K (.ref cda) q = true
  file : ∃ ccl cdd vs ccs f tf, K.lookup cda = some ⟨ccl, cdd, .fields vs, ccs⟩ ∧ vs[2]? = some (.str f tf) ∧ ((P.main.file : Str) == f) = true
  cell : ∃ cl cld csl, K.lookup cc = some ⟨cl, cld, .cell (some (.ref C)), csl⟩
  sub : PySem.W.mroIn K C (.ref C) = some true
  sup : PySem.W.ks_superIn K C C "__init__" = some (some (.builtin initId))
  subB : PySem.W.subIn K (.ref C) (.type B) = some true
  noAny : PySem.W.nsIn K cStatics "thirdparty.any" = some none
  noSuper : (P.main.scope.names.lookup ("super" : Str)).isSome = false
  sa : PySem.W.findIn K (.ref C) "__setattr__" = some (some (.builtin "object.__setattr__"))
  noF : PySem.W.takerIn K C fld = some none
  hasD : PySem.W.hasDictIn K C = true
  exC : PySem.W.subIn K (.ref C) (.type "BaseException") = some true
  tyC : PySem.W.typeIn K (.ref C) = some (.type "type")
  kC : PySem.W.keepIn K (.ref C) = true
abbrev exObj (C t : Addr) (dd : Option Addr) : Obj := { cls := .ref C, dict := dd, data := .fields #[.ref t, .none, .none, .none, .bool false, .none] }
/-- the body of such an __init__ -/
abbrev exBody (fld msg : Str) (j : Nat) (p0 p1 p2 p3 p4 p5 p6 p7 p8 p9 : Pos) : List Stmt :=
  [.Expr (.Call (.Attribute (.Call (.Name "super" p0) [] [] p1) "__init__" p2) [.Constant (.str msg) j p3] [] p4) p5, .Assign [.Attribute (.Name "self" p6) fld p7] (.Name fld p8) p9]
def SuperCall (msg : Str) (j : Nat) (p0 p1 p2 p3 p4 : Pos) : Prop := ∀ env : Env, ∃ pl : Sem Bool, eval (.Call (.Attribute (.Call (.Name "super" p0) [] [] p1) "__init__" p2) [.Constant (.str msg) j p3] [] p4) env = (do
      let ov ← attributeBase (.Call (.Name "super" p0) [] [] p1) "__init__" env (eval (.Call (.Name "super" p0) [] [] p1) env)
      standAt p2.atName
      let (f, first) ← holding [ov] (getMethod ov "__init__" pl)
      callWith p4 f first (backTo p4 (starEach [.Constant (.str msg) j p3] env)) [])
/-- no store of it is swapped with another -/
def NoSwap (fld msg : Str) (j : Nat) (p0 p1 p2 p3 p4 p5 p6 p7 p8 p9 : Pos) : Prop := ∀ env : Env,
  swapsWith (.Call (.Attribute (.Call (.Name "super" p0) [] [] p1) "__init__" p2) [.Constant (.str msg) j p3] [] p4) none p5.line env = pure false ∧ swapsWith (.Name fld p8) (some (.Attribute (.Name "self" p6) fld p7)) p9.line env = pure false
structure ExScope (scope : Scope) (fld : Str) : Prop where
  kind : scope.kind = .function
  co : scope.isCoroutine = false
  gen : scope.isGenerator = false
  cells : ∀ x ∈ scope.names, x.2 ≠ .cell
  self : scope.names.lookup ("self" : Str) = some .local
  fldL : scope.names.lookup fld = some .local
  sup : scope.names.lookup ("super" : Str) = some .globalImplicit
  cls : scope.names.lookup ("__class__" : Str) = some .free
  ne : fld ≠ "self"
  dbg : (fld == ("__debug__" : Str)) = false
section
variable {prog : Program} {w : World} {A : Around} {E : Value → Shared → Prop} {s : Shared} {K : PySem.W.Frag} {B newId initId : String} {bmB : List Value} {C u x t0 : Addr}
theorem mw_call {Q : Value → Shared → Prop} {msg : Str} {tk : Tok} (FB : ExcBaseFacts B newId initId bmB) (X : K.In s.heap) (q : PySem.W.excInitIn K C bmB newId = true) (hu : s.heap.get? u = some (PySem.W.kxs_mw initId x)) (he : s.heap.get? x = some (exObj C t0 none))
    (h : ∀ h', (∀ b o, b ≠ x → s.heap.get? b = some o → h'.get? b = some o) → h'.get? x = some (exObj C s.heap.objs.size none) → Q .none { s with heap := h' }) : wpAny (model prog w) A (call (.ref u) [.str msg tk]) Q E s := by
  obtain ⟨nm, N', qn, bs, bm, hdct, sn, sub, ab, col, dd, k0, k1, k2, k3, k5, hC, hT⟩ := PySem.W.excInit_of X q
  obtain ⟨hh, g, d, tk', os⟩ := s
  refine wpAny_call (codeAny_of_tree ?_)
  show wpAny _ A.in1 (callAny (.ref u) ⟨[.str msg tk], []⟩) _ _ _
  simp only [callAny]
  refine wpAny_bind (wpAny_load hu ?_)
  simp only [PySem.W.kxs_mw, show (Value.type "method-wrapper" == Value.type "method" || Value.type "method-wrapper" == Value.type "builtin_function_or_method" || Value.type "method-wrapper" == Value.type "method-wrapper") = true by decide, if_true]
  refine PySem.W.KFB.if_so (by decide) ?_
  refine wpAny_bind (PySem.W.check_bound_init FB.toExcCallFacts hC he rfl ?_)
  refine wpAny_bind (wpAny_pure (wpAny_pure ?_))
  refine ⟨plainId_quiet FB.init.plain _, codeAny_builtin FB.initEntry ?_⟩
  exact PySem.W.exc_init_tree (cls := .ref C) (t0 := t0) (dv := none) (c2 := .none) (c3 := .none) (b4 := .bool false) he (show 1 ≤ sizeLine by rw [sizeLine_eq]; decide) fun h4 k4 e4 t4 => h h4 k4 e4
end
section
variable {prog : Program} {w : World} {A : Around} {K : PySem.W.Frag} {B newId initId : String} {bmB : List Value} {C fI cc cda : Addr} {fld msg q : Str} {scope : Scope} {p0 p1 p2 p3 p4 p5 p6 p7 p8 p9 : Pos} {j : Nat} {params : Arguments} {fd : FuncData}
theorem ex_init {R : Result → Shared → Prop} {hp : Heap} {g : Array GenState} {d : Drawn} {t : Nat} {os : OsState} {e t0 : Addr} {v : Value} {mg mb : Str → Option Value}
    (F : ExFacts prog K B newId initId bmB C fld fI cc cda q params (exBody fld msg j p0 p1 p2 p3 p4 p5 p6 p7 p8 p9) scope fd) (S : ExScope scope fld) (hc : SuperCall msg j p0 p1 p2 p3 p4) (hsw : NoSwap fld msg j p0 p1 p2 p3 p4 p5 p6 p7 p8 p9) (hpar : (params.posonlyargs ++ params.args).head?.map (·.arg) = some ("self" : Str))
    (X : K.In hp) (hKe : K.lookup e = none) (he : hp.get? e = some (exObj C t0 none)) (hG : hp.Ns mainGlobals mg) (hs : mg "super" = none) (hB : hp.Ns builtinsNs mb) (hb : mb "super" = some (.type "super")) (lim : hp.NoLimit) (room : A.depth < recursionLimit)
    (hbind : BindsTo ⟨hp, g, d, t, os⟩ fd ⟨[.ref e, v], []⟩ [("self", .ref e), (fld, v)])
    (hq : ∀ h' dx t1 tk, (∀ b o, b ≠ e → hp.get? b = some o → h'.get? b = some o) → hp.objs.size ≤ dx → dx ≠ e → h'.get? e = some (exObj C t1 (some dx)) → h'.Ns1 dx (fun y => if y = fld then some v else none) → R (.ok (.ret .none)) ⟨h', g, d, tk, os⟩) :
    codeAny (model prog w) A (.call (.ref fI) ⟨[.ref e, v], []⟩) R ⟨hp, g, d, t, os⟩ := by
  obtain ⟨oc, od, osl, lk⟩ := F.fn
  obtain ⟨dV, kV, doc, pm, an, ct, hfd⟩ := F.fdE
  subst hfd
  obtain ⟨ccl, cdd, vs, ccs, f, tf, lc, hvs, hfile⟩ := F.file
  obtain ⟨cl, cld, csl, lcell⟩ := F.cell
  obtain ⟨ar, har, hself⟩ := Option.map_eq_some_iff.mp hpar
  refine ks_codeAny_call_defAt (fd := PySem.W.ksFn "__init__" q params (exBody fld msg j p0 p1 p2 p3 p4 p5 p6 p7 p8 p9) scope dV kV doc pm an (.ref cda) ct cc) (binds := [("self", .ref e), (fld, v)]) room (X _ _ lk) rfl lim (PySem.W.codeRec_of X F.code) rfl hbind S.cells ?_ (fun h1 hns k1 => ?_) S.co S.gen S.kind
  · intro y hy
    simp only [List.mem_cons, List.not_mem_nil, or_false] at hy
    rcases hy with rfl | rfl
    · exact S.self
    · exact S.fldL
  have X1 : K.In h1 := X.keeps k1
  have e1 := k1 _ _ he
  have hL : e ≠ hp.objs.size := Nat.ne_of_lt (Heap.lt_size he)
  obtain ⟨cdD, hcd⟩ : ∃ cd, PySem.W.clsIn K C = some cd := by
    have := F.sup
    unfold PySem.W.ks_superIn at this
    cases h : PySem.W.clsIn K C with
    | none => rw [h] at this; cases this
    | some cd => exact ⟨cd, rfl⟩
  obtain ⟨oD, hD1, hD2⟩ : ∃ oD, h1.get? C = some oD ∧ oD.data = .cls cdD := by
    have hD := hcd
    unfold PySem.W.clsIn at hD
    split at hD
    · rename_i c d cd' sl ho
      cases hD
      exact ⟨_, X1 _ _ ho, rfl⟩
    · cases hD
  have hsup : PySem.W.alongIn K "__init__" ((cdD.mro.dropWhile (· != .ref C)).drop 1) = some (some (.builtin initId)) := by
    have := F.sup
    unfold PySem.W.ks_superIn at this
    rw [hcd] at this
    exact this
  have I1 : PySem.W.InstAt h1 e (exObj C t0 none) C none := ⟨e1, rfl, rfl, trivial⟩
  obtain ⟨pl, hc⟩ := hc (callEnv (PySem.W.ksFn "__init__" q params (exBody fld msg j p0 p1 p2 p3 p4 p5 p6 p7 p8 p9) scope dV kV doc pm an (.ref cda) ct cc) hp.objs.size fI)
  have hint : interactive (callEnv (PySem.W.ksFn "__init__" q params (exBody fld msg j p0 p1 p2 p3 p4 p5 p6 p7 p8 p9) scope dV kV doc pm an (.ref cda) ct cc) hp.objs.size fI) = false := by
    unfold interactive
    show (scope.kind == _ && _) = false
    rw [S.kind]
    rfl
  have look1 : List.lookup ("self" : Str) ([("self", Value.ref e), (fld, v)] : List (Str × Value)).reverse = some (.ref e) := by
    show List.lookup ("self" : Str) [(fld, v), ("self", Value.ref e)] = _
    have : (("self" : Str) == fld) = false := beq_eq_false_iff_ne.mpr (Ne.symm S.ne)
    simp [List.lookup, this]
  have look2 : List.lookup fld ([("self", Value.ref e), (fld, v)] : List (Str × Value)).reverse = some v := by
    show List.lookup fld [(fld, v), ("self", Value.ref e)] = _
    simp [List.lookup]
  refine ks_wpAt_execs_cons (ks_wpAt_Expr_any (ks_wpAt_MethodCall (pl := pl) ?_ hc) hint (hsw _).1)
  refine ks_wpAt_super_base (env := PySem.W.ksEnv q scope hp.objs.size fI (.ref cda) cc) S.sup S.cls (by decide) rfl (k1 _ _ (X _ _ lk)) rfl har rfl (k1 _ _ (X _ _ lc)) rfl hvs hfile F.noSuper ?_
  refine PySem.W.ks_loadName_global S.kind S.sup (Calls.loadGlobal_builtin (env := PySem.W.ksEnv q scope hp.objs.size fI (.ref cda) cc) (hG.keeps k1) hs (hB.keeps k1) hb ⟨rfl, ?_⟩)
  refine wpAny_loadName_free S.kind S.cls rfl ⟨_, X1 _ _ lcell, rfl⟩ ?_
  refine wpAny_loadName_local S.kind (by show scope.names.lookup ar.arg = some .local; rw [hself]; exact S.self) hns (v := .ref e) (by rw [hself]; exact look1) ?_
  refine ks_wpAny_isType_cls hD1 hD2 ⟨rfl, ?_⟩
  refine ks_wpAny_call_super hD1 hD2 e1 rfl (fun c z => by cases z) (PySem.W.looks_mroIn X1 F.sub) (fun h2 e2 k2 => ?_)
  have X2 : K.In h2 := X1.keeps k2
  have I2 : PySem.W.InstAt h2 e (exObj C t0 none) C none := ⟨k2 _ _ e1, rfl, rfl, trivial⟩
  refine PySem.W.kxs_getMethod F.kxs e2 (PySem.W.looks_opaque X2 F.noAny) (l₀ := cdD.mro) (fun A Q E s k q => wpAny_bind ((PySem.W.looks_clsIn X2 hcd) A _ E s k (wpAny_pure q))) rfl X2 hsup (I2.type.andThen (PySem.W.looks_subIn X2 F.subB)) (PySem.W.ks_ne X2 I2 hcd) (by decide) ?_
  have e3 : (h2.push (PySem.W.kxs_mw initId e)).get? h2.objs.size = some (PySem.W.kxs_mw initId e) := Heap.get?_push_at rfl rfl
  have k3 : ∀ b o, h2.get? b = some o → (h2.push (PySem.W.kxs_mw initId e)).get? b = some o := fun b o z => Heap.get?_push_of_some _ z
  refine PySem.W.kxs_callWith (i := initId) (x := e) (by rfl) (Calls.evalArgs_plain (Calls.spliced_cons (Calls.Constant_str (k := j) (pos := p3) ?_)))
  refine Calls.spliced_nil ⟨e3, ?_⟩
  have he3 : (h2.push (PySem.W.kxs_mw initId e)).get? e = some (exObj C t0 none) := k3 _ _ (k2 _ _ e1)
  refine mw_call F.base (X2.keeps k3) F.cls e3 he3 fun h4 k4 e4 => ?_
  have k4' : ∀ b o, b ≠ e → hp.get? b = some o → h4.get? b = some o := fun b o n z => k4 b o n (k3 _ _ (k2 _ _ (k1 _ _ z)))
  have X4 : K.In h4 := fun b o z => k4 b o (fun y => by rw [y, hKe] at z; cases z) (X2.keeps k3 b o z)
  have hns4 : h4.Ns hp.objs.size (fun y => List.lookup y ([("self", Value.ref e), (fld, v)] : List (Str × Value)).reverse) := by
    obtain ⟨oL, esL, epL, hoL, r⟩ := hns
    exact ⟨oL, esL, epL, k4 _ _ (Ne.symm hL) (k3 _ _ (k2 _ _ hoL)), r⟩
  have zL : hp.objs.size < h4.objs.size := by
    obtain ⟨oL, esL, epL, hoL, r⟩ := hns4
    exact Heap.lt_size hoL
  show PySem.wpAt _ _ _ (execs _ _) _ _ _
  refine ks_wpAt_execs_cons (wpAt_of_wpAny (plainObj_wpAny_Assign_Attribute ?_ (hsw _).2))
  refine wpAny_Name (wpAny_loadName_local S.kind S.fldL hns4 look2 ?_) S.dbg
  refine wpAny_Name (wpAny_loadName_local S.kind S.self hns4 look1 ?_) (by decide)
  have I4 : PySem.W.InstAt h4 e (exObj C _ none) C none := ⟨e4, rfl, rfl, trivial⟩
  refine PySem.W.set_plain X4 I4 F.sa ?_
  refine PySem.W.osa_openX (od := none) F.sto X4 I4 F.over F.noF fun b => ?_
  obtain ⟨cd9, hc9, hd9⟩ := PySem.W.any_some F.hasD
  have hxs : e < h4.objs.size := Heap.lt_size e4
  refine wpAny_bind (wpAny_pure (wpAny_bind (PySem.W.instanceDict_exc e4 (PySem.W.looks_clsIn X4 hc9) hd9 ?_)))
  show wpAny _ _ (Builtin.ObjectAttr.storeInDict h4.objs.size (.str fld _) fld v) _ _ _
  refine HandSPX.store_in_new ?_ fun h5 tk5 hn5 hs5 => ?_
  · have hdn := (Heap.get?_update_ne (h4.push (PySem.W.dictOf [] 0)) h4.objs.size e (fun o => { o with dict := some h4.objs.size }) (Nat.ne_of_gt hxs)).trans (Heap.get?_push_at rfl rfl)
    exact ⟨_, #[], 0, hdn, rfl, fun e he => absurd he (by simp), fun _ => rfl⟩
  · refine wpAt_of_wpAny (wpAny_execs_nil ?_)
    refine hq h5 h4.objs.size (h2.push (PySem.W.kxs_mw initId e)).objs.size _ (fun b o n z => ?_) (Nat.le_of_lt zL) (Nat.ne_of_gt hxs) ?_ hn5
    · have z4 := k4' b o n z
      exact (hs5.2 b (Nat.ne_of_lt (Heap.lt_size z4))).trans ((Heap.get?_update_ne _ _ _ _ n).trans (Heap.get?_push_of_some _ z4))
    · exact (hs5.2 e (Nat.ne_of_lt hxs)).trans (Heap.get?_update_self _ (Heap.get?_push_of_some _ e4) rfl)
end
end DL

/-! DLe2: C(v), raise, raising calls. -/
namespace DL
open PySem PySem.Spec PyProof.Rows L2
def tMkS (C : Addr) (f : Str) (ta : TA) : L2.St → Hp → XK → Prop := fun σ H Q => ta σ H fun vs H1 => ∃ v, vs = [v] ∧ ∀ dx, H1 dx = none → Q (.ref C) (some dx) (upd H1 dx (.xd [(f, v)]))
section
variable {X : Cx} {B newId initId : String} {bmB : List Value} {C fI cc cda : Addr} {fld msg q : Str} {scope : Scope} {p0 p1 p2 p3 p4 p5 p6 p7 p8 p9 : Pos} {j : Nat} {params : Arguments} {fd : FuncData} {x : Str} {e : Expr} {ta : TA} {p pos : Pos}
theorem pmk_super (F : ExFacts X.prog X.K B newId initId bmB C fld fI cc cda q params (exBody fld msg j p0 p1 p2 p3 p4 p5 p6 p7 p8 p9) scope fd) (S : ExScope scope fld) (hc : SuperCall msg j p0 p1 p2 p3 p4) (hsw : NoSwap fld msg j p0 p1 p2 p3 p4 p5 p6 p7 p8 p9)
    (hpar : (params.posonlyargs ++ params.args).head?.map (·.arg) = some ("self" : Str)) (hr : Room 1 X.A) (hb : Binds X.K fd ["self", fld] []) (hs : X.mg "super" = none) (hg : Gl X x) (hm : X.mg x = some (.ref C)) (ha : PA X [e] ta)
    (hdb : (x == ("__debug__" : Str)) = false := by decide) (he : starEach [e] X.env = (false, eval e X.env) :: starEach [] X.env := by rfl) (hpl : (backTo pos (starEach [] X.env)).any (·.1) = false := by rfl) : PMk X (.Call (.Name x p) [e] [] pos) (tMkS C fld ta) := by
  intro pins s σ H Q I h
  refine wpAny_Call_Name_kw (ld_glob I hg hm ?_ hdb)
  refine PySem.W.callWith_K (h₀ := X.base) I.ok.mod.kin F.kC (thn (ha.run pos pins s σ H _ I h) fun us s1 ⟨vs, H1, I1, r1, v, ev, q1⟩ => ⟨I1.kIn, ?_⟩) he hpl
  subst ev
  obtain ⟨u, rfl, ru⟩ := r1.one
  show wpAny _ _ (call (.ref C) [u]) _ _ _
  obtain ⟨hp, g, dr, tk, os⟩ := s1
  obtain ⟨nm, N', qn, bs, bm, hdct, sn, sub, ab, col, dd, k0, k1, k2, k3, k5, hC, hT⟩ := PySem.W.excInit_of I1.kIn F.cls
  have kk : ∀ b o, hp.get? b = some o → ((hp.push (PySem.W.kdv_tup [u])).push (PySem.HandSPX.excO C hp.objs.size)).get? b = some o := fun b o e => Heap.get?_push_of_some _ (Heap.get?_push_of_some _ e)
  have hget : ((hp.push (PySem.W.kdv_tup [u])).push (PySem.HandSPX.excO C hp.objs.size)).get? (hp.objs.size + 1) = some (PySem.HandSPX.excO C hp.objs.size) := by heap_get
  have hz2 : ((hp.push (PySem.W.kdv_tup [u])).push (PySem.HandSPX.excO C hp.objs.size)).objs.size = hp.objs.size + 2 := by rw [Heap.size_push, Heap.size_push]
  have KI : X.K.In hp := I1.kIn
  obtain ⟨mb, hB, hB2⟩ := I1.mod.blt
  have glob : hp.Ns mainGlobals X.mg := I1.mod.glob.keeps I1.bk
  have bl : hp.Ns builtinsNs mb := hB.keeps I1.bk
  have lim : hp.NoLimit := I1.mod.nolimit.keeps I1.bk
  refine wpAny_call (PySem.HandSPX.call_own F.base hT hC (PySem.W.looks_findIn I1.kIn F.ini) (fun self => PySem.W.bind_fn I1.kIn self F.iniT) (show 1 ≤ sizeLine by rw [sizeLine_eq]; decide) ?_)
  generalize (hp.push (PySem.W.kdv_tup [u])).push (PySem.HandSPX.excO C hp.objs.size) = h3 at *
  have hKe : X.K.lookup (hp.objs.size + 1) = none := by
    cases z : X.K.lookup (hp.objs.size + 1) with
    | none => rfl
    | some o => exact absurd (Heap.lt_size (KI _ _ z)) (Nat.not_lt_of_le (Nat.le_succ _))
  refine ex_init F S hc hsw hpar (KI.keeps kk) hKe hget (glob.keeps kk) hs (bl.keeps kk) ((hB2 "super" (by decide)).trans (by decide +kernel)) (lim.keeps kk) (hr.make C [u] []).depth (hb _ [_, u] (KI.keeps kk) rfl) fun h' dx t1 tk' k hdx hne hex hns => ?_
  obtain ⟨G, gk1, gk2⟩ := restrict h' fun b => decide (b ≠ hp.objs.size + 1)
  have gk : ∀ b, b ≠ hp.objs.size + 1 → G.get? b = h'.get? b := fun b hb => gk1 b (decide_eq_true hb)
  have ge : G.get? (hp.objs.size + 1) = none := gk2 _ (by simp)
  have nha : ∀ {b : Addr} {o : Obj}, hp.get? b = some o → b ≠ hp.objs.size + 1 := fun {b o} z e => by
    rw [e] at z
    exact absurd (Heap.lt_size z) (Nat.not_lt_of_le (Nat.le_succ _))
  have hd1 : hp.objs.size ≤ dx := Nat.le_trans (by rw [hz2]; exact Nat.le_add_right _ _) hdx
  have J : Inv X pins σ (upd H1 dx (.xd [(fld, v)])) { ({ heap := hp, gens := g, drawn := dr, toks := tk, os := os } : Shared) with heap := G, toks := tk' } := by
    refine I1.laid (t' := tk') (fun b o z => ?_) hd1 ?_
    · rw [gk b (nha z)]
      exact k b o (nha z) (kk b o z)
    · refine ⟨_, hns.at fun o y => (gk dx hne).trans y, fun f => ?_⟩
      by_cases ef : f = fld
      · subst ef
        simp [List.lookup]
        exact ru
      · have : (f == fld) = false := beq_eq_false_iff_ne.mpr ef
        simp [List.lookup, this, ef]
        trivial
  refine ⟨rfl, hp.objs.size + 1, _, _, _, _, .ref C, some dx, rfl, J, fun b o z => ?_, ge, hex, ⟨rfl, rfl⟩, rfl, rfl, ?_, rfl, I1.bare, raises_own F.exC F.tyC, q1 dx (I1.hok.fresh hd1)⟩
  · by_cases hb' : b = hp.objs.size + 1
    · rw [hb', ge] at z
      cases z
    · exact (gk b hb').symm.trans z
  · rw [upd_ne (Ne.symm hne)]
    exact I1.hok.fresh (Nat.le_succ _)
end
end DL
namespace DL
open PySem PySem.Spec PyProof.Rows L2
/-! raise -/
def one1 (k : D → Prop) (ds : List D) : Prop := match ds with | [d] => k d | _ => False
def sRaise (nm f : Str) (t : ET) : SD := fun E _ η => t E (lend η) fun d => E nm [(f, d)]
section
variable {X : Cx} {e : Expr} {t : ET} {nm f : Str} {C : Addr} {pos : Pos}
theorem ds_raise (hc : X.calm = true) (hm : X.mg nm = some (.ref C)) (mk : PMk X e (tMkS C f (liftA X (aCons t aNil)))) : DS X (.Raise (some e) none pos) (sRaise nm f t) := ⟨fun pins s σ H c O η E z I g h => by
  refine (ps_raise hc g.er mk).run pins s σ H _ I ?_
  refine ⟨c, c.B, lend η, E, one1 fun d => E nm [(f, d)], g.lend, h, fun ds vs H' st rp q => ?_⟩
  match ds, vs, rp, q with
  | [d], [v], .cons r .nil, q =>
    refine ⟨v, rfl, fun dx hdx => ?_⟩
    have sa := Step.alloc (o := .xd [(f, v)]) st.draw hdx
    refine ⟨nm, [(f, d)], dx, [(f, v)], q, hm, rfl, upd_same, rfl, .cons (r.same (same_upd hdx)) .nil, fun a o w e => ?_, sa.draw, fun a hb => ?_⟩
    · exact sa.keep a o w (st.keep a o w (g.keep a o w e))
    · by_cases ea : a = dx
      · rw [ea, upd_same]
        exact nofun
      · rw [upd_ne ea]
        exact (g.step st).hT a (g.hB a hb)⟩
end
/-! defs that may raise -/
def spE (K : PySem.W.Frag) (mg : Str → Option Value) (n : Nat) (wf : FT) : Sp := fun vs H Q E => vs.length = n ∧ ∃ B G cs W R, (∀ a, B a → H a ≠ none) ∧ (∀ a, Wr G a → B a) ∧ DrawOk G H ∧ ArgsOk K B G H vs cs ∧ wf W cs R ∧ (∀ d v H', Step G H H' → Rep K B H' v d → R d → Q v H') ∧
  ∀ cls dd H', ErrG K mg B G H W cls dd H' → E cls dd H'
abbrev FnE (P : Program) (w : World) (K : PySem.W.Frag) (mg : Str → Option Value) (base : Heap) (k : Nat) (f : Addr) (fd : FuncData) (ps : List Str) (wf : FT) : Prop := FnG P w K mg base (L2.CX P w) k f fd ps (spE K mg ps.length wf)
theorem fnE_of {P : Program} {w : World} {K : PySem.W.Frag} {mg : Str → Option Value} {base : Heap} {k : Nat} {f : Addr} {fd : FuncData} {ps N : List Str} {x qual : Str} {st : Stmt} {t : SD} (F : Fun K x qual st f fd) (S : FnScope N ps (defScope st))
    (hbody : ∀ (cdv : Value) (A : Around) (outer : List Env) (s : Shared) (H : Hp) (E : XK), A.guards = some [] → Room k (A.deeper (envOfC qual (defScope st) s.heap.objs.size f cdv)) → DSs (cxOf (L2.CX P w) P w K mg base N qual (defScope st) f cdv A outer s H E) (defBody st) t) :
    FnE P w K mg base (k + 1) f fd ps (bodyD ps.length N.length t) := by
  refine fnG_of F S (fun vs H Q E h => h.1) fun cdv A outer s H vs Q E hg hr h => ?_
  obtain ⟨hl, B, G, cs, W, R, hB, hW, hd, ha, hw, kk, ke⟩ := h
  refine ⟨_, (hbody cdv A outer s H E hg hr).pss, ⟨B, G, H, []⟩, B, _, W, _, ⟨start_good (N := N) hB hW hd ha, ?_⟩, hw.2, fun σ' H' ⟨O, η, g, q⟩ => ?_, fun v H' ⟨d, h1, h2, h3, h4⟩ => kk d v H' ⟨h1, h2⟩ h3 h4, fun σ' H' ⟨O, η, g, q⟩ => q.elim, fun σ' H' ⟨O, η, g, q⟩ => q.elim⟩
  · exact (takes_of rfl rfl rfl rfl).imp fun cls d _ H' w => ke cls d H' w
  · exact kk .none .non H' ⟨g.keep, g.draw⟩ .non q
def dCallE (wf : FT) (ts : CT) : ET := fun E η Q => ts E η fun cs => wf E cs Q
section
variable {X : Cx} {e : Expr} {es : List Expr} {ts : CT} {p pos : Pos} {k : Nat} {f : Addr} {fd : FuncData} {ps : List Str} {wf : FT} {x : Str}
theorem de_callE (F : FnE X.prog X.w X.K X.mg X.base k f fd ps wf) (hn : ∀ W cs R, wf W cs R → cs.length = ps.length) (hgd : X.A.guards = some []) (hr : Room k X.A) (hg : Gl X x) (hm : X.mg x = some (.ref f)) (hk : PySem.W.keepIn X.K (.ref f) = true) (hb : Binds X.K fd ps [])
    (ha : DC X (e :: es) ts) (hdb : (x == ("__debug__" : Str)) = false := by decide) (he : starEach (e :: es) X.env = (false, eval e X.env) :: starEach es X.env := by rfl) (hpl : (backTo pos (starEach es X.env)).any (·.1) = false := by rfl) : DE X (.Call (.Name x p) (e :: es) [] pos) (dCallE wf ts) := ⟨fun pins s σ H c O η E Q I g h => by
  refine thn ((pe_callG (E := fun cls d H' => ErrG X.K X.mg c.B c.G c.H0 E cls d H') F hgd hr hg hm hk hb (passes_call g.er fun _ _ _ _ h => h) ha.pa hdb he hpl).run pins s σ H (fun v H' => ∃ d, Step c.G H H' ∧ Rep X.K O H' v d ∧ Q d) I ?_) fun u s' ⟨v, H', I', r, d, st, rp, q⟩ => ⟨d, v, H', I', r, st, rp, q⟩
  refine ⟨c, O, η, E, _, g, h, fun cs vs H1 s1 r1 q => ⟨(Paired.length r1).trans (hn _ _ _ q), O, c.G, cs, E, Q, (g.step s1).hT, g.wO, s1.draw, r1, q, fun d v H' s r q => ⟨d, s1.trans s, r, q⟩, ?_⟩⟩
  rintro cls dd H' ⟨nm, fs, dx, vs', e1, e2, e3, e4, e5, e6, e7, e8, e9⟩
  exact ⟨nm, fs, dx, vs', e1, e2, e3, e4, e5, e6.weak g.hB, fun a o w e => e7 a o w ((g.step s1).keep a o w e), e8, fun a hb => e9 a (g.hB a hb)⟩⟩
end
end DL

/-! DLe3: try: return e; except C as n: return n.f, or [n.f]. -/
namespace DL
open PySem PySem.Spec PyProof.Rows L2
def tbD (K : PySem.W.Frag) (mg : Str → Option Value) (n : Nat) (t : SD) (W : WX) : TS := fun D σ H => ∃ (c : Ctx) (O : Addr → Prop) (η : EnvD) (E : XP) (z : EndsD), Good K c O η σ H ∧ t E z η ∧ (∀ cls d σ' H', σ'.length = n → ErrG K mg c.B c.G c.H0 E cls d H' → W cls d σ' H') ∧
  (∀ σ' H', (∃ O η, Good K c O η σ' H' ∧ z.nx η) → D.nx σ' H') ∧ (∀ v H', (∃ d, (∀ a o, ¬ Wr c.G a → c.H0 a = some o → H' a = some o) ∧ DrawOk c.G H' ∧ Rep K c.B H' v d ∧ z.rt d) → D.rt v H') ∧
  (∀ σ' H', (∃ O η, Good K c O η σ' H' ∧ z.bk η) → D.bk σ' H') ∧ (∀ σ' H', (∃ O η, Good K c O η σ' H' ∧ z.ct η) → D.ct σ' H')
theorem takes_len {X : Cx} {W : WX} (t : Takes X W) : Takes X (fun cls d σ H => σ.length = X.N.length → W cls d σ H) := fun u s' ⟨a, B, sI, pins, σ, H, cls, d, e, I, nb, up, sky, na, os, ag, w⟩ =>
  t u s' ⟨a, B, sI, pins, σ, H, cls, d, e, I, nb, up, sky, na, os, ag, w I.len⟩
theorem tbD_ok {X : Cx} {body : List Stmt} {t : SD} {pn : List (Addr × Obj)} {xe : Value → Shared → Prop} {W : WX} (h : DSs (X.tr pn xe) body t) (tk : Takes (X.tr pn xe) W) : PSs (X.tr pn xe) body (tbD X.K X.mg X.N.length t W) :=
  ⟨fun pins s σ H D I ⟨c, O, η, E, z, g, ht, er, k1, k2, k3, k4⟩ => h.pss.run pins s σ H D I ⟨c, O, η, E, z, ⟨g, (takes_len tk).imp fun cls d σ' H' w l => er cls d σ' H' l w⟩, ht, fun σ' H' ⟨O', η', g', q⟩ => k1 σ' H' ⟨O', η', g'.toGood, q⟩, fun v H' q => k2 v H' q, fun σ' H' ⟨O', η', g', q⟩ => k3 σ' H' ⟨O', η', g'.toGood, q⟩, fun σ' H' ⟨O', η', g', q⟩ => k4 σ' H' ⟨O', η', g'.toGood, q⟩⟩⟩
/-- the suite's term: return n.f -/
def sTry1 (t : SD) (cn f : Str) (k : D → D) : SD := fun E z η => t (fun nm fs => nm = cn ∧ ∃ d, fs = [(f, d)] ∧ z.rt (k d)) z η
section
variable {X : Cx} {x n f : Str} {C : Addr} {i : Nat} {body : List Stmt} {np pos pos' p1 p2 p3 p4 : Pos} {t : SD} {lj : Nat}
theorem try_core (hs : X.stack = X.env :: X.outer) (hf : X.env.frame = some X.env.locals) (hN : X.N.Nodup) (hi : X.N[i]? = some n) (hln : X.env.kindOf n = some .local) (hg : Gl X x) (hdb : (x == ("__debug__" : Str)) = false) (hm : X.mg x = some (.ref C))
    (hex : PySem.W.exmOne X.K (.ref C) (.ref C) = some true) (hb : ∀ (pn : List (Addr × Obj)) (xe : Value → Shared → Prop), PassesOwn (model X.prog X.w) X.A X.env xe → DSs (X.tr pn xe) body t) {st : Stmt} {ts : Addr → Value → Option Addr → TS} {k : D → D}
    (hsu : ∀ (a : Addr) (oe : Obj) (cls : Value) (d : Option Addr) (pn : List (Addr × Obj)), Zc cls d oe → (∃ vs, oe.data = .fields vs) → PSs (X.suite a ((a, oe) :: pn)) [st] (ts a cls d))
    (hts : ∀ (a dx : Addr) (v : V) (Z : Ends) (σ : L2.St) (H : Hp), i < σ.length → H dx = some (.xd [(f, v)]) → (∀ (u : V) (H' : Hp), (∀ (B : Addr → Prop) (G : Option (Addr × Addr)) (dd : D), (∀ a, B a → H a ≠ none) → DrawOk G H → Rep X.K B H v dd → Step G H H' ∧ Rep X.K B H' u (k dd)) → Z.rt u H') → ts a (.ref C) (some dx) Z (σ.set i (some (.ref a))) H) :
    DS X (.Try body [.ExceptHandler (some (.Name x np)) (some n) [st] pos'] [] [] pos) (sTry1 t x f k) := ⟨fun pins s σ H c O η E z I g h => by
  refine (ps_try_as hs hf hN hi hln ⟨hg, hdb, .inl hm⟩ g.er (tb := tbD X.K X.mg X.N.length t) (fun W pn xe tk po => tbD_ok (hb pn xe po) tk) hsu).run pins s σ H _ I ?_
  refine ⟨c, O, η, _, z, g.toGood, h, ?_, fun σ' H' ⟨O', η', g', q⟩ => ⟨O', η', ⟨g', g.er⟩, q⟩, fun v H' q => q, fun σ' H' ⟨O', η', g', q⟩ => ⟨O', η', ⟨g', g.er⟩, q⟩, fun σ' H' ⟨O', η', g', q⟩ => ⟨O', η', ⟨g', g.er⟩, q⟩⟩
  rintro cls d σ' H' hl ⟨nm, fs, dx, vs, ⟨e1, dd, e2, q⟩, e3, e4, e5, e6, e7, e8, e9, e10⟩
  subst e1
  subst e2
  rw [hm] at e3
  cases e3
  subst e4
  match vs, e6, e7 with
  | [(f', v)], e6, .cons r _ =>
    obtain rfl : f' = f := by simpa using e6
    refine ⟨true, hex, fun _ a na => ?_, fun z => nomatch z⟩
    refine hts a dx v _ σ' H' (by rw [hl]; exact (List.getElem?_eq_some_iff.mp hi).1) e5 fun u H2 hu => ?_
    obtain ⟨st, ru⟩ := hu c.B c.G dd e10 e9 r
    exact ⟨k dd, fun a o w e => st.keep a o w (e8 a o w e), st.draw, ru, q⟩⟩
theorem ds_try1 (hs : X.stack = X.env :: X.outer) (hf : X.env.frame = some X.env.locals) (hN : X.N.Nodup) (T : XfC X.K C) (hno : PySem.W.findIn X.K (.ref C) f = some none) (hex : PySem.W.exmOne X.K (.ref C) (.ref C) = some true) (hg : Gl X x) (hm : X.mg x = some (.ref C))
    (hb : ∀ (pn : List (Addr × Obj)) (xe : Value → Shared → Prop), PassesOwn (model X.prog X.w) X.A X.env xe → DSs (X.tr pn xe) body t) (hi : X.N[i]? = some n := by rfl) (hln : X.env.kindOf n = some .local := by rfl) (hdb : (x == ("__debug__" : Str)) = false := by decide)
    (hd : (n == ("__debug__" : Str)) = false := by decide) (hcd : (n == ("__classdict__" : Str)) = false := by decide) (hab : attributeBase (.Name n p1) f X.env (eval (.Name n p1) X.env) = eval (.Name n p1) X.env := by rfl) :
    DS X (.Try body [.ExceptHandler (some (.Name x np)) (some n) [.Return (some (.Attribute (.Name n p1) f p2)) p3] pos'] [] [] pos) (sTry1 t x f id) := by
  refine try_core hs hf hN hi hln hg hdb hm hex hb (ts := fun a cls d Z σ H => tXf a cls d C f (tVar i) σ H Z.rt) (fun a oe cls d pn hz hfv => ?_) fun a dx v Z σ H hl hx q => ?_
  · exact pss_one (ps_ret (pe_xf T hno hz hfv (pe_var hi (.inl hln) hd hcd) hab))
  · refine ⟨.ref a, List.getElem?_set_self hl, rfl, rfl, dx, _, v, rfl, hx, by simp [List.lookup], q v H fun B G dd hB dr r => ⟨.refl dr, r⟩⟩
theorem ds_try1L (hs : X.stack = X.env :: X.outer) (hf : X.env.frame = some X.env.locals) (hN : X.N.Nodup) (T : XfC X.K C) (hno : PySem.W.findIn X.K (.ref C) f = some none) (hex : PySem.W.exmOne X.K (.ref C) (.ref C) = some true) (hg : Gl X x) (hm : X.mg x = some (.ref C))
    (hb : ∀ (pn : List (Addr × Obj)) (xe : Value → Shared → Prop), PassesOwn (model X.prog X.w) X.A X.env xe → DSs (X.tr pn xe) body t) (hi : X.N[i]? = some n := by rfl) (hln : X.env.kindOf n = some .local := by rfl) (hdb : (x == ("__debug__" : Str)) = false := by decide)
    (hd : (n == ("__debug__" : Str)) = false := by decide) (hcd : (n == ("__classdict__" : Str)) = false := by decide) (hab : attributeBase (.Name n p1) f X.env (eval (.Name n p1) X.env) = eval (.Name n p1) X.env := by rfl)
    (hst : starEach [.Attribute (.Name n p1) f p2] X.env = (false, eval (.Attribute (.Name n p1) f p2) X.env) :: starEach [] X.env := by rfl) :
    DS X (.Try body [.ExceptHandler (some (.Name x np)) (some n) [.Return (some (.List [.Attribute (.Name n p1) f p2] p4)) p3] pos'] [] [] pos) (sTry1 t x f fun d => .list [d]) := by
  refine try_core hs hf hN hi hln hg hdb hm hex hb (ts := fun a cls d Z σ H => tLst (tCons (tXf a cls d C f (tVar i)) tNil) σ H Z.rt) (fun a oe cls d pn hz hfv => ?_) fun a dx v Z σ H hl hx q => ?_
  · exact pss_one (ps_ret (pe_lst (pa_cons (pe_xf T hno hz hfv (pe_var hi (.inl hln) hd hcd) hab) pa_nil hst)))
  · refine ⟨.ref a, List.getElem?_set_self hl, rfl, rfl, dx, _, v, rfl, hx, by simp [List.lookup], (show 1 ≤ sizeLine by rw [sizeLine_eq]; decide), fun p hp => q _ _ fun B G dd hB dr r => ⟨.alloc dr hp, .lst (fun z => hB p z hp) upd_same (.cons (r.same (same_upd hp)) .nil)⟩⟩
end
end DL

/-! DLe4: an exception class of the program, all that is needed of it. -/
namespace DL
open PySem PySem.Spec PyProof.Rows L2
structure ClsIn (P : Program) (K : PySem.W.Frag) (mg : Str → Option Value) (nm fld : Str) : Prop where
  ex : ∃ (C fI cc cda : Addr) (B newId initId : String) (bmB : List Value) (q : Str) (params : Arguments) (scope : Scope) (fd : FuncData) (msg : Str) (j : Nat) (p0 p1 p2 p3 p4 p5 p6 p7 p8 p9 : Pos),
    ExFacts P K B newId initId bmB C fld fI cc cda q params (exBody fld msg j p0 p1 p2 p3 p4 p5 p6 p7 p8 p9) scope fd ∧ ExScope scope fld ∧ SuperCall msg j p0 p1 p2 p3 p4 ∧ NoSwap fld msg j p0 p1 p2 p3 p4 p5 p6 p7 p8 p9 ∧
    (params.posonlyargs ++ params.args).head?.map (·.arg) = some ("self" : Str) ∧ L2.Binds K fd ["self", fld] [] ∧ mg "super" = none ∧ mg nm = some (.ref C) ∧ XfC K C ∧ PySem.W.findIn K (.ref C) fld = some none ∧ PySem.W.exmOne K (.ref C) (.ref C) = some true
/-- what the written part says of the class, as the law's end finds it -/
def exI1 (cd : ClassData) (sl : Array (Option Value)) (C : Addr) (bmB : List Value) (newId : String) : Bool := match cd.mro, sl.toList with
  | .ref C' :: bm, [_, _, _, _, some (.builtin n), _] => C' == C && n == newId && !cd.hasDel && PySem.W.excTail bmB bm
  | _, _ => false
def exO1 (cd : ClassData) (C : Addr) (bmB : List Value) : Bool := match cd.mro with | .ref C' :: bm => C' == C && PySem.W.excTail bmB bm | _ => false
def bmVE : List Value := [.type "ValueError", .type "Exception", .type "BaseException", .type "object"]
def ClsAt (P : Program) (K : PySem.W.Frag) (nm fld : Str) : Prop := ∀ mg : Str → Option Value, (∀ (n : Str) (v : Value), PySem.W.nsIn K mainGlobals n = some (some v) → mg n = some v) → (∀ n : Str, PySem.W.nsIn K mainGlobals n = some none → mg n = none) → ClsIn P K mg nm fld
theorem clsIn_of {P : Program} {K : PySem.W.Frag} {h : Heap} {mg : Str → Option Value} {nm fld : Str} (X : K.In h) (G : h.Ns mainGlobals mg) (c : ClsAt P K nm fld) : ClsIn P K mg nm fld := c mg (fun _ _ e => PySem.W.mg_of X G e) fun _ e => PySem.W.mg_none_of X G e
theorem clsAt {P : Program} {K : PySem.W.Frag} {nm fld msg q f : Str} {C fI cda cc S : Addr} {oc : Value} {od : Option Addr} {osl : Array (Option Value)} {params : Arguments} {scope : Scope} {dV kV doc pm ct : Value} {an : Option Addr} {odc : Option Addr} {sl : Array (Option Value)} {cd cdS : ClassData}
    {bmS : List Value} {ccl : Value} {cdd : Option Addr} {vs : Array Value} {ccs csl ssl : Array (Option Value)} {cl : Value} {cld sod : Option Addr} {soc : Value} {tf : Tok} {j : Nat} {p0 p1 p2 p3 p4 p5 p6 p7 p8 p9 : Pos}
    (a : PySem.W.nsIn K mainGlobals nm = some (some (.ref C))) (lc : K.lookup C = some ⟨.type "type", odc, .cls cd, sl⟩) (i : PySem.W.findIn K (.ref C) "__init__" = some (some (.ref fI)))
    (l : K.lookup fI = some ⟨oc, od, .func (PySem.W.ksFn "__init__" q params (exBody fld msg j p0 p1 p2 p3 p4 p5 p6 p7 p8 p9) scope dV kV doc pm an (.ref cda) ct cc), osl⟩) (lcode : K.lookup cda = some ⟨ccl, cdd, .fields vs, ccs⟩) (lcell : K.lookup cc = some ⟨cl, cld, .cell (some (.ref C)), csl⟩)
    (lS : K.lookup S = some ⟨soc, sod, .cls cdS, ssl⟩) (fS : PySem.W.findIn K (.ref S) "__init__" = some (some (.builtin "ValueError.__init__"))) (hm : cd.mro = .ref C :: .ref S :: bmS) (hm2 : cdS.mro = .ref S :: bmS)
    (co : PySem.W.codeIn K (.ref cda) q = true) (t : PySem.W.typeIn K (.ref fI) = some (.type "function")) (c1 : exI1 cd sl C bmVE "ValueError.__new__" = true) (c2 : exO1 cd C bmVE = true) (c3 : PySem.W.mroIn K C (.ref C) = some true) (c5 : PySem.W.subIn K (.ref C) (.type "ValueError") = some true)
    (c6 : PySem.W.nsIn K cStatics "thirdparty.any" = some none) (c7 : PySem.W.findIn K (.ref C) "__setattr__" = some (some (.builtin "object.__setattr__"))) (c8 : PySem.W.takerIn K C fld = some none) (c9 : PySem.W.hasDictIn K C = true) (c10 : PySem.W.keepIn K (.ref C) = true)
    (c11 : PySem.W.findIn K (.ref C) "__getattribute__" = some (some (.builtin "BaseException.__getattribute__"))) (c12 : PySem.W.findIn K (.ref C) "__getattr__" = some none) (c14 : PySem.W.findIn K (.ref C) fld = some none) (c15 : PySem.W.nsIn K mainGlobals "super" = some none)
    (c16 : PySem.W.subIn K (.ref C) (.type "BaseException") = some true) (c17 : PySem.W.typeIn K (.ref C) = some (.type "type")) (c18 : PySem.W.subIn K (.ref C) (.ref C) = some true)
    (hv : vs[2]? = some (.str f tf)) (hfile : ((P.main.file : Str) == f) = true) (ns : (P.main.scope.names.lookup ("super" : Str)).isSome = false) (Sc : ExScope scope fld) (h1 : SuperCall msg j p0 p1 p2 p3 p4) (h2 : NoSwap fld msg j p0 p1 p2 p3 p4 p5 p6 p7 p8 p9)
    (h3 : (params.posonlyargs ++ params.args).head?.map (·.arg) = some ("self" : Str))
    (h4 : ∀ us : List Value, us.length = 2 → bindArgs (PySem.W.ksFn "__init__" q params (exBody fld msg j p0 p1 p2 p3 p4 p5 p6 p7 p8 p9) scope dV kV doc pm an (.ref cda) ct cc) ⟨us, []⟩ = pure ((["self", fld] : List Str).zip us)) : ClsAt P K nm fld := fun mg hg hn => by
  have hcls : PySem.W.clsIn K C = some cd := by unfold PySem.W.clsIn; rw [lc]
  have hsup : PySem.W.ks_superIn K C C "__init__" = some (some (.builtin "ValueError.__init__")) := by
    unfold PySem.W.findIn at fS
    simp only [lS] at fS
    unfold PySem.W.ks_superIn
    rw [hcls]
    show PySem.W.alongIn K "__init__" ((cd.mro.dropWhile (· != .ref C)).drop 1) = _
    rw [hm]
    rw [hm2] at fS
    simpa [List.dropWhile] using fS
  have hex : PySem.W.exmOne K (.ref C) (.ref C) = some true := by
    unfold PySem.W.exmOne PySem.W.kitCls
    rw [c16]
    show (if (some true == some true) = true then (if ((PySem.W.clsIn K C).isSome && PySem.W.typeIn K (.ref C) == some (.type "type")) = true then PySem.W.subIn K (.ref C) (.ref C) else none) else none) = _
    rw [hcls, c17, c18]
    rfl
  refine ⟨⟨C, fI, cc, cda, "ValueError", "ValueError.__new__", "ValueError.__init__", bmVE, q, params, scope, _, msg, j, p0, p1, p2, p3, p4, p5, p6, p7, p8, p9, ?_, Sc, h1, h2, h3, Binds.all fun us hl => h4 us hl, hn _ c15, hg _ _ a, ⟨c11, c12, c16, c9⟩, c14, hex⟩⟩
  have k1 : PySem.W.excInitIn K C bmVE "ValueError.__new__" = true := by
    unfold PySem.W.excInitIn
    rw [lc]
    exact c1
  have k2 : PySem.W.excOver K C bmVE = true := by
    unfold PySem.W.excOver
    rw [hcls]
    exact c2
  exact ⟨PySem.F.excBase_ValueError, PySem.W.kxs_ValueError, PySem.F.store_ValueError, k1, k2, i, t, ⟨oc, od, osl, l⟩, ⟨dV, kV, doc, pm, an, ct, rfl⟩, co, ⟨ccl, cdd, vs, ccs, f, tf, lcode, hv, hfile⟩, ⟨cl, cld, csl, lcell⟩, c3, hsup, c5, c6, ns, c7, c8, c9, c16, c17, c10⟩
section
variable {X : Cx} {nm fld : Str} {e : Expr} {t : ET} {p pos pos' : Pos}
theorem ds_raiseC (Cl : ClsIn X.prog X.K X.mg nm fld) (hc : X.calm = true) (hr : Room 1 X.A) (hg : Gl X nm) (he : DE X e t) (hdb : (nm == ("__debug__" : Str)) = false := by decide) (hst : starEach [e] X.env = (false, eval e X.env) :: starEach [] X.env := by rfl) (hpl : (backTo pos (starEach [] X.env)).any (·.1) = false := by rfl) :
    DS X (.Raise (some (.Call (.Name nm p) [e] [] pos)) none pos') (sRaise nm fld t) := by
  obtain ⟨C, fI, cc, cda, B, newId, initId, bmB, q, params, scope, fd, msg, j, p0, p1, p2, p3, p4, p5, p6, p7, p8, p9, F, S, h1, h2, h3, h4, h5, h6, T, h7, h8⟩ := Cl.ex
  exact ds_raise hc h6 (pmk_super F S h1 h2 h3 hr h4 h5 hg h6 (da_cons he da_nil hst).pa hdb hst hpl)
end
section
variable {X : Cx} {x n f : Str} {i : Nat} {body : List Stmt} {np pos pos' p1 p2 p3 p4 : Pos} {t : SD}
theorem ds_try1C (Cl : ClsIn X.prog X.K X.mg x f) (hs : X.stack = X.env :: X.outer) (hf : X.env.frame = some X.env.locals) (hN : X.N.Nodup) (hg : Gl X x)
    (hb : ∀ (pn : List (Addr × Obj)) (xe : Value → Shared → Prop), PassesOwn (model X.prog X.w) X.A X.env xe → DSs (X.tr pn xe) body t) (hi : X.N[i]? = some n := by rfl) (hln : X.env.kindOf n = some .local := by rfl) (hdb : (x == ("__debug__" : Str)) = false := by decide)
    (hd : (n == ("__debug__" : Str)) = false := by decide) (hcd : (n == ("__classdict__" : Str)) = false := by decide) (hab : attributeBase (.Name n p1) f X.env (eval (.Name n p1) X.env) = eval (.Name n p1) X.env := by rfl) :
    DS X (.Try body [.ExceptHandler (some (.Name x np)) (some n) [.Return (some (.Attribute (.Name n p1) f p2)) p3] pos'] [] [] pos) (sTry1 t x f id) := by
  obtain ⟨C, fI, cc, cda, B, newId, initId, bmB, q, params, scope, fd, msg, j, _, _, _, _, _, _, _, _, _, _, F, S, h1, h2, h3, h4, h5, h6, T, h7, h8⟩ := Cl.ex
  exact ds_try1 hs hf hN T h7 h8 hg h6 hb hi hln hdb hd hcd hab
theorem ds_try1LC (Cl : ClsIn X.prog X.K X.mg x f) (hs : X.stack = X.env :: X.outer) (hf : X.env.frame = some X.env.locals) (hN : X.N.Nodup) (hg : Gl X x)
    (hb : ∀ (pn : List (Addr × Obj)) (xe : Value → Shared → Prop), PassesOwn (model X.prog X.w) X.A X.env xe → DSs (X.tr pn xe) body t) (hi : X.N[i]? = some n := by rfl) (hln : X.env.kindOf n = some .local := by rfl) (hdb : (x == ("__debug__" : Str)) = false := by decide)
    (hd : (n == ("__debug__" : Str)) = false := by decide) (hcd : (n == ("__classdict__" : Str)) = false := by decide) (hab : attributeBase (.Name n p1) f X.env (eval (.Name n p1) X.env) = eval (.Name n p1) X.env := by rfl)
    (hst : starEach [.Attribute (.Name n p1) f p2] X.env = (false, eval (.Attribute (.Name n p1) f p2) X.env) :: starEach [] X.env := by rfl) :
    DS X (.Try body [.ExceptHandler (some (.Name x np)) (some n) [.Return (some (.List [.Attribute (.Name n p1) f p2] p4)) p3] pos'] [] [] pos) (sTry1 t x f fun d => .list [d]) := by
  obtain ⟨C, fI, cc, cda, B, newId, initId, bmB, q, params, scope, fd, msg, j, _, _, _, _, _, _, _, _, _, _, F, S, h1, h2, h3, h4, h5, h6, T, h7, h8⟩ := Cl.ex
  exact ds_try1L hs hf hN T h7 h8 hg h6 hb hi hln hdb hd hcd hab hst
end
end DL

/-! DLe5: defs that may raise, as the printed walk names them. -/
namespace DL
open PySem PySem.Spec PyProof.Rows L2
structure HasE (P : Program) (w : World) (K : PySem.W.Frag) (mg : Str → Option Value) (base : Heap) (x : Str) (k : Nat) (ps : List Str) (wf : FT) : Prop where
  ex : ∃ f fd, mg x = some (.ref f) ∧ PySem.W.keepIn K (.ref f) = true ∧ L2.Binds K fd ps [] ∧ FnE P w K mg base k f fd ps wf
  len : ∀ W cs R, wf W cs R → cs.length = ps.length
theorem hasE_of {P : Program} {w : World} {K : PySem.W.Frag} {mg : Str → Option Value} {base : Heap} {k : Nat} {x : Str} {st : Stmt} {ps N : List Str} {t : SD} (Df : DefIn K mg x st ps) (S : FnScope N ps (defScope st))
    (hbody : ∀ (f : Addr) (cdv : Value) (A : Around) (outer : List Env) (s : Shared) (H : Hp) (E : XK), A.guards = some [] → Room k (A.deeper (envOfC x (defScope st) s.heap.objs.size f cdv)) → PassesOwn (model P w) (A.deeper (envOfC x (defScope st) s.heap.objs.size f cdv)) (cxOf (L2.CX P w) P w K mg base N x (defScope st) f cdv A outer s H E).env (cxOf (L2.CX P w) P w K mg base N x (defScope st) f cdv A outer s H E).xe → DSs (cxOf (L2.CX P w) P w K mg base N x (defScope st) f cdv A outer s H E) (defBody st) t) :
    HasE P w K mg base x (k + 1) ps (bodyD ps.length N.length t) := by
  obtain ⟨f, fd, F, hm, hb⟩ := Df.ex
  exact ⟨⟨f, fd, hm, F.kp, hb, fnE_of F S fun cdv A outer s H E hg hr => hbody f cdv A outer s H E hg hr (passes_of (X := cxOf (L2.CX P w) P w K mg base N x (defScope st) f cdv A outer s H E) rfl)⟩, fun _ _ _ h => h.1⟩
section
variable {X : Cx} {e : Expr} {es : List Expr} {ts : CT} {pos p : Pos} {k j : Nat} {ps : List Str} {wf : FT} {x : Str}
theorem de_e (F : HasE X.prog X.w X.K X.mg X.base x j ps wf) (hgd : X.A.guards = some []) (hr : Room k X.A) (ha : DC X (e :: es) ts) (hj : j ≤ k := by decide) (hg : Gl X x := by rfl) (hdb : (x == ("__debug__" : Str)) = false := by decide) (he : starEach (e :: es) X.env = (false, eval e X.env) :: starEach es X.env := by rfl)
    (hpl : (backTo pos (starEach es X.env)).any (·.1) = false := by rfl) : DE X (.Call (.Name x p) (e :: es) [] pos) (dCallE wf ts) := by
  obtain ⟨f, fd, hm, hk, hb, G⟩ := F.ex
  exact de_callE G F.len hgd (hr.mono hj) hg hm hk hb ha hdb he hpl
end
end DL

/-! DL25: list.insert on an own list. -/
namespace DL
open PySem PySem.Spec PyProof.Rows L2
section
variable {X : Cx} {e1 e2 : Expr} {pos p apos npos : Pos} {t1 t2 : ET}
def sIns (i : Nat) (t1 t2 : ET) : SD := fun E z η => onOwn η[i]? fun ds => t1 E (lend η) fun d1 => onInt d1 fun k => t2 E η fun d2 => (0 ≤ k ∧ k < 2 ^ 63 ∧ ds.length < sizeLine) ∧ z.nx (η.set i (.own (ds.take k.toNat ++ [d2] ++ ds.drop k.toNat)))
theorem ds_ins (i : Nat) {x : Str} (he1 : DE X e1 t1) (he2 : DE X e2 t2) (hN : X.N[i]? = some x := by rfl) (hv : Vis X.env.scope x := by first | exact Or.inl rfl | exact Or.inr (Or.inl rfl) | exact Or.inr (Or.inr rfl)) (hd : (x == ("__debug__" : Str)) = false := by decide) (hcd : (x == ("__classdict__" : Str)) = false := by decide)
    (hline : (apos.endLine == p.line) = true := by rfl) (hs : starEach [e1, e2] X.env = (false, eval e1 X.env) :: starEach [e2] X.env := by rfl) (hs2 : starEach [e2] X.env = (false, eval e2 X.env) :: starEach [] X.env := by rfl) (hfew : ((backTo p (starEach [e1, e2] X.env)).all (fun x => !x.1) && (backToKw p (keywordEach [] X.env)).all (fun x => x.1.isSome) && decide ([e1, e2].length + ([] : List Keyword).length + (if ([] : List Keyword).isEmpty then 0 else 1) < 30)) = true := by rfl)
    (hpl : (backTo p (starEach [e2] X.env)).any (·.1) = false := by rfl) (hsw : swapsWith (.Call (.Attribute (.Name x npos) "insert" apos) [e1, e2] [] p) none pos.line X.env = pure false := by rfl) : DS X (.Expr (.Call (.Attribute (.Name x npos) "insert" apos) [e1, e2] [] p) pos) (sIns i t1 t2) := by
  refine .of (ps_expr (pe_bm PySem.F.plainAttrs_list PySem.F.slot_list_insert PySem.F.type_list_insert mt_insert (pe_var hN hv hd hcd) (pa_cons he1.pe (pa_cons he2.pe pa_nil hs2) hs) (by rfl) hfew hline hs hpl) hsw) fun σ H c O η E z g h => ?_
  obtain ⟨ds, hi, h⟩ := onOwn_out h
  obtain ⟨a, xs, ea, ha, _⟩ := own_out g.toGood hi
  refine ⟨.ref a, ea, .inl ⟨rfl, xs, .of ha⟩, c, c.B, lend η, E, _, g.lend, h, fun d1 v1 H1 s1 r1 q1 => ?_⟩
  cases r1 with
  | int k =>
    refine ⟨c, O, η, E, _, g.step s1, q1, fun d2 v2 H2 s2 r2 q2 => ?_⟩
    obtain ⟨ys, hy, ry⟩ := own_after g.toGood (s1.trans s2) hi ea
    obtain ⟨⟨k0, k1, k2⟩, q2⟩ := q2
    refine ⟨a, ys, k, v2, rfl, rfl, hy, by rw [ry.length]; exact k2, k0, k1, ?_⟩
    exact ⟨O, _, (g.step (s1.trans s2)).grown hi ea (((ry.take _).append (.cons r2 .nil)).append (ry.drop _)), q2⟩
  | _ => exact q1.elim
/-! x[e1] = e2 on an own list -/
def sPut (i : Nat) (t1 t2 : ET) : SD := fun E z η => onOwn η[i]? fun ds => t2 E η fun d2 => t1 E (lend η) fun d1 => onInt d1 fun k => ∃ j, ixN ds.length k = some j ∧ z.nx (η.set i (.own (ds.set j d2)))
theorem RepAll.set {K : PySem.W.Frag} {O : Addr → Prop} {H : Hp} : ∀ {vs : List V} {ds : List D} (j : Nat) {v : V} {d : D}, RepAll K O H vs ds → Rep K O H v d → RepAll K O H (vs.set j v) (ds.set j d)
  | _, _, _, _, _, .nil, _ => .nil
  | _, _, 0, _, _, .cons _ t, r => .cons r t
  | _, _, j + 1, _, _, .cons r0 t, r => .cons r0 (RepAll.set j t r)
theorem ds_put (i : Nat) {x : Str} {ip : Pos} (he1 : DE X e1 t1) (he2 : DE X e2 t2) (hN : X.N[i]? = some x := by rfl) (hv : Vis X.env.scope x := by first | exact Or.inl rfl | exact Or.inr (Or.inl rfl) | exact Or.inr (Or.inr rfl)) (hd : (x == ("__debug__" : Str)) = false := by decide) (hcd : (x == ("__classdict__" : Str)) = false := by decide)
    (ha : ∀ v, assign (.Subscript (.Name x npos) e1 ip) X.env v = (do
      let ov ← holding [v] (eval (.Name x npos) X.env)
      let iv ← holding [v, ov] (eval e1 X.env)
      standAt ip
      holding [v, ov, iv] (setItem ov iv v)
      release [v, ov, iv] []) := by intro _; rfl)
    (hs : swapsWithSole [.Subscript (.Name x npos) e1 ip] e2 pos.line X.env = pure false := by rfl) (hw : swappedStores [.Subscript (.Name x npos) e1 ip] e2 X.env = pure none := by rfl) (h1 : (assignEach [.Subscript (.Name x npos) e1 ip] X.env).map (·.2) = [assign (.Subscript (.Name x npos) e1 ip) X.env] := by rfl) :
    DS X (.Assign [.Subscript (.Name x npos) e1 ip] e2 pos) (sPut i t1 t2) := by
  refine .of (ps_asg he2.pe (pg_sub (pe_var hN hv hd hcd) he1.pe set_list ha) hs hw h1) fun σ H c O η E z g h => ?_
  obtain ⟨ds, hi, h⟩ := onOwn_out h
  obtain ⟨a, xs, ea, ha', _⟩ := own_out g.toGood hi
  refine ⟨c, O, η, E, _, g, h, fun d2 v2 H1 s1 r2 q1 => ?_⟩
  refine ⟨.ref a, ea, c, c.B, lend η, E, _, (g.step s1).lend, q1, fun d1 v1 H2 s2 r1 q2 => ?_⟩
  cases r1 with
  | int k =>
    obtain ⟨j, hj, q2⟩ := q2
    obtain ⟨ys, hy, ry⟩ := own_after g.toGood (s1.trans s2) hi ea
    exact ⟨a, ys, k, j, rfl, rfl, hy, by rw [ry.length]; exact hj, O, _, (g.step (s1.trans s2)).grown hi ea (RepAll.set j ry (s2.rep s1.draw g.wO r2)), q2⟩
  | _ => exact q2.elim
end
end DL

/-! DL26: {} . -/
namespace DL
open PySem PySem.Spec PyProof.Rows L2
def dDict0 : ET := fun _ _ Q => Q (.dict [])
def tDict0 : TE := fun _ H Q => ∀ p, H p = none → (p == sysModules) = false → Q (.ref p) (upd H p (dictO p #[] 0))
section
variable {X : Cx} {pos : Pos}
theorem pe_dict00 : PE X (.Dict [] [] pos) tDict0 := ⟨fun pins s σ H Q I h => by
  refine wpAny_Dict_empty ?_
  have hm : (s.heap.objs.size == sysModules) = false := beq_eq_false_iff_ne.mpr (Nat.ne_of_gt I.big)
  exact ⟨.ref s.heap.objs.size, upd H s.heap.objs.size (dictO s.heap.objs.size #[] 0), I.laid (t' := s.toks) (fun b o e => Heap.get?_push_of_some _ e) (Nat.le_refl _) (dictO_ok ⟨_, Heap.get?_push_size _ rfl, ⟨rfl, rfl, rfl⟩, rfl⟩), rfl, h _ (I.hok.fresh (Nat.le_refl _)) hm⟩⟩
theorem de_dict0 : DE X (.Dict [] [] pos) dDict0 := .of pe_dict00 fun σ H c O η E Q g h => fun p hp hm =>
  ⟨.dict [], .alloc g.draw hp, .dct (fun o => g.hT p o hp) upd_same hm ⟨⟨[], [], .nil, .nil, rfl⟩, fun p hp => (nomatch hp), .nil, Nat.zero_le _⟩ .nil .nil, h⟩
end
end DL

/-! DL27: is True, is not True. -/
namespace DL
open PySem PySem.Spec PyProof.Rows L2
def oIsB (neg : Bool) : OpD
  | .bool a, .bool b, Q => Q (.bool (decide (a = b) != neg))
  | _, _, _ => False
theorem x_isB {a b : Bool} {neg : Bool} {QD : D → Prop} : oIsB neg (.bool a) (.bool b) QD = QD (.bool (decide (a = b) != neg)) := id rfl
section
variable {X : Cx}
theorem cm_isB : CmpR X .Is (oIsB false) := by
  refine ⟨_, op_isBl, ?_⟩
  intro G O H x y dx dy Q R B rx ry h k
  cases rx <;> cases ry <;> first | exact h.elim | (rw [x_isB, Bool.bne_false] at h; exact ⟨_, _, rfl, rfl, way_here B k (.bl _) h⟩)
theorem cm_isnotB : CmpR X .IsNot (oIsB true) := by
  refine ⟨_, op_notBl, ?_⟩
  intro G O H x y dx dy Q R B rx ry h k
  cases rx <;> cases ry <;> first | exact h.elim | (rw [x_isB, Bool.bne_true] at h; exact ⟨_, _, rfl, rfl, way_here B k (.bl _) h⟩)
end
end DL

/-! DL28: repr of data with dicts in it. -/
namespace DL
open PySem PySem.Spec PyProof.Rows L2
theorem ents_maps : ∀ {kvs : List (D × D)} {us xs : List Value}, us.length = kvs.length → xs.length = kvs.length → (entsOf kvs us xs).map (·.key) = us ∧ (entsOf kvs us xs).map (·.val) = xs
  | [], [], [], _, _ => ⟨rfl, rfl⟩
  | p :: kvs, u :: us, x :: xs, h1, h2 => by
    have ih := ents_maps (kvs := kvs) (us := us) (xs := xs) (by simpa using h1) (by simpa using h2)
    exact ⟨by rw [entsOf, List.map_cons, ih.1], by rw [entsOf, List.map_cons, ih.2]⟩
  | [], _ :: _, _, h, _ => by cases h
  | [], [], _ :: _, _, h => by cases h
  | _ :: _, [], _, h, _ => by cases h
  | _ :: _, _ :: _, [], _, h => by cases h
section
variable {X : Cx} {pins : List (Addr × Obj)} {σ : L2.St} {H : Hp} {s : Shared} {O : Addr → Prop}
mutual
/-- what a value reads as, in the heap; the interpreter's own dict is none of it -/
theorem Rep.reads (I : Inv X pins σ H s) (hm : ∃ o, H sysModules = some (.frz o (.own 0))) : ∀ {d : D} {v : V}, Rep X.K O H v d → ∀ u, RelV v u → ∃ as, Reads s.heap u d as ∧ sysModules ∉ as
  | _, _, .non, u, r => by cases r; exact ⟨_, Reads.none, by simp⟩
  | _, _, .bl b, u, r => by cases r; exact ⟨_, Reads.bool b, by simp⟩
  | _, _, .int i, u, r => by obtain ⟨t, rfl⟩ := r; exact ⟨_, Reads.int i t, by simp⟩
  | _, _, .str x, u, r => by obtain ⟨t, rfl⟩ := r; exact ⟨_, Reads.str x t, by simp⟩
  | _, _, .lst (a := a) o h rr, u, r => by
    cases r
    obtain ⟨its, rv, ⟨ob, n, ho, hc, _, hd⟩, _⟩ := I.list (.of h)
    obtain ⟨as, hr, nm⟩ := RepAll.reads I hm rr its rv
    refine ⟨_, Reads.list ho hc hd hr, fun z => ?_⟩
    rcases List.mem_cons.mp z with z | z
    · obtain ⟨q, e⟩ := hm
      rw [z, h] at e
      cases e
    · exact nm z
  | _, _, .tup h rr, u, r => by
    cases r
    obtain ⟨its, rv, ⟨ob, ho, hc, n, hd⟩, _⟩ := I.tuple h.sq
    obtain ⟨as, hr, nm⟩ := RepAll.reads I hm rr its rv
    exact ⟨_, Reads.tuple ho hc hd hr, nm⟩
  | _, _, .dct (a := a) (es := es) (kvs := kvs) o h hne ok rk rx, u, r => by
    cases r
    obtain ⟨⟨ob, ho, hx, hd⟩, _, _⟩ := I.hok a _ h
    obtain ⟨us, xs, vk, vx, ee⟩ := ok.ents
    have lk : us.length = kvs.length := by rw [← vk.length, rk.length, List.length_map]
    have lx : xs.length = kvs.length := by rw [← vx.length, rx.length, List.length_map]
    obtain ⟨m1, m2⟩ := ents_maps lk lx
    obtain ⟨as, hr, n1⟩ := RepAll.reads I hm rk us vk
    obtain ⟨bs, hr2, n2⟩ := RepAll.reads I hm rx xs vx
    refine ⟨a :: as ++ bs, Reads.dict ho hx.1 hd (by rw [ee, m1]; exact hr) (by rw [ee, m2]; exact hr2), fun z => ?_⟩
    rcases List.mem_append.mp z with z | z
    · rcases List.mem_cons.mp z with z | z
      · exact absurd z.symm (beq_eq_false_iff_ne.mp hne)
      · exact n1 z
    · exact n2 z
theorem RepAll.reads (I : Inv X pins σ H s) (hm : ∃ o, H sysModules = some (.frz o (.own 0))) : ∀ {ds : List D} {vs : List V}, RepAll X.K O H vs ds → ∀ us, Vals vs us → ∃ as, ReadsAll s.heap us ds as ∧ sysModules ∉ as
  | _, _, .nil, us, r => by cases r; exact ⟨_, ReadsAll.nil, by simp⟩
  | _, _, .cons h t, us, r => by
    cases r with
    | cons r1 r2 =>
      obtain ⟨as, q1, n1⟩ := Rep.reads I hm h _ r1
      obtain ⟨bs, q2, n2⟩ := RepAll.reads I hm t _ r2
      exact ⟨_, ReadsAll.cons q1 q2, fun z => (List.mem_append.mp z).elim n1 n2⟩
end
end
section
variable {X : Cx}
theorem cr_reprR (hg : X.A.guards = some []) (hu : X.A.units + 65 < cLine) : CallR X (.builtin "repr") (fun xs H Q => ∃ x d O, xs = [x] ∧ Rep X.K O H x d ∧ (∃ o, H sysModules = some (.frz o (.own 0))) ∧ reprOk d ∧ Q (.str d.shown) H) := by
  intro pins s σ H xs us Q I r h
  obtain ⟨x, d, O, rfl, hd, hm, ⟨h1, h2, h3⟩, q⟩ := h
  cases r with
  | cons r1 r2 =>
    cases r2
    obtain ⟨as, rd, nm⟩ := hd.reads I hm _ r1
    have fin : ∀ h' u tk, (∀ b o, s.heap.get? b = some o → h'.get? b = some o) → EP X pins σ Q (.str d.shown u) { s with heap := h', toks := tk } := fun h' u tk hk => ⟨.str d.shown, H, I.kept hk, ⟨_, rfl⟩, q⟩
    cases hd with
    | lst _ _ _ =>
      cases r1
      exact repr_of_reads' rd h1 (fun _ => nm) hg (by omega) (fun _ _ e => e) fin h2
    | tup _ _ =>
      cases r1
      exact repr_of_reads' rd h1 (fun _ => nm) hg (by omega) (fun _ _ e => e) fin h2
    | dct _ _ _ _ _ _ =>
      cases r1
      exact repr_of_reads' rd h1 (fun _ => nm) hg (by omega) (fun _ _ e => e) fin h2
    | non =>
      cases r1
      exact PySem.P.repr_of_none (by simpa [PyData.shown] using fin s.heap s.toks (s.toks + 1) fun _ _ e => e)
    | bl b =>
      cases r1
      refine PySem.P.repr_of_bool ?_
      have := fin s.heap s.toks (s.toks + 1) fun _ _ e => e
      simpa [PyData.shown] using this
    | int i =>
      obtain ⟨t, rfl⟩ := r1
      refine PySem.P.repr_of_int (by simpa [PyData.showable] using h1) ?_
      simpa [PyData.shown] using fin s.heap s.toks (s.toks + 1) fun _ _ e => e
    | str x =>
      obtain ⟨t, rfl⟩ := r1
      refine PySem.P.repr_of_str ?_ (by simpa [PyData.shown] using h2)
      simpa [PyData.shown] using fin s.heap s.toks (s.toks + 1) fun _ _ e => e
/-- repr(e), dicts allowed -/
def fReprD : CallD
  | [d], Q => reprOk d ∧ Q (.str d.shown)
  | _, _ => False
theorem de_reprD {e : Expr} {ts : AT} {p pos : Pos} (hgd : X.A.guards = some []) (hu : X.A.units + 65 < cLine) (hg : Gl X "repr") (hm : X.mg "repr" = none) (ha : DA X [e] ts) (he : starEach [e] X.env = (false, eval e X.env) :: starEach [] X.env := by rfl) : DE X (.Call (.Name "repr" p) [e] [] pos) (dCall fReprD ts) := by
  refine de_callB (cr_reprR hgd hu) ?_ hg hm (by decide +kernel) ha (he := he)
  intro G O H xs ds Q R B r h k
  match ds, h with
  | [d], ⟨h2, h⟩ =>
    cases r with
    | cons r1 r2 =>
      cases r2
      exact ⟨_, d, O, rfl, r1, B.draw.2.m, h2, way_here B k (.str _) h⟩
end
end DL

/-! DL29: t == () for any tuple t. -/
namespace DL
open PySem PySem.Spec PyProof.Rows L2
section
variable {X : Cx}
theorem op_eqT0 (hu : X.A.units < cLine) : OpR X (compareOp .Eq) (fun x y H Q => ∃ a b xs, x = .ref a ∧ y = .ref b ∧ SqT X.K H a xs ∧ SqT X.K H b [] ∧ Q (.bl xs.isEmpty) H) := by
  intro pins s σ H x y v u Q I rx ry h
  obtain ⟨a, b, xs, rfl, rfl, ha, hb, q⟩ := h
  cases rx
  cases ry
  obtain ⟨its, r1, ⟨o1, p1, p2, n1, p3⟩, _⟩ := I.tuple ha
  obtain ⟨its2, r2, ⟨o2, p4, p5, n2, p6⟩, _⟩ := I.tuple hb
  cases r2
  refine SeqAt.eq_tupleAt (e := fun _ => true) ⟨o1, p1, p2, n1, p3⟩ ⟨o2, p4, p5, n2, p6⟩ hu (fun j h1 h2 => absurd h2 (by simp)) ⟨.bl xs.isEmpty, H, I, ?_, q⟩
  have l1 := r1.length
  cases xs with
  | nil => cases r1; rfl
  | cons x xs => cases r1 with | cons _ _ => rfl
def oEqT0 : OpD
  | .tuple xs, .tuple [], Q => Q (.bool xs.isEmpty)
  | _, _, _ => False
theorem cm_eqT0 (hu : X.A.units + 65 < cLine) : CmpR X .Eq oEqT0 := by
  refine ⟨_, op_eqT0 (by omega), fun G O H x y dx dy Q R B rx ry h k => ?_⟩
  cases dx with
  | tuple xs =>
    cases dy with
    | tuple ys =>
      cases ys with
      | nil =>
        cases rx with
        | tup h1 r1 =>
          cases ry with
          | tup h2 r2 =>
            cases r2
            refine ⟨_, _, _, rfl, rfl, h1.sq, h2.sq, ?_⟩
            have e : ∀ {vs : List V} {ds : List D}, RepAll X.K O H vs ds → vs.isEmpty = ds.isEmpty := by
              intro vs ds r
              cases r <;> rfl
            rw [e r1]
            exact way_here B k (.bl _) h
      | cons _ _ => exact h.elim
    | _ => exact h.elim
  | _ => exact h.elim
end
end DL

/-! DL30: dict comprehensions whose keys are tuples of ints, nested; sorted of a dict. -/
namespace DL
open PySem PySem.Spec PyProof.Rows L2
/-- d[k] = v -/
def putD (kvs : List (D × D)) (k v : D) : List (D × D) := if kvs.any (fun p => PyData.eqv p.1 k) then kvs.map (fun p => if PyData.eqv p.1 k then (p.1, v) else p) else kvs ++ [(k, v)]
/-- what stands at a dict's address -/
def DictAt (K : PySem.W.Frag) (O : Addr → Prop) (H : Hp) (a : Addr) (kvs : List (D × D)) : Prop := ∃ es ep ks vs, H a = some (dictO a es ep) ∧ DictOk es ks vs kvs ∧ RepAll K O H ks (kvs.map (·.1)) ∧ RepAll K O H vs (kvs.map (·.2))
/-- such an object can be -/
def Real (a : Addr) (es : Array DictEntry) (ep : Nat) : Prop := ∃ (h : Heap) (o : Obj), h.get? a = some o ∧ o.ExactDict ∧ o.data = .dict es ep
theorem Real.ne_code {a : Addr} {es : Array DictEntry} {ep : Nat} (r : Real a es ep) (q : Str) : dictO a es ep ≠ LamX.CodeO a q := fun e => by
  obtain ⟨h, o, h1, h2, h3⟩ := r
  unfold dictO LamX.CodeO at e
  have e2 := congrFun (HO.ext.inj e) h
  obtain ⟨oc, vs, t, e3, e4, _⟩ := Eq.mp e2 ⟨o, h1, h2, h3⟩
  rw [h1] at e3
  cases e3
  rw [h3] at e4
  cases e4
section
variable {K : PySem.W.Frag} {c : Ctx} {O : Addr → Prop} {η : EnvD} {σ : L2.St} {H H1 H' : Hp}
theorem Rep.updX {a : Addr} {o u : HO} (oa : O a) (ha : H a = some o) (nt : ∀ xs, o ≠ .tup xs) {v : V} {d : D} (r : Rep K O H v d) : Rep K O (L2.upd H a u) v d :=
  r.map (fun b zs ob e => ⟨ob, by rw [upd_ne (fun z : b = a => ob (by rw [z]; exact oa))]; exact e⟩) fun b zs e => by
    rw [upd_ne (fun z : b = a => by rw [z, ha] at e; exact nt _ (Option.some.inj e))]; exact e
theorem RepAll.updX {a : Addr} {o u : HO} (oa : O a) (ha : H a = some o) (nt : ∀ xs, o ≠ .tup xs) {v : List V} {d : List D} (r : RepAll K O H v d) : RepAll K O (L2.upd H a u) v d :=
  r.map (fun b zs ob e => ⟨ob, by rw [upd_ne (fun z : b = a => ob (by rw [z]; exact oa))]; exact e⟩) fun b zs e => by
    rw [upd_ne (fun z : b = a => by rw [z, ha] at e; exact nt _ (Option.some.inj e))]; exact e
/-- a dict that no slot holds is written -/
theorem Good.mutX (g : Good K c O η σ H) {a : Addr} {es : Array DictEntry} {ep : Nat} {u : HO} (rl : Real a es ep) (oa : O a) (ha : H a = some (dictO a es ep)) (nw : ¬ Wr c.G a) (h0 : c.H0 a = none) (no : ∀ (i : Nat) (ds : List D), η[i]? = some (.own ds) → σ[i]?.join ≠ some (.ref a)) : Good K c O η σ (upd H a u) := by
  have nt : ∀ xs, dictO a es ep ≠ HO.tup xs := fun xs e => by unfold dictO at e; cases e
  have rp : ∀ {v : V} {d : D}, Rep K O H v d → Rep K O (upd H a u) v d := fun r => r.updX oa ha nt
  have rps : ∀ {v : List V} {d : List D}, RepAll K O H v d → RepAll K O (upd H a u) v d := fun r => r.updX oa ha nt
  refine ⟨g.len, g.hB, g.hW, fun b h => ?_, fun b o w e => ?_, ?_, fun i x h => ?_, g.inj, fun p hp => rp (g.fr p hp)⟩
  · by_cases e : b = a
    · subst e; rw [upd_same]; intro z; cases z
    · rw [upd_ne e]; exact g.hT b h
  · rw [upd_ne (fun z => by rw [z, h0] at e; cases e)]
    exact g.keep b o w e
  · refine ⟨?_, ⟨fun p hp => ?_, ?_⟩⟩
    · have := g.draw.1
      cases hG : c.G with
      | none => trivial
      | some p =>
        obtain ⟨p1, p2⟩ := p
        rw [hG] at this nw
        obtain ⟨n, m, t, ns, e1, x1, x2, e2, x3⟩ := this
        refine ⟨n, m, t, ns, ?_, x1, x2, ?_, x3⟩
        · rw [upd_ne (fun z => nw (.inl ⟨_, rfl, .inl z.symm⟩))]; exact e1
        · rw [upd_ne (fun z => nw (.inl ⟨_, rfl, .inr z.symm⟩))]; exact e2
    · obtain ⟨ps, h1, h2, h3⟩ := g.draw.2.t p hp
      refine ⟨ps, ?_, h2, fun pos cv hc => ?_⟩
      · rw [upd_ne (fun z => nw (.inr ⟨p.2, by rw [← z]; exact hp⟩))]; exact h1
      · obtain ⟨c', e1, e2⟩ := h3 pos cv hc
        refine ⟨c', e1, ?_⟩
        rw [upd_ne (fun z => ?_)]
        · exact e2
        · rw [z, ha] at e2
          exact rl.ne_code _ (Option.some.inj e2)
    · obtain ⟨o, e⟩ := g.draw.2.m
      refine ⟨o, ?_⟩
      rw [upd_ne (fun z => by rw [z, ha] at e; unfold dictO at e; cases e)]
      exact e
  · have q := g.cell i x h
    cases x with
    | un => trivial
    | dat d => obtain ⟨v, e, r⟩ := q; exact ⟨v, e, rp r⟩
    | own ds =>
      obtain ⟨b, zs, e, hb, ob, nb, h0', r⟩ := q
      refine ⟨b, zs, e, ?_, ob, nb, h0', rps r⟩
      rw [upd_ne (fun z : b = a => no i ds h (by rw [← z]; exact e))]
      exact hb
    | drw => exact q
    | obj b o => exact ⟨q.1, fun p hp => (q.2 p hp).imp fun y r => ⟨by rw [upd_ne (fun z : p.1 = a => by have := r.1; rw [z, ha] at this; unfold dictO at this; cases this)]; exact r.1, rp r.2⟩⟩
    | scr ns =>
      obtain ⟨b, e, r⟩ := q
      exact ⟨b, e, r.map fun b' o u x => by rw [upd_ne (fun z : b' = a => by rw [z, ha] at x; unfold dictO at x; cases x)]; exact x⟩
/-- a new thing's address joins -/
theorem Good.moreX (g : Good K c O η σ H) (st : Step c.G H H1) {a : Addr} (h : H a = none) (h1 : H1 a ≠ none) : Good K c (fun b => O b ∨ b = a) η σ H1 := by
  have w1 : ∀ b, Wr c.G b → (O b ∨ b = a) := fun b w => .inl (g.wO b w)
  have rp : ∀ {v : V} {d : D}, Rep K O H v d → Rep K (fun b => O b ∨ b = a) H1 v d := fun r => st.rep g.draw w1 (r.more h)
  have rps : ∀ {v : List V} {d : List D}, RepAll K O H v d → RepAll K (fun b => O b ∨ b = a) H1 v d := fun r => st.repAll g.draw w1 (r.more h)
  have g1 := g.step st
  refine ⟨g.len, fun b hb => .inl (g.hB b hb), g.hW, fun b hb => hb.elim (g1.hT b) (fun z => by rw [z]; exact h1), g1.keep, g1.draw, fun i x hx => ?_, g.inj, fun p hp => rp (g.fr p hp)⟩
  have q := g.cell i x hx
  cases x with
  | un => trivial
  | dat d => obtain ⟨v, e, r⟩ := q; exact ⟨v, e, rp r⟩
  | own ds =>
    obtain ⟨b, zs, e, hb, ob, nb, h0, r⟩ := q
    exact ⟨b, zs, e, st.keep b _ (fun z => nb (g.hW b z)) hb, .inl ob, nb, h0, rps r⟩
  | drw => exact q
  | obj a o => exact ⟨q.1, fun p hp => (q.2 p hp).imp fun y r => ⟨st.keep _ _ (g.draw.xd _ _ r.1) r.1, rp r.2⟩⟩
  | scr ns =>
    obtain ⟨b, e, r⟩ := q
    exact ⟨b, e, r.map fun b' o u x => st.keep b' _ (g.draw.frz b' o u x) x⟩
end
/-! ### a dict's table is written -/
section
variable {X : Cx} {pins : List (Addr × Obj)} {σ : L2.St} {H : Hp} {s : Shared} {O : Addr → Prop}
theorem any_eqv {kvs : List (D × D)} {k : D} (hk : itup k = true) (h : ∀ p ∈ kvs, itup p.1 = true) : (kvs.any fun p => PyData.eqv p.1 k) = true ↔ k ∈ kvs.map (·.1) := by
  rw [List.any_eq_true]
  constructor
  · rintro ⟨p, hp, e⟩
    exact List.mem_map.mpr ⟨p, hp, (eqv_itup _ _ (h p hp) hk).mp e⟩
  · intro z
    obtain ⟨p, hp, e⟩ := List.mem_map.mp z
    exact ⟨p, hp, (eqv_itup _ _ (h p hp) hk).mpr e⟩
theorem putD_keys {kvs : List (D × D)} {k v : D} (hk : itup k = true) (h : ∀ p ∈ kvs, itup p.1 = true) : (k ∈ kvs.map (·.1) ∧ (putD kvs k v).map (·.1) = kvs.map (·.1)) ∨ (k ∉ kvs.map (·.1) ∧ (putD kvs k v).map (·.1) = kvs.map (·.1) ++ [k]) := by
  unfold putD
  by_cases z : (kvs.any fun p => PyData.eqv p.1 k) = true
  · rw [if_pos z, List.map_map]
    refine .inl ⟨(any_eqv hk h).mp z, List.map_congr_left fun p _ => ?_⟩
    show (if PyData.eqv p.1 k = true then (p.1, v) else p).1 = p.1
    split <;> rfl
  · rw [if_neg z, List.map_append]
    exact .inr ⟨fun y => z ((any_eqv hk h).mpr y), rfl⟩
theorem putD_ok {kvs : List (D × D)} {k v : D} (hk : keyOk k = true) (h : ∀ p ∈ kvs, keyOk p.1 = true) : ∀ p ∈ putD kvs k v, keyOk p.1 = true := by
  intro p hp
  have hm : p.1 ∈ (putD kvs k v).map (·.1) := List.mem_map.mpr ⟨p, hp, rfl⟩
  have old : ∀ x ∈ kvs.map (·.1), keyOk x = true := fun x hx => by
    obtain ⟨q, hq, e⟩ := List.mem_map.mp hx
    rw [← e]; exact h q hq
  rcases putD_keys (v := v) (keyOk_out hk).2.1 fun q hq => (keyOk_out (h q hq)).2.1 with ⟨_, e⟩ | ⟨_, e⟩
  · rw [e] at hm; exact old _ hm
  · rw [e] at hm
    rcases List.mem_append.mp hm with z | z
    · exact old _ z
    · rw [List.mem_singleton.mp z]; exact hk
theorem putD_nd {kvs : List (D × D)} {k v : D} (hk : itup k = true) (h : ∀ p ∈ kvs, itup p.1 = true) (nd : (kvs.map (·.1)).Nodup) : ((putD kvs k v).map (·.1)).Nodup := by
  rcases putD_keys (v := v) hk h with ⟨_, e⟩ | ⟨z, e⟩
  · rw [e]; exact nd
  · rw [e, List.nodup_append]
    refine ⟨nd, by simp, fun a ha b hb e => z ?_⟩
    rw [← List.mem_singleton.mp hb, ← e]
    exact ha
theorem putD_len {kvs : List (D × D)} {k v : D} : (putD kvs k v).length ≤ kvs.length + 1 := by
  unfold putD
  split
  · rw [List.length_map]; omega
  · simp
/-- the table behind the store -/
theorem tab_put {K : PySem.W.Frag} {k v : D} {b : Addr} {x : Value} {y yk : V} (hk : itup k = true) (rk : Rep K O H yk k) (ek : yk = .ref b) (rv : RelV y x) (ry : Rep K O H y v) : ∀ {kvs : List (D × D)} {bs : List Addr} {xs : List Value} {vs : List V}, (∀ p ∈ kvs, keyOk p.1 = true) → (kvs.map (·.1)).Nodup → bs.length = kvs.length → Vals vs xs →
    RepAll K O H (bs.map V.ref) (kvs.map (·.1)) → RepAll K O H vs (kvs.map (·.2)) →
    ∃ bs' xs' vs', storedH (tabOf kvs bs xs) (nk k) b x = tabOf (putD kvs k v) bs' xs' ∧ bs'.length = (putD kvs k v).length ∧ Vals vs' xs' ∧ RepAll K O H (bs'.map V.ref) ((putD kvs k v).map (·.1)) ∧ RepAll K O H vs' ((putD kvs k v).map (·.2)) := by
  intro kvs bs xs vs hke nd hl hv r1 r2
  have hi : ∀ p ∈ kvs, itup p.1 = true := fun p hp => (keyOk_out (hke p hp)).2.1
  have hx : xs.length = kvs.length := by
    have a1 := hv.length
    have a2 := r2.length
    rw [List.length_map] at a2
    omega
  by_cases z : k ∈ kvs.map (·.1)
  · -- the key is there
    have ha : (kvs.any fun p => PyData.eqv p.1 k) = true := (any_eqv hk hi).mpr z
    have eput : putD kvs k v = kvs.map (fun p => if PyData.eqv p.1 k then (p.1, v) else p) := if_pos ha
    have ekeys : (putD kvs k v).map (·.1) = kvs.map (·.1) := (putD_keys hk hi).elim (·.2) fun y => absurd z y.1
    rw [eput]
    rw [eput] at ekeys
    have main : ∀ {kvs : List (D × D)} {bs : List Addr} {xs : List Value} {vs : List V}, (∀ p ∈ kvs, itup p.1 = true) → bs.length = kvs.length → Vals vs xs → RepAll K O H vs (kvs.map (·.2)) →
        ∃ xs' vs', (tabOf kvs bs xs).map (putAt (nk k) x) = tabOf (kvs.map (fun p => if PyData.eqv p.1 k then (p.1, v) else p)) bs xs' ∧ Vals vs' xs' ∧ RepAll K O H vs' ((kvs.map (fun p => if PyData.eqv p.1 k then (p.1, v) else p)).map (·.2)) := by
      intro kvs
      induction kvs with
      | nil => intro bs xs vs _ _ hv r; cases r; cases hv; exact ⟨[], [], by simp [tabOf], .nil, .nil⟩
      | cons p kvs ih =>
        intro bs xs vs hi hl hv r
        cases r with
        | cons r1 r2 =>
          cases hv with
          | cons h1 h2 =>
            cases bs with
            | nil => simp at hl
            | cons b0 bs =>
              obtain ⟨xs', vs', e1, e2, e3⟩ := ih (fun q hq => hi q (List.mem_cons_of_mem _ hq)) (by simpa using hl) h2 r2
              by_cases e : PyData.eqv p.1 k = true
              · have ep : p.1 = k := (eqv_itup _ _ (hi p List.mem_cons_self) hk).mp e
                refine ⟨x :: xs', y :: vs', ?_, .cons rv e2, ?_⟩
                · rw [List.map_cons, if_pos e]
                  simp only [tabOf, List.map_cons, e1]
                  unfold putAt
                  simp [ep]
                · rw [List.map_cons, if_pos e, List.map_cons]
                  exact .cons ry e3
              · have en : nk p.1 ≠ nk k := fun z => e ((eqv_itup _ _ (hi p List.mem_cons_self) hk).mpr (nk_inj _ _ (hi p List.mem_cons_self) hk z))
                refine ⟨_ :: xs', _ :: vs', ?_, .cons h1 e2, ?_⟩
                · rw [List.map_cons, if_neg e]
                  simp only [tabOf, List.map_cons, e1]
                  unfold putAt
                  simp [en]
                · rw [List.map_cons, if_neg e, List.map_cons]
                  exact .cons r1 e3
    obtain ⟨xs', vs', e1, e2, e3⟩ := main (bs := bs) hi hl hv r2
    refine ⟨bs, xs', vs', ?_, by rw [List.length_map]; exact hl, e2, by rw [ekeys]; exact r1, e3⟩
    rw [← e1]
    obtain ⟨p, hp, epk⟩ := List.mem_map.mp z
    have hkeys : (tabOf kvs bs xs).map (·.1) = kvs.map fun p => nk p.1 := tab_keys hl.symm hx.symm
    have nd2 : ((tabOf kvs bs xs).map (·.1)).Nodup := by
      rw [hkeys]
      exact nodup_nk hke nd
    have hmem : nk k ∈ (tabOf kvs bs xs).map (·.1) := by
      rw [hkeys]
      exact List.mem_map.mpr ⟨p, hp, by rw [epk]⟩
    obtain ⟨q, hq, eq⟩ := List.mem_map.mp hmem
    obtain ⟨j, hj⟩ := List.getElem?_of_mem hq
    have hj' : (tabOf kvs bs xs)[j]? = some (nk k, q.2) := by rw [hj, ← eq]
    rw [storedH_old (atKey_of_get nd2 hj')]
  · have ha : ¬ (kvs.any fun p => PyData.eqv p.1 k) = true := fun y => z ((any_eqv hk hi).mp y)
    have eput : putD kvs k v = kvs ++ [(k, v)] := if_neg ha
    rw [eput]
    have app : ∀ {kvs : List (D × D)} {bs : List Addr} {xs : List Value}, kvs.length = bs.length → kvs.length = xs.length → tabOf (kvs ++ [(k, v)]) (bs ++ [b]) (xs ++ [x]) = tabOf kvs bs xs ++ [(nk k, b, x)] := by
      intro kvs
      induction kvs with
      | nil =>
        intro bs xs h1 h2
        have b0 : bs = [] := List.length_eq_zero_iff.mp h1.symm
        have x0 : xs = [] := List.length_eq_zero_iff.mp h2.symm
        subst b0
        subst x0
        simp [tabOf]
      | cons p kvs ih =>
        intro bs xs h1 h2
        cases bs with
        | nil => simp at h1
        | cons _ bs => cases xs with
          | nil => simp at h2
          | cons _ xs => simp only [List.cons_append, tabOf]; rw [ih (by simpa using h1) (by simpa using h2)]
    have vapp : ∀ {vs : List V} {xs : List Value}, Vals vs xs → Vals (vs ++ [y]) (xs ++ [x]) := by
      intro vs xs h
      induction h with
      | nil => exact .cons rv .nil
      | cons h1 _ ih => exact .cons h1 ih
    refine ⟨bs ++ [b], xs ++ [x], vs ++ [y], ?_, by simp [hl], vapp hv, ?_, ?_⟩
    · rw [app hl.symm hx.symm]
      refine storedH_new (atKey_none_of_get fun j p e => ?_) _ _
      have hmem : nk k ∈ (tabOf kvs bs xs).map (·.1) := List.mem_map.mpr ⟨_, List.mem_of_getElem? e, rfl⟩
      rw [tab_keys hl.symm hx.symm] at hmem
      obtain ⟨q, hq, e2⟩ := List.mem_map.mp hmem
      exact z (List.mem_map.mpr ⟨q, hq, nk_inj _ _ (hi q hq) hk e2⟩)
    · rw [List.map_append, List.map_append]
      exact r1.append (.cons (by rw [← ek]; exact rk) .nil)
    · rw [List.map_append]
      exact r2.append (.cons ry .nil)
/-- d[k] = v -/
theorem dict_put {E : Value → Shared → Prop} {a : Addr} {kvs : List (D × D)} {k v : D} {yk y : V} {u x : Value} {Q : Unit → Shared → Prop} (I : Inv X pins σ H s) (hu : X.A.units + 65 < cLine) (oa : O a) (h : DictAt X.K O H a kvs) (hk : keyOk k = true) (few : kvs.length < sizeLine) (rk : Rep X.K O H yk k) (ru : RelV yk u) (ry : Rep X.K O H y v) (rx : RelV y x)
    (q : ∀ s' es ep, Inv X pins σ (upd H a (dictO a es ep)) s' → Real a es ep → DictAt X.K O (upd H a (dictO a es ep)) a (putD kvs k v) → Q () s') : wpAny (model X.prog X.w) X.A (dictSet a u x) Q E s := by
  obtain ⟨es, ep, ks, vs, ha, ok, r1, r2⟩ := h
  obtain ⟨b, rfl, hb⟩ := key_is I hk rk
  cases ru
  obtain ⟨bs, xs, rfl, h1, h2, h3, h4, hD⟩ := dict_at I ha ok r1 r2
  have hi : ∀ p ∈ kvs, itup p.1 = true := fun p hp => (keyOk_out (ok.keys p hp)).2.1
  have hki := (keyOk_out hk).2.1
  obtain ⟨bs', xs', vs', e1, e2, e3, e4, e5⟩ := tab_put (b := b) (x := x) hki rk rfl rx ry ok.keys ok.nd h1 h2 r1 r2
  have ltab : (tabOf kvs bs xs).length = kvs.length := tab_len h1.symm h3.symm
  have nt : ∀ xs, dictO a es ep ≠ HO.tup xs := fun xs e => by unfold dictO at e; cases e
  refine wpAny_dictSet_heap (knd := nestedKind X.prog X.w) (by show X.A.units + 8 < cLine; omega) hb hD (fun h' hd' sb => ?_) (by rw [ltab]; omega)
  rw [e1] at hd'
  obtain ⟨o, es2, ep2, g1, g2, g3, g4, g5, g6⟩ := hd'
  have hke : ∀ p ∈ putD kvs k v, keyOk p.1 = true := putD_ok hk ok.keys
  rw [tab_ents _ _ fun p hp => (keyOk_out (hke p hp)).2.1] at g4
  have J := I.write (h' := h') (t' := s.toks + (nestedKind X.prog X.w).draws (nk k)) (x := a) (e := a) (o := dictO a es2 ep2) (by rw [ha]; exact True.intro) (.inl rfl) (fun b u hb e => (sb.2 b hb).trans e) ⟨o, g1⟩ (dictO_ok ⟨o, g1, g2, g3⟩)
  have vr : ∀ bs : List Addr, Vals (bs.map V.ref) (bs.map Value.ref) := fun bs => by
    induction bs with
    | nil => exact .nil
    | cons _ _ ih => exact .cons rfl ih
  refine q _ es2 ep2 J ⟨h', o, g1, g2, g3⟩ ⟨es2, ep2, bs'.map V.ref, vs', upd_same, ⟨⟨bs'.map .ref, xs', vr _, e3, g4⟩, hke, putD_nd hki hi ok.nd, by have := putD_len (kvs := kvs) (k := k) (v := v); omega⟩, e4.updX oa ha nt, e5.updX oa ha nt⟩
end
end DL

/-! DL31: {k: v for ..} as an expression. -/
namespace DL
open PySem PySem.Spec PyProof.Rows L2
section
variable {X : Cx}
/-- the raw reading: D the new dict -/
def tDcT (K : PySem.W.Frag) (wi : TI) (g : TG) (tt : TT) (tk tv : TE) (vs : List Nat) : TE := fun σ H Q => wi σ H fun J H1 => ∀ D, H1 D = none → (D == sysModules) = false → Real D #[] 0 → ∃ W : Nat → Nat → Hp → Prop, (∃ m, W 0 m (upd H1 D (dictO D #[] 0))) ∧ ∀ i m H, W i m H →
  (J.stop i H ∧ Q (.ref D) H) ∨ (J.go i H ∧ ∃ Nx : Hp → Prop, (∀ H', Nx H' → ∃ m', m' < m ∧ W (i + 1) m' H') ∧ ∀ x H', J.yld i H x H' → g x (wipe σ vs) H' fun σ2 H2 => wipe σ2 vs = wipe σ vs ∧ tt σ2 H2 fun b H3 =>
    if b = true then tk σ2 H3 fun y H4 => tv σ2 H4 fun z H5 => ∃ (O : Addr → Prop) (kvs : List (DL.D × DL.D)) (k v : DL.D), Rep K O H5 y k ∧ keyOk k = true ∧ Rep K O H5 z v ∧ O D ∧ DictAt K O H5 D kvs ∧ kvs.length < sizeLine ∧
      ∀ es ep, Real D es ep → DictAt K O (upd H5 D (dictO D es ep)) D (putD kvs k v) → Nx (upd H5 D (dictO D es ep)) else Nx H3)
theorem dcT_core {pins : List (Addr × Obj)} {s : Shared} {σ : L2.St} {H : Hp} {Q : VK} {kx vx tg iter : Expr} {ifs : List Expr} {scope : Scope} {own : List (Str × Nat)} {pos pos' : Pos} {wi : TI} {g : TG} {tt : TT} {tk tv : TE} {use : Option (Value → Sem Unit)} {Qf : Value → Shared → Prop}
    (hc : X.calm = true) (hN : X.N.Nodup) (hu : X.A.units + 65 < cLine) (I : Inv X pins σ H s) (hi : PI X tg iter wi) (ok : BlkOk X.N X.env.scope scope own)
    (hg : ∀ (s : Shared) (H : Hp) (C : Addr) (cl : List (Str × Addr)) (fp : List Addr), PG (X.blk s H scope (compEnvC scope cl C X.env) fp) tg g) (ht : ∀ (s : Shared) (H : Hp) (C : Addr) (cl : List (Str × Addr)) (fp : List Addr), PTs (X.blk s H scope (compEnvC scope cl C X.env) fp) ifs tt)
    (hk : ∀ (s : Shared) (H : Hp) (C : Addr) (cl : List (Str × Addr)) (fp : List Addr), PE (X.blk s H scope (compEnvC scope cl C X.env) fp) kx tk)
    (he : ∀ (s : Shared) (H : Hp) (C : Addr) (cl : List (Str × Addr)) (fp : List Addr), PE (X.blk s H scope (compEnvC scope cl C X.env) fp) vx tv) (hs : ∀ x, foldedSetIterable iter X.env x = pure x)
    (h : tDcT X.K wi g tt tk tv (own.map (·.2)) σ H Q)
    (hRR : ∀ D C s' m H', Inv X pins σ H' s' → Q (.ref D) H' → s'.heap.Ns C m → FpOk X pins H' C → compPost (model X.prog X.w) X.A X.xe use Qf (.ref D) C (.ok .next) s') :
    wpAny (model X.prog X.w) X.A (comprehension (.DictComp kx vx [⟨tg, iter, ifs, 0⟩] scope pos) scope X.env pos' newDict false (eval iter X.env) use) Qf X.xe s := by
  have hfree : ∀ y ∈ scope.names, y.2 = .free → ∃ c, X.env.cells.lookup y.1 = some c := fun y hy e => by
    rcases ok.free y hy e with k | k
    · exact I.ok.has _ (.inl k)
    · exact I.ok.has _ (.inr k)
  refine wpAny_comprehension_free (use := use) rfl hs (closure_ok hfree) ok.kind (fun y hy e => by rw [ok.uniq y hy, e])
    (thn (hi.run pins s σ H _ I h) fun xv s1 hx => thn hx fun itv s2 h2 => ?_)
  obtain ⟨it, fp, tn, J, H2, e, I2, T, st2, f2, q⟩ := h2
  subst e
  refine wpAny_newObj_type (newEnv_comp ?_)
  have hbig : (s2.heap.objs.size == sysModules) = false := beq_eq_false_iff_ne.mpr (Nat.ne_of_gt I2.big)
  have hreal : Real s2.heap.objs.size #[] 0 := ⟨s2.heap.push { cls := .type "dict", data := .dict #[] }, _, Heap.get?_push_size _ rfl, ⟨rfl, rfl, rfl⟩, rfl⟩
  generalize hD : s2.heap.objs.size = D at hbig hreal
  have hDn : H2 D = none := I2.hok.fresh (Nat.le_of_eq hD)
  obtain ⟨W, ⟨m0, w0⟩, turn⟩ := q D hDn hbig hreal
  -- the new dict
  generalize hs3 : ({ s2 with heap := s2.heap.push { cls := .type "dict", data := .dict #[] } } : Shared) = s3
  have I3 : Inv X pins σ (upd H2 D (dictO D #[] 0)) s3 := by
    rw [← hs3]
    refine I2.laid (t' := s2.toks) (fun b o e => Heap.get?_push_of_some _ e) (Nat.le_of_eq hD) ?_
    rw [← hD]
    exact dictO_ok ⟨_, Heap.get?_push_size _ rfl, ⟨rfl, rfl, rfl⟩, rfl⟩
  have h3 : s3.heap = s2.heap.push { cls := .type "dict", data := .dict #[] } := by rw [← hs3]
  have sz : ∀ b ∈ fp, b < s2.heap.objs.size := fun b hb => by
    obtain ⟨o, e, _⟩ := T.obj _ _ st2 b hb
    exact Heap.lt_size e
  have f3 : ∀ b ∈ fp, FpOk X pins (upd H2 D (dictO D #[] 0)) b ∧ b < s3.heap.objs.size := fun b hb => by
    have hlt := sz b hb
    refine ⟨⟨?_, (f2 b hb).2⟩, by rw [h3, Heap.size_push]; exact Nat.lt_succ_of_lt hlt⟩
    rw [upd_ne (by rw [← hD]; exact Nat.ne_of_lt hlt)]
    exact (f2 b hb).1
  have st3 : tn 0 s3.heap := T.keep _ _ _ st2 fun b _ o e => by rw [h3]; exact Heap.get?_push_of_some _ e
  have I4 := block_start I3 ok hN f3
  have pg := hg s3 (upd H2 D (dictO D #[] 0)) s3.heap.objs.size (cellsFrom (s3.heap.objs.size + 1) scope.names (cloFrom X.env.cells scope.names [])) fp
  have pt := ht s3 (upd H2 D (dictO D #[] 0)) s3.heap.objs.size (cellsFrom (s3.heap.objs.size + 1) scope.names (cloFrom X.env.cells scope.names [])) fp
  have pk := hk s3 (upd H2 D (dictO D #[] 0)) s3.heap.objs.size (cellsFrom (s3.heap.objs.size + 1) scope.names (cloFrom X.env.cells scope.names [])) fp
  have pe := he s3 (upd H2 D (dictO D #[] 0)) s3.heap.objs.size (cellsFrom (s3.heap.objs.size + 1) scope.names (cloFrom X.env.cells scope.names [])) fp
  show codeAny _ _ (.compStart (.DictComp kx vx [⟨tg, iter, ifs, 0⟩] scope pos) 0 (.ref it) (.ref D) (compEnvC scope (cellsFrom (s3.heap.objs.size + 1) scope.names (cloFrom X.env.cells scope.names [])) s3.heap.objs.size X.env)) (compPost (model X.prog X.w) X.A X.xe use Qf (.ref D) s3.heap.objs.size) { s3 with heap := pushCells (s3.heap.push { cls := .type "dict", data := .dict #[] }) scope.names }
  have nfp : ∀ b ∈ fp, (upd H2 D (dictO D #[] 0)) b = none := fun b hb => (f3 b hb).1.1
  generalize hce : compEnvC scope (cellsFrom (s3.heap.objs.size + 1) scope.names (cloFrom X.env.cells scope.names [])) s3.heap.objs.size X.env = ce at I4 pg pt pk pe ⊢
  have cL : ce.locals = s3.heap.objs.size := by subst hce; rfl
  generalize hH3 : upd H2 D (dictO D #[] 0) = H3 at I3 I4 pg pt pk pe w0 nfp f3
  generalize hs4 : ({ s3 with heap := pushCells (s3.heap.push { cls := .type "dict", data := .dict #[] }) scope.names } : Shared) = s4 at I4 ⊢
  have st4 : tn 0 s4.heap := T.keep _ _ _ st3 fun b _ o e => by rw [← hs4]; exact pushCells_keeps _ _ _ _ (Heap.get?_push_of_some _ e)
  have stat : ∀ {σ' : L2.St} {H' : Hp} {s' : Shared}, Inv (X.blk s3 H3 scope ce fp) [] σ' H' s' → (∀ b ∈ fp, H' b = none) → ∀ b ∈ fp, FpOk (X.blk s3 H3 scope ce fp) [] H' b := fun {σ' H' s'} I' hn b hb =>
    ⟨hn b hb, (I'.ok.exf b hb).1, I'.ok.exfs b hb, .inl hb, fun x c e => (I'.ok.exf b hb).2 x c e, fun p hp => absurd (show p ∈ ([] : List (Addr × Obj)) ++ [] from hp) (by simp)⟩
  have loop : codeAny (model X.prog X.w) X.A (.compLoop (.DictComp kx vx [⟨tg, iter, ifs, 0⟩] scope pos) 0 (.ref it) (.ref D) ce) (compPost (model X.prog X.w) X.A X.xe use Qf (.ref D) s3.heap.objs.size) s4 := by
    refine compLoop_anyD (fun n s' => ∃ i H', Inv (X.blk s3 H3 scope ce fp) [] (wipe σ (own.map (·.2))) H' s' ∧ tn i s'.heap ∧ (∀ b ∈ fp, H' b = none) ∧ W i n H') ?_ m0 ⟨0, H3, I4, st4, nfp, w0⟩
    rintro n s5 ⟨i, H5, I5, st5, n5, w5⟩
    rcases turn i n H5 w5 with ⟨stop, qq⟩ | ⟨go, Nx, hNx, step⟩
    · have td := T.done (X.blk s3 H3 scope ce fp) rfl rfl rfl hc i [] s5 _ H5 (fun _ _ => False) I5 (stat I5 n5) st5 stop
      refine thnF td fun r s6 ⟨hr, I6⟩ => ?_
      subst hr
      -- back in the def's context
      have I7 : Inv X pins σ H5 s6 := I3.call' (ch := fp) I6.os I6.base I6.hok I6.bare fun b hb => ⟨(f3 b hb).1.2.2.2.1, (f3 b hb).1.2.1, (f3 b hb).1.2.2.2.2.1, (f3 b hb).1.2.2.2.2.2⟩
      have nC : H5 s3.heap.objs.size = none := by
        have z : H5 ce.locals = none := I6.free
        rw [cL] at z
        exact z
      obtain ⟨m, hn, _⟩ := I6.loc
      have hn : s6.heap.Ns ce.locals m := hn
      rw [cL] at hn
      exact hRR D s3.heap.objs.size s6 m H5 I7 qq hn (I3.fpOk (Nat.le_refl _) nC)
    · have ti := T.item (X.blk s3 H3 scope ce fp) rfl rfl rfl hc i [] s5 _ H5 (fun _ _ => False) I5 (stat I5 n5) st5 go
      refine thnF ti fun r s6 ⟨u, hr, h6⟩ => ?_
      subst hr
      refine thnF h6 fun _ s7 ⟨x, H7, I7, r7, y7, st7, n7⟩ => ?_
      have I7' := I7.pinned (stat I7 n7) (T.obj _ _ st7)
      refine thnF (pg.run _ s7 _ H7 x u _ I7' r7 (step x H7 y7)) fun _ s8 ⟨σ8, H8, I8, hw8, q8⟩ => ?_
      refine thnF (pt.run _ s8 σ8 H8 _ I8 q8) fun b s9 ⟨H9, I9, q9⟩ => ?_
      -- the turn's end
      have fin : ∀ {s' : Shared} {H' : Hp}, Inv (X.blk s3 H3 scope ce fp) ([] ++ pinsAt fp s7.heap) σ8 H' s' → Nx H' → ∃ m, m < n ∧ ∃ i H', Inv (X.blk s3 H3 scope ce fp) [] (wipe σ (own.map (·.2))) H' s' ∧ tn i s'.heap ∧ (∀ b ∈ fp, H' b = none) ∧ W i m H' := fun {s' H'} I' nx => by
        obtain ⟨m', hm, w'⟩ := hNx H' nx
        have pin' : ∀ b ∈ fp, ∀ o, s7.heap.get? b = some o → s'.heap.get? b = some o ∧ H' b = none := fun b hb o e =>
          let z := I'.pin (b, o) (List.mem_append_right _ (List.mem_append_right _ (mem_pinsAt hb e)))
          ⟨z.1, z.2.1⟩
        have hl : (wipe σ (own.map (·.2))).length = σ8.length := by rw [← hw8, wipe_length]
        refine ⟨m', hm, i + 1, H', (I'.unpinned (pins := [])).weak hl (fun j v e => ?_), T.keep _ _ _ st7 fun b hb o e => (pin' b hb o e).1, fun b hb => ?_, w'⟩
        · rw [← hw8] at e
          exact (wipe_some e).1
        · obtain ⟨o, e, _⟩ := T.obj _ _ st7 b hb
          exact (pin' b hb o e).2
      cases b with
      | false =>
        simp only [Bool.false_eq_true, if_false] at q9 ⊢
        exact fin I9 q9
      | true =>
        simp only [if_true] at q9 ⊢
        refine thnF (pk.run _ s9 σ8 H9 _ I9 q9) fun z s10 ⟨yk, H10, I10, r10, q10⟩ => ?_
        refine thnF (pe.run _ s10 σ8 H10 _ I10 q10) fun z2 s11 ⟨yv, H11, I11, r11, O, kvs, k, v, rk, hkk, rv, oD, dA, few, nx⟩ => ?_
        exact dict_put (X := X.blk s3 H3 scope ce fp) I11 hu oD dA hkk few rk r10 rv r11 fun s12 es ep I12 rl dA2 => fin I12 (nx es ep rl dA2)
  exact codeAny_compStart_dict loop (T.self X.A 0 _ _ _ st4 loop)
theorem pe_dcT {kx vx tg iter : Expr} {ifs : List Expr} {scope : Scope} {own : List (Str × Nat)} {pos : Pos} {wi : TI} {g : TG} {tt : TT} {tk tv : TE} (hc : X.calm = true) (hN : X.N.Nodup) (hu : X.A.units + 65 < cLine) (hi : PI X tg iter wi) (ok : BlkOk X.N X.env.scope scope own)
    (hg : ∀ (s : Shared) (H : Hp) (C : Addr) (cl : List (Str × Addr)) (fp : List Addr), PG (X.blk s H scope (compEnvC scope cl C X.env) fp) tg g) (ht : ∀ (s : Shared) (H : Hp) (C : Addr) (cl : List (Str × Addr)) (fp : List Addr), PTs (X.blk s H scope (compEnvC scope cl C X.env) fp) ifs tt)
    (hk : ∀ (s : Shared) (H : Hp) (C : Addr) (cl : List (Str × Addr)) (fp : List Addr), PE (X.blk s H scope (compEnvC scope cl C X.env) fp) kx tk)
    (he : ∀ (s : Shared) (H : Hp) (C : Addr) (cl : List (Str × Addr)) (fp : List Addr), PE (X.blk s H scope (compEnvC scope cl C X.env) fp) vx tv) (hs : ∀ x, foldedSetIterable iter X.env x = pure x := by intro _; rfl) :
    PE X (.DictComp kx vx [⟨tg, iter, ifs, 0⟩] scope pos) (tDcT X.K wi g tt tk tv (own.map (·.2))) := by
  refine ⟨fun pins s σ H Q I h => ?_⟩
  rw [arm_eval_DictComp]
  refine dcT_core hc hN hu I hi ok hg ht hk he hs h fun D C s' m H' I' q hn f => ⟨m, hn, fun h'' sb => ?_⟩
  obtain ⟨f0, f1, f2, f3, f4, f5⟩ := f
  exact ⟨.ref D, H', I'.turned (t' := s'.toks) (fun b o hb e => (sb.2 b hb).trans e) f0 f1 f3 f4 f5, rfl, q⟩
end
/-! ### over data -/
def compDD (g : GT) (tt : BT) (tk tv : ET) (η0 : EnvD) : List D → List (D × D) → (List (D × D) → Prop) → Prop
  | [], acc, Q => Q acc
  | d :: ds, acc, Q => g d η0 fun η1 => tt never η1 fun b => if b = true then tk never η1 fun k => tv never η1 fun v => keyOk k = true ∧ acc.length < sizeLine ∧ compDD g tt tk tv η0 ds (putD acc k v) Q else compDD g tt tk tv η0 ds acc Q
def dDc (own : List Nat) (ti : IT) (g : GT) (tt : BT) (tk tv : ET) : ET := fun E η Q => ti E η fun ds => compDD g tt tk tv (wipeD η own) ds [] fun kvs => kvs.length ≤ sizeLine ∧ Q (.dict kvs)
/-- a walk's loop, whatever its turn does -/
theorem it_any {J : It} {n : Nat} {G : Hp → Prop} {Y : Nat → Hp → V → Hp → Prop} (w : Walk J n G Y) {H0 : Hp} {Qd : Hp → Prop} (B : (Hp → Prop) → V → Hp → Prop) (Pv : Nat → Hp → Prop) (h0 : Pv 0 H0) (hG : ∀ i H, i ≤ n → Pv i H → G H)
    (hs : ∀ i x H H', i < n → Pv i H → Y i H x H' → B (Pv (i + 1)) x H') (hd : ∀ H, Pv n H → Qd H) :
    ∃ W : Nat → Nat → Hp → Prop, (∃ m, W 0 m H0) ∧ ∀ i m H, W i m H → (J.stop i H ∧ Qd H) ∨ (J.go i H ∧ ∃ Nx : Hp → Prop, (∀ H', Nx H' → ∃ m', m' < m ∧ W (i + 1) m' H') ∧ ∀ x H', J.yld i H x H' → B Nx x H') := by
  refine ⟨fun i m H => m = n - i ∧ i ≤ n ∧ Pv i H, ⟨n, by simp, Nat.zero_le _, h0⟩, ?_⟩
  rintro i m H ⟨rfl, hi, p⟩
  have q := hG i H hi p
  by_cases hlt : i < n
  · exact .inr ⟨w.goes i H hlt q, Pv (i + 1), fun H' p' => ⟨n - (i + 1), by omega, rfl, hlt, p'⟩, fun x H' y => hs i x H H' hlt p (w.yields i H x H' hlt q y)⟩
  · have e : i = n := by omega
    subst e
    exact .inl ⟨w.stops H q, hd H p⟩
theorem dc_lift {X : Cx} {ti : IT} {is own : List Nat} {g : GT} {tt : BT} {tk tv : ET} (hsub : ∀ i ∈ is, i ∈ own) : ∀ σ H c O η E Q, Gd X c E O η σ H → dDc own ti g tt tk tv E η Q → tDcT X.K (liftI X ti) (liftG X.K is g) (liftB0 X.K tt) (liftE0 X.K tk) (liftE0 X.K tv) own σ H fun v H' => ∃ d, Step c.G H H' ∧ Rep X.K O H' v d ∧ Q d := by
  intro σ H c O η E Q gd ht
  refine ⟨c, O, η, E, _, gd, ht, fun J H1 ds F s1 hF w q D hD hsm hrl => ?_⟩
  have g1 := gd.toGood.step s1
  have fr0 := g1.fresh0 hD
  have hDs := s1.none gd.draw hD
  have gm : Good X.K c (fun b => O b ∨ b = D) η σ (upd H1 D (dictO D #[] 0)) := g1.moreX (.alloc g1.draw hD) hD (by rw [upd_same]; intro z; cases z)
  have gw := gm.wipe own
  have no : ∀ (i : Nat) (ds : List DL.D), (wipeD η own)[i]? = some (.own ds) → (L2.wipe σ own)[i]?.join ≠ some (.ref D) := (g1.wipe own).own_ne hD
  have d0 : DictAt X.K (fun b => O b ∨ b = D) (upd H1 D (dictO D #[] 0)) D [] := ⟨#[], 0, [], [], upd_same, ⟨⟨[], [], .nil, .nil, rfl⟩, fun p hp => (nomatch hp), .nil, Nat.zero_le _⟩, .nil, .nil⟩
  refine it_any w _ (fun i H2 => ∃ acc, Good X.K c (fun b => O b ∨ b = D) (wipeD η own) (L2.wipe σ own) H2 ∧ (∃ es ep, Real D es ep ∧ H2 D = some (dictO D es ep)) ∧ DictAt X.K (fun b => O b ∨ b = D) H2 D acc ∧ (∀ p ∈ F, Rep X.K (fun b => O b ∨ b = D) H2 p.1 p.2) ∧
    Step c.G H1 H2 ∧ compDD g tt tk tv (wipeD η own) (ds.drop i) acc fun kvs => kvs.length ≤ sizeLine ∧ Q (.dict kvs)) ?_ ?_ ?_ ?_
  · exact ⟨[], gw, ⟨_, _, hrl, upd_same⟩, d0, fun p hp => ((hF p hp).more hD).same (same_upd hD), .alloc g1.draw hD, q⟩
  · rintro i H2 _ ⟨acc, _, _, _, h4, _⟩
    exact ⟨_, h4⟩
  · rintro i x H2 H3 hi ⟨acc, g2, hD2, r2, hF2, s2, q2⟩ ⟨d, hd, sm, hx⟩
    have s3 : Step c.G H2 H3 := .same g2.draw sm
    have g3 := g2.step s3
    have ed : ds.drop i = d :: ds.drop (i + 1) := by
      obtain ⟨hl, he⟩ := List.getElem?_eq_some_iff.mp hd
      rw [List.drop_eq_getElem_cons hl, he]
    rw [ed] at q2
    have keepD : ∀ {Ha Hb : Hp} {acc : List (DL.D × DL.D)}, Good X.K c (fun b => O b ∨ b = D) (wipeD η own) (L2.wipe σ own) Ha → Step c.G Ha Hb → DictAt X.K (fun b => O b ∨ b = D) Ha D acc → DictAt X.K (fun b => O b ∨ b = D) Hb D acc := fun ga st ⟨es, ep, ks, vs, h1, h2, h3, h4⟩ =>
      ⟨es, ep, ks, vs, st.keep D _ fr0.1 h1, h2, st.repAll ga.draw ga.wO h3, st.repAll ga.draw ga.wO h4⟩
    have keepR : ∀ {Ha Hb : Hp}, Step c.G Ha Hb → (∃ es ep, Real D es ep ∧ Ha D = some (dictO D es ep)) → ∃ es ep, Real D es ep ∧ Hb D = some (dictO D es ep) := fun st ⟨es, ep, h1, h2⟩ => ⟨es, ep, h1, st.keep D _ fr0.1 h2⟩
    refine ⟨c, _, _, d, _, g3, hx _ hF2, q2, fun σ4 η4 g4 l4 e4 q4 => ⟨?_, ?_⟩⟩
    · rw [← wipe_wipe (σ := σ)]
      exact wipe_eq l4 fun j hj => e4 j fun z => hj (hsub j z)
    · refine ⟨c, _, η4, _, g4, q4, fun b H5 s5 q5 => ?_⟩
      have f5 : ∀ p ∈ F, Rep X.K (fun b => O b ∨ b = D) H5 p.1 p.2 := fun p hp => s5.rep g3.draw g3.wO ((hF2 p hp).same sm)
      have r5 := keepD g3 s5 (keepD g2 s3 r2)
      have gw5 := g3.step s5
      have hD5 := keepR s5 (keepR s3 hD2)
      cases b with
      | false => exact ⟨acc, gw5, hD5, r5, f5, s2.trans (s3.trans s5), q5⟩
      | true =>
        refine ⟨c, _, η4, _, g4.step s5, q5, fun k yk H6 s6 rk q6 => ?_⟩
        have gw6 := gw5.step s6
        refine ⟨c, _, η4, _, (g4.step s5).step s6, q6, fun v yv H7 s7 rv q7 => ?_⟩
        obtain ⟨hk, few, q7⟩ := q7
        have r7 := keepD gw6 s7 (keepD gw5 s6 r5)
        have hD7 := keepR s7 (keepR s6 hD5)
        have gw7 := gw6.step s7
        refine ⟨_, acc, k, v, s7.rep gw6.draw gw6.wO rk, hk, rv, .inr rfl, r7, few, fun es ep rl dA => ?_⟩
        obtain ⟨es0, ep0, rl0, e0⟩ := hD7
        have nt : ∀ xs, dictO D es0 ep0 ≠ HO.tup xs := fun xs e => by unfold dictO at e; cases e
        have gg := gw7.mutX (u := dictO D es ep) rl0 (.inr rfl) e0 fr0.1 fr0.2 no
        refine ⟨putD acc k v, gg, ⟨es, ep, rl, upd_same⟩, dA, fun p hp => ?_, ?_, q7⟩
        · exact (s7.rep gw6.draw gw6.wO (s6.rep gw5.draw gw5.wO (f5 p hp))).updX (.inr rfl) e0 nt
        · have st := s2.trans (s3.trans (s5.trans (s6.trans s7)))
          refine ⟨fun b o w e => ?_, gg.draw⟩
          rw [upd_ne (fun z => by rw [z, hD] at e; cases e)]
          exact st.keep b o w e
  · rintro H2 ⟨acc, g2, hD2, r2, hF2, s2, q2⟩
    rw [List.drop_length] at q2
    obtain ⟨few, q2⟩ := q2
    obtain ⟨es, ep, ks, vs, h1, h2, h3, h4⟩ := r2
    refine ⟨.dict acc, s1.trans s2, ?_, q2⟩
    exact (Rep.dct (O := O) (fun z => g1.hT D z hD) h1 hsm h2 (h3.weak fun a z => .inl z) (h4.weak fun a z => .inl z))
section
variable {X : Cx} {kx vx tg iter : Expr} {ifs : List Expr} {scope : Scope} {own : List (Str × Nat)} {is : List Nat} {pos : Pos} {ti : IT} {g : GT} {tt : BT} {tk tv : ET}
theorem de_dc (hc : X.calm = true) (hN : X.N.Nodup) (hu : X.A.units + 65 < cLine) (hi : DI X tg iter ti) (ok : BlkOk X.N X.env.scope scope own) (hsub : ∀ i ∈ is, i ∈ own.map (·.2))
    (hg : ∀ (s : Shared) (H : Hp) (C : Addr) (cl : List (Str × Addr)) (fp : List Addr), DG (X.blk s H scope (compEnvC scope cl C X.env) fp) tg is g) (ht : ∀ (s : Shared) (H : Hp) (C : Addr) (cl : List (Str × Addr)) (fp : List Addr), DTs (X.blk s H scope (compEnvC scope cl C X.env) fp) ifs tt)
    (hk : ∀ (s : Shared) (H : Hp) (C : Addr) (cl : List (Str × Addr)) (fp : List Addr), DE (X.blk s H scope (compEnvC scope cl C X.env) fp) kx tk)
    (he : ∀ (s : Shared) (H : Hp) (C : Addr) (cl : List (Str × Addr)) (fp : List Addr), DE (X.blk s H scope (compEnvC scope cl C X.env) fp) vx tv) (hs : ∀ x, foldedSetIterable iter X.env x = pure x := by intro _; rfl) :
    DE X (.DictComp kx vx [⟨tg, iter, ifs, 0⟩] scope pos) (dDc (own.map (·.2)) ti g tt tk tv) :=
  .of (pe_dcT hc hN hu hi.pi ok (fun s H C cl fp => (hg s H C cl fp).pg) (fun s H C cl fp => (ht s H C cl fp).pts) (fun s H C cl fp => (hk s H C cl fp).pe0) (fun s H C cl fp => (he s H C cl fp).pe0) hs) (dc_lift hsub)
end
end DL

/-! DL32: sorted of a dict. -/
namespace DL
open PySem PySem.Spec PyProof.Rows L2
section
variable {prog : Program} {w : World} {A : Around} {E : Value → Shared → Prop} {s : Shared}
theorem collect_kdl {T : String} {r d : Addr} {n : Nat} {P : Nat → Value → Prop} {OK : Heap → Prop} {Q : List Value → Shared → Prop} (K : PySem.W.KdlSrc prog w T r d n P OK) (hh : A.handled = none) (hok : OK s.heap) (hn : n ≤ sizeLine)
    (q : ∀ h' tk (acc : Array Value), (∀ b o, s.heap.get? b = some o → h'.get? b = some o) → s.heap.objs.size ≤ h'.objs.size → ItemsOf P acc n → Q acc.toList { s with heap := h', toks := tk }) : wpAny (model prog w) A (collect (.ref r)) Q E s := by
  have hlt := K.there _ hok
  unfold collect
  refine wpAny_bind (wpAny_runValue (codeAny_builtin F.entry_proto_collect ?_))
  rw [Around.under_plainId F.plain_proto_collect _]
  show wpAny _ A.in1 (newList [] >>= fun l => again (.builtin "list.__iadd__" ⟨[l, .ref r], []⟩)) _ _ s
  refine wpAny_bind (wpAny_newObj_type ?_)
  refine wpAny_pure ⟨plainId_quiet F.plain_list_iadd _, codeAny_builtin F.entry_list_iadd ?_⟩
  rw [Around.under_plainId F.plain_list_iadd _]
  show wpAny _ A.in1 (Builtin.List.listExtendWith (.ref s.heap.objs.size) (.ref r) (.ref s.heap.objs.size)) _ _ _
  have hS : (s.heap.push { cls := .type "list", data := .seq ([] : List Value).toArray }).get? s.heap.objs.size = some { cls := .type "list", data := .seq #[] 0 } := Heap.get?_push_size _ rfl
  refine wpAny_mono (PySem.W.kdl_extend (A := A) (R := fun rr s' => rr = .ok (.ret (.ref s.heap.objs.size)) ∧ ∃ (h' : Heap) (tk : Nat) (acc : Array Value) (c' : Nat), s' = { s with heap := h', toks := tk } ∧
      (∀ b o, s.heap.get? b = some o → h'.get? b = some o) ∧ h'.get? s.heap.objs.size = some { cls := .type "list", dict := none, data := .seq acc c', slots := #[] } ∧ ItemsOf P acc n)
    (s := { s with heap := s.heap.push { cls := .type "list", data := .seq ([] : List Value).toArray } }) K hh (K.keep _ _ hok fun b _ o e => Heap.get?_push_of_some _ e) _ (Nat.ne_of_gt hlt.1) (Nat.ne_of_gt hlt.2) _ 0 hS
    (fun h' tk acc c' hk e hi => ⟨rfl, h', tk, acc, c', rfl, fun b o q => hk b o (Nat.ne_of_lt (Heap.lt_size q)) (Heap.get?_push_of_some _ q), e, hi⟩) hn) (fun fin s' h => ?_) (fun e s' h => ?_)
  · cases fin with
    | done f =>
      obtain ⟨e, h', tk, acc, c', rfl, hk, hS', hi⟩ := h
      cases e
      show wpAny _ A (load s.heap.objs.size >>= _) _ _ _
      exact wpAny_bind (wpAny_load hS' (wpAny_pure (q h' tk acc hk (Nat.le_of_lt (Heap.lt_size hS')) hi)))
    | again c' =>
      refine ⟨h.1, codeAny_mono h.2 fun rr s'' hr' => ?_⟩
      obtain ⟨rfl, h', tk, acc, c', rfl, hk, hS', hi⟩ := hr'
      show wpAny _ A (load s.heap.objs.size >>= _) _ _ _
      exact wpAny_bind (wpAny_load hS' (wpAny_pure (q h' tk acc hk (Nat.le_of_lt (Heap.lt_size hS')) hi)))
  · exact absurd h.1 (by simp)
open PySem.W in
theorem list_sort_srt {a : Addr} {n : Nat} {vs : List Value} {ds : List D} {R : Value → D → Prop} {Q : Value → Shared → Prop} (ho : s.heap.get? a = some (seqObj "list" vs.toArray n)) (e : EachIs R vs ds) (er : EachIs (fun v d => ∃ as, Reads s.heap v d as ∧ a ∉ as) vs ds) (ok : SrtOk ds) (hL : ds.length ≤ sizeLine)
    (hu : ∀ d, d ∈ ds → A.units + 1 + d.depth < cLine) (h : ∀ out, out.length = ds.length → EachIs R out (sortD ds) → Q .none { s with heap := sortedHeap s.heap a vs (List.toArray out) }) :
    wpAny (model prog w) A (call (.builtin "list.sort") [.ref a]) Q E s := by
  obtain ⟨hal, hs, _⟩ := ok
  have ms : ds.map id = ds := List.map_id _
  have er' : EachIs (fun v d => ∃ as, Reads (sortingHeap s.heap a vs) v d as) vs ds := each_keepBut (enc := id) (h' := sortingHeap s.heap a vs) (fun _ _ hb q => sortingHeap_old hb q) (fun o q => by rw [ho] at q; rw [← Option.some.inj q]) (by rw [ms]; exact hal) er
  have S : SortsAt prog w A.in1 { s with heap := sortingHeap s.heap a vs } (dataKind (sortingHeap s.heap a vs) ds) vs := by
    have mid : ∀ d, d ∈ ds → A.in1.units + d.depth < cLine := fun d hm => by
      have := hu d hm
      show A.units + 1 + d.depth < cLine
      omega
    rcases hs with hs | ⟨ht, h0⟩
    · exact SortsAt.data (s := { s with heap := sortingHeap s.heap a vs }) er' hal hs mid
    · exact SortsAt.empties (s := { s with heap := sortingHeap s.heap a vs }) er' hal ht h0 mid
  have so := sortVals_data (h' := sortingHeap s.heap a vs) (enc := id) false e er' (by rw [ms]; exact hal)
  rw [ms] at so
  refine wpAny_call_entry slot_list_sort ⟨_, ho, rfl⟩ entry_list_sort (list_sort_vals (κ := dataKind (sortingHeap s.heap a vs) ds) ho S (by rw [e.length]; exact hL) ⟨.none, rfl, ?_⟩) (args_list_sort _)
  exact h _ (by rw [sortVals_length false rfl]; exact e.length) so
end
section
variable {X : Cx} {e : Expr} {t : ET} {ts : AT} {p pos : Pos}
def rSortDict (K : PySem.W.Frag) : List V → Hp → VK → Prop := fun vs H Q => ∃ (O : Addr → Prop) (v : V) (kvs : List (D × D)), vs = [v] ∧ Rep K O H v (.dict kvs) ∧ SrtOk (kvs.map (·.1)) ∧ ∀ p ys, H p = none → RepAll K O H ys (sortD (kvs.map (·.1))) → Q (.ref p) (upd H p (.lst ys))
theorem cr_sortDict (hc : X.calm = true) (hu : X.A.units + 65 < cLine) : CallR X (.builtin "sorted") (rSortDict X.K) := by
  intro pins s σ H vs us Q I r h
  obtain ⟨O, v, kvs, rfl, hr, ok, q⟩ := h
  obtain ⟨a, es, ep, ks, vs, rfl, _, ha, sm, dk, rk, rv⟩ := hr.dict_in
  rw [Vals.ref1 r]
  obtain ⟨bs, xs, rfl, h1, h2, h3, h4, _⟩ := dict_at I ha dk rk rv
  obtain ⟨⟨o, g1, g2, g3⟩, _⟩ := I.hok a _ ha
  have few := dk.few
  have el : es.size = kvs.length := by
    rw [← Array.length_toList, h4, ents_len (by rw [List.length_map, h1]) h3]
  have va : Vals (bs.map V.ref) (bs.map Value.ref) := by
    obtain ⟨us, _, e1, _, _⟩ := dk.ents
    have := vals_refs e1
    rw [← this]
    exact e1
  refine Calls.call_function_entry kind_sorted plain_sorted entry_sorted (args_sorted1 _) ?_
  unfold Builtin.«sorted»
  refine wpAny_bind (m := checkCount "sorted" 1 1 _) (wpAny_pure ?_)
  refine wpAny_bind (collect_kdl (A := X.A.in1) (PySem.KdlSrc.rawDict (es := es) (ep := ep) sm) (I.ok.hd hc) ⟨o, g1, g2, g3⟩ (by omega) fun h' tk acc hk z1 hi => ?_)
  have ea : acc.toList = bs.map Value.ref := by
    refine List.ext_getElem? fun i => ?_
    rw [Array.getElem?_toList]
    by_cases hi2 : i < es.size
    · have hia : i < acc.size := by rw [hi.1]; exact hi2
      obtain ⟨hz, e⟩ := hi.2 i acc[i] (Array.getElem?_eq_getElem hia)
      have := ents_get (kvs := kvs) (us := bs.map Value.ref) (ws := xs) (i := i) (en := es[i]) (by rw [← h4, Array.getElem?_toList]; exact Array.getElem?_eq_getElem hi2)
      rw [this, Array.getElem?_eq_getElem hia, e]
    · rw [Array.getElem?_eq_none (by rw [hi.1]; omega), List.getElem?_eq_none (by rw [List.length_map, h1]; omega)]
  rw [ea]
  have lb : (bs.map Value.ref).length ≤ sizeLine := by rw [List.length_map, h1]; omega
  have I1 : Inv X pins σ H { s with heap := h', toks := tk } := I.kept hk
  have hT : ∀ d ∈ kvs.map (·.1), itup d = true := fun d hd => by
    obtain ⟨p, hp, rfl⟩ := List.mem_map.mp hd
    exact (keyOk_out (dk.keys p hp)).2.1
  have e2 := rk.each2 va
  have er := RepAll.each I1 (nd_all ok.1) rk va
  refine wpAny_bind (wpAny_newList ?_ lb)
  have hoL : (h'.push (seqObj "list" (bs.map Value.ref).toArray 0)).get? h'.objs.size = some (seqObj "list" (bs.map Value.ref).toArray 0) := Heap.get?_push_size _ rfl
  have keep : ∀ b u, h'.get? b = some u → (h'.push (seqObj "list" (bs.map Value.ref).toArray 0)).get? b = some u := fun b u e => Heap.get?_push_of_some _ e
  refine wpAny_bind (wpAny_holding (list_sort_srt (A := X.A.in1) (s := { s with heap := h'.push (seqObj "list" (bs.map Value.ref).toArray 0), toks := tk }) (R := fun u d => ∃ x, RelV x u ∧ Rep X.K O H x d) hoL e2 ?_ ok (by rw [List.length_map]; omega) ?_ fun out lo eo => ?_))
  · have er2 := PySem.W.each_mem er
    exact er2.mono fun u d ⟨⟨as, rd⟩, hd⟩ => by
      have ea := (DS.reads_key d u as (hT d hd) rd).1
      subst ea
      exact ⟨[], PyProof.Rows.Reads.keeps keep rd, by simp⟩
  · intro d hd
    have := ok.2.2 d hd
    show X.A.units + 1 + 1 + d.depth < cLine
    omega
  · obtain ⟨c, hc2⟩ := sortedHeap_at (vs := bs.map Value.ref) (out := out.toArray) hoL
    obtain ⟨ys, hv, hy⟩ := each_out eo
    have hlen : ys.length ≤ sizeLine := by
      rw [hy.length, show (sortD (kvs.map (·.1))).length = (kvs.map (·.1)).length from (List.mergeSort_perm _ _).length_eq, List.length_map]
      omega
    have old : ∀ b u, s.heap.get? b = some u → (sortedHeap (h'.push (seqObj "list" (bs.map Value.ref).toArray 0)) h'.objs.size (bs.map Value.ref) out.toArray).get? b = some u := fun b u e => by
      have hlt := Heap.lt_size (hk b u e)
      rw [sortedHeap_old (Nat.ne_of_lt hlt) (by rw [size_push']; exact Nat.lt_succ_of_lt hlt)]
      exact keep b u (hk b u e)
    refine wpAny_pure ⟨_, rfl, .ref h'.objs.size, _, I.laid (o := .lst ys) (t' := tk) old z1 ⟨hlen, out, c, hv, hc2⟩, rfl, q _ ys (I.hok.fresh z1) hy⟩
def fSortedD : List D → (List D → Prop) → Prop
  | [.dict kvs], Q => SrtOk (kvs.map (·.1)) ∧ Q (sortD (kvs.map (·.1)))
  | _, _ => False
theorem dn_sortedD (hc : X.calm = true) (hu : X.A.units + 65 < cLine) (hg : Gl X "sorted") (hm : X.mg "sorted" = none) (ha : DA X [e] ts) (he : starEach [e] X.env = (false, eval e X.env) :: starEach [] X.env := by rfl) : DN X (.Call (.Name "sorted" p) [e] [] pos) (nCall fSortedD ts) := by
  refine dn_callB (cr_sortDict hc hu) ?_ hg hm (by decide +kernel) ha (he := he)
  intro G O H xs ds Q R B r h k
  match ds, h with
  | [.dict kvs], ⟨h1, h2⟩ =>
    cases r with
    | cons r1 r2 =>
      cases r2
      exact ⟨O, _, kvs, rfl, r1, h1, fun p ys hp hy => k _ _ hy h2 p hp⟩
end
end DL

/-! DL33: xs != [] for any list xs. -/
namespace DL
open PySem PySem.Spec PyProof.Rows L2
section
variable {X : Cx}
theorem op_neL0 (hu : X.A.units < cLine) : OpR X (compareOp .NotEq) (fun x y H Q => ∃ a b xs, x = .ref a ∧ y = .ref b ∧ SqL X.K H a xs ∧ SqL X.K H b [] ∧ Q (.bl (!xs.isEmpty)) H) := by
  intro pins s σ H x y v u Q I rx ry h
  obtain ⟨a, b, xs, rfl, rfl, ha, hb, q⟩ := h
  cases rx
  cases ry
  obtain ⟨its, r1, ⟨o1, n1, p1, p2, _, p3⟩, _⟩ := I.list ha
  obtain ⟨its2, r2, ⟨o2, n2, p4, p5, _, p6⟩, _⟩ := I.list hb
  cases r2
  have l1 := r1.length
  cases xs with
  | nil =>
    cases r1
    exact SeqAt.RcNeAt.lists (e := fun _ => true) ⟨o1, p1, p2, n1, p3⟩ ⟨o2, p4, p5, n2, p6⟩ rfl hu (fun j h1 h2 => absurd h2 (by simp)) _ _ _ _ ⟨.bl _, H, I, rfl, q⟩
  | cons x xs =>
    cases r1 with
    | cons _ _ => exact SeqAt.RcNeAt.lists_lengths ⟨o1, p1, p2, n1, p3⟩ ⟨o2, p4, p5, n2, p6⟩ (by simp) hu _ _ _ _ ⟨.bl _, H, I, rfl, q⟩
def oNeL0 : OpD
  | .list xs, .list [], Q => Q (.bool (!xs.isEmpty))
  | _, _, _ => False
theorem cm_neL0 (hu : X.A.units + 65 < cLine) : CmpR X .NotEq oNeL0 := by
  refine ⟨_, op_neL0 (by omega), fun G O H x y dx dy Q R B rx ry h k => ?_⟩
  cases dx with
  | list xs =>
    cases dy with
    | list ys =>
      cases ys with
      | nil =>
        cases rx with
        | lst _ h1 r1 =>
          cases ry with
          | lst _ h2 r2 =>
            cases r2
            refine ⟨_, _, _, rfl, rfl, .of h1, .of h2, ?_⟩
            have e : ∀ {vs : List V} {ds : List D}, RepAll X.K O H vs ds → vs.isEmpty = ds.isEmpty := by
              intro vs ds r
              cases r <;> rfl
            rw [e r1]
            exact way_here B k (.bl _) h
      | cons _ _ => exact h.elim
    | _ => exact h.elim
  | _ => exact h.elim
end
end DL

/-! DLsetE: sorted(set(xs)), xs a list of tuples, the empty one among them. -/
namespace DL
open PySem PySem.Spec PyProof.Rows L2 PySem.W PySem.SeqAt
section
variable {prog : Program} {w : World} {A : Around} {s : Shared} {E : Value → Shared → Prop}
theorem firsts_all : ∀ {vs : List Value} {ds : List PyData} {Q : List (Option Value) → Shared → Prop}, EachIs (fun v d => ∃ as, Reads s.heap v d as) vs ds → (∀ d, d ∈ ds → ∃ xs, d = .tuple xs) →
    (∀ rs : List (Option Value), (∀ j : Nat, rs[j]? = some none ↔ ds[j]? = some (.tuple [])) → rs.length = ds.length → Q rs s) → wpAny (model prog w) A (vs.mapM firstOfTuple') Q E s
  | _, _, Q, .nil, _, h => by
    rw [List.mapM_nil]
    exact wpAny_pure (h [] (fun j => by simp) rfl)
  | v :: vs, d :: ds, Q, .cons ⟨as, r⟩ t, ht, h => by
    obtain ⟨xs, rfl⟩ := ht d List.mem_cons_self
    rw [List.mapM_cons]
    refine wpAny_bind (first_tuple r fun o ho => wpAny_bind (firsts_all t (fun d hd => ht d (List.mem_cons_of_mem _ hd)) fun rs hr hl => wpAny_pure (h (o :: rs) (fun j => ?_) ?_)))
    · cases j with
      | zero =>
        simp only [List.getElem?_cons_zero, Option.some.injEq, PyData.tuple.injEq]
        exact ho
      | succ j =>
        simp only [List.getElem?_cons_succ]
        exact hr j
    · rw [List.length_cons, List.length_cons, hl]
theorem SortsAt.mixed {vs : List Value} {ds : List PyData} (e : EachIs (fun v d => ∃ as, Reads s.heap v d as) vs ds) (hal : AllAlike ds) (ht : ∀ d, d ∈ ds → ∃ xs, d = .tuple xs) (h0 : ds[0]? ≠ some (.tuple [])) (hm : PyData.tuple [] ∈ ds) (hu : ∀ d, d ∈ ds → A.units + d.depth < cLine) :
    SortsAt prog w A s (dataKind s.heap ds) vs := by
  have room : ∀ {d d' : PyData}, d ∈ ds → A.units + min d.depth d'.depth < cLine := fun {d d'} hd => Nat.lt_of_le_of_lt (Nat.add_le_add_left (Nat.min_le_left _ _) _) (hu d hd)
  refine ⟨fun v hv => ?_, general', fun E x y a b Q ha hb hq => ?_, fun h2 E Q hq => ?_⟩
  · obtain ⟨d, hd, as, r⟩ := e.left v hv
    exact ⟨_, dataKind_some hal hd r⟩
  · obtain ⟨d, as, hd, ra, rfl⟩ := dataKind_inv ha
    obtain ⟨d', as', hd', rb, rfl⟩ := dataKind_inv hb
    obtain ⟨xs, rfl⟩ := ht d hd
    obtain ⟨ys, rfl⟩ := ht d' hd'
    show wpAny _ _ (oneLt' false x y) _ _ _
    rw [oneLt'_eq]
    simp only [Bool.false_eq_true, if_false]
    exact wpAny_bind (rcLt_alike (.tuple xs) (.tuple ys) A s x y _ _ ra rb (hal _ hd _ hd') (fun z => by cases z) (room hd) prog w _ _ (wpAny_truthy_bool hq))
  · rw [keyKind'_eq, List.mapM_toArray, map_eq_pure_bind]
    refine wpAny_bind (wpAny_bind (firsts_all e ht fun rs hr hl => wpAny_pure ?_))
    obtain ⟨k, hk⟩ := List.getElem?_of_mem hm
    have e0 : rs[k]? = some none := (hr k).mpr hk
    have e1 : (rs.toArray.all fun x => x.isSome) = false := by
      rw [← Bool.not_eq_true, Array.all_eq_true_iff_forall_mem]
      intro z
      have := z none (by simpa using List.mem_of_getElem? e0)
      cases this
    rw [if_neg (by rw [e1]; decide)]
    have e2 : (rs.toArray[0]?.bind id).isSome = true := by
      have n0 : rs[0]? ≠ some none := fun z => h0 ((hr 0).mp z)
      cases c : rs with
      | nil => rw [c] at e0; simp at e0
      | cons a r =>
        rw [c] at n0
        cases a with
        | none => exact absurd rfl n0
        | some v => simp
    rw [if_pos e2]
    exact wpAny_pure hq
/-- lists of alike tuples may be sorted -/
theorem list_sort_tups {a : Addr} {n : Nat} {vs : List Value} {ds : List PyData} {R : Value → PyData → Prop} {Q : Value → Shared → Prop} (ho : s.heap.get? a = some (seqObj "list" vs.toArray n)) (e : EachIs R vs ds) (er : EachIs (fun v d => ∃ as, Reads s.heap v d as ∧ a ∉ as) vs ds) (hal : AllAlike ds) (ht : ∀ d, d ∈ ds → ∃ xs, d = .tuple xs) (hL : ds.length ≤ sizeLine)
    (hu : ∀ d, d ∈ ds → A.units + 1 + d.depth < cLine) (h : ∀ out, out.length = ds.length → EachIs R out (sortD ds) → Q .none { s with heap := sortedHeap s.heap a vs (List.toArray out) }) :
    wpAny (model prog w) A (call (.builtin "list.sort") [.ref a]) Q E s := by
  have ms : ds.map id = ds := List.map_id _
  have er' : EachIs (fun v d => ∃ as, Reads (sortingHeap s.heap a vs) v d as) vs ds := each_keepBut (enc := id) (h' := sortingHeap s.heap a vs) (fun _ _ hb q => sortingHeap_old hb q) (fun o q => by rw [ho] at q; rw [← Option.some.inj q]) (by rw [ms]; exact hal) er
  have S : SortsAt prog w A.in1 { s with heap := sortingHeap s.heap a vs } (dataKind (sortingHeap s.heap a vs) ds) vs := by
    have mid : ∀ d, d ∈ ds → A.in1.units + d.depth < cLine := fun d hm => by
      have := hu d hm
      show A.units + 1 + d.depth < cLine
      omega
    by_cases z : PyData.tuple [] ∈ ds
    · by_cases h0 : ds[0]? = some (.tuple [])
      · exact SortsAt.empties (s := { s with heap := sortingHeap s.heap a vs }) er' hal ht h0 mid
      · exact SortsAt.mixed (s := { s with heap := sortingHeap s.heap a vs }) er' hal ht h0 z mid
    · refine SortsAt.data (s := { s with heap := sortingHeap s.heap a vs }) er' hal (.inl fun d hd => ?_) mid
      obtain ⟨xs, rfl⟩ := ht d hd
      cases xs with
      | nil => exact absurd hd z
      | cons x r => exact ⟨x, r, rfl⟩
  have so := sortVals_data (h' := sortingHeap s.heap a vs) (enc := id) false e er' (by rw [ms]; exact hal)
  rw [ms] at so
  refine wpAny_call_entry slot_list_sort ⟨_, ho, rfl⟩ entry_list_sort (list_sort_vals (κ := dataKind (sortingHeap s.heap a vs) ds) ho S (by rw [e.length]; exact hL) ⟨.none, rfl, ?_⟩) (args_list_sort _)
  exact h _ (by rw [sortVals_length false rfl]; exact e.length) so
end
end DL
namespace DS
open PySem PySem.Spec PyProof.Rows L2 DL
section
variable {P : Program} {w : World} {A : Around} {E : Value → Shared → Prop} {s : Shared} {a : Addr} {L : List Row} {es : Array (Int × Value)} {ep : Nat} {t : SetTable}
theorem sorted_kE (S : SetK w s.heap a L es ep t) (hh : A.handled = none) (rd : ∀ p ∈ L, Reads s.heap (.ref p.1) (datK p.2) []) (al : PySem.W.AllAlike (L.map fun p => datK p.2)) (so : ∀ p ∈ L, ∃ r, datK p.2 = .tuple r) (dp : ∀ p ∈ L, (datK p.2).depth ≤ 8) (hu : A.units + 64 < cLine) {Q : Value → Shared → Prop}
    (q : ∀ s' p (out : List Value) (c : Nat) (bs : List D), (∀ b o, s.heap.get? b = some o → s'.heap.get? b = some o) → s'.gens = s.gens → s'.os = s.os → s.heap.objs.size ≤ p → s'.heap.get? p = some (seqObj "list" out.toArray c) → bs.Perm (L.map fun p => datK p.2) →
      PySem.W.EachIs (fun v d => ∃ r ∈ L, v = .ref r.1 ∧ d = datK r.2) out (sortD bs) → Q (.ref p) s') : wpAny (model P w) A (call (.builtin "sorted") [.ref a]) Q E s := by
  obtain ⟨o, ho, hex, hd⟩ := S.here
  have esz := S.size
  have lt := S.lt
  refine Calls.call_function_entry kind_sorted plain_sorted entry_sorted (args_sorted1 _) ?_
  unfold Builtin.«sorted»
  refine wpAny_bind (m := checkCount "sorted" 1 1 _) (wpAny_pure ?_)
  refine wpAny_bind (collect_set (A := A.in1) hh ⟨o, ho, hex.1, hd⟩ S.fits (by unfold scanBound; omega) S.ok.ris S.ld fun s1 vs k1 z1 g1 o1 pm => ?_)
  have ev : es.toList.map (·.2) = L.map fun p => Value.ref p.1 := by
    rw [S.row]
    unfold rws
    rw [List.map_map]
    rfl
  rw [ev] at pm
  obtain ⟨L1, p1, rfl⟩ := perm_back (fun p : Row => Value.ref p.1) pm
  have in1 : ∀ p ∈ L1, p ∈ L := fun p hp => p1.mem_iff.mp hp
  have l1 : L1.length < 64 := by rw [p1.length_eq]; exact lt
  refine wpAny_bind (wpAny_newList ?_ (by rw [sizeLine_eq, List.length_map]; omega))
  have hoL : (s1.heap.push (seqObj "list" (L1.map fun p => Value.ref p.1).toArray 0)).get? s1.heap.objs.size = some (seqObj "list" (L1.map fun p => Value.ref p.1).toArray 0) := Heap.get?_push_size _ rfl
  have keep : ∀ b u, s.heap.get? b = some u → (s1.heap.push (seqObj "list" (L1.map fun p => Value.ref p.1).toArray 0)).get? b = some u := fun b u e => Heap.get?_push_of_some _ (k1 b u e)
  have pmD : (L1.map fun p => datK p.2).Perm (L.map fun p => datK p.2) := p1.map _
  refine wpAny_bind (wpAny_holding (list_sort_tups (s := { s1 with heap := s1.heap.push (seqObj "list" (L1.map fun p => Value.ref p.1).toArray 0) }) (R := fun v d => ∃ r ∈ L, v = .ref r.1 ∧ d = datK r.2) (ds := L1.map fun p => datK p.2) hoL (each_rows fun p hp => ⟨p, in1 p hp, rfl, rfl⟩)
    (each_rows fun p hp => ⟨[], PyProof.Rows.Reads.keeps keep (rd p (in1 p hp)), by simp⟩) ?_ ?_ (by rw [List.length_map, sizeLine_eq]; omega) ?_ fun out lo eo => ?_))
  · exact fun d hd d' hd' => al d (pmD.mem_iff.mp hd) d' (pmD.mem_iff.mp hd')
  · intro d hd
    obtain ⟨p, hp, rfl⟩ := List.mem_map.mp hd
    exact so p (in1 p hp)
  · intro d hd
    obtain ⟨p, hp, rfl⟩ := List.mem_map.mp hd
    have := dp p (in1 p hp)
    show A.units + 1 + 1 + (datK p.2).depth < cLine
    omega
  · obtain ⟨c, hc⟩ := sortedHeap_at (vs := L1.map fun p => Value.ref p.1) (out := out.toArray) hoL
    refine wpAny_pure ⟨_, rfl, q _ s1.heap.objs.size out c _ (fun b u e => ?_) g1 o1 z1 hc pmD eo⟩
    have e1 := k1 b u e
    have hlt := Heap.lt_size e1
    show (sortedHeap (s1.heap.push (seqObj "list" (L1.map fun p => Value.ref p.1).toArray 0)) s1.heap.objs.size _ _).get? b = some u
    rw [sortedHeap_old (Nat.ne_of_lt hlt) (by rw [size_push']; exact Nat.lt_succ_of_lt hlt)]
    exact Heap.get?_push_of_some _ e1
end
end DS
namespace DL
open PySem PySem.Spec PyProof.Rows L2
def SetOkE (xs : List D) : Prop := xs.length < 64 ∧ xs.all itup = true ∧ PySem.W.AllAlike xs ∧ (∀ d, d ∈ xs → ∃ r, d = .tuple r) ∧ ∀ d, d ∈ xs → d.depth ≤ 8
def nSortSetE (t : ET) : NT := fun E η Q => t E η fun d => match d with
  | .list xs => SetOkE xs ∧ ∀ ys, ys.Pairwise (fun a b => PySem.W.dataLt a b = true) → (∀ d, d ∈ ys ↔ d ∈ xs) → Q ys
  | _ => False
theorem rows_ofE {K : PySem.W.Frag} {O : Addr → Prop} {H : Hp} : ∀ {xs : List V} {ds : List D}, RepAll K O H xs ds → (∀ d ∈ ds, itup d = true ∧ ∃ r, d = .tuple r) →
    ∃ ks : List DS.Row, xs = ks.map (fun p => V.ref p.1) ∧ ds = ks.map (fun p => DS.datK p.2) ∧ ∀ p ∈ ks, Rep K O H (.ref p.1) (DS.datK p.2) ∧ itup (DS.datK p.2) = true ∧ DS.keyD (DS.datK p.2) = p.2
  | _, _, .nil, _ => ⟨[], rfl, rfl, fun p hp => by cases hp⟩
  | _, d :: _, .cons r t, h => by
    obtain ⟨ks, e1, e2, h3⟩ := rows_ofE t fun x hx => h x (List.mem_cons_of_mem _ hx)
    obtain ⟨hi, l, rfl⟩ := h d List.mem_cons_self
    have dk := (DS.dat_key _ hi).1
    cases r with
    | @tup a _ _ h1 h2 =>
      refine ⟨(a, DS.keyD (.tuple l)) :: ks, by rw [e1]; rfl, by rw [List.map_cons, ← e2, dk], fun p hp => ?_⟩
      rcases List.mem_cons.mp hp with z | z
      · subst z
        show Rep K O H (.ref a) (DS.datK (DS.keyD _)) ∧ itup (DS.datK (DS.keyD _)) = true ∧ DS.keyD (DS.datK (DS.keyD _)) = _
        rw [dk]
        exact ⟨.tup h1 h2, hi, rfl⟩
      · exact h3 p z
def tSortSetE (K : PySem.W.Frag) (ta : TE) : TE := fun σ H Q => ta σ H fun x H1 => ∃ (l : Addr) (xs : List V) (ds : List D) (O : Addr → Prop), x = V.ref l ∧ H1 l = some (.lst xs) ∧ RepAll K O H1 xs ds ∧ SetOkE ds ∧
  ∀ p ys es, H1 p = none → RepAll K O H1 ys es → es.Pairwise (fun a b => PySem.W.dataLt a b = true) → (∀ d, d ∈ es ↔ d ∈ ds) → ys.length ≤ sizeLine → Q (.ref p) (upd H1 p (.lst ys))
section
variable {X : Cx} {e : Expr} {t : ET} {p p2 q2 pos : Pos}
theorem pe_sortSetE {ta : TE} (hc : X.calm = true) (hu : X.A.units + 65 < cLine) (hg : Gl X "sorted") (hm : X.mg "sorted" = none) (hg2 : Gl X "set") (hm2 : X.mg "set" = none) (ha : PE X e ta) (na : starEach [e] X.env = (false, eval e X.env) :: starEach [] X.env)
    (nb : starEach [.Call (.Name "set" p2) [e] [] q2] X.env = (false, eval (.Call (.Name "set" p2) [e] [] q2) X.env) :: starEach [] X.env) : PE X (.Call (.Name "sorted" p) [.Call (.Name "set" p2) [e] [] q2] [] pos) (tSortSetE X.K ta) := by
  refine ⟨fun pins s σ H Q I h => ?_⟩
  refine Call_ (ld_blt I hg hm (show bootBuiltins "sorted" = some (.builtin "sorted") by decide +kernel) ?_)
  refine PyProof.Rows.callWith_builtin1 (PyProof.Rows.args_cons ?_ nb) nb rfl
  refine Call_ (ld_blt I hg2 hm2 PyProof.Rows.boot_set ?_)
  refine PyProof.Rows.callWith_type1 (PyProof.Rows.args_cons (thn (ha.run pins s σ H _ I h) fun v s1 ⟨x, H1, I1, r1, q1⟩ => PyProof.Rows.args_nil ?_) na) na rfl
  obtain ⟨l, xs, ds, O, rfl, hl, rx, ⟨few, hit, hal, hne, hdp⟩, q1⟩ := q1
  cases r1
  rw [List.all_eq_true] at hit
  obtain ⟨ks, rfl, rfl, hks⟩ := rows_ofE rx fun d hd => ⟨hit d hd, hne d hd⟩
  obtain ⟨its, rv, pl, hz⟩ := I1.list (.of hl)
  rw [List.length_map] at few
  have eI := refsV rv
  have inD : ∀ p ∈ ks, DS.datK p.2 ∈ ks.map fun p => DS.datK p.2 := fun p hp => List.mem_map.mpr ⟨p, hp, rfl⟩
  have rd1 : ∀ p ∈ ks, Reads s1.heap (.ref p.1) (DS.datK p.2) [] ∧ DS.At s1.heap p.2 p.1 := fun p hp => by
    obtain ⟨r, hi, ek⟩ := hks p hp
    obtain ⟨as, rd⟩ := Dp.reads I1 _ _ (.ref p.1) (r.dp (nd_alike _ (hal _ (inD p hp) _ (inD p hp)))) rfl
    obtain ⟨e0, n0⟩ := DS.reads_key _ _ _ hi rd
    subst e0
    obtain ⟨_, k2, k3⟩ := DS.dat_key _ hi
    rw [ek] at n0 k2 k3
    exact ⟨rd, n0, by rw [k3]; exact hdp _ (inD p hp), k2⟩
  refine DS.call_set_k (P := X.prog) (w := X.w) ks (I1.ok.hd hc) pl.isList (by simpa using eI) (fun p hp => (rd1 p hp).2) few (by omega) fun h' tk L es ep t S g k => PyProof.Rows.args_nil ?_
  have I2 : Inv X pins σ H1 { s1 with heap := h', toks := tk } := I1.kept k
  have sub : ∀ p ∈ L, p ∈ ks := fun p hp => List.mem_of_mem_take (g.sub p hp)
  have inL : ∀ p ∈ L, DS.datK p.2 ∈ ks.map fun p => DS.datK p.2 := fun p hp => inD p (sub p hp)
  refine DS.sorted_kE (s := { s1 with heap := h', toks := tk }) S (I1.ok.hd hc) (fun p hp => PyProof.Rows.Reads.keeps k (rd1 p (sub p hp)).1) ?_ (fun p hp => hne _ (inL p hp)) (fun p hp => hdp _ (inL p hp)) (by omega) fun s' b out c bs k2 g2 o2 hb hout pm eo => ?_
  · intro d hd d' hd'
    obtain ⟨p, hp, rfl⟩ := List.mem_map.mp hd
    obtain ⟨p', hp', rfl⟩ := List.mem_map.mp hd'
    exact hal _ (inL p hp) _ (inL p' hp')
  · have eo2 : PySem.W.EachIs (fun u d => ∃ x, RelV x u ∧ Rep X.K O H1 x d) out (sortD bs) := eo.mono fun v d ⟨r, hr, e1, e2⟩ => by
      subst e1
      subst e2
      exact ⟨.ref r.1, rfl, (hks r (sub r hr)).1⟩
    obtain ⟨ys, hv, hy⟩ := each_out eo2
    have pmS : (sortD bs).Perm (L.map fun p => DS.datK p.2) := (List.mergeSort_perm _ _).trans pm
    have hlen : ys.length ≤ sizeLine := by
      have := S.lt
      rw [hy.length, pmS.length_eq, List.length_map, sizeLine_eq]
      omega
    have hn : H1 b = none := I2.hok.fresh hb
    have J : Inv X pins σ (upd H1 b (.lst ys)) { ({ s1 with heap := h', toks := tk } : Shared) with heap := s'.heap, gens := s'.gens, drawn := s'.drawn, toks := s'.toks } :=
      I2.call (ch := []) (Un.laid k2 hb hn) (I2.hok.laid k2 hb ⟨hlen, out, c, hv, hout⟩) (by rw [g2]; exact I2.bare) (fun _ z => nomatch z)
    have e9 : s' = { ({ s1 with heap := h', toks := tk } : Shared) with heap := s'.heap, gens := s'.gens, drawn := s'.drawn, toks := s'.toks } := by
      cases s'
      cases s1
      cases o2
      rfl
    rw [e9]
    refine ⟨.ref b, _, J, rfl, q1 b ys (sortD bs) hn hy ?_ ?_ hlen⟩
    · have nd : (L.map fun p => DS.datK p.2).Nodup := by
        refine List.pairwise_map.mpr (List.Pairwise.imp_of_mem (fun {x y} hx hy ne e => ne ?_) (List.pairwise_map.mp S.one))
        have ex := (hks x (sub x hx)).2.2
        have ey := (hks y (sub y hy)).2.2
        rw [← ex, ← ey, e]
      have nd2 : (sortD bs).Nodup := pmS.nodup_iff.mpr nd
      have le := PySem.W.sort_pairwise (PySem.W.sortLe_total (PyProof.Rows.listOrd PyProof.Rows.itemOrd) false fun b : D => PySem.W.keyToks (id b)) bs
      refine List.Pairwise.imp_of_mem (fun {x y} hx hy ⟨h1, h2⟩ => ?_) (List.Pairwise.and nd2 le)
      obtain ⟨px, hpx, rfl⟩ := List.mem_map.mp (pmS.mem_iff.mp hx)
      obtain ⟨py, hpy, rfl⟩ := List.mem_map.mp (pmS.mem_iff.mp hy)
      refine DS.lt_of_ne (hal _ (inL px hpx) _ (inL py hpy)) (hit _ (inL px hpx)) (hit _ (inL py hpy)) h1 ?_
      have h3 : (!PySem.W.dataLt (DS.datK py.2) (DS.datK px.2)) = true := h2
      simpa using h3
    · intro d
      rw [pmS.mem_iff]
      constructor
      · intro hd
        obtain ⟨p, hp, rfl⟩ := List.mem_map.mp hd
        exact inL p hp
      · intro hd
        obtain ⟨p, hp, rfl⟩ := List.mem_map.mp hd
        obtain ⟨r, hr, er⟩ := List.mem_map.mp (g.all p (by rw [List.take_length]; exact hp))
        exact List.mem_map.mpr ⟨r, hr, by rw [er]⟩
theorem dn_sortSetE (hc : X.calm = true) (hu : X.A.units + 65 < cLine) (hg : Gl X "sorted") (hm : X.mg "sorted" = none) (hg2 : Gl X "set") (hm2 : X.mg "set" = none) (h : DE X e t) (na : starEach [e] X.env = (false, eval e X.env) :: starEach [] X.env := by rfl)
    (nb : starEach [.Call (.Name "set" p2) [e] [] q2] X.env = (false, eval (.Call (.Name "set" p2) [e] [] q2) X.env) :: starEach [] X.env := by rfl) :
    DN X (.Call (.Name "sorted" p) [.Call (.Name "set" p2) [e] [] q2] [] pos) (nSortSetE t) := by
  refine .of (pe_sortSetE hc hu hg hm hg2 hm2 h.pe na nb) fun σ H c O η E Q R g ht k => ?_
  refine ⟨c, O, η, E, _, g, ht, fun d v H1 s1 r1 q => ?_⟩
  cases r1 with
  | @lst a xs ds o h0 rr =>
    exact ⟨a, xs, ds, O, rfl, h0, rr, q.1, fun b ys es hn ry hp hm hl => newk g s1 ry (q.2 es hp hm) k b hn⟩
  | _ => exact q.elim
end
end DL

/-! DLl1: a lambda without parameters is made. -/
namespace DL
open PySem PySem.Spec PyProof.Rows L2
section
variable {X : Cx} {pins : List (Addr × Obj)} {σ : L2.St} {H : Hp} {s : Shared} {G : Option (Addr × Addr)}
/-- the table is written, the code's object is new -/
theorem tab_step {P c' : Addr} {q : Str} {ps more : Array Value} (dr : DrawOk G H) (hq : (P, q) ∈ lawTabs) (hP : H P = some (.tbl ps)) (hc : H c' = none) (T : TabM (upd (upd H P (.tbl (ps ++ more))) c' (LamX.CodeO c' q))) :
    Step G H (upd (upd H P (.tbl (ps ++ more))) c' (LamX.CodeO c' q)) := by
  have ne : ∀ b o, b ≠ P → H b = some o → (upd (upd H P (.tbl (ps ++ more))) c' (LamX.CodeO c' q)) b = some o := fun b o h e => by
    rw [upd_ne (fun z => by rw [z, hc] at e; cases e), upd_ne h]
    exact e
  refine ⟨fun b o nw e => ne b o (fun z => nw (.inr ⟨q, by rw [z]; exact hq⟩)) e, ?_, T⟩
  have d := dr.1
  cases G with
  | none => trivial
  | some p =>
    obtain ⟨p1, p2⟩ := p
    obtain ⟨n, m, t, ns, e1, x1, x2, e2, x3⟩ := d
    refine ⟨n, m, t, ns, ne _ _ (fun z => ?_) e1, x1, x2, ne _ _ (fun z => ?_) e2, x3⟩
    · rw [z, hP] at e1; cases e1
    · rw [z, hP] at e2; cases e2
theorem lam_make3 {c P : Addr} {params : Arguments} {body : Expr} {scope : Scope} {pos : Pos} {E Q : Value → Shared → Prop} (I : Inv X pins σ H s) (dr : DrawOk G H) (TB : LamX.TabB X.base X.mg c P) (hcode : X.env.code = .ref c)
    (hm : (P, X.env.qual ++ "<lambda>") ∈ lawTabs) (hu : ∀ p ∈ lawTabs, p.1 = P → p.2 = X.env.qual ++ "<lambda>") (hdef : defaultsOf params X.env = ([], [])) (hfree : ∀ y ∈ scope.names, y.2 = .free → ∃ c, X.env.cells.lookup y.1 = some c)
    (h : ∀ (f c' : Addr) (pm ctv : Value) (H1 : Hp) (s' : Shared), Inv X pins σ H1 s' → Step G H H1 →
      s'.heap.get? f = some (PySem.W.kla_obj "<lambda>" (X.env.qual ++ "<lambda>") params body scope (cloFrom X.env.cells scope.names []) pm c' ctv) → H1 f = none → f ∉ frs X.stack → H1 c' = some (LamX.CodeO c' (X.env.qual ++ "<lambda>")) → Q (.ref f) s') :
    wpAny (model X.prog X.w) X.A (eval (.Lambda params body scope pos) X.env) Q E s := by
  obtain ⟨ps, hP, ht, ha⟩ := dr.2.t _ hm
  have hP : H P = some (.tbl ps) := hP
  refine PySem.W.kla_eval hdef ?_
  have bP : s.heap.BuiltinsAt X.mg P := TB.bm.keeps I.bk
  have tP : s.heap.get? P = some { cls := .none, data := .fields ps } := I.hok P _ hP
  have off : ∀ f, s.heap.objs.size ≤ f → f ∉ frs X.stack := by
    intro f hf z
    rcases List.mem_cons.mp (I.stkSub _ z) with e | e
    · subst e
      exact absurd I.lt (Nat.not_lt.mpr hf)
    · exact I.nofs hf e
  cases hc : codeAmong pos ps.toList with
  | some cv =>
    obtain ⟨c', rfl, hco⟩ := ha pos cv hc
    refine PySem.W.kla_makeFunctionHit (mg := X.mg) (c := c) (P := P) (ps := ps) (closure_ok hfree) I.ok.glob (I.mod.glob.keeps I.bk) hcode (TB.code.keeps I.bk) tP ht hc bP fun ctv h' tk hx hsz => ?_
    exact h h'.objs.size c' ((X.mg "__name__").getD .none) ctv H _ (I.kept fun b o e => Heap.get?_push_of_some _ (hx b o e)) (.refl dr) (Heap.get?_push_size _ rfl) (I.hok.fresh hsz) (off _ hsz) hco
  | none =>
    refine PySem.W.kla_makeFunction (mg := X.mg) (c := c) (P := P) (ps := ps) (closure_ok hfree) I.ok.glob (I.mod.glob.keeps I.bk) hcode (TB.code.keeps I.bk) tP ht hc TB.gP bP fun c' ctv h' tk hx hge hlt hrec htb => ?_
    obtain ⟨c2, oc, vs, t, e2, hoc, hd, hv⟩ := hrec
    cases e2
    have big : s.heap.objs.size ≤ h'.objs.size := Nat.le_trans hge (Nat.le_of_lt hlt)
    have nC : H c' = none := I.hok.fresh hge
    have J := LamX.inv_table (t' := tk) (more := #[rawInt pos.line, rawInt pos.col, .ref c']) (h' := h'.push (PySem.W.kla_obj "<lambda>" (X.env.qual ++ "<lambda>") params body scope (cloFrom X.env.cells scope.names []) ((X.mg "__name__").getD .none) c' ctv)) I hP
      (fun b o hb e => Heap.get?_push_of_some _ (hx b o hb e)) (Heap.get?_push_of_some _ htb) hge ⟨oc, vs, t, Heap.get?_push_of_some _ hoc, hd, hv⟩
    have keepCode : ∀ {b : Addr} {q : Str}, H b = some (LamX.CodeO b q) → (upd (upd H P (.tbl (ps ++ #[rawInt pos.line, rawInt pos.col, .ref c']))) c' (LamX.CodeO c' (X.env.qual ++ "<lambda>"))) b = some (LamX.CodeO b q) := by
      intro b q e
      rw [upd_ne (ne_of_none e nC), upd_ne (fun z => by rw [z, hP] at e; exact LamX.codeO_ne ps (Option.some.inj e).symm)]
      exact e
    have atP : (upd (upd H P (.tbl (ps ++ #[rawInt pos.line, rawInt pos.col, .ref c']))) c' (LamX.CodeO c' (X.env.qual ++ "<lambda>"))) P = some (.tbl (ps ++ #[rawInt pos.line, rawInt pos.col, .ref c'])) := by
      rw [upd_ne (ne_of_none hP nC), upd_same]
    have T : LamX.Tabs lawTabs (upd (upd H P (.tbl (ps ++ #[rawInt pos.line, rawInt pos.col, .ref c']))) c' (LamX.CodeO c' (X.env.qual ++ "<lambda>"))) := by
      intro p hp
      by_cases hb : p.1 = P
      · rw [hb, hu p hp hb]
        have eL : (ps ++ #[rawInt pos.line, rawInt pos.col, Value.ref c']).toList = ps.toList ++ [rawInt pos.line, rawInt pos.col, .ref c'] := by simp
        refine ⟨_, atP, ?_, fun p' cv hcv => ?_⟩
        · rw [eL]
          exact PySem.TriplesOk_snoc _ _ _ _ ht
        · rw [eL] at hcv
          rcases LamX.among_app _ ht hcv with z | z
          · obtain ⟨c0, e1, e2⟩ := ha p' cv z
            exact ⟨c0, e1, keepCode e2⟩
          · exact ⟨c', z, upd_same⟩
      · obtain ⟨ps', a1, a2, a3⟩ := dr.2.t p hp
        refine ⟨ps', by rw [upd_ne (ne_of_none a1 nC), upd_ne hb]; exact a1, a2, fun p' cv hcv => ?_⟩
        obtain ⟨c0, e1, e2⟩ := a3 p' cv hcv
        exact ⟨c0, e1, keepCode e2⟩
    refine h h'.objs.size c' ((X.mg "__name__").getD .none) ctv _ _ J (tab_step dr hm hP nC ⟨T, by
      obtain ⟨o, e⟩ := dr.2.m
      refine ⟨o, ?_⟩
      rw [upd_ne (fun z => by rw [z, nC] at e; cases e), upd_ne (fun z => by rw [z, hP] at e; cases e)]
      exact e⟩) (Heap.get?_push_size _ rfl) ?_ (off _ big) upd_same
    rw [upd_ne (Nat.ne_of_gt hlt), upd_ne (Nat.ne_of_gt (Nat.lt_of_lt_of_le (Heap.lt_size tP) big))]
    exact I.hok.fresh big
end
end DL

/-! DLl2: try: ..; except (C1, C2) as n: ..; what stands behind it knows the exception. -/
namespace DL
open PySem PySem.Spec PyProof.Rows L2
/-- an exception in flight stays so where only new things are laid -/
theorem fly_more {B h h' : Heap} {l : List Env} {e : Addr} {Z : Obj → Prop} (x : HandSPX.FlyingZ B l e Z h) (k : ∀ b o, h.get? b = some o → h'.get? b = some o) : HandSPX.FlyingZ B l e Z h' := by
  obtain ⟨h1, h2, h3, oe, vs, T, oT, ts, he, hz, hd, q1, q2, q3, hT, hdT, q4⟩ := x
  exact ⟨fun b o e => k b o (h1 b o e), h2, h3.of_keeps fun b o e _ => ⟨o, k b o e, rfl⟩, oe, vs, T, oT, ts, k _ _ he, hz, hd, q1, q2, q3, k _ _ hT, hdT, q4⟩
/-- what the clause wishes -/
def w2 (K : PySem.W.Frag) (c1 c2 : Value) (i : Nat) (ts ts2 : Addr → Value → Option Addr → TS) (D : Ends) : WX := fun cls d σ H =>
  PySem.W.exmAny K cls [c1, c2] = some true ∧ ∀ a, H a = none → ts a cls d { nx := fun σ' H' => ts2 a cls d D (σ'.set i none) H', rt := fun _ _ => False, bk := fun _ _ => False, ct := fun _ _ => False } (σ.set i (some (.ref a))) H
section
variable {X : Cx} {pins : List (Addr × Obj)} {σ : L2.St} {H : Hp} {s : Shared}
theorem inv_pinned {a : Addr} {q : Addr × Obj} (I : Inv (X.suite a (q :: (X.pn ++ pins))) [] σ H s) (ok : X.Ok) : Inv (X.tr (q :: (X.pn ++ pins)) X.xe) [] σ H s :=
  ⟨ok.toTry _ _, I.os, I.bare, I.base, I.loc, I.cell, I.free, I.freeC, I.pin, I.hok, I.len⟩
theorem inv_unpin {q : Addr × Obj} {pn' : List (Addr × Obj)} (I : Inv (X.tr (q :: (X.pn ++ pins)) X.xe) pn' σ H s) (ok : X.Ok) : Inv X pins σ H s :=
  ⟨ok, I.os, I.bare, I.base, I.loc, I.cell, I.free, I.freeC, fun p hp => I.pin p (List.mem_append_left _ (List.mem_cons_of_mem _ hp)), I.hok, I.len⟩
variable {x1 x2 n : Str} {c1 c2 : Value} {i kk : Nat} {body suite rest : List Stmt} {b₀ : Stmt} {q1 q2 q3 pos pos' : Pos} {tb : WX → TS} {ts ts2 : Addr → Value → Option Addr → TS} {ur : TS}
theorem name_ok {A : Around} {x : Str} {c : Value} {p : Pos} {E Q : Value → Shared → Prop} {a : Addr} {pn : List (Addr × Obj)} (hc : Names X x c) (S : Inv (X.suite a pn) pins σ H s) (q : Q c s) : wpAny (model X.prog X.w) (X.A.mark (some (.ref a))) (eval (.Name x p) X.env) Q E s := by
  obtain ⟨hg, hd, hm | ⟨hm, hv, hn⟩⟩ := hc
  · exact ld_glob (X := X.suite a pn) S hg hm q hd
  · exact ld_blt (X := X.suite a pn) S hg hm hv q hn hd
theorem pss_try2 (hs : X.stack = X.env :: X.outer) (hf : X.env.frame = some X.env.locals) (hN : X.N.Nodup) (hi : X.N[i]? = some n) (hln : X.env.kindOf n = some .local) (hc1 : Names X x1 c1) (hc2 : Names X x2 c2)
    (hb : ∀ (W : WX) (pn : List (Addr × Obj)) (xe : Value → Shared → Prop), Takes (X.tr pn xe) W → PassesOwn (model X.prog X.w) X.A X.env xe → PSs (X.tr pn xe) body (tb W))
    (hsu : ∀ (a : Addr) (oe : Obj) (cls : Value) (d : Option Addr) (pn : List (Addr × Obj)), Zc cls d oe → (∃ vs, oe.data = .fields vs) → PSs (X.suite a ((a, oe) :: pn)) (b₀ :: suite) (ts a cls d))
    (hr : PSs X rest ur) (hr2 : ∀ (a : Addr) (oe : Obj) (cls : Value) (d : Option Addr) (pn : List (Addr × Obj)), Zc cls d oe → (∃ vs, oe.data = .fields vs) → PSs (X.tr ((a, oe) :: pn) X.xe) rest (ts2 a cls d))
    (ht : starEach [.Name x1 q1, .Name x2 q2] X.env = (false, eval (.Name x1 q1) X.env) :: starEach [.Name x2 q2] X.env := by rfl) (ht2 : starEach [.Name x2 q2] X.env = (false, eval (.Name x2 q2) X.env) :: starEach [] X.env := by rfl) :
    PSs X (.Try body [.ExceptHandler (some (.Tuple [.Name x1 q1, .Name x2 q2] kk q3)) (some n) (b₀ :: suite) pos'] [] [] pos :: rest) (fun D σ H => tb (w2 X.K c1 c2 i ts ts2 D) { D with nx := ur D } σ H) := by
  refine ⟨fun pins s σ H D I h => ?_⟩
  have ok := I.ok
  have hfr : X.A.frames = some (X.env :: X.outer) := by rw [ok.frames, hs]
  have behind : ∀ {f : Flow} {s1 : Shared}, SP X pins { D with nx := ur D } f s1 → (match f with | .next => wpAny (model X.prog X.w) X.A (execs rest X.env) (SP X pins D) X.xe s1 | f => SP X pins D f s1) := by
    intro f s1 q
    cases f with
    | next =>
      obtain ⟨σ', H', I', q⟩ := q
      exact hr.run pins s1 σ' H' D I' q
    | ret v => exact q
    | brk => exact q
    | cont => exact q
  refine wpAny_execs_cons ?_
  refine wpAny_Try_except ?_
  refine wpAny_mono ((hb (w2 X.K c1 c2 i ts ts2 D) (X.pn ++ pins) (fun e s₁ => wpAny (model X.prog X.w) X.A (noteFrame e X.env) (fun _ s₂ => wpAny (model X.prog X.w) X.A (setFlight e none) (fun _ s₃ =>
    wpAny (model X.prog X.w) X.A (handleBy e X.env [.ExceptHandler (some (.Tuple [.Name x1 q1, .Name x2 q2] kk q3)) (some n) (b₀ :: suite) pos']) (fun f s1 => match f with | .next => wpAny (model X.prog X.w) X.A (execs rest X.env) (SP X pins D) X.xe s1 | f => SP X pins D f s1) X.xe s₃) X.xe s₂) X.xe s₁) (fun u s' xx => ?_) PassesOwn.looking).run [] s σ H _ (I.toTry _) h) (fun f s1 hsp => ?_) (fun e s1 he => he)
  · obtain ⟨a, B, sI, pins', σ', H', cls, d, rfl, J', nb, up, sky, na, os, ag, hx, wish⟩ := xx
    have J : Inv X pins σ' H' sI := J'.ofTry ok
    rw [hs] at sky
    show wpAny (model X.prog X.w) X.A (noteFrame (.ref a) X.env) _ _ _
    refine Sky.land Zc.steady hfr hf sky fun h3 fl3 up3 => ?_
    have J3 : Inv X pins σ' H' { s' with heap := h3 } := J.landed nb fl3.1 (up.trans up3) os ag
    have offFrames : ∀ {h : Heap} {o : Obj} {vs : Array Value}, h.FunFrames B (X.env :: X.outer) → h.get? a = some o → o.data = .fields vs → a ∉ frs (X.env :: X.outer) := by
      intro h o vs ff e dd hm
      obtain ⟨_, o', e', hnf⟩ := ff.mem hm
      cases e.symm.trans e'
      exact hnf _ dd
    obtain ⟨oe3, vs3, he3, hz3, hd3⟩ := fl3.there
    have nfr := offFrames fl3.2.2.1 he3 hd3
    have nL : a ≠ X.env.locals := fun z => nfr (List.mem_filterMap.mpr ⟨X.env, List.mem_cons_self, by rw [hf, z]⟩)
    have nF : a ∉ X.fs := fun hm => by
      obtain ⟨e, he, q⟩ := List.mem_filterMap.mp hm
      exact nfr (List.mem_filterMap.mpr ⟨e, List.mem_cons_of_mem _ he, q⟩)
    have S3 := J3.suite he3 hd3 na nL nF
    refine wpAny_handleBy_cons (codeAny_handlers_test ?_) (by intro q; cases q)
    -- the tuple of the classes is made
    refine wpAny_Tuple (wpAny_items_cons (name_ok (A := X.A) hc1 S3 (wpAny_items_cons (name_ok (A := X.A) hc2 S3 (wpAny_items_nil ⟨(show 2 ≤ sizeLine by rw [sizeLine_eq]; decide), ?_⟩)) ht2)) ht)
    have kp : ∀ q o, h3.get? q = some o → (h3.push { cls := .type "tuple", data := .seq [c1, c2].toArray }).get? q = some o := fun _ _ z => Heap.get?_push_of_some _ z
    have LT : PySem.W.Looks (model X.prog X.w) (h3.push { cls := .type "tuple", data := .seq [c1, c2].toArray }) (typeOf (.ref a)) cls := fun A Q E s k q => wpAny_typeOf_ref (k _ _ (kp _ _ he3)) (by rw [hz3.1]; exact q)
    refine (PySem.W.exm_tup2 (M := model X.prog X.w) (J3.kIn.keeps kp) LT (Heap.get?_push_size h3 rfl) hx).here ?_
    have J3' : Inv X pins σ' H' { s' with heap := h3.push { cls := .type "tuple", data := .seq [c1, c2].toArray } } := J3.kept (t' := s'.toks) kp
    have fl3' := fly_more fl3 kp
    refine codeAny_handlers_suite_as ?_
    refine HandSPX.lands_againZ fl3' fun h4 fl4 up4 => ?_
    have up5 : sI.heap.UpToSlots h4 := (up.trans up3).trans fun b o e hb => by
      exact up4 b o (kp b o e) hb
    have J4 : Inv X pins σ' H' { s' with heap := h4 } := J.landed nb fl4.1 up5 os ag
    obtain ⟨oe4, vs4, he4, hz4, hd4⟩ := fl4.there
    have S4 := J4.suite he4 hd4 na nL nF
    refine store_ok (X := X.suite a ((a, oe4) :: (X.pn ++ pins))) (v := .ref a) S4 hN hi (.inl hln) rfl (fun s5 S5 => ?_) (.inr hln)
    refine wpAny_mono ((hsu a oe4 cls d (X.pn ++ pins) hz4 ⟨_, hd4⟩).run [] s5 _ H' _ S5 (wish a na)) (fun f s6 hsp => ?_) (fun _ _ z => False.elim z)
    cases f with
    | next =>
      obtain ⟨σ6, H6, S6, q6⟩ := hsp
      refine gone_ok (X := X.tr ((a, oe4) :: (X.pn ++ pins)) X.xe) (pins := []) (inv_pinned S6 ok) hN hi hln fun s7 J7 => ?_
      refine wpAny_mono ((hr2 a oe4 cls d (X.pn ++ pins) hz4 ⟨_, hd4⟩).run [] s7 _ H6 D J7 q6) (fun f s8 hsp => ?_) (fun _ _ z => z)
      cases f with
      | next => obtain ⟨σ8, H8, J8, q8⟩ := hsp; exact ⟨σ8, H8, inv_unpin J8 ok, q8⟩
      | brk => obtain ⟨σ8, H8, J8, q8⟩ := hsp; exact ⟨σ8, H8, inv_unpin J8 ok, q8⟩
      | cont => obtain ⟨σ8, H8, J8, q8⟩ := hsp; exact ⟨σ8, H8, inv_unpin J8 ok, q8⟩
      | ret u => obtain ⟨v8, σ8, H8, J8, r8, q8⟩ := hsp; exact ⟨v8, σ8, H8, inv_unpin J8 ok, r8, q8⟩
    | brk => obtain ⟨_, _, _, z⟩ := hsp; exact z.elim
    | cont => obtain ⟨_, _, _, z⟩ := hsp; exact z.elim
    | ret u => obtain ⟨_, _, _, _, _, z⟩ := hsp; exact z.elim
  · cases f with
    | next =>
      obtain ⟨σ', H', J', q⟩ := hsp
      exact wpAny_execs_nil (behind (f := .next) ⟨σ', H', J'.ofTry ok, q⟩)
    | brk =>
      obtain ⟨σ', H', J', q⟩ := hsp
      exact ⟨σ', H', J'.ofTry ok, q⟩
    | cont =>
      obtain ⟨σ', H', J', q⟩ := hsp
      exact ⟨σ', H', J'.ofTry ok, q⟩
    | ret u =>
      obtain ⟨v, σ', H', J', r, q⟩ := hsp
      exact ⟨v, σ', H', J'.ofTry ok, r, q⟩
end
end DL

/-! DLl3: an exception that is known by its address: isinstance, its field, is None. -/
namespace DL
open PySem PySem.Spec PyProof.Rows L2
/-- the context knows the exception at a: of the class C, its dict at dx -/
def PinX (X : Cx) (a dx C : Addr) : Prop := ∃ oe : Obj, (a, oe) ∈ X.pn ∧ Zc (.ref C) (some dx) oe ∧ ∃ vs, oe.data = .fields vs
/-- what has to be known of its class -/
structure ToldK (K : PySem.W.Frag) (C : Addr) : Prop extends XfC K C where
  cl : (PySem.W.clsIn K C).isSome = true
  at_ : PySem.W.findIn K (.ref C) "__class__" = some (some (.builtin "object.__class__"))
  gs : PySem.W.specialIn K (.builtin "object.__class__") "__get__" = some (some (.builtin "getset_descriptor.__get__"))
  tk : PySem.W.takesIn K (.builtin "object.__class__") = some true
  ob : PySem.W.mroIn K C (.type "object") = some true
  no : ∀ f ∈ (["place", "value", "word", "most"] : List Str), PySem.W.findIn K (.ref C) f = some none
section
variable {X : Cx} {a dx C : Addr} {p pos p1 p2 : Pos} {x cn f : Str} {i : Nat}
theorem pe_gref {u : Addr} (hg : Gl X x) (hm : X.mg x = some (.ref u)) (hd : (x == ("__debug__" : Str)) = false := by decide) : PE X (.Name x p) (fun σ H Q => Q (.ref u) H) :=
  ⟨fun pins s σ H Q I h => ld_glob I hg hm ⟨.ref u, H, I, rfl, h⟩ hd⟩
def rIsP (K : PySem.W.Frag) (C a dx : Addr) (b : Bool) : List V → Hp → VK → Prop := fun xs H Q => ∃ (Dd : Addr) (fs : List (Str × V)), xs = [.ref a, .ref Dd] ∧ H dx = some (.xd fs) ∧ PySem.W.kitOne K (.ref C) (.ref Dd) = some b ∧ Q (.bl b) H
theorem pin_at {pins : List (Addr × Obj)} {σ : L2.St} {H : Hp} {s : Shared} {fs : List (Str × V)} (P : PinX X a dx C) (I : Inv X pins σ H s) (hd : H dx = some (.xd fs)) :
    ∃ (oe od : Obj) (mA : Str → Option Value), PySem.W.InstAt s.heap a oe C (some od) ∧ (∀ n, PySem.W.lookIn n od = some (mA n)) ∧ ∀ n, RelO (fs.lookup n) (mA n) := by
  obtain ⟨oe, hp, hz, vs, hv⟩ := P
  obtain ⟨ha, _⟩ := I.pin (a, oe) (List.mem_append_left _ hp)
  have hx : ObjOk X.prog X.w H s.heap dx (.xd fs) := I.hok dx _ hd
  obtain ⟨mA, hns, hr⟩ := hx
  obtain ⟨od, ho, hl⟩ := lookIn_ns hns
  exact ⟨oe, od, mA, ⟨ha, hz.1, by unfold PySem.W.notCls; rw [hv] <;> rfl, by rw [hz.2]; exact ho⟩, hl, hr⟩
theorem call_isP {b : Bool} (P : PinX X a dx C) (T : ToldK X.K C) : CallR X (.builtin "isinstance") (rIsP X.K C a dx b) := by
  intro pins s σ H xs us Q I r h
  obtain ⟨Dd, fs, rfl, hd, hk, q⟩ := h
  cases r with
  | cons r1 r2 =>
    cases r2 with
    | cons r2 r3 =>
      cases r3
      cases r1
      cases r2
      obtain ⟨oe, od, mA, J, _, _⟩ := pin_at P I hd
      exact PySem.W.kia_one (PySem.W.kitx_exc T.cl T.ga T.gg T.exC T.at_ T.gs T.tk T.ob) I.kIn J hk (fun z => nomatch z) fun tk => ⟨.bl b, H, I.kept (t' := tk) fun _ _ z => z, rfl, q⟩
/-- isinstance(e, C) -/
def dIsE (i : Nat) (a dx : Addr) (b : Bool) : ET := fun _ η Q => (∃ f d, η[i]? = some (.obj a (some (dx, f, d)))) ∧ Q (.bool b)
theorem obj_at {K : PySem.W.Frag} {c : Ctx} {O : Addr → Prop} {η : EnvD} {σ : L2.St} {H : Hp} {o : Option (Addr × Str × D)} (g : Good K c O η σ H) (h : η[i]? = some (.obj a o)) : σ[i]? = some (some (.ref a)) ∧ ∀ p, o = some p → ∃ y, H p.1 = some (.xd [(p.2.1, y)]) ∧ Rep K O H y p.2.2 := by
  obtain ⟨e, q⟩ := g.cell i _ h
  refine ⟨?_, q⟩
  cases z : σ[i]? with
  | none => rw [z] at e; cases e
  | some w => rw [z] at e; exact congrArg some e
theorem de_isE {Dd : Addr} {b : Bool} (P : PinX X a dx C) (T : ToldK X.K C) (hg : Gl X "isinstance") (hm : X.mg "isinstance" = none) (hgc : Gl X cn) (hmc : X.mg cn = some (.ref Dd)) (hk : PySem.W.kitOne X.K (.ref C) (.ref Dd) = some b) (hN : X.N[i]? = some x := by rfl) (hv : Vis X.env.scope x := by first | exact Or.inl rfl | exact Or.inr (Or.inl rfl) | exact Or.inr (Or.inr rfl))
    (hd : (x == ("__debug__" : Str)) = false := by decide) (hcd : (x == ("__classdict__" : Str)) = false := by decide) (hdc : (cn == ("__debug__" : Str)) = false := by decide)
    (h1 : starEach [.Name x p1, .Name cn p2] X.env = (false, eval (.Name x p1) X.env) :: starEach [.Name cn p2] X.env := by rfl) (h2 : starEach [.Name cn p2] X.env = (false, eval (.Name cn p2) X.env) :: starEach [] X.env := by rfl) :
    DE X (.Call (.Name "isinstance" p) [.Name x p1, .Name cn p2] [] pos) (dIsE i a dx b) :=
  .of (pe_callB (call_isP (b := b) P T) hg hm (by decide +kernel) (pa_cons (pe_var hN hv hd hcd) (pa_cons (pe_gref hgc hmc hdc) pa_nil h2) h1)) fun σ H c O η E Q g h => by
    obtain ⟨⟨f, d, hi⟩, q⟩ := h
    obtain ⟨e, o⟩ := obj_at g.toGood hi
    obtain ⟨y, hx, _⟩ := o _ rfl
    exact ⟨.ref a, e, Dd, _, rfl, hx, hk, .bool b, .refl g.draw, .bl b, q⟩
/-- e.f -/
def dFldE (i : Nat) (a dx : Addr) (f : Str) : ET := fun _ η Q => ∃ d, η[i]? = some (.obj a (some (dx, f, d))) ∧ Q d
theorem de_fldE (P : PinX X a dx C) (T : ToldK X.K C) (hf : f ∈ (["place", "value", "word", "most"] : List Str)) (hN : X.N[i]? = some x := by rfl) (hv : Vis X.env.scope x := by first | exact Or.inl rfl | exact Or.inr (Or.inl rfl) | exact Or.inr (Or.inr rfl))
    (hd : (x == ("__debug__" : Str)) = false := by decide) (hcd : (x == ("__classdict__" : Str)) = false := by decide) (hb : attributeBase (.Name x p1) f X.env (eval (.Name x p1) X.env) = eval (.Name x p1) X.env := by rfl) :
    DE X (.Attribute (.Name x p1) f pos) (dFldE i a dx f) := ⟨fun pins s σ H c O η E Q I g h => by
  obtain ⟨d, hi, q⟩ := h
  obtain ⟨e, o⟩ := obj_at g.toGood hi
  obtain ⟨y, hx, ry⟩ := o _ rfl
  refine attr_of hb (thn ((pe_var hN hv hd hcd).run pins s σ H (fun v H1 => v = .ref a ∧ H1 = H) I ⟨.ref a, e, rfl, rfl⟩) fun u s1 hh => ?_)
  obtain ⟨v, H1, I1, r1, e1, e2⟩ := hh
  subst e1 e2
  obtain rfl : u = Value.ref a := r1
  obtain ⟨oe, od, mA, J, hl, hr⟩ := pin_at P I1 hx
  obtain ⟨w, hw, rw'⟩ := RelO.some_of (v := y) (o := mA f) (by have := hr f; simpa [List.lookup] using this)
  exact HandSPX.exc_get I1.kIn J T.ga T.gg T.exC (PySem.W.findObj_own T.hdC (T.no f hf) rfl (by rw [hl, hw])) (handed_of rw') ⟨d, y, _, I1.tok _, rw', .refl g.draw, ry, q⟩⟩
/-- e is None -/
def dObjN (i : Nat) (a : Addr) : ET := fun _ η Q => (∃ o, η[i]? = some (.obj a o)) ∧ Q (.bool false)
theorem de_objN {j : Nat} {p3 : Pos} (hN : X.N[i]? = some x := by rfl) (hv : Vis X.env.scope x := by first | exact Or.inl rfl | exact Or.inr (Or.inl rfl) | exact Or.inr (Or.inr rfl))
    (hd : (x == ("__debug__" : Str)) = false := by decide) (hcd : (x == ("__classdict__" : Str)) = false := by decide) : DT X (.Compare (.Name x p1) [.Is] [.Constant .none j p2] p3) (fun E η Q => (∃ o, η[i]? = some (.obj a o)) ∧ Q false) :=
  .of (pt_cmpR op_isN (pe_var hN hv hd hcd) pe_non (nomark _)) fun σ H c O η E Q g h => by
    obtain ⟨⟨o, hi⟩, q⟩ := h
    obtain ⟨e, _⟩ := obj_at g.toGood hi
    exact ⟨.ref a, e, rfl, false, rfl, .refl g.draw, q⟩
end
end DL

/-! DLl4: a def called with an exception that the caller knows. -/
namespace DL
open PySem PySem.Spec PyProof.Rows L2
/-- a block's term where no error may leave -/
def lift0S (K : PySem.W.Frag) (t : SD) : TS := fun D σ H => ∃ (c : Ctx) (O : Addr → Prop) (η : EnvD) (z : EndsD), Good K c O η σ H ∧ t never z η ∧
  (∀ σ' H', (∃ O η, Good K c O η σ' H' ∧ z.nx η) → D.nx σ' H') ∧ (∀ v H', (∃ d, (∀ a o, ¬ Wr c.G a → c.H0 a = some o → H' a = some o) ∧ DrawOk c.G H' ∧ Rep K c.B H' v d ∧ z.rt d) → D.rt v H') ∧
  (∀ σ' H', (∃ O η, Good K c O η σ' H' ∧ z.bk η) → D.bk σ' H') ∧ (∀ σ' H', (∃ O η, Good K c O η σ' H' ∧ z.ct η) → D.ct σ' H')
theorem DSs.pss0 {X : Cx} {st : List Stmt} {t : SD} (h : DSs X st t) : PSs X st (lift0S X.K t) := ⟨fun pins s σ H D I ⟨c, O, η, z, g, ht, k1, k2, k3, k4⟩ =>
  h.pss.run pins s σ H D I ⟨c, O, η, never, z, ⟨g, eok_never⟩, ht, fun σ' H' ⟨O', η', g', q⟩ => k1 σ' H' ⟨O', η', g'.toGood, q⟩, k2, fun σ' H' ⟨O', η', g', q⟩ => k3 σ' H' ⟨O', η', g'.toGood, q⟩, fun σ' H' ⟨O', η', g', q⟩ => k4 σ' H' ⟨O', η', g'.toGood, q⟩⟩⟩
/-- what is known at the entry of a def is known in it -/
theorem pin_pss {P : Program} {w : World} {K : PySem.W.Frag} {mg : Str → Option Value} {base : Heap} {N : List Str} {qual : Str} {scope : Scope} {f : Addr} {cdv : Value} {A : Around} {outer : List Env} {s : Shared} {H : Hp} {E : XK} {body : List Stmt} {T : TS} {a : Addr} {oe : Obj} {vs : Array Value}
    (h : ∀ (pn : List (Addr × Obj)), PSs ((cxOf CX0 P w K mg base N qual scope f cdv A outer s H E).nox.tr ((a, oe) :: pn) (cxOf CX0 P w K mg base N qual scope f cdv A outer s H E).nox.xe) body T) (ha : s.heap.get? a = some oe) (hd : oe.data = .fields vs) (n0 : H a = none) (nf : a ∉ frs outer) :
    PSs (cxOf CX0 P w K mg base N qual scope f cdv A outer s H E).nox body T := by
  refine ⟨fun pins s1 σ H1 D I ht => ?_⟩
  have ok := I.ok
  have hg : s1.heap.get? a = some oe := I.base.keep a oe ha n0 nf (fun z => nomatch z)
  have nH : H1 a = none := I.base.free a oe ha n0 (fun z => nomatch z)
  have nL : a ≠ s.heap.objs.size := Nat.ne_of_lt (Heap.lt_size ha)
  have J : Inv ((cxOf CX0 P w K mg base N qual scope f cdv A outer s H E).nox.tr ((a, oe) :: ((cxOf CX0 P w K mg base N qual scope f cdv A outer s H E).nox.pn ++ pins)) (cxOf CX0 P w K mg base N qual scope f cdv A outer s H E).nox.xe) [] σ H1 s1 :=
    ⟨ok.toTry _ _, I.os, I.bare, I.base, I.loc, I.cell, I.free, I.freeC, fun p hp => by
      have hp' : p ∈ (a, oe) :: ((cxOf CX0 P w K mg base N qual scope f cdv A outer s H E).nox.pn ++ pins) := by rw [List.append_nil] at hp; exact hp
      rcases List.mem_cons.mp hp' with e | z
      · rw [e]
        exact ⟨hg, nH, nL, nf, fun v z => by have z' : oe.data = .cell v := z; rw [hd] at z'; cases z'⟩
      · exact I.pin p z, I.hok, I.len⟩
  refine wpAny_mono ((h _).run [] s1 σ H1 D J ht) (fun fl s2 hsp => ?_) fun _ _ z => z
  cases fl with
  | next => obtain ⟨σ8, H8, J8, q8⟩ := hsp; exact ⟨σ8, H8, inv_unpin J8 ok, q8⟩
  | brk => obtain ⟨σ8, H8, J8, q8⟩ := hsp; exact ⟨σ8, H8, inv_unpin J8 ok, q8⟩
  | cont => obtain ⟨σ8, H8, J8, q8⟩ := hsp; exact ⟨σ8, H8, inv_unpin J8 ok, q8⟩
  | ret u => obtain ⟨v8, σ8, H8, J8, r8, q8⟩ := hsp; exact ⟨v8, σ8, H8, inv_unpin J8 ok, r8, q8⟩
/-- f(e): the term of f's body is run with what is known of e -/
def dRef (i : Nat) (a dx : Addr) (m : Nat) (t : SD) : ET := fun _ η Q => ∃ f d, η[i]? = some (.obj a (some (dx, f, d))) ∧ t never { nx := fun _ => Q .none, rt := Q } (.obj a (some (dx, f, d)) :: List.replicate m .un)
section
variable {X : Cx} {a dx C : Addr} {p pos p1 : Pos} {x y e : Str} {i k m : Nat} {st : Stmt} {N : List Str} {t : SD}
theorem de_ref (P : PinX X a dx C) (hs : X.stack = X.env :: X.outer) (hf : X.env.frame = some X.env.locals) (Df : DefIn X.K X.mg y st [e]) (S : FnScope N [e] (defScope st)) (hm : N.length = m + 1) (hr : Room (k + 1) X.A) (hgd : X.A.guards = some [])
    (hb : ∀ (f : Addr) (cdv : Value) (A : Around) (outer : List Env) (s : Shared) (H : Hp) (E : XK) (oe : Obj) (pn : List (Addr × Obj)), A.guards = some [] → Room k (A.deeper (envOfC y (defScope st) s.heap.objs.size f cdv)) → Zc (.ref C) (some dx) oe → (∃ vs, oe.data = .fields vs) →
      DSs ((cxOf CX0 X.prog X.w X.K X.mg X.base N y (defScope st) f cdv A outer s H E).nox.tr ((a, oe) :: pn) (cxOf CX0 X.prog X.w X.K X.mg X.base N y (defScope st) f cdv A outer s H E).nox.xe) (defBody st) t)
    (hgy : Gl X y) (hN : X.N[i]? = some x := by rfl) (hv : Vis X.env.scope x := by first | exact Or.inl rfl | exact Or.inr (Or.inl rfl) | exact Or.inr (Or.inr rfl)) (hdx : (x == ("__debug__" : Str)) = false := by decide) (hcd : (x == ("__classdict__" : Str)) = false := by decide) (hdy : (y == ("__debug__" : Str)) = false := by decide)
    (he : starEach [.Name x p1] X.env = (false, eval (.Name x p1) X.env) :: starEach [] X.env := by rfl) (hpl : (backTo pos (starEach [] X.env)).any (·.1) = false := by rfl) :
    DE X (.Call (.Name y p) [.Name x p1] [] pos) (dRef i a dx m t) := ⟨fun pins s σ H c O η E Q I g h => by
  obtain ⟨f, fd, F, hmy, hbd⟩ := Df.ex
  obtain ⟨fld, d, hi, ht⟩ := h
  obtain ⟨ei, oi⟩ := obj_at g.toGood hi
  obtain ⟨yv, hx, ry⟩ := oi _ rfl
  refine wpAny_Call_Name_kw (ld_glob I hgy hmy (PySem.W.callWith_K (h₀ := X.base) I.ok.mod.kin F.kp (thn ((pa_cons (pe_var hN hv hdx hcd) pa_nil he).run pos pins s σ H (fun vs H1 => vs = [.ref a] ∧ H1 = H) I ⟨.ref a, ei, rfl, rfl⟩) fun us s1 hu => ?_) he hpl) hdy)
  obtain ⟨vs, H1, I1, r1, e1, e2⟩ := hu
  subst e1 e2
  refine ⟨I1.kIn, ?_⟩
  obtain ⟨oe, hp, hz, dv, hdv⟩ := P
  obtain ⟨hga, hna, hnL, hnF, _⟩ := I1.pin (a, oe) (List.mem_append_left _ hp)
  have nfr : a ∉ frs X.stack := by
    rw [hs]
    intro z
    obtain ⟨en, hen, q⟩ := List.mem_filterMap.mp z
    rcases List.mem_cons.mp hen with w | w
    · subst w
      rw [hf] at q
      exact hnL (Option.some.inj q).symm
    · exact hnF (List.mem_filterMap.mpr ⟨en, w, q⟩)
  have eu : us = [.ref a] := by
    cases r1 with
    | cons q1 q2 => cases q2; cases q1; rfl
  subst eu
  obtain ⟨oc, od, kV, doc, pm, an, cdv, ct, osl, rfl, lk, hcd'⟩ := F.ex
  have good : Good X.K ⟨O, c.G, H1, []⟩ O (.obj a (some (dx, fld, d)) :: List.replicate m .un) (start N [.ref a]) H1 := by
    refine ⟨?_, fun _ z => z, g.wO, g.hT, fun _ _ _ z => z, g.draw, fun j z hj => ?_, fun j l ds es b h1 _ _ _ => ?_, fun p hp => absurd hp (by simp)⟩
    · unfold L2.start
      simp [hm]
    · match j, hj with
      | 0, hj =>
        cases hj
        refine ⟨by unfold L2.start; rfl, fun p hp => ?_⟩
        cases hp
        exact ⟨yv, hx, ry⟩
      | j + 1, hj =>
        rw [List.getElem?_cons_succ, List.getElem?_replicate] at hj
        split at hj
        · cases hj; trivial
        · cases hj
    · match j, h1 with
      | 0, h1 => cases h1
      | j + 1, h1 =>
        rw [List.getElem?_cons_succ, List.getElem?_replicate] at h1
        split at h1 <;> cases h1
  have rc : codeAny (model X.prog X.w) X.A (.call (.ref f) ⟨[.ref a], []⟩) (CR CX0 X.stack X.prog X.w H1 s1 (fun v H' => ∃ d, Step c.G H1 H' ∧ Rep X.K O H' v d ∧ Q d) E0) s1 := by
    refine LamX.run_ofS (N := N) (ps := [e]) (us := [.ref a]) (vs := [.ref a]) lk hcd' S hr I1.env0 (hbd s1 [.ref a] I1.kIn rfl) (.cons rfl .nil) rfl fun hr' => ⟨_, (pin_pss (T := lift0S X.K t) (fun pn => (hb f cdv X.A X.stack s1 H1 E0 oe pn hgd hr' hz ⟨_, hdv⟩).pss0) hga hdv hna nfr).nox, ?_⟩
    exact ⟨⟨O, c.G, H1, []⟩, O, _, _, good, ht, fun σ' H' ⟨O', η', g', q⟩ => ⟨.none, ⟨g'.keep, g'.draw⟩, .non, q⟩, fun v H' ⟨d', q1, q2, q3, q4⟩ => ⟨d', ⟨q1, q2⟩, q3, q4⟩, fun σ' H' ⟨_, _, _, q⟩ => q.elim, fun σ' H' ⟨_, _, _, q⟩ => q.elim⟩
  refine wpAny_call (codeAny_mono rc fun r s2 hq => ?_)
  match r, hq with
  | .error e, hq => exact (show False from hq).elim
  | .ok (.ret u), hq =>
    obtain ⟨v, H2, I2, rv, d', st, rp, q⟩ := I1.after hq
    exact ⟨d', v, H2, I2, rv, st, rp, q⟩⟩
end
end DL

/-! DLl5: a def that makes lambdas knows its own code. -/
namespace DL
open PySem PySem.Spec PyProof.Rows L2
section
variable {P : Program} {w : World} {K : PySem.W.Frag} {mg : Str → Option Value} {base : Heap} {CX : CXT} {k : Nat} {f : Addr} {fd : FuncData} {ps N : List Str} {sp : Sp}
theorem fnG_ofC {x qual : Str} {st : Stmt} (F : Fun K x qual st f fd) (S : FnScope N ps (defScope st)) (len : ∀ vs H Q E, sp vs H Q E → vs.length = ps.length)
    (hbody : ∀ (cdv : Value) (A : Around) (outer : List Env) (s : Shared) (H : Hp) (vs : List V) (Q : VK) (E : XK), fd.code = cdv → A.guards = some [] → Room k (A.deeper (envOfC qual (defScope st) s.heap.objs.size f cdv)) → sp vs H Q E →
      ∃ t, PSs (cxOf CX P w K mg base N qual (defScope st) f cdv A outer s H E) (defBody st) t ∧ t { nx := fun _ H' => Q .non H', rt := Q } (start N vs) H) : FnG P w K mg base CX (k + 1) f fd ps sp := by
  obtain ⟨oc, od, kV, doc, pm, an, cdv, ct, osl, rfl, lk, hcd⟩ := F.ex
  refine ⟨len, fun A outer s H args us vs Q E hg hr e0 hb r hsp => ?_⟩
  have hl := len _ _ _ _ hsp
  have inH : ∀ b o, base.get? b = some o → s.heap.get? b = some o := fun b o e => (e0.bs b o e).1
  have kinds : ∀ y ∈ ps.zip us, (defScope st).names.lookup y.1 = some .local ∨
      ((defScope st).names.lookup y.1 = some .cell ∧ ((cellsFrom (s.heap.objs.size + 1) (defScope st).names []).lookup y.1).isSome = true) := fun y hy =>
    (S.par y.1 (List.of_mem_zip (a := y.1) (b := y.2) hy).1).imp id fun q => ⟨q, PySem.W.cellsFrom_some _ _ _ (.inl q)⟩
  refine codeAny_call_function hr.depth (e0.mod.kin.keeps inH _ _ lk) rfl S.co S.gen rfl (PySem.W.codeRec_of (e0.mod.kin.keeps inH) hcd) (hb _ _ _ _ ?_)
  refine wpAny_newFunctionEnv_cells S.kind kinds fun env he s1 IC => ?_
  subst he
  refine ⟨(e0.mod.nolimit.keeps inH).keeps IC.toInCall.keep, codeAny_func ?_⟩
  obtain ⟨t, ht, hq⟩ := hbody cdv A outer s H vs Q E rfl hg (hr.deeper _) hsp
  refine wpAny_mono (ht.run [] s1 (start N vs) H _ (inv_start (CX := CX) (E := E) S hr.hd e0 hl r IC) hq) (fun fl s' hs => ?_) fun e s' hs => hs
  match fl, hs with
  | .ret u, ⟨v, σ', H', J, rv, q⟩ => exact ⟨v, H', J.os, J.bare, J.base, J.hok, rv, q⟩
  | .next, ⟨σ', H', J, q⟩ => exact ⟨.non, H', J.os, J.bare, J.base, J.hok, rfl, q⟩
  | .brk, ⟨_, _, _, q⟩ => exact q.elim
  | .cont, ⟨_, _, _, q⟩ => exact q.elim
/-- where the lambdas of the def x are noted -/
structure LamAt (K : PySem.W.Frag) (mg : Str → Option Value) (base : Heap) (x : Str) (c P : Addr) : Prop where
  tab : LamX.TabB base mg c P
  mem : (P, x ++ ".<locals>." ++ "<lambda>") ∈ lawTabs
  uni : ∀ p ∈ lawTabs, p.1 = P → p.2 = x ++ ".<locals>." ++ "<lambda>"
  code : ∀ (st : Stmt) (f : Addr) (fd : FuncData), Fun K x x st f fd → mg x = some (.ref f) → fd.code = .ref c
theorem hasF_ofL {x : Str} {st : Stmt} {t : SD} {c Pt : Addr} (La : LamAt K mg base x c Pt) (Df : DefIn K mg x st ps) (S : FnScope N ps (defScope st))
    (hbody : ∀ (f : Addr) (A : Around) (outer : List Env) (s : Shared) (H : Hp) (E : XK), A.guards = some [] → Room k (A.deeper (envOfC x (defScope st) s.heap.objs.size f (.ref c))) → DSs (cxOf CX0 P w K mg base N x (defScope st) f (.ref c) A outer s H E).nox (defBody st) t) :
    HasF P w K mg base x (k + 1) ps (bodyD ps.length N.length t) := by
  obtain ⟨f, fd, F, hm, hb⟩ := Df.ex
  refine ⟨⟨f, fd, hm, F.kp, hb, ?_⟩, bodyD_len⟩
  refine fnG_ofC F S (fun vs H Q E h => h.1) fun cdv A outer s H vs Q E hcdv hg hr h => ?_
  have ec := La.code st f fd F hm
  rw [hcdv] at ec
  subst ec
  obtain ⟨hl, B, G, cs, R, hB, hW, hd, ha, hw, kk⟩ := h
  refine ⟨_, (hbody f A outer s H E hg hr).pss.nox, ⟨B, G, H, []⟩, B, _, never, _, ⟨start_good (N := N) hB hW hd ha, eok_never⟩, hw.2, fun σ' H' ⟨O, η, g, q⟩ => ?_, fun v H' ⟨d, h1, h2, h3, h4⟩ => kk d v H' ⟨h1, h2⟩ h3 h4, fun σ' H' ⟨O, η, g, q⟩ => q.elim, fun σ' H' ⟨O, η, g, q⟩ => q.elim⟩
  exact kk .none .non H' ⟨g.keep, g.draw⟩ .non q
end
end DL

/-! DLl6: x(lambda: e), where x is the def that tells what a call returns, or of what class its refusal is. -/
namespace DL
open PySem PySem.Spec PyProof.Rows L2
abbrev N_told : List Str := ["_law_call", "_law_found", "_law_error", "e"]
def eight : List Str := ["BadSchema", "BadStore", "BadLot", "BadColumn", "BadCell", "BadNumber", "BadPaper", "TooMany"]
/-- what has to be known of a class that may be told -/
structure ToldN (K : PySem.W.Frag) (mg : Str → Option Value) (nm : Str) (C : Addr) : Prop extends ToldK K C where
  nam : mg nm = some (.ref C)
  is : ∀ cn ∈ eight, ∃ Dd, mg cn = some (.ref Dd) ∧ PySem.W.kitOne K (.ref C) (.ref Dd) = some (cn == nm)
/-- the told classes' bases -/
structure ToldB (K : PySem.W.Frag) (mg : Str → Option Value) (ok : Str → Prop) (S1 S2 : Addr) : Prop where
  s1 : mg "ShareError" = some (.ref S1)
  s2 : mg "TooMany" = some (.ref S2)
  cl : ∀ nm, ok nm → ∃ C, ToldN K mg nm C ∧ PySem.W.exmAny K (.ref C) [.ref S1, .ref S2] = some true
def dTold (rF : Addr → Addr → Str → SD) (m : Nat) (ok : Str → Prop) (tb : ET) : ET := fun _ η Q =>
  tb (fun nm fs => ∃ f d, fs = [(f, d)] ∧ ok nm ∧ ∀ a dx, rF a dx nm never { nx := fun _ => Q .none, rt := Q } (.obj a (some (dx, f, d)) :: List.replicate m .un)) η fun d => Q (.list [d])
/-- the lambda's body, read at the maker's slots -/
def tLamD (K : PySem.W.Frag) (mg : Str → Option Value) (tb : ET) (E : XK) : TE := fun σ H R => ∃ (c : Ctx) (O : Addr → Prop) (η : EnvD) (E' : XP) (Q : D → Prop), Good K c O η σ H ∧ (∀ cls d H', ErrG K mg c.B c.G c.H0 E' cls d H' → E cls d H') ∧ tb E' η Q ∧ ∀ d v H', Step c.G H H' → Rep K O H' v d → Q d → R v H'
theorem pe_lamD {X : Cx} {A : Around} {outer : List Env} {s : Shared} {H : Hp} {E : XK} {scope : Scope} {f c' : Addr} {body : Expr} {tb : ET} (h : DE (LamX.lamCx X A outer s H E scope f c') body tb) : PE (LamX.lamCx X A outer s H E scope f c') body (tLamD X.K X.mg tb E) :=
  ⟨fun pins s1 σ H1 R I ⟨c, O, η, E', Q, g, he, ht, k⟩ => thn (h.run pins s1 σ H1 c O η E' Q I ⟨g, (takes_of rfl rfl rfl rfl).imp fun cls d _ H' w => he cls d H' w⟩ ht) fun u s' ⟨d, v, H', I', r, st, rp, q⟩ => ⟨v, H', I', r, k d v H' st rp q⟩⟩
theorem de_false {X : Cx} {e : Expr} : DE X e (fun _ _ _ => False) := ⟨fun _ _ _ _ _ _ _ _ _ _ _ z => z.elim⟩
theorem DrawOk.ext_ {G : Option (Addr × Addr)} {H : Hp} (h : DrawOk G H) {a : Addr} {f : Heap → Prop} (e : H a = some (.ext f)) : ¬ Wr G a := by
  rintro (⟨⟨p1, p2⟩, rfl, h1⟩ | ⟨q, hq⟩)
  · obtain ⟨_, m, t, ns, e1, _, _, e2, _⟩ := h.1
    rcases h1 with h1 | h1 <;> (have h1 := h1; simp only at h1; subst h1)
    · rw [e1] at e; cases e
    · rw [e2] at e; cases e
  · obtain ⟨ps, e1, _⟩ := h.2.t _ hq
    have e1 : H a = some (.tbl ps) := e1
    rw [e1] at e; cases e
/-- what that def makes of the call's reading -/
def toldT (K : PySem.W.Frag) (mg : Str → Option Value) (rF : Addr → Addr → Str → SD) (m : Nat) (ok : Str → Prop) (tl : XK → Hp → VK → Prop) (f c' : Addr) (q : Str) : TS := fun Dz σ H0 => ∃ (O : Addr → Prop) (G : Option (Addr × Addr)) (Q : D → Prop),
  Good K ⟨O, G, H0, []⟩ O [.obj f none, .un, .un, .un] σ H0 ∧ H0 c' = some (LamX.CodeO c' q) ∧
  (∀ HZ, Step G H0 HZ → ∀ (E' : XK) (Q' : VK), (∀ cls d H', ErrG K mg O G H0 (fun nm fs => ∃ f d, fs = [(f, d)] ∧ ok nm ∧ ∀ a dx, rF a dx nm never { nx := fun _ => Q .none, rt := Q } (.obj a (some (dx, f, d)) :: List.replicate m .un)) cls d H' → E' cls d H') → (∀ v d H', Step G HZ H' → Rep K O H' v d → Q (.list [d]) → Q' v H') → tl E' HZ Q') ∧
  ∀ v d H', Step G H0 H' → Rep K O H' v d → Q d → Dz.rt v H'
section
variable {Z : Cx} {k m : Nat} {NR : List Str} {stR : Stmt} {rF : Addr → Addr → Str → SD} {ok : Str → Prop} {S1 S2 : Addr} {tl : XK → Hp → VK → Prop} {f c' : Addr} {q : Str} {t0 : SD}
variable {k1 k2 k3 j1 j2 j3 : Nat} {a1 a2 a3 a4 a5 a6 a7 b1 b2 b3 b4 b5 b6 b7 b8 b9 b10 b11 b12 d1 d2 d3 d4 d5 d6 d7 d8 d9 d10 : Pos}
/-- the reading of the call in the try -/
def tAct (tl : XK → Hp → VK → Prop) (f c' : Addr) (q : Str) (n : Nat) (W : WX) : TS := fun D σ H => σ[0]? = some (some (.ref f)) ∧ H c' = some (LamX.CodeO c' q) ∧ tl (fun cls d H' => ∀ σ' : L2.St, σ'.length = n → W cls d σ' H') H fun v H' => D.nx (σ.set 1 (some v)) H'
theorem told_pss (hZ : Z.N = N_told) (hs : Z.stack = Z.env :: Z.outer) (hf : Z.env.frame = some Z.env.locals) (hc : Z.calm = true) (hgd : Z.A.guards = some []) (hr : Room (k + 1) Z.A) (B : ToldB Z.K Z.mg ok S1 S2) (DR : DefIn Z.K Z.mg "_law_refusal" stR ["_law_error"]) (SR : FnScope NR ["_law_error"] (defScope stR)) (lR : NR.length = m + 1)
    (bR : ∀ (a dx C : Addr) (nm : Str), ToldN Z.K Z.mg nm C → ∀ (f : Addr) (cdv : Value) (A : Around) (outer : List Env) (s : Shared) (H : Hp) (E : XK) (oe : Obj) (pn : List (Addr × Obj)), A.guards = some [] → Room k (A.deeper (envOfC "_law_refusal" (defScope stR) s.heap.objs.size f cdv)) →
      Zc (.ref C) (some dx) oe → (∃ vs, oe.data = .fields vs) → DSs ((cxOf CX0 Z.prog Z.w Z.K Z.mg Z.base NR "_law_refusal" (defScope stR) f cdv A outer s H E).nox.tr ((a, oe) :: pn) (cxOf CX0 Z.prog Z.w Z.K Z.mg Z.base NR "_law_refusal" (defScope stR) f cdv A outer s H E).nox.xe) (defBody stR) (rF a dx nm))
    (act : ∀ (W : WX) (pn : List (Addr × Obj)) (xe : Value → Shared → Prop) (E : XK), Takes (Z.tr pn xe) W → (∀ cls d σ' H', E cls d H' → W cls d σ' H') → PE (Z.tr pn xe) (.Call (.Name "_law_call" b2) [] [] b3) (fun σZ HZ Q => σZ[0]? = some (some (.ref f)) ∧ HZ c' = some (LamX.CodeO c' q) ∧ tl E HZ Q))
    (h0 : DS Z (.Assign [.Tuple [.Name "_law_found" a1, .Name "_law_error" a2] k1 a3] (.Tuple [.Constant .none j1 a4, .Constant .none j2 a5] k2 a6) a7) t0)
    (k0 : ∀ P : EnvD → Prop, P [.obj f none, .dat .none, .dat .none, .un] → t0 never { nx := P, rt := fun _ => False } [.obj f none, .un, .un, .un])
    (l1 : Z.env.scope.names.lookup ("_law_found" : Str) = some .local) (l2 : Z.env.scope.names.lookup ("_law_error" : Str) = some .local) (l3 : Z.env.scope.names.lookup ("e" : Str) = some .local) (g1 : Gl Z "ShareError") (g2 : Gl Z "TooMany") (g3 : Gl Z "_law_refusal")
    (hw1 : swapsWith (.Call (.Name "_law_call" b2) [] [] b3) (some (.Name "_law_found" b1)) b4.line Z.env = pure false) (hw2 : swapsWith (.Name "e" b9) (some (.Name "_law_error" b8)) b10.line Z.env = pure false)
    (ht : starEach [.Name "ShareError" b5, .Name "TooMany" b6] Z.env = (false, eval (.Name "ShareError" b5) Z.env) :: starEach [.Name "TooMany" b6] Z.env) (ht2 : starEach [.Name "TooMany" b6] Z.env = (false, eval (.Name "TooMany" b6) Z.env) :: starEach [] Z.env)
    (hf1 : DSs Z [.Return (some (.IfExp (.Compare (.Name "_law_error" d1) [.Is] [.Constant .none j3 d2] d3) (.List [.Name "_law_found" d4] d5) (.Call (.Name "_law_refusal" d6) [.Name "_law_error" d7] [] d8) d9)) d10] (sRet (dIf (bVal (dOp (oIs false) (dV 2) (dK .none))) (dNew (nLst (aCons (dV 1) aNil))) (fun _ _ _ => False))))
    (hst : starEach [.Name "_law_error" d7] Z.env = (false, eval (.Name "_law_error" d7) Z.env) :: starEach [] Z.env) :
    PSs Z [.Assign [.Tuple [.Name "_law_found" a1, .Name "_law_error" a2] k1 a3] (.Tuple [.Constant .none j1 a4, .Constant .none j2 a5] k2 a6) a7,
      .Try [.Assign [.Name "_law_found" b1] (.Call (.Name "_law_call" b2) [] [] b3) b4] [.ExceptHandler (some (.Tuple [.Name "ShareError" b5, .Name "TooMany" b6] k3 b7)) (some "e") [.Assign [.Name "_law_error" b8] (.Name "e" b9) b10] b11] [] [] b12,
      .Return (some (.IfExp (.Compare (.Name "_law_error" d1) [.Is] [.Constant .none j3 d2] d3) (.List [.Name "_law_found" d4] d5) (.Call (.Name "_law_refusal" d6) [.Name "_law_error" d7] [] d8) d9)) d10] (toldT Z.K Z.mg rF m ok tl f c' q) := by
  have hN : Z.N.Nodup := by rw [hZ]; decide
  have n1 : Z.N[1]? = some ("_law_found" : Str) := by rw [hZ]; rfl
  have n2 : Z.N[2]? = some ("_law_error" : Str) := by rw [hZ]; rfl
  have n3 : Z.N[3]? = some ("e" : Str) := by rw [hZ]; rfl
  have hr2 : ∀ (a : Addr) (oe : Obj) (cls : Value) (d : Option Addr) (pn : List (Addr × Obj)), Zc cls d oe → (∃ vs, oe.data = .fields vs) → PSs (Z.tr ((a, oe) :: pn) Z.xe) [.Return (some (.IfExp (.Compare (.Name "_law_error" d1) [.Is] [.Constant .none j3 d2] d3) (.List [.Name "_law_found" d4] d5) (.Call (.Name "_law_refusal" d6) [.Name "_law_error" d7] [] d8) d9)) d10]
      (fun D σ H => ∃ C dx nm, cls = .ref C ∧ d = some dx ∧ ToldN Z.K Z.mg nm C ∧ lift0S Z.K (sRet (dRef 2 a dx m (rF a dx nm))) D σ H) := by
    refine fun a oe cls d pn hz hv => ⟨fun pins s σ H D I h => ?_⟩
    obtain ⟨C, dx, nm, e1, e2, T, ht'⟩ := h
    subst e1 e2
    have PX : PinX (Z.tr ((a, oe) :: pn) Z.xe) a dx C := ⟨oe, List.mem_cons_self, hz, hv⟩
    have vis2 : Vis Z.env.scope "_law_error" := .inl l2
    have dsR : DSs (Z.tr ((a, oe) :: pn) Z.xe) [.Return (some (.IfExp (.Compare (.Name "_law_error" d1) [.Is] [.Constant .none j3 d2] d3) (.List [.Name "_law_found" d4] d5) (.Call (.Name "_law_refusal" d6) [.Name "_law_error" d7] [] d8) d9)) d10]
        (sRet (dIf (fun E η Q => (∃ o, η[2]? = some (.obj a o)) ∧ Q false) (fun _ _ _ => False) (dRef 2 a dx m (rF a dx nm)))) :=
      dss_one (ds_ret (de_if (de_objN (i := 2) n2 vis2) de_false (de_ref (X := Z.tr ((a, oe) :: pn) Z.xe) (i := 2) PX hs hf DR SR lR hr hgd (fun f cdv A outer s H E oe' pn' h1 h2 h3 h4 => bR a dx C nm T f cdv A outer s H E oe' pn' h1 h2 h3 h4) g3 n2 vis2 (he := hst))))
    refine dsR.pss0.run pins s σ H D I ?_
    obtain ⟨c, O, η, z, g, ht1, k⟩ := ht'
    refine ⟨c, O, η, z, g, ⟨?_, ht1⟩, k⟩
    obtain ⟨f, d, hη, _⟩ := ht1
    exact ⟨_, hη⟩
  have tryP := pss_try2 (X := Z) (c1 := .ref S1) (c2 := .ref S2) (i := 3) (kk := k3) (pos := b12) (pos' := b11) (q3 := b7) (tb := tAct tl f c' q Z.N.length) hs hf hN n3 l3 ⟨g1, by decide, .inl B.s1⟩ ⟨g2, by decide, .inl B.s2⟩
    (body := [.Assign [.Name "_law_found" b1] (.Call (.Name "_law_call" b2) [] [] b3) b4])
    (fun W pn xe tk po => ⟨fun pins s σ H D I h => ((pss_one (ps_set (X := Z.tr pn xe) (i := 1) hN n1 (.inl l1) (act (fun cls d σ H => σ.length = Z.N.length → W cls d σ H) pn xe (fun cls d H' => ∀ σ' : L2.St, σ'.length = Z.N.length → W cls d σ' H') (takes_len tk) fun cls d σ' H' w l => w σ' l) hw1 (.inr l1)))).run pins s σ H D I h⟩)
    (b₀ := .Assign [.Name "_law_error" b8] (.Name "e" b9) b10) (suite := [])
    (fun a oe cls d pn hz hv => pss_one (ps_set (X := Z.suite a ((a, oe) :: pn)) (i := 2) hN n2 (.inl l2) (pe_var (X := Z.suite a ((a, oe) :: pn)) (i := 3) n3 (.inl l3)) hw2 (.inr l2)))
    (ts2 := fun a cls d D σ H => ∃ C dx nm, cls = .ref C ∧ d = some dx ∧ ToldN Z.K Z.mg nm C ∧ lift0S Z.K (sRet (dRef 2 a dx m (rF a dx nm))) D σ H)
    hf1.pss0 hr2 ht ht2
  refine ⟨fun pins s σ H D I h => (pss_cons h0.ps tryP).run pins s σ H D I ?_⟩
  obtain ⟨O, G, Q, g, hc', htl, hfin⟩ := h
  refine ⟨⟨O, G, H, []⟩, O, _, never, { nx := fun η => η = [.obj f none, .dat .none, .dat .none, .un], rt := fun _ => False }, ⟨g, eok_never⟩, k0 _ rfl, ?_, fun v H' q => ?_, fun σ' H' q => ?_, fun σ' H' q => ?_⟩
  · rintro σ' HZ ⟨O', η', g', rfl⟩
    have st : Step G H HZ := ⟨g'.keep, g'.draw⟩
    obtain ⟨e0, _⟩ := obj_at g'.toGood (i := 0) rfl
    refine ⟨e0, g'.keep c' _ (g.draw.ext_ hc') hc', htl HZ st _ _ ?_ ?_⟩
    · rintro cls d H' ⟨nm, fs, dx, vs, ⟨fl, dd, rfl, okn, hq⟩, hm, rfl, hx, hn, hrp, hk, hdr, hT⟩ σ' hl
      obtain ⟨C, T, hE⟩ := B.cl nm okn
      obtain rfl : cls = .ref C := Option.some.inj (hm.symm.trans T.nam)
      have hl : σ'.length = 4 := by rw [hl, hZ]; rfl
      match σ', hl with
      | [x0, x1, x2, x3], _ =>
        refine ⟨hE, fun a ha => ⟨.ref a, rfl, C, dx, nm, rfl, rfl, T, ⟨O, G, H, []⟩, O, [.un, .un, .obj a (some (dx, fl, dd)), .un], { nx := fun _ => False, rt := Q }, ?_, ⟨fl, dd, rfl, hq a dx⟩, fun σ' H' q => ?_, fun v H' q => ?_, fun σ' H' q => ?_, fun σ' H' q => ?_⟩⟩
        · refine ⟨rfl, fun _ z => z, g.hW, hT, hk, hdr, fun j z hj => ?_, fun j l ds es b h1 _ _ _ => ?_, fun p hp => absurd hp (by simp)⟩
          · match j, hj with
            | 0, hj => cases hj; trivial
            | 1, hj => cases hj; trivial
            | 2, hj =>
              cases hj
              refine ⟨rfl, fun p hp => ?_⟩
              cases hp
              match vs, hn, hrp with
              | [(n0, y)], hn, hrp =>
                have hn : [n0] = [fl] := hn
                cases hn
                have hrp : RepAll Z.K O H' [y] [dd] := hrp
                cases hrp with
                | cons r _ => exact ⟨y, hx, r⟩
            | 3, hj => cases hj; trivial
          · match j, h1 with
            | 0, h1 => cases h1
            | 1, h1 => cases h1
            | 2, h1 => cases h1
            | 3, h1 => cases h1
        · obtain ⟨_, _, _, z⟩ := q; exact z.elim
        · obtain ⟨d, q1, q2, q3, q4⟩ := q; exact hfin v d H' ⟨q1, q2⟩ q3 q4
        · obtain ⟨_, _, _, z⟩ := q; exact z.elim
        · obtain ⟨_, _, _, z⟩ := q; exact z.elim
    · intro v d H' st2 r q
      have gl : Good Z.K ⟨O, G, H, []⟩ O [.obj f none, .dat .none, .dat .none, .un] σ' HZ := g'.toGood.lend
      refine ⟨⟨O, G, H, []⟩, O, _, { nx := fun _ => False, rt := Q }, (gl.step st2).set 1 r, ⟨?_, q⟩, fun σ' H' q => ?_, fun v H' q => ?_, fun σ' H' q => ?_, fun σ' H' q => ?_⟩
      · show 1 ≤ sizeLine; rw [sizeLine_eq]; decide
      · obtain ⟨_, _, _, z⟩ := q; exact z.elim
      · obtain ⟨d, q1, q2, q3, q4⟩ := q; exact hfin v d H' ⟨q1, q2⟩ q3 q4
      · obtain ⟨_, _, _, z⟩ := q; exact z.elim
      · obtain ⟨_, _, _, z⟩ := q; exact z.elim
  · obtain ⟨_, _, _, _, z⟩ := q; exact z.elim
  · obtain ⟨_, _, _, z⟩ := q; exact z.elim
  · obtain ⟨_, _, _, z⟩ := q; exact z.elim
end
end DL

/-! DLl7: x(lambda: e) as an expression. -/
namespace DL
open PySem PySem.Spec PyProof.Rows L2
/-- what is owned is not seen -/
def dropC : Cell → Cell
  | .own _ => .un
  | x => x
def drop (η : EnvD) : EnvD := η.map dropC
theorem Good.drop {K : PySem.W.Frag} {c : Ctx} {O : Addr → Prop} {η : EnvD} {σ : L2.St} {H H1 : Hp} (g : Good K c O η σ H) (st : Step c.G H H1) : Good K ⟨O, c.G, H1, []⟩ O (drop η) σ H1 where
  len := by unfold DL.drop; rw [List.length_map, g.len]
  hB := fun _ h => h
  hW := g.wO
  hT := (g.step st).hT
  keep := fun _ _ _ e => e
  draw := st.draw
  cell := fun i x h => by
    unfold DL.drop at h
    rw [List.getElem?_map] at h
    cases e : η[i]? with
    | none => rw [e] at h; cases h
    | some y =>
      rw [e] at h
      cases h
      have q := (g.step st).cell i y e
      cases y with
      | un => trivial
      | dat d => exact q
      | own ds => trivial
      | drw => exact q
      | obj a o => exact q
      | scr ns => exact q
  inj := fun i j ds es a h1 h2 h3 h4 => by
    unfold DL.drop at h1
    rw [List.getElem?_map] at h1
    cases e : η[i]? with
    | none => rw [e] at h1; cases h1
    | some y => rw [e] at h1; cases y <;> cases h1
  fr := fun p hp => absurd hp (by simp)
section
variable {X : Cx} {pins : List (Addr × Obj)} {σ : L2.St} {H : Hp} {s : Shared}
/-- the lambda is called in the def that got it: what stands around is the maker's -/
theorem pe_lamcallG {Ng : List Str} {qg : Str} {sg : Scope} {g f c' : Addr} {cdg pm ctv : Value} {params : Arguments} {body : Expr} {scope : Scope} {k i : Nat} {a : Str} {pn : List (Addr × Obj)} {xe : Value → Shared → Prop} {W : WX} {E : XK} {tb : TE} {p1 p2 : Pos}
    (I : Inv X pins σ H s) (L : LamX.LamS X.env.scope scope) (hf : s.heap.get? f = some (PySem.W.kla_obj "<lambda>" (X.env.qual ++ "<lambda>") params body scope (cloFrom X.env.cells scope.names []) pm c' ctv)) (hfn : H f = none) (hfr : f ∉ frs X.stack)
    (hbind : bindArgs (PySem.W.kla_fn "<lambda>" (X.env.qual ++ "<lambda>") params body scope (cloFrom X.env.cells scope.names []) pm (.ref c') ctv) ⟨[], []⟩ = pure [])
    (tk : Takes ((cxOf CX0 X.prog X.w X.K X.mg X.base Ng qg sg g cdg X.A X.stack s H E0).nox.tr pn xe) W) (hW : ∀ cls d σ' H', E cls d H' → W cls d σ' H') (hr : Room (k + 1) (X.A.deeper (envOfC qg sg s.heap.objs.size g cdg)))
    (hbody : ∀ (s1 : Shared) (H1 : Hp), Room k ((X.A.deeper (envOfC qg sg s.heap.objs.size g cdg)).deeper (LamX.lamEnv X scope s1.heap.objs.size f c')) → PE (LamX.lamCx X (X.A.deeper (envOfC qg sg s.heap.objs.size g cdg)) (envOfC qg sg s.heap.objs.size g cdg :: X.stack) s1 H1 E scope f c') body tb)
    (hN : Ng[i]? = some a) (hv : Vis sg a) (hd : (a == ("__debug__" : Str)) = false := by decide) (hcd : (a == ("__classdict__" : Str)) = false := by decide) :
    PE ((cxOf CX0 X.prog X.w X.K X.mg X.base Ng qg sg g cdg X.A X.stack s H E0).nox.tr pn xe) (.Call (.Name a p1) [] [] p2) (fun σZ HZ Q => σZ[i]? = some (some (.ref f)) ∧ HZ c' = some (LamX.CodeO c' (X.env.qual ++ "<lambda>")) ∧ tb σ HZ Q) := by
  refine ⟨fun pz sz σz Hz Q Iz ⟨e0, ec, ht⟩ => wpAny_Call_Name_kw (thn ((pe_var (pos := p1) (i := i) hN hv hd hcd).run pz sz σz Hz (fun v H1 => v = .ref f ∧ H1 = Hz) Iz ⟨.ref f, e0, rfl, rfl⟩) fun u s1 hh => ?_)⟩
  obtain ⟨v, H1, I1, r1, ev, eH⟩ := hh
  subst ev eH
  obtain rfl : u = Value.ref f := r1
  have un : Un (frs X.stack) [] H H1 s.heap s1.heap := I1.base
  have lf := un.keep f _ hf hfn hfr (fun z => nomatch z)
  obtain ⟨⟨oc, vs, t, hoc, hdc, hvc⟩, _, _⟩ := I1.hok c' _ ec
  refine PySem.W.callWith_F0 ⟨_, _, _, _, lf⟩ (wpAny_call (codeAny_mono (?_ : codeAny (model X.prog X.w) (X.A.deeper (envOfC qg sg s.heap.objs.size g cdg)) (.call (.ref f) ⟨[], []⟩) (CR (L2.CX X.prog X.w) (envOfC qg sg s.heap.objs.size g cdg :: X.stack) X.prog X.w H1 s1 Q E) s1) fun r s' hq => ?_))
  · refine PySem.W.kla_callFunE hr.depth lf rfl L.co L.gen rfl ⟨c', oc, vs, t, rfl, hoc, hdc, hvc⟩ ?_
    rw [hbind]
    refine wpAny_pure (wpAny_newFunctionEnv (fun y hy => (L.own y hy).2) (fun y hy => absurd hy (by simp)) (fun h1 hns hsb => ⟨I1.nolimit.fresh _ hsb, ?_⟩) L.kind)
    have J := LamX.lam_start2 (tk := s1.toks + ([] : List (Str × Value)).length) (h₁ := h1) (E := E) (f := f) (c' := c') I L I1.env0 hr.hd un hns fun b o e => hsb.extBut b o (Nat.ne_of_lt (Heap.lt_size e)) (Heap.get?_push_of_some _ e)
    refine PySem.W.kla_codeExpr (wpAny_mono ((hbody s1 H1 (hr.deeper _)).run [] _ _ H1 Q J ht) (fun v s' hq => ?_) fun e s' hq => hq)
    obtain ⟨w', H', J', rv, q⟩ := hq
    exact ⟨w', H', J'.os, J'.bare, J'.base, J'.hok, rv, q⟩
  · match r, hq with
    | .error e, hq => exact passes_call tk hW pz σz H1 s1 e s' I1 hq
    | .ok (.ret u), hq => exact I1.after hq
end
/-- the def that tells -/
def ToldF (P : Program) (w : World) (K : PySem.W.Frag) (mg : Str → Option Value) (base : Heap) (k : Nat) (rF : Addr → Addr → Str → SD) (m : Nat) (ok : Str → Prop) : Prop := ∃ stT, DefIn K mg "_law_told" stT ["_law_call"] ∧ FnScope N_told ["_law_call"] (defScope stT) ∧ Vis (defScope stT) "_law_call" ∧
  ∀ (g : Addr) (cdg : Value) (A : Around) (outer : List Env) (s : Shared) (H : Hp), A.guards = some [] → Room k (A.deeper (envOfC "_law_told" (defScope stT) s.heap.objs.size g cdg)) → ∀ (tl : XK → Hp → VK → Prop) (f c' : Addr) (q : Str),
    (∀ (p1 p2 : Pos) (W : WX) (pn : List (Addr × Obj)) (xe : Value → Shared → Prop) (E : XK), Takes ((cxOf CX0 P w K mg base N_told "_law_told" (defScope stT) g cdg A outer s H E0).nox.tr pn xe) W → (∀ cls d σ' H', E cls d H' → W cls d σ' H') →
      PE ((cxOf CX0 P w K mg base N_told "_law_told" (defScope stT) g cdg A outer s H E0).nox.tr pn xe) (.Call (.Name "_law_call" p1) [] [] p2) (fun σZ HZ Q => σZ[0]? = some (some (.ref f)) ∧ HZ c' = some (LamX.CodeO c' q) ∧ tl E HZ Q)) →
    PSs (cxOf CX0 P w K mg base N_told "_law_told" (defScope stT) g cdg A outer s H E0).nox (defBody stT) (toldT K mg rF m ok tl f c' q)
/-- the wish in the lambda's body -/
def dTold' (rF : Addr → Addr → Str → SD) (m : Nat) (ok : Str → Prop) (tb : ET) : ET := fun _ η Q =>
  tb (fun nm fs => ∃ f d, fs = [(f, d)] ∧ ok nm ∧ ∀ a dx, rF a dx nm never { nx := fun _ => Q .none, rt := Q } (.obj a (some (dx, f, d)) :: List.replicate m .un)) (drop η) fun d => Q (.list [d])
section
variable {X : Cx} {P c : Addr} {k m : Nat} {rF : Addr → Addr → Str → SD} {ok : Str → Prop} {params : Arguments} {body : Expr} {scope : Scope} {lp p pos : Pos} {tb : ET}
theorem de_told (TF : ToldF X.prog X.w X.K X.mg X.base k rF m ok) (TB : LamX.TabB X.base X.mg c P) (hcode : X.env.code = .ref c) {q0 : Str} (hq : X.env.qual = q0) (hm : (P, q0 ++ "<lambda>") ∈ lawTabs) (hu : ∀ p ∈ lawTabs, p.1 = P → p.2 = q0 ++ "<lambda>") (hgd : X.A.guards = some []) (hr : Room (k + 1) X.A) (hk : 1 ≤ k) (hg : Gl X "_law_told") (L : LamX.LamS X.env.scope scope)
    (hbody : ∀ (f c' : Addr) (A : Around) (outer : List Env) (s : Shared) (H : Hp) (E : XK), A.guards = some [] → Room (k - 1) (A.deeper (LamX.lamEnv X scope s.heap.objs.size f c')) → DE (LamX.lamCx X A outer s H E scope f c') body tb)
    (hdef : defaultsOf params X.env = ([], []) := by rfl) (hbind : ∀ (q : Str) (cl : List (Str × Addr)) (pm cv ctv : Value), bindArgs (PySem.W.kla_fn "<lambda>" q params body scope cl pm cv ctv) ⟨[], []⟩ = pure [] := by intros; rfl)
    (hst : backTo pos (starEach [.Lambda params body scope lp] X.env) = (false, eval (.Lambda params body scope lp) X.env) :: backTo pos (starEach [] X.env) := by rfl) (hpl : (backTo pos (starEach [.Lambda params body scope lp] X.env)).any (·.1) = false := by rfl) :
    DE X (.Call (.Name "_law_told" p) [.Lambda params body scope lp] [] pos) (dTold' rF m ok tb) := ⟨fun pins s σ H c0 O η E Q I g h => by
  subst hq
  obtain ⟨stT, Df, S, hv, tell⟩ := TF
  obtain ⟨gT, fd, F, hmy, hbd⟩ := Df.ex
  obtain ⟨k, rfl⟩ := Nat.exists_eq_add_of_le' hk
  refine wpAny_Call_Name_kw (ld_glob I hg hmy (PySem.W.callWith_K (h₀ := X.base) I.ok.mod.kin F.kp ?_ (by first | exact hst | rfl) hpl) (by decide))
  refine Calls.spliced_cons (lam_make3 I g.draw TB hcode hm hu hdef (L.has I.ok) fun f c' pm ctv H1 s1 I1 st hf hfn hfr hco => ?_)
  refine Calls.spliced_nil ⟨I1.kIn, ?_⟩
  obtain ⟨oc, od, kV, doc, pm', an, cdv, ct, osl, rfl, lk, hcd'⟩ := F.ex
  have rc : codeAny (model X.prog X.w) X.A (.call (.ref gT) ⟨[.ref f], []⟩) (CR CX0 X.stack X.prog X.w H1 s1 (fun v H' => ∃ d, Step c0.G H1 H' ∧ Rep X.K O H' v d ∧ Q d) E0) s1 := by
    refine LamX.run_ofS (N := N_told) (ps := ["_law_call"]) (us := [.ref f]) (vs := [.ref f]) lk hcd' S hr I1.env0 (hbd s1 [.ref f] I1.kIn rfl) (.cons rfl .nil) rfl fun hr' => ⟨_, (tell gT cdv X.A X.stack s1 H1 hgd hr' (fun E' HZ Q' => tLamD X.K X.mg tb E' σ HZ Q') f c' (X.env.qual ++ "<lambda>") fun p1 p2 W pn xe E' tk hW => ?_).nox, ?_⟩
    · exact pe_lamcallG (i := 0) I1 L hf hfn hfr (hbind _ _ _ _ _) tk hW hr' (fun s2 H2 hr2 => pe_lamD (hbody f c' _ _ s2 H2 E' hgd hr2)) rfl hv
    · refine ⟨O, c0.G, Q, ?_, hco, fun HZ stZ E' Q' hE hQ => ⟨⟨O, c0.G, HZ, []⟩, O, drop η, _, _, g.toGood.drop (st.trans stZ), fun cls d H' he => hE cls d H' ?_, h, fun d v H' st' r q => hQ v d H' st' r q⟩, fun v d H' st' r q => ⟨d, st', r, q⟩⟩
      · refine ⟨rfl, fun _ z => z, g.wO, (g.step st).hT, fun _ _ _ z => z, st.draw, fun j z hj => ?_, fun j l ds es b h1 _ _ _ => ?_, fun p hp => absurd hp (by simp)⟩
        · match j, hj with
          | 0, hj => cases hj; exact ⟨rfl, fun p hp => by cases hp⟩
          | 1, hj => cases hj; trivial
          | 2, hj => cases hj; trivial
          | 3, hj => cases hj; trivial
        · match j, h1 with
          | 0, h1 => cases h1
          | 1, h1 => cases h1
          | 2, h1 => cases h1
          | 3, h1 => cases h1
      · obtain ⟨nm, fs, dx, vs, q1, q2, q3, q4, q5, q6, q7, q8, q9⟩ := he
        exact ⟨nm, fs, dx, vs, q1, q2, q3, q4, q5, q6, fun a o nw e => q7 a o nw (stZ.keep a o nw e), q8, q9⟩
  refine wpAny_call (codeAny_mono rc fun r s2 hq => ?_)
  match r, hq with
  | .error e, hq => exact (show False from hq).elim
  | .ok (.ret u), hq =>
    obtain ⟨v, H2, I2, rv, d', st', rp, q⟩ := I1.after hq
    exact ⟨d', v, H2, I2, rv, st.trans st', rp, q⟩⟩
end
end DL

/-! DLl8: xs[::-1] of a list or a tuple. -/
namespace DL
open PySem PySem.Spec PyProof.Rows L2
section
variable {prog : Program} {w : World} {A : Around} {E : Value → Shared → Prop} {s : Shared}
theorem fm_congr {α : Type} {f g : Nat → Option α} : ∀ (l : List Nat), (∀ m ∈ l, f m = g m) → l.filterMap f = l.filterMap g
  | [], _ => rfl
  | a :: l, h => by rw [List.filterMap_cons, List.filterMap_cons, h a List.mem_cons_self, fm_congr l fun m hm => h m (List.mem_cons_of_mem _ hm)]
theorem rev_pick (xs : Array Value) : ((List.range xs.size).filterMap fun (m : Nat) => xs[((xs.size : Int) - 1 + (m : Int) * -1).toNat]?).toArray = xs.toList.reverse.toArray := by
  have e : ((List.range xs.size).filterMap fun (m : Nat) => xs[((xs.size : Int) - 1 + (m : Int) * -1).toNat]?) = ((List.range xs.size).map fun k => xs.size - 1 - k).filterMap (xs[·]?) := by
    rw [List.filterMap_map]
    refine fm_congr _ fun m hm => ?_
    have := List.mem_range.mp hm
    have : ((xs.size : Int) - 1 + (m : Int) * -1).toNat = xs.size - 1 - m := by omega
    show xs[((xs.size : Int) - 1 + (m : Int) * -1).toNat]? = xs[xs.size - 1 - m]?
    rw [this]
  rw [e, PySem.W.krv_range, List.filterMap_reverse, PySem.W.krv_all]
theorem rev_adj (n : Nat) : Builtin.Slice.sliceAdjust none none (-1) (n : Int) = ((n : Int) - 1, -1) := by
  unfold Builtin.Slice.sliceAdjust
  simp
theorem rev_places (n : Nat) : Builtin.Slice.slicePlaces ((n : Int) - 1) (-1) (-1) = n := by
  unfold Builtin.Slice.slicePlaces
  have h1 : ¬ ((-1 : Int) > 0) := by omega
  have e : (- -1 : Int) = 1 := by decide
  simp only [h1, if_false, e, Int.ediv_one]
  split <;> omega
theorem rev_applied {sl : Addr} {vl vu vs : Value} {n : Nat} {Q : Int × Int × Nat → Shared → Prop} (hs : s.heap.IsSliceOf sl vl vu vs) (pl : IsPart vl none) (pu : IsPart vu none) (ps : IsPart vs (some (-1)))
    (h : Q ((n : Int) - 1, -1, n) s) : wpAny (model prog w) A (Builtin.Slice.sliceApplied (.ref sl) (pure (n : Int))) Q E s := by
  obtain ⟨os, hos, hcs, hds⟩ := id hs
  unfold Builtin.Slice.sliceApplied Builtin.Slice.sliceFields
  refine wpAny_bind (wpAny_bind (wpAny_field hos hds (x := vl) rfl (wpAny_bind (wpAny_field hos hds (x := vu) rfl (wpAny_bind (wpAny_field hos hds (x := vs) rfl (wpAny_pure ?_)))))))
  refine wpAny_bind (HT.slicePart_ ps ?_)
  show wpAny _ _ (if ((-1 : Int) == 0) = true then _ else _) _ _ s
  rw [if_neg (by decide)]
  refine wpAny_bind (HT.slicePart_ pl (wpAny_bind (HT.slicePart_ pu (wpAny_bind (wpAny_pure ?_)))))
  show wpAny _ _ (match Builtin.Slice.sliceAdjust none none (-1) (n : Int) with | (lo, hi) => pure (lo, (-1 : Int), Builtin.Slice.slicePlaces lo hi (-1))) _ _ s
  rw [rev_adj n]
  show wpAny _ _ (pure ((n : Int) - 1, (-1 : Int), Builtin.Slice.slicePlaces ((n : Int) - 1) (-1) (-1))) _ _ s
  rw [rev_places]
  exact wpAny_pure h
theorem getItem_tuple_rev {t sl : Addr} {items : Array Value} {vl vu vs : Value} {Q : Value → Shared → Prop} (ht : IsTup s.heap t items) (hs : s.heap.IsSliceOf sl vl vu vs) (pl : IsPart vl none) (pu : IsPart vu none) (ps : IsPart vs (some (-1)))
    (h : Q (.ref s.heap.objs.size) { s with heap := s.heap.push { cls := .type "tuple", data := .seq items.toList.reverse.toArray } }) (hsz : items.size ≤ sizeLine) : wpAny (model prog w) A (getItem (.ref t) (.ref sl)) Q E s := by
  have hz : sizeOk (.seq items.toList.reverse.toArray) := by
    show items.toList.reverse.toArray.size ≤ sizeLine
    rw [List.size_toArray, List.length_reverse, Array.length_toList]
    exact hsz
  obtain ⟨os, hos, hcs, hds⟩ := id hs
  have hTs : s.TypeIs (.ref sl) "slice" := ⟨os, hos, hcs⟩
  unfold getItem
  try with_reducible refine wpAny_holding ?_
  first | refine wpAny_bind (wpAny_pure ?_) | skip
  refine wpAny_bind (wpAny_sequenceKey ht.typeIs (by decide) ?_)
  refine wpAny_bind (wpAny_callSpecial?_slot (name := Str.ofString "__getitem__") ht.typeIs PyProof.Rows.slot_tuple_getitem
    (wpAny_call_entry PyProof.Rows.slot_tuple_getitem ht.typeIs entry_tuple_getitem ?_ (args_tuple_getitem _ _)))
  show wpAny _ _ (Builtin.Tuple.tupleItemsOf (.ref t) >>= _) _ _ s
  refine wpAny_bind (tupleItemsOf_ ht ?_)
  refine wpAny_bind (wpAny_typeOf hTs ?_)
  rw [if_pos (by decide)]
  refine wpAny_bind (rev_applied hs pl pu ps ?_)
  have hno : ¬ ((((items.size : Int) - 1) == 0 && (-1 : Int) == 1 && items.size == items.size) = true) := by
    intro q
    rw [Bool.and_eq_true, Bool.and_eq_true] at q
    exact absurd q.1.2 (by decide)
  show wpAny _ _ (if (((items.size : Int) - 1) == 0 && (-1 : Int) == 1 && items.size == items.size) = true then _ else _) _ _ s
  rw [if_neg hno, rev_pick]
  first
    | exact wpAny_bind (m := Builtin.Tuple.tupleExact _) (wpAny_newObj_type (wpAny_pure ⟨_, rfl, wpAny_pure h⟩) hz)
    | exact wpAny_bind (m := Builtin.Tuple.tupleExact _) (wpAny_newObj_type (wpAny_bind (wpAny_pure (wpAny_pure ⟨_, rfl, wpAny_pure h⟩))) hz)
    | exact wpAny_bind (wpAny_bind (m := Builtin.Tuple.tupleExact _) (wpAny_newObj_type (wpAny_pure (wpAny_pure ⟨_, rfl, wpAny_pure h⟩)) hz))
    | exact wpAny_bind (wpAny_bind (m := Builtin.Tuple.tupleExact _) (wpAny_newObj_type (wpAny_pure ⟨_, rfl, wpAny_pure h⟩) hz))
end
def tRevT (K : PySem.W.Frag) (te : TE) : TE := fun σ H Q => te σ H fun x H1 => ∃ a xs, x = .ref a ∧ ((SqL K H1 a xs ∧ ∀ p, H1 p = none → Q (.ref p) (upd H1 p (.lst xs.reverse))) ∨ (SqT K H1 a xs ∧ ∀ p, H1 p = none → Q (.ref p) (upd H1 p (.tup xs.reverse))))
theorem pe_revT {X : Cx} {e : Expr} {te : TE} {k : Nat} {p1 p2 p3 pos : Pos} (he : PE X e te) : PE X (.Subscript e (.Slice none none (some (.UnaryOp .USub (.Constant (.int 1) k p1) p2)) p3) pos) (tRevT X.K te) := by
  refine ⟨fun pins s σ H Q I h => ?_⟩
  refine Subscript_ (thn (he.run pins s σ H _ I h) fun v s1 ⟨x, H1, I1, r1, q1⟩ => ?_)
  obtain ⟨a, xs, ex, hx⟩ := q1
  subst ex
  cases r1
  have hst : PO X (some (.UnaryOp .USub (.Constant (.int 1) k p1) p2)) (tPart (tUn (rU fun i => .int (-i)) (tC (.int 1)))) := po_some (pe_un un_neg pe_int)
  refine wpAny_Slice (thn (po_none.run pins s1 σ H1 (fun o H2 => o = none ∧ H2 = H1) I1 ⟨rfl, rfl⟩) fun vl s2 ⟨l, H2, I2, pl, el, e2⟩ => ?_)
  subst el e2
  refine thn (po_none.run pins s2 σ H2 (fun o H3 => o = none ∧ H3 = H2) I2 ⟨rfl, rfl⟩) fun vu s3 ⟨u, H3, I3, pu, eu, e3⟩ => ?_
  subst eu e3
  refine thn (hst.run pins s3 σ H3 (fun o H4 => o = some (-1) ∧ H4 = H3) I3 ⟨1, rfl, -1, rfl, rfl, rfl⟩) fun vs s4 ⟨o, H4, I4, ps, eo, e4⟩ => ?_
  subst eo e4
  have I5 : Inv X pins σ H4 { s4 with heap := s4.heap.push { cls := .type "slice", data := .fields #[vl, vu, vs] } } := I4.kept (t' := s4.toks) fun b ob q => Heap.get?_push_of_some _ q
  show wpAny (model X.prog X.w) X.A (subscriptTail e (.Slice none none (some (.UnaryOp .USub (.Constant (.int 1) k p1) p2)) p3) (.ref a) (.ref s4.heap.objs.size)) (EP X pins σ Q) X.xe { s4 with heap := s4.heap.push { cls := .type "slice", data := .fields #[vl, vu, vs] } }
  rcases hx with ⟨hx, q⟩ | ⟨hx, q⟩
  · obtain ⟨its, r, ht, hz⟩ := I5.list hx
    have hlen := r.length
    refine tail_any (ops := [.ref a, .ref s4.heap.objs.size]) ht.isList.typeIs (PySem.slot_list_getitem.lookup) ?_ (by with_unfolding_all rfl)
    refine wpAny_getItem_list_slice ht.isList (Heap.IsSliceOf.new _ vl vu vs) pl pu ps (by decide) ?_ (by rw [List.size_toArray]; omega)
    rw [PySem.W.krv_pick]
    refine ⟨.ref _, _, I5.laid (t' := s4.toks) (o := .lst xs.reverse) (fun b ob q => Heap.get?_push_of_some _ q) (Nat.le_refl _) ?_, rfl, q _ (I5.hok.fresh (Nat.le_refl _))⟩
    exact ⟨by rw [List.length_reverse]; exact hz, _, 0, r.reverse, Heap.get?_push_size _ rfl⟩
  · obtain ⟨its, r, ht, hz⟩ := I5.tuple hx
    have hlen : its.toArray.size = xs.length := by rw [List.size_toArray]; exact r.length.symm
    refine tail_any (ops := [.ref a, .ref s4.heap.objs.size]) ht.typeIs (PyProof.Rows.slot_tuple_getitem.lookup) ?_ (by with_unfolding_all rfl)
    refine getItem_tuple_rev ht (Heap.IsSliceOf.new _ vl vu vs) pl pu ps ?_ (by rw [hlen]; exact hz)
    refine ⟨.ref _, _, I5.laid (t' := s4.toks) (o := .tup xs.reverse) (fun b ob q => Heap.get?_push_of_some _ q) (Nat.le_refl _) ?_, rfl, q _ (I5.hok.fresh (Nat.le_refl _))⟩
    exact ⟨by rw [List.length_reverse]; exact hz, _, r.reverse, IsTup.new _ _⟩
/-- xs[::-1] -/
def dRev (ta : ET) : ET := fun E η Q => ta E η fun x => match x with
  | .list ds => Q (.list ds.reverse)
  | .tuple ds => Q (.tuple ds.reverse)
  | _ => False
theorem RepAll.rev {K : PySem.W.Frag} {O : Addr → Prop} {H : Hp} {vs : List V} {ds : List D} (r : RepAll K O H vs ds) : RepAll K O H vs.reverse ds.reverse := by
  induction ds generalizing vs with
  | nil => cases r; exact .nil
  | cons d ds ih =>
    cases r with
    | cons h r => rw [List.reverse_cons, List.reverse_cons]; exact (ih r).append (.cons h .nil)
theorem de_rev {X : Cx} {a : Expr} {ta : ET} {k : Nat} {p1 p2 p3 pos : Pos} (ha : DE X a ta) : DE X (.Subscript a (.Slice none none (some (.UnaryOp .USub (.Constant (.int 1) k p1) p2)) p3) pos) (dRev ta) :=
  .of (pe_revT ha.pe) fun σ H c O η E Q g h => by
    refine ⟨c, O, η, E, _, g, h, fun dx x H1 s1 r1 h1 => ?_⟩
    have g1 := g.step s1
    cases r1 with
    | lst o h0 rr => exact ⟨_, _, rfl, .inl ⟨.inl (.inl h0), way_new g1.base (way_out s1) rr.rev h1⟩⟩
    | tup h0 rr => exact ⟨_, _, rfl, .inr ⟨h0.sq, way_newT g1.base (way_out s1) rr.rev h1⟩⟩
    | _ => exact h1.elim
end DL

/-! DLl9: a def that calls itself; the classes that are told; the head's facts of tables and told classes. -/
namespace DL
open PySem PySem.Spec PyProof.Rows L2
section
variable {P : Program} {w : World} {K : PySem.W.Frag} {mg : Str → Option Value} {base h : Heap} {k : Nat} {ps : List Str} {x : Str} {st : Stmt}
/-- not called -/
def fNone : FT := fun _ _ _ => False
theorem hasF_none (Df : DefIn K mg x st ps) : HasF P w K mg base x k ps fNone := by
  obtain ⟨f, fd, F, hm, hb⟩ := Df.ex
  refine ⟨⟨f, fd, hm, F.kp, hb, fun vs H Q E q => q.1, fun A outer s H args us vs Q E hg hr he hbt hv hs => ?_⟩, fun cs R q => (q : False).elim⟩
  obtain ⟨hl, B, G, cs, R, hB, hW, hd, ha, hw, kk⟩ := hs
  exact (hw : False).elim
theorem de_isT {X : Cx} {a dx C : Addr} {nm cn y : Str} {i : Nat} {p p1 p2 pos : Pos} (P : PinX X a dx C) (T : ToldN X.K X.mg nm C) (hg : Gl X "isinstance") (hm : X.mg "isinstance" = none) (hgc : Gl X cn) (hcn : cn ∈ eight := by decide) (hN : X.N[i]? = some y := by rfl) (hv : Vis X.env.scope y := by first | exact Or.inl rfl | exact Or.inr (Or.inl rfl) | exact Or.inr (Or.inr rfl))
    (hd : (y == ("__debug__" : Str)) = false := by decide) (hcd : (y == ("__classdict__" : Str)) = false := by decide) (hdc : (cn == ("__debug__" : Str)) = false := by decide)
    (h1 : starEach [.Name y p1, .Name cn p2] X.env = (false, eval (.Name y p1) X.env) :: starEach [.Name cn p2] X.env := by rfl) (h2 : starEach [.Name cn p2] X.env = (false, eval (.Name cn p2) X.env) :: starEach [] X.env := by rfl) :
    DE X (.Call (.Name "isinstance" p) [.Name y p1, .Name cn p2] [] pos) (dIsE i a dx (cn == nm)) := by
  obtain ⟨Dd, e1, e2⟩ := T.is cn hcn
  exact de_isE P T.toToldK hg hm hgc e1 e2 hN hv hd hcd hdc h1 h2
/-! the head's facts -/
def ToldAt (K : PySem.W.Frag) (nm : Str) (S1 S2 : Addr) : Prop := ∃ C, PySem.W.nsIn K mainGlobals nm = some (some (.ref C)) ∧ ToldK K C ∧ (∀ cn ∈ eight, ∃ Dd, PySem.W.nsIn K mainGlobals cn = some (some (.ref Dd)) ∧ PySem.W.kitOne K (.ref C) (.ref Dd) = some (cn == nm)) ∧ PySem.W.exmAny K (.ref C) [.ref S1, .ref S2] = some true
theorem toldAt {nm : Str} {S1 S2 C D1 D2 D3 D4 D5 D6 D7 D8 : Addr} {b1 b2 b3 b4 b5 b6 b7 b8 : Bool} (a : PySem.W.nsIn K mainGlobals nm = some (some (.ref C)))
    (i1 : PySem.W.nsIn K mainGlobals "BadSchema" = some (some (.ref D1))) (i2 : PySem.W.nsIn K mainGlobals "BadStore" = some (some (.ref D2))) (i3 : PySem.W.nsIn K mainGlobals "BadLot" = some (some (.ref D3))) (i4 : PySem.W.nsIn K mainGlobals "BadColumn" = some (some (.ref D4)))
    (i5 : PySem.W.nsIn K mainGlobals "BadCell" = some (some (.ref D5))) (i6 : PySem.W.nsIn K mainGlobals "BadNumber" = some (some (.ref D6))) (i7 : PySem.W.nsIn K mainGlobals "BadPaper" = some (some (.ref D7))) (i8 : PySem.W.nsIn K mainGlobals "TooMany" = some (some (.ref D8)))
    (j1 : PySem.W.kitOne K (.ref C) (.ref D1) = some b1) (j2 : PySem.W.kitOne K (.ref C) (.ref D2) = some b2) (j3 : PySem.W.kitOne K (.ref C) (.ref D3) = some b3) (j4 : PySem.W.kitOne K (.ref C) (.ref D4) = some b4)
    (j5 : PySem.W.kitOne K (.ref C) (.ref D5) = some b5) (j6 : PySem.W.kitOne K (.ref C) (.ref D6) = some b6) (j7 : PySem.W.kitOne K (.ref C) (.ref D7) = some b7) (j8 : PySem.W.kitOne K (.ref C) (.ref D8) = some b8)
    (eb : [b1, b2, b3, b4, b5, b6, b7, b8] = eight.map (· == nm)) (ga : PySem.W.findIn K (.ref C) "__getattribute__" = some (some (.builtin "BaseException.__getattribute__"))) (gg : PySem.W.findIn K (.ref C) "__getattr__" = some none) (exC : PySem.W.subIn K (.ref C) (.type "BaseException") = some true) (hdC : PySem.W.hasDictIn K C = true)
    (cl : (PySem.W.clsIn K C).isSome = true) (at_ : PySem.W.findIn K (.ref C) "__class__" = some (some (.builtin "object.__class__"))) (gs : PySem.W.specialIn K (.builtin "object.__class__") "__get__" = some (some (.builtin "getset_descriptor.__get__"))) (tk : PySem.W.takesIn K (.builtin "object.__class__") = some true) (ob : PySem.W.mroIn K C (.type "object") = some true)
    (n1 : PySem.W.findIn K (.ref C) "place" = some none) (n2 : PySem.W.findIn K (.ref C) "value" = some none) (n3 : PySem.W.findIn K (.ref C) "word" = some none) (n4 : PySem.W.findIn K (.ref C) "most" = some none) (em : PySem.W.exmAny K (.ref C) [.ref S1, .ref S2] = some true) : ToldAt K nm S1 S2 := by
  refine ⟨C, a, { ga := ga, gg := gg, exC := exC, hdC := hdC, cl := cl, at_ := at_, gs := gs, tk := tk, ob := ob, no := fun f hf => ?_ }, fun cn hc => ?_, em⟩
  · simp only [List.mem_cons, List.mem_nil_iff, or_false] at hf
    rcases hf with rfl | rfl | rfl | rfl <;> assumption
  · simp only [eight, List.map, List.cons.injEq] at eb
    obtain ⟨q1, q2, q3, q4, q5, q6, q7, q8, _⟩ := eb
    simp only [eight, List.mem_cons, List.mem_nil_iff, or_false] at hc
    rcases hc with rfl | rfl | rfl | rfl | rfl | rfl | rfl | rfl
    · exact ⟨_, i1, by rw [j1, q1]⟩
    · exact ⟨_, i2, by rw [j2, q2]⟩
    · exact ⟨_, i3, by rw [j3, q3]⟩
    · exact ⟨_, i4, by rw [j4, q4]⟩
    · exact ⟨_, i5, by rw [j5, q5]⟩
    · exact ⟨_, i6, by rw [j6, q6]⟩
    · exact ⟨_, i7, by rw [j7, q7]⟩
    · exact ⟨_, i8, by rw [j8, q8]⟩
def ToldTop (K : PySem.W.Frag) (names : List Str) : Prop := ∃ S1 S2, PySem.W.nsIn K mainGlobals "ShareError" = some (some (.ref S1)) ∧ PySem.W.nsIn K mainGlobals "TooMany" = some (some (.ref S2)) ∧ ∀ nm ∈ names, ToldAt K nm S1 S2
theorem toldTop {names : List Str} {S1 S2 : Addr} (s1 : PySem.W.nsIn K mainGlobals "ShareError" = some (some (.ref S1))) (s2 : PySem.W.nsIn K mainGlobals "TooMany" = some (some (.ref S2))) (al : ∀ nm ∈ names, ToldAt K nm S1 S2) : ToldTop K names := ⟨S1, S2, s1, s2, al⟩
theorem told_nil {S1 S2 : Addr} : ∀ nm ∈ ([] : List Str), ToldAt K nm S1 S2 := fun _ h => (nomatch h)
theorem told_cons {nm : Str} {names : List Str} {S1 S2 : Addr} (h : ToldAt K nm S1 S2) (r : ∀ x ∈ names, ToldAt K x S1 S2) : ∀ x ∈ nm :: names, ToldAt K x S1 S2 := fun x hx => (List.mem_cons.mp hx).elim (fun e => e ▸ h) (r x)
theorem toldB_of {names : List Str} (X : K.In h) (G : h.Ns mainGlobals mg) (T : ToldTop K names) : ∃ S1 S2, ToldB K mg (· ∈ names) S1 S2 := by
  obtain ⟨S1, S2, e1, e2, hT⟩ := T
  refine ⟨S1, S2, PySem.W.mg_of X G e1, PySem.W.mg_of X G e2, fun nm hn => ?_⟩
  obtain ⟨C, a, tk, is, em⟩ := hT nm hn
  exact ⟨C, { toToldK := tk, nam := PySem.W.mg_of X G a, is := fun cn hc => let ⟨Dd, q1, q2⟩ := is cn hc; ⟨Dd, PySem.W.mg_of X G q1, q2⟩ }, em⟩
/-- a table, found at the head -/
def TabAt (K : PySem.W.Frag) (h : Heap) (p : Str × Addr × Addr) : Prop := PySem.W.tabIn K p.1 = some p.2 ∧ K.lookup p.2.2 = none ∧ PySem.W.codeHdIn K p.2.1 p.2.2 = true ∧ h.get? p.2.2 = some (PySem.W.tabObj #[])
theorem tabsC_of (X : K.In h) (hsys : K.lookup sysModules = none) (l : List (Str × Addr × Addr)) (hl : lawTabs = l.map fun p => (p.2.2, p.1 ++ (".<locals>." : Str) ++ ("<lambda>" : Str))) (hx : ∀ p ∈ l, TabAt K h p) : TabsC K h (l.map (·.2)) := by
  have f : ∀ p ∈ l.map (·.2), PySem.W.CodeHd h p.1 p.2 ∧ h.get? p.2 = some (PySem.W.tabObj #[]) ∧ K.lookup p.2 = none := fun p hp => by
    obtain ⟨t, ht, rfl⟩ := List.mem_map.mp hp
    obtain ⟨h1, h2, h3, h4⟩ := hx t ht
    exact ⟨PySem.W.codeHd_of_K X h3, h4, h2⟩
  refine ⟨hsys, ?_, fun p hp => (f p hp).2.1, fun p hp => (f p hp).2.2, fun p hp => (f p hp).1⟩
  rw [hl, List.map_map, List.map_map]
  rfl
theorem tabIn_of {f c Pt : Addr} {oc ccl : Value} {od cdd : Option Addr} {fd : FuncData} {osl ccs : Array (Option Value)} {vs : Array Value} (a : PySem.W.nsIn K mainGlobals x = some (some (.ref f))) (l : K.lookup f = some ⟨oc, od, .func fd, osl⟩) (hc : fd.code = .ref c)
    (lc : K.lookup c = some ⟨ccl, cdd, .fields vs, ccs⟩) (v : vs[11]? = some (.ref Pt)) : PySem.W.tabIn K x = some (c, Pt) := by
  unfold PySem.W.tabIn
  simp only [a, l, hc, lc, v]
theorem codeHdIn_of {c Pt : Addr} {o : Obj} (lc : K.lookup c = some o) (e : PySem.W.codeHdIn [(c, o)] c Pt = true) : PySem.W.codeHdIn K c Pt = true := by
  unfold PySem.W.codeHdIn at *
  rw [lc]
  rw [show List.lookup c [(c, o)] = some o by simp [List.lookup]] at e
  exact e
theorem lamAt_of {c Pt : Addr} (X : K.In h) (G : h.Ns mainGlobals mg) (ht : PySem.W.tabIn K x = some (c, Pt)) (tab : LamX.TabB base mg c Pt) (mem : (Pt, x ++ ".<locals>." ++ "<lambda>") ∈ lawTabs) (uni : ∀ p ∈ lawTabs, p.1 = Pt → p.2 = x ++ ".<locals>." ++ "<lambda>") : LamAt K mg base x c Pt :=
  ⟨tab, mem, uni, fun st f fd F hm => by
    obtain ⟨oc, od, kV, doc, pm, an, cdv, ct, osl, rfl, lk, _⟩ := F.ex
    exact PySem.W.law_code X G ht hm (X _ _ lk) rfl⟩
theorem law_finL {fa : Addr} {st : Stmt} {cs : List (Addr × Addr)} (X : K.In h) (G : h.Ns mainGlobals mg) (hmg : mg "law" = some (.ref fa)) (a : DefAt K "law" st) (hb : BindsAs "law" st ["_law_script"])
    (ok : ∀ (base : Heap) (f : Addr) (fd : FuncData), K.In base → base.Ns mainGlobals mg → (∀ p ∈ cs, LamX.TabB base mg p.1 p.2) → Fun K "law" "law" st f fd → FnG P w K mg base CX0 k f fd ["_law_script"] (spLaw K)) :
    ∃ fd : FuncData, (∀ (s : Shared) (u : Value), BindsTo s fd ⟨[u], []⟩ [("_law_script", u)]) ∧ ∀ base : Heap, K.In base → base.Ns mainGlobals mg → (∀ p ∈ cs, LamX.TabB base mg p.1 p.2) → FnG P w K mg base CX0 k fa fd ["_law_script"] (spLaw K) := by
  obtain ⟨f, oc, od, kV, doc, pm, an, cdv, ct, osl, a1, l1, c1, k1⟩ := a
  have e := hmg.symm.trans (PySem.W.mg_of X G a1)
  cases e
  have F := fun_mk (st := st) l1 c1 k1
  exact ⟨_, fun s u => .of_eq (hb kV doc pm an cdv ct [u] rfl), fun base b1 b2 b3 => ok base _ _ b1 b2 b3 F⟩
theorem with_tabs {A : FuncData → Prop} {B : FuncData → Heap → Prop} {C : Heap → Prop} {C2 : Heap → Prop} {cs : List (Addr × Addr)} (T : TabsC K h cs) (h' : ∃ fd, A fd ∧ ∀ base, C base → C2 base → (∀ p ∈ cs, LamX.TabB base mg p.1 p.2) → B fd base) :
    ∃ (fd : FuncData) (cs : List (Addr × Addr)), TabsC K h cs ∧ A fd ∧ ∀ base : Heap, C base → C2 base → (∀ p ∈ cs, LamX.TabB base mg p.1 p.2) → B fd base := let ⟨fd, h1, h2⟩ := h'; ⟨fd, cs, T, h1, h2⟩
/-- the goal that k_head leaves, the tables told -/
theorem walk_GL {l : PySem.W.OpenLaw} {n k : Nat} {q : Program} {loose : List Str} {XP : (Str → Option Value) → Heap → Prop} {YP : World → Heap → Prop} {d : DefRec} {K : Params → PySem.W.Frag} {sp : PySem.W.Frag → Sp} {x : Str} (hn : l.most = some n) (hn2 : n ≤ sizeLine) (hdf : d.params.defaults = []) (hr : Room k callerA) (him : importsNone q = true)
    (hY : ∀ (w : World) (h : Heap), YP w h → (K w.params).In h)
    (F : ∀ (w : World) (mg : Str → Option Value) (fa : Addr) (h : Heap), YP w h → (K w.params).In h → h.Ns mainGlobals mg → mg d.name = some (.ref fa) →
      ∃ (fd : FuncData) (cs : List (Addr × Addr)), TabsC (K w.params) h cs ∧ (∀ (s : Shared) (u : Value), BindsTo s fd ⟨[u], []⟩ [(x, u)]) ∧ ∀ base : Heap, (K w.params).In base → base.Ns mainGlobals mg → (∀ p ∈ cs, LamX.TabB base mg p.1 p.2) → FnG l.prog w (K w.params) mg base CX0 k fa fd [x] (sp (K w.params)))
    (hsp : ∀ (K : PySem.W.Frag) (H : Hp) (a : Addr) (ns : List Int), ns.length ≤ n → OnlyL H → SqL K H a (ns.map V.int) → sp K [.ref a] H (fun v _ => v = .bl true) fun _ _ _ => False) :
    PySem.W.WalkO q loose XP YP l.row.toRowW d [] (fun f vs => PySem.call f vs) := by
  refine Att.attach_call hn hdf fun w s₀ s₁ mg mb fa o pm cd doc a vs ns G Y ho hd hcd hmg hobj hints hlen hg => ?_
  obtain ⟨fd, cs, T, hb, hF⟩ := F w mg fa _ Y (hY w _ Y) G.T.g hmg
  exact law_callG (hY w _ Y) G.T.g G.T.b G.T.builtins G.T.nolimit hg T (let ⟨mm, q1, _⟩ := (G.T.seer him).mods; ⟨mm, q1⟩) G.T.bmain hobj hints (Nat.le_trans hlen hn2) hr hF hb fun H hO hS => hsp _ H a ns hlen hO hS
end
end DL

/-! DLl10: xs + ys as a new list. -/
namespace DL
open PySem PySem.Spec PyProof.Rows L2
def nCat2 (ta tb : ET) : NT := fun E η Q => ta E η fun x => tb E η fun y => match x, y with
  | .list xs, .list ys => xs.length + ys.length ≤ sizeLine ∧ Q (xs ++ ys)
  | _, _ => False
theorem dn_cat2 {X : Cx} {a b : Expr} {ta tb : ET} {pos : Pos} (ha : DE X a ta) (hb : DE X b tb) : DN X (.BinOp a .Add b pos) (nCat2 ta tb) := .of (pe_op op_cat ha.pe hb.pe) fun σ H c O η E Q R g h k => by
  refine ⟨c, O, η, E, _, g, h, fun dx x H1 s1 r1 h1 => ⟨c, O, η, E, _, g.step s1, h1, fun dy y H2 s2 r2 h2 => ?_⟩⟩
  have g1 := g.step s1
  have r1' := s2.rep g1.draw g1.wO r1
  cases r1' with
  | lst o1 e1 q1 =>
    cases r2 with
    | lst o2 e2 q2 => exact ⟨_, _, _, _, rfl, rfl, e1, e2, by rw [q1.length, q2.length]; exact h2.1, newk g (s1.trans s2) (q1.append q2) h2.2 k⟩
    | _ => exact h2.elim
  | _ => exact h2.elim
/-- ys = ys + e, ys owned -/
def sOwnCat (i : Nat) (t : ET) : SD := fun E z η => match η[i]? with
  | some (.own ds) => t E η fun y => match y with
    | .list ys => ds.length + ys.length ≤ sizeLine ∧ z.nx (η.set i (.own (ds ++ ys)))
    | _ => False
  | _ => False
theorem ds_ownCat {X : Cx} {e : Expr} {t : ET} {pos p1 p2 : Pos} (i : Nat) {x : Str} {pos' : Pos} (hN : X.N.Nodup) (he : DE X e t) (hi : X.N[i]? = some x := by rfl) (hx : Loc X.env.scope x := by first | exact Or.inl rfl | exact Or.inr rfl) (hv : Vis X.env.scope x := by first | exact Or.inl rfl | exact Or.inr (Or.inl rfl) | exact Or.inr (Or.inr rfl))
    (hd : (x == ("__debug__" : Str)) = false := by decide) (hcd : (x == ("__classdict__" : Str)) = false := by decide) (hs : swapsWith (.BinOp (.Name x p1) .Add e p2) (some (.Name x pos')) pos.line X.env = pure false := by rfl)
    (hf : X.fn x = true ∨ X.env.scope.names.lookup x = some .local := by first | exact .inl rfl | exact .inr rfl) : DS X (.Assign [.Name x pos'] (.BinOp (.Name x p1) .Add e p2) pos) (sOwnCat i t) :=
  .of (ps_set (i := i) hN hi hx (pe_op op_cat (pe_var (i := i) hi hv hd hcd) he.pe) hs hf) fun σ H c O η E z g h => by
    unfold sOwnCat at h
    split at h
    · rename_i ds hη
      obtain ⟨a, xs, e1, ha, oa, nb, h0, r⟩ := g.cell i _ hη
      have e2 : σ[i]? = some (some (.ref a)) := by
        cases w : σ[i]? with
        | none => rw [w] at e1; cases e1
        | some u => rw [w] at e1; exact congrArg some e1
      refine ⟨.ref a, e2, c, O, η, E, _, g, h, fun d v H1 s1 r1 q => ?_⟩
      have g1 := g.step s1
      cases r1 with
      | lst o h1 rr =>
        have ha1 := s1.keep a _ (g.own_nw hη e1) ha
        have rx := s1.repAll g.draw g.wO r
        refine ⟨a, _, xs, _, rfl, rfl, ha1, h1, by rw [r.length, rr.length]; exact q.1, fun p hp => ?_⟩
        exact ⟨fun b => O b ∨ b = p, _, ⟨g.toGood.setOwn (s1.trans (.alloc s1.draw hp)) (s1.none g.draw hp) upd_same (((rx.append rr).more hp).same (same_upd hp)) i, g.er⟩, q.2⟩
      | _ => exact q.elim
    · exact h.elim
end DL

/-! DLl11: x(lambda y=0: e): a lambda with one parameter, which has an integer as its default. -/
namespace DL
open PySem PySem.Spec PyProof.Rows L2
/-- what is asked of such a lambda's names; N: the maker's slots -/
structure LamD (N : List Str) (a : Str) (sc scope : Scope) : Prop where
  kind : scope.kind = .function
  co : scope.isCoroutine = false
  gen : scope.isGenerator = false
  own : ∀ y ∈ scope.names, y.2 ≠ .cell ∧ (y.2 = .local → y.1 ∉ N)
  free : ∀ y ∈ scope.names, y.2 = .free → sc.names.lookup y.1 = some .cell ∨ sc.names.lookup y.1 = some .free
  par : scope.names.lookup a = some .local
def lamDB (N : List Str) (a : Str) (sc scope : Scope) : Bool :=
  decide (scope.kind = .function) && !scope.isCoroutine && !scope.isGenerator && (scope.names.all fun y => !decide (y.2 = .cell) && (!decide (y.2 = .local) || !N.contains y.1) && (!decide (y.2 = .free) || decide (sc.names.lookup y.1 = some .cell) || decide (sc.names.lookup y.1 = some .free))) && decide (scope.names.lookup a = some .local)
theorem lamD_by {N : List Str} {a : Str} {sc scope : Scope} (h : lamDB N a sc scope = true) : LamD N a sc scope := by
  unfold lamDB at h
  simp only [Bool.and_eq_true, Bool.or_eq_true, Bool.not_eq_true', decide_eq_true_eq, decide_eq_false_iff_not, List.all_eq_true] at h
  obtain ⟨⟨⟨⟨h1, h2⟩, h3⟩, h4⟩, h5⟩ := h
  refine ⟨h1, h2, h3, fun y hy => ⟨(h4 y hy).1.1, fun e hm => ?_⟩, fun y hy e => ?_, h5⟩
  · rcases (h4 y hy).1.2 with z | z
    · exact z e
    · rw [List.contains_iff_mem.mpr hm] at z; cases z
  · rcases (h4 y hy).2 with (z | z) | z
    · exact absurd e z
    · exact .inl z
    · exact .inr z
theorem LamD.has {X : Cx} {N : List Str} {a : Str} {scope : Scope} (L : LamD N a X.env.scope scope) (ok : X.Ok) : ∀ y ∈ scope.names, y.2 = .free → ∃ c, X.env.cells.lookup y.1 = some c := fun y hy e => by
  rcases L.free y hy e with k | k
  · exact ok.has _ (.inl k)
  · exact ok.has _ (.inr k)
section
variable {X : Cx} {pins : List (Addr × Obj)} {σ : L2.St} {H HZ : Hp} {s s1 : Shared} {G : Option (Addr × Addr)}
theorem lam_startD {A : Around} {outer : List Env} {E : XK} {scope : Scope} {f c' : Addr} {h₁ : Heap} {tk : Nat} {a : Str} {m0 : Str → Option Value} (I : Inv X pins σ H s) (L : LamD X.N a X.env.scope scope) (e0 : Env0 X.prog X.w X.K X.mg X.base A outer s1 HZ) (hd : A.handled = none)
    (un : Un (frs X.stack) [] H HZ s.heap s1.heap) (hns : h₁.Ns s1.heap.objs.size m0) (kp : ∀ b o, s1.heap.get? b = some o → h₁.get? b = some o) :
    Inv (LamX.lamCx X A outer s1 HZ E scope f c') [] σ HZ { s1 with heap := h₁, toks := tk } := by
  have hfree := L.has I.ok
  have cm : ∀ {y c}, (cloFrom X.env.cells scope.names []).lookup y = some c → X.env.cells.lookup y = some c := fun {y c} e => by
    rcases cloFrom_mem (PySem.mem_of_lookup e) with hm | ⟨h1, h2⟩
    · cases hm
    · obtain ⟨c1, hc⟩ := hfree _ h1 rfl
      have hc : X.env.cells.lookup y = some c1 := hc
      have e2 : c = c1 := by
        rw [h2, hc] <;> rfl
      rw [e2]
      exact hc
  have look : ∀ {y}, scope.names.lookup y = some .free → ∃ c, (cloFrom X.env.cells scope.names []).lookup y = some c := fun {y} hl => by
    have hy : (y, NameKind.free) ∈ scope.names := PySem.mem_of_lookup hl
    exact mem_lookup (cloFrom_has (cells := X.env.cells) (acc := []) hy)
  have cellK : ∀ {c : Addr} {v : Option Value}, H c = none → s.heap.IsCell c v → h₁.IsCell c v := fun {c v} n ⟨o, ho, hd⟩ => by
    obtain ⟨sl, q⟩ := un.any ho n (by simp)
    exact ⟨_, kp _ _ q, hd⟩
  have noA : ∀ b : Addr, b ∉ (LamX.lamCx X A outer s1 HZ E scope f c').ex := fun b z => absurd (show b ∈ ([] : List Addr) from z) (by simp)
  refine ⟨⟨e0.mod, L.kind, rfl, rfl, Nat.le_refl _, fun y z c e1 e2 => I.ok.inj y z c (cm e1) (cm e2), fun y hy => ?_, fun y c z _ => ?_, fun _ => hd, Around.frames_deeper e0.frames, .inr ⟨rfl, rfl⟩, fun b z => absurd z (noA b), e0.bs, e0.bsz, fun b _ _ => noA b,
      fun b z => absurd z (noA b), e0.funs, e0.frf⟩,
    rfl, e0.bare, Un.kept kp, ⟨_, hns, fun i y v e1 e2 e3 => ?_⟩, fun y c e => ?_, e0.hok.fresh (Nat.le_refl _), fun y c e => ?_, fun q hq => absurd (show q ∈ ([] : List (Addr × Obj)) ++ [] from hq) (by simp), e0.hok.kept kp, I.len⟩
  · have hy : scope.names.lookup y = some .cell ∨ scope.names.lookup y = some .free := hy
    rcases hy with hy | hy
    · exact absurd rfl (L.own _ (PySem.mem_of_lookup hy)).1
    · exact look hy
  · have z : false = true := z
    cases z
  · have e3 : Vis scope y := e3
    have e1 : X.N[i]? = some y := e1
    rcases e3 with k | k | k
    · exact absurd (List.mem_of_getElem? e1) ((L.own _ (PySem.mem_of_lookup k)).2 rfl)
    · exact absurd rfl (L.own _ (PySem.mem_of_lookup k)).1
    · obtain ⟨m, hn, hl⟩ := I.loc
      have hvis : Vis X.env.scope y := (L.free _ (PySem.mem_of_lookup k) rfl).elim (fun k => .inr (.inl k)) (fun k => .inr (.inr k))
      obtain ⟨w', r, q⟩ := hl i y v e1 e2 hvis
      obtain ⟨c2, h2⟩ := look k
      refine ⟨w', r, .inr ⟨.inr k, c2, h2, ?_⟩⟩
      have c1 := cm h2
      rcases q with ⟨k', _⟩ | ⟨_, c3, e', z⟩
      · have k' : X.env.scope.names.lookup y = some .local := k'
        rcases L.free _ (PySem.mem_of_lookup k) rfl with k2 | k2 <;> rw [show X.env.scope.names.lookup y = _ from k2] at k' <;> cases k'
      · rw [c1] at e'
        cases e'
        exact cellK (I.freeC y _ c1) z
  · obtain ⟨w', z⟩ := I.cell y c (cm e)
    exact ⟨w', cellK (I.freeC y c (cm e)) z⟩
  · obtain ⟨v, o, ho, hd⟩ := I.cell y c (cm e)
    exact un.free c o ho (I.freeC y c (cm e)) (by simp)
theorem lam_makeD {c P : Addr} {params : Arguments} {body : Expr} {scope : Scope} {pos : Pos} {i : Int} {kc : Nat} {pc : Pos} {E Q : Value → Shared → Prop} (I : Inv X pins σ H s) (dr : DrawOk G H) (TB : LamX.TabB X.base X.mg c P) (hcode : X.env.code = .ref c)
    (hm : (P, X.env.qual ++ "<lambda>") ∈ lawTabs) (hu : ∀ p ∈ lawTabs, p.1 = P → p.2 = X.env.qual ++ "<lambda>") (hde : params.defaults.isEmpty = false) (hk0 : params.kw_defaults = []) (hdv : evalEach params.defaults X.env = [eval (.Constant (.int i) kc pc) X.env]) (hfree : ∀ y ∈ scope.names, y.2 = .free → ∃ c, X.env.cells.lookup y.1 = some c)
    (h : ∀ (f c' t : Addr) (tk : Tok) (pm ctv doc : Value) (H1 : Hp) (s' : Shared), Inv X pins σ H1 s' → Step G H H1 →
      s'.heap.get? f = some (PySem.W.kdv_obj "<lambda>" (X.env.qual ++ "<lambda>") params (.expr body) scope (cloFrom X.env.cells scope.names []) (.ref t) doc pm c' ctv) → H1 f = none → f ∉ frs X.stack →
      s'.heap.get? t = some (PySem.W.kdv_tup [.int i tk]) → H1 t = none → t ∉ frs X.stack → H1 c' = some (LamX.CodeO c' (X.env.qual ++ "<lambda>")) → Q (.ref f) s') :
    wpAny (model X.prog X.w) X.A (eval (.Lambda params body scope pos) X.env) Q E s := by
  obtain ⟨ps, hP, ht, ha⟩ := dr.2.t _ hm
  have hP : H P = some (.tbl ps) := hP
  refine PySem.W.kdv_lam hde hk0 ?_
  rw [hdv]
  refine evalAll_cons (wpAny_Constant_int (evalAll_nil ?_))
  rw [makeFunction_eq]
  simp only [List.zip_nil_right, List.filterMap_nil, List.isEmpty_nil, List.isEmpty_cons, if_true, Bool.false_eq_true, if_false, pure_bind]
  refine wpAny_bind (wpAny_newTextTuple ?_)
  have kT : ∀ b o, s.heap.get? b = some o → (s.heap.push (PySem.W.kdv_tup [Value.int i s.toks])).get? b = some o := fun b o e => Heap.get?_push_of_some _ e
  have I0 : Inv X pins σ H { s with heap := s.heap.push (PySem.W.kdv_tup [Value.int i s.toks]), toks := s.toks + 1 } := I.kept kT
  have tAt : (s.heap.push (PySem.W.kdv_tup [Value.int i s.toks])).get? s.heap.objs.size = some (PySem.W.kdv_tup [Value.int i s.toks]) := Heap.get?_push_size _ rfl
  have nT : H s.heap.objs.size = none := I.hok.fresh (Nat.le_refl _)
  have off0 : ∀ f, s.heap.objs.size ≤ f → f ∉ frs X.stack := by
    intro f hf z
    rcases List.mem_cons.mp (I.stkSub _ z) with e | e
    · subst e
      exact absurd I.lt (Nat.not_lt.mpr hf)
    · exact I.nofs hf e
  generalize hs0 : ({ s with heap := s.heap.push (PySem.W.kdv_tup [Value.int i s.toks]), toks := s.toks + 1 } : Shared) = s0 at I0 ⊢
  have eh : s0.heap = s.heap.push (PySem.W.kdv_tup [Value.int i s.toks]) := by rw [← hs0]
  have tAt0 : s0.heap.get? s.heap.objs.size = some (PySem.W.kdv_tup [Value.int i s.toks]) := by rw [eh]; exact tAt
  have sz0 : s.heap.objs.size ≤ s0.heap.objs.size := by rw [eh, Heap.size_push]; omega
  have bP : s0.heap.BuiltinsAt X.mg P := TB.bm.keeps I0.bk
  have tP : s0.heap.get? P = some { cls := .none, data := .fields ps } := I0.hok P _ hP
  have off : ∀ f, s0.heap.objs.size ≤ f → f ∉ frs X.stack := fun f hf => off0 f (Nat.le_trans sz0 hf)
  have nTP : s.heap.objs.size ≠ P := fun z => by rw [← z, nT] at hP; cases hP
  cases hc : codeAmong pos ps.toList with
  | some cv =>
    obtain ⟨c', rfl, hco⟩ := ha pos cv hc
    refine PySem.W.kdv_makeTailHit (mg := X.mg) (c := c) (P := P) (ps := ps) (closure_ok hfree) I0.ok.glob (I0.mod.glob.keeps I0.bk) hcode (TB.code.keeps I0.bk) tP ht hc bP fun ctv doc h' tk hx hsz => ?_
    exact h h'.objs.size c' s.heap.objs.size s.toks ((X.mg "__name__").getD .none) ctv doc H _ (I0.kept fun b o e => Heap.get?_push_of_some _ (hx b o e)) (.refl dr) (Heap.get?_push_size _ rfl) (I0.hok.fresh hsz) (off _ hsz) (Heap.get?_push_of_some _ (hx _ _ tAt0)) nT (off0 _ (Nat.le_refl _)) hco
  | none =>
    refine PySem.W.kdv_makeTail (mg := X.mg) (c := c) (P := P) (ps := ps) (closure_ok hfree) I0.ok.glob (I0.mod.glob.keeps I0.bk) hcode (TB.code.keeps I0.bk) tP ht hc TB.gP bP fun c' ctv doc h' tk hx hge hlt hrec htb => ?_
    obtain ⟨c2, oc, vs, t, e2, hoc, hd, hv⟩ := hrec
    cases e2
    have big : s0.heap.objs.size ≤ h'.objs.size := Nat.le_trans hge (Nat.le_of_lt hlt)
    have nC : H c' = none := I0.hok.fresh hge
    have J := LamX.inv_table (t' := tk) (more := #[rawInt pos.line, rawInt pos.col, .ref c']) (h' := h'.push (PySem.W.kdv_obj "<lambda>" (X.env.qual ++ "<lambda>") params (.expr body) scope (cloFrom X.env.cells scope.names []) (.ref s.heap.objs.size) doc ((X.mg "__name__").getD .none) c' ctv)) I0 hP
      (fun b o hb e => Heap.get?_push_of_some _ (hx b o hb e)) (Heap.get?_push_of_some _ htb) hge ⟨oc, vs, t, Heap.get?_push_of_some _ hoc, hd, hv⟩
    have keepCode : ∀ {b : Addr} {q : Str}, H b = some (LamX.CodeO b q) → (upd (upd H P (.tbl (ps ++ #[rawInt pos.line, rawInt pos.col, .ref c']))) c' (LamX.CodeO c' (X.env.qual ++ "<lambda>"))) b = some (LamX.CodeO b q) := by
      intro b q e
      rw [upd_ne (ne_of_none e nC), upd_ne (fun z => by rw [z, hP] at e; exact LamX.codeO_ne ps (Option.some.inj e).symm)]
      exact e
    have atP : (upd (upd H P (.tbl (ps ++ #[rawInt pos.line, rawInt pos.col, .ref c']))) c' (LamX.CodeO c' (X.env.qual ++ "<lambda>"))) P = some (.tbl (ps ++ #[rawInt pos.line, rawInt pos.col, .ref c'])) := by
      rw [upd_ne (ne_of_none hP nC), upd_same]
    have T : LamX.Tabs lawTabs (upd (upd H P (.tbl (ps ++ #[rawInt pos.line, rawInt pos.col, .ref c']))) c' (LamX.CodeO c' (X.env.qual ++ "<lambda>"))) := by
      intro p hp
      by_cases hb : p.1 = P
      · rw [hb, hu p hp hb]
        have eL : (ps ++ #[rawInt pos.line, rawInt pos.col, Value.ref c']).toList = ps.toList ++ [rawInt pos.line, rawInt pos.col, .ref c'] := by simp
        refine ⟨_, atP, ?_, fun p' cv hcv => ?_⟩
        · rw [eL]
          exact PySem.TriplesOk_snoc _ _ _ _ ht
        · rw [eL] at hcv
          rcases LamX.among_app _ ht hcv with z | z
          · obtain ⟨c0, e1, e2⟩ := ha p' cv z
            exact ⟨c0, e1, keepCode e2⟩
          · exact ⟨c', z, upd_same⟩
      · obtain ⟨ps', a1, a2, a3⟩ := dr.2.t p hp
        refine ⟨ps', by rw [upd_ne (ne_of_none a1 nC), upd_ne hb]; exact a1, a2, fun p' cv hcv => ?_⟩
        obtain ⟨c0, e1, e2⟩ := a3 p' cv hcv
        exact ⟨c0, e1, keepCode e2⟩
    have ltT : s.heap.objs.size < c' := Nat.lt_of_lt_of_le (Heap.lt_size tAt0) hge
    refine h h'.objs.size c' s.heap.objs.size s.toks ((X.mg "__name__").getD .none) ctv doc _ _ J (tab_step dr hm hP nC ⟨T, by
      obtain ⟨o, e⟩ := dr.2.m
      refine ⟨o, ?_⟩
      rw [upd_ne (fun z => by rw [z, nC] at e; cases e), upd_ne (fun z => by rw [z, hP] at e; cases e)]
      exact e⟩) (Heap.get?_push_size _ rfl) ?_ (off _ big) (Heap.get?_push_of_some _ (hx _ _ nTP tAt0)) ?_ (off0 _ (Nat.le_refl _)) upd_same
    · rw [upd_ne (Nat.ne_of_gt hlt), upd_ne (Nat.ne_of_gt (Nat.lt_of_lt_of_le (Heap.lt_size tP) big))]
      exact I0.hok.fresh big
    · rw [upd_ne (Nat.ne_of_lt ltT), upd_ne nTP]
      exact nT
theorem pe_lamcallD {Ng : List Str} {qg : Str} {sg : Scope} {g f c' t : Addr} {cdg pm ctv doc : Value} {params : Arguments} {body : Expr} {scope : Scope} {k i : Nat} {a y : Str} {n : Int} {tk0 : Tok} {kb : Option (Array Value) → Sem (List (Str × Value))} {pn : List (Addr × Obj)} {xe : Value → Shared → Prop} {W : WX} {E : XK} {tb : TE} {p1 p2 : Pos}
    (I : Inv X pins σ H s) (L : LamD X.N y X.env.scope scope) (hf : s.heap.get? f = some (PySem.W.kdv_obj "<lambda>" (X.env.qual ++ "<lambda>") params (.expr body) scope (cloFrom X.env.cells scope.names []) (.ref t) doc pm c' ctv)) (hfn : H f = none) (hfr : f ∉ frs X.stack)
    (htp : s.heap.get? t = some (PySem.W.kdv_tup [.int n tk0])) (htn : H t = none) (htr : t ∉ frs X.stack)
    (hb1 : bindArgs (PySem.W.kdv_fn "<lambda>" (X.env.qual ++ "<lambda>") params (.expr body) scope (cloFrom X.env.cells scope.names []) (.ref t) doc pm (.ref c') ctv) ⟨[], []⟩ = seqItems? (.ref t) >>= kb) (hb2 : kb (some #[.int n tk0]) = pure [(y, .int n tk0)])
    (tk : Takes ((cxOf CX0 X.prog X.w X.K X.mg X.base Ng qg sg g cdg X.A X.stack s H E0).nox.tr pn xe) W) (hW : ∀ cls d σ' H', E cls d H' → W cls d σ' H') (hr : Room (k + 1) (X.A.deeper (envOfC qg sg s.heap.objs.size g cdg)))
    (hbody : ∀ (s1 : Shared) (H1 : Hp), Room k ((X.A.deeper (envOfC qg sg s.heap.objs.size g cdg)).deeper (LamX.lamEnv X scope s1.heap.objs.size f c')) → PE (LamX.lamCx X (X.A.deeper (envOfC qg sg s.heap.objs.size g cdg)) (envOfC qg sg s.heap.objs.size g cdg :: X.stack) s1 H1 E scope f c') body tb)
    (hN : Ng[i]? = some a) (hv : Vis sg a) (hd : (a == ("__debug__" : Str)) = false := by decide) (hcd : (a == ("__classdict__" : Str)) = false := by decide) :
    PE ((cxOf CX0 X.prog X.w X.K X.mg X.base Ng qg sg g cdg X.A X.stack s H E0).nox.tr pn xe) (.Call (.Name a p1) [] [] p2) (fun σZ HZ Q => σZ[i]? = some (some (.ref f)) ∧ HZ c' = some (LamX.CodeO c' (X.env.qual ++ "<lambda>")) ∧ tb σ HZ Q) := by
  refine ⟨fun pz sz σz Hz Q Iz ⟨e0, ec, ht⟩ => wpAny_Call_Name_kw (thn ((pe_var (pos := p1) (i := i) hN hv hd hcd).run pz sz σz Hz (fun v H1 => v = .ref f ∧ H1 = Hz) Iz ⟨.ref f, e0, rfl, rfl⟩) fun u s1 hh => ?_)⟩
  obtain ⟨v, H1, I1, r1, ev, eH⟩ := hh
  subst ev eH
  obtain rfl : u = Value.ref f := r1
  have un : Un (frs X.stack) [] H H1 s.heap s1.heap := I1.base
  have lf := un.keep f _ hf hfn hfr (fun z => nomatch z)
  have lt := un.keep t _ htp htn htr (fun z => nomatch z)
  obtain ⟨⟨oc, vs, tq, hoc, hdc, hvc⟩, _, _⟩ := I1.hok c' _ ec
  refine PySem.W.callWith_F0 ⟨_, _, _, _, lf⟩ (wpAny_call (codeAny_mono (?_ : codeAny (model X.prog X.w) (X.A.deeper (envOfC qg sg s.heap.objs.size g cdg)) (.call (.ref f) ⟨[], []⟩) (CR (L2.CX X.prog X.w) (envOfC qg sg s.heap.objs.size g cdg :: X.stack) X.prog X.w H1 s1 Q E) s1) fun r s' hq => ?_))
  · refine PySem.W.kla_callFunE hr.depth lf rfl L.co L.gen rfl ⟨c', oc, vs, tq, rfl, hoc, hdc, hvc⟩ ?_
    refine BindsTo.of_defaults (T := t) (n := 0) rfl lt rfl hb1 hb2 _ _ _ _ ?_
    refine (wpAny_newFunctionEnv (fun y hy => (L.own y hy).1) (fun z hz => ?_) (fun h1 hns hsb => ⟨I1.nolimit.fresh _ hsb, ?_⟩) L.kind)
    · rw [List.mem_singleton.mp hz]
      exact L.par
    have J := lam_startD (tk := s1.toks + ([(y, Value.int n tk0)] : List (Str × Value)).length) (h₁ := h1) (E := E) (f := f) (c' := c') I L I1.env0 hr.hd un hns fun b o e => hsb.extBut b o (Nat.ne_of_lt (Heap.lt_size e)) (Heap.get?_push_of_some _ e)
    refine PySem.W.kla_codeExpr (wpAny_mono ((hbody s1 H1 (hr.deeper _)).run [] _ _ H1 Q J ht) (fun v s' hq => ?_) fun e s' hq => hq)
    obtain ⟨w', H', J', rv, q⟩ := hq
    exact ⟨w', H', J'.os, J'.bare, J'.base, J'.hok, rv, q⟩
  · match r, hq with
    | .error e, hq => exact passes_call tk hW pz σz H1 s1 e s' I1 hq
    | .ok (.ret u), hq => exact I1.after hq
end
section
variable {X : Cx} {P c : Addr} {k m : Nat} {rF : Addr → Addr → Str → SD} {ok : Str → Prop} {params : Arguments} {body : Expr} {scope : Scope} {lp p pos : Pos} {tb : ET}
theorem de_toldD (TF : ToldF X.prog X.w X.K X.mg X.base k rF m ok) (TB : LamX.TabB X.base X.mg c P) (hcode : X.env.code = .ref c) {q0 : Str} (hq : X.env.qual = q0) (hm : (P, q0 ++ "<lambda>") ∈ lawTabs) (hu : ∀ p ∈ lawTabs, p.1 = P → p.2 = q0 ++ "<lambda>") (hgd : X.A.guards = some []) (hr : Room (k + 1) X.A) (hk : 1 ≤ k) (hg : Gl X "_law_told") {y : Str} (L : LamD X.N y X.env.scope scope)
    (hbody : ∀ (f c' : Addr) (A : Around) (outer : List Env) (s : Shared) (H : Hp) (E : XK), A.guards = some [] → Room (k - 1) (A.deeper (LamX.lamEnv X scope s.heap.objs.size f c')) → DE (LamX.lamCx X A outer s H E scope f c') body tb)
    {n : Int} {kc : Nat} {pc : Pos} (hde : params.defaults.isEmpty = false) (hk0 : params.kw_defaults = []) (hdv : evalEach params.defaults X.env = [eval (.Constant (.int n) kc pc) X.env])
    (hbind : ∀ (q : Str) (cl : List (Str × Addr)) (t : Addr) (doc pm cv ctv : Value), ∃ kb, bindArgs (PySem.W.kdv_fn "<lambda>" q params (.expr body) scope cl (.ref t) doc pm cv ctv) ⟨[], []⟩ = seqItems? (.ref t) >>= kb ∧ ∀ tk, kb (some #[.int n tk]) = pure [(y, .int n tk)])
    (hst : backTo pos (starEach [.Lambda params body scope lp] X.env) = (false, eval (.Lambda params body scope lp) X.env) :: backTo pos (starEach [] X.env) := by rfl) (hpl : (backTo pos (starEach [.Lambda params body scope lp] X.env)).any (·.1) = false := by rfl) :
    DE X (.Call (.Name "_law_told" p) [.Lambda params body scope lp] [] pos) (dTold' rF m ok tb) := ⟨fun pins s σ H c0 O η E Q I g h => by
  subst hq
  obtain ⟨stT, Df, S, hv, tell⟩ := TF
  obtain ⟨gT, fd, F, hmy, hbd⟩ := Df.ex
  obtain ⟨k, rfl⟩ := Nat.exists_eq_add_of_le' hk
  refine wpAny_Call_Name_kw (ld_glob I hg hmy (PySem.W.callWith_K (h₀ := X.base) I.ok.mod.kin F.kp ?_ (by first | exact hst | rfl) hpl) (by decide))
  refine Calls.spliced_cons (lam_makeD I g.draw TB hcode hm hu hde hk0 hdv (L.has I.ok) fun f c' t tk0 pm ctv doc H1 s1 I1 st hf hfn hfr htp htn htr hco => ?_)
  refine Calls.spliced_nil ⟨I1.kIn, ?_⟩
  obtain ⟨oc, od, kV, doc', pm', an, cdv, ct, osl, rfl, lk, hcd'⟩ := F.ex
  obtain ⟨kb, hb1, hb2⟩ := hbind (X.env.qual ++ "<lambda>") (cloFrom X.env.cells scope.names []) t doc pm (.ref c') ctv
  have rc : codeAny (model X.prog X.w) X.A (.call (.ref gT) ⟨[.ref f], []⟩) (CR CX0 X.stack X.prog X.w H1 s1 (fun v H' => ∃ d, Step c0.G H1 H' ∧ Rep X.K O H' v d ∧ Q d) E0) s1 := by
    refine LamX.run_ofS (N := N_told) (ps := ["_law_call"]) (us := [.ref f]) (vs := [.ref f]) lk hcd' S hr I1.env0 (hbd s1 [.ref f] I1.kIn rfl) (.cons rfl .nil) rfl fun hr' => ⟨_, (tell gT cdv X.A X.stack s1 H1 hgd hr' (fun E' HZ Q' => tLamD X.K X.mg tb E' σ HZ Q') f c' (X.env.qual ++ "<lambda>") fun p1 p2 W pn xe E' tk hW => ?_).nox, ?_⟩
    · exact pe_lamcallD (i := 0) I1 L hf hfn hfr htp htn htr hb1 (hb2 _) tk hW hr' (fun s2 H2 hr2 => pe_lamD (hbody f c' _ _ s2 H2 E' hgd hr2)) rfl hv
    · refine ⟨O, c0.G, Q, ?_, hco, fun HZ stZ E' Q' hE hQ => ⟨⟨O, c0.G, HZ, []⟩, O, drop η, _, _, g.toGood.drop (st.trans stZ), fun cls d H' he => hE cls d H' ?_, h, fun d v H' st' r q => hQ v d H' st' r q⟩, fun v d H' st' r q => ⟨d, st', r, q⟩⟩
      · refine ⟨rfl, fun _ z => z, g.wO, (g.step st).hT, fun _ _ _ z => z, st.draw, fun j z hj => ?_, fun j l ds es b h1 _ _ _ => ?_, fun p hp => absurd hp (by simp)⟩
        · match j, hj with
          | 0, hj => cases hj; exact ⟨rfl, fun p hp => by cases hp⟩
          | 1, hj => cases hj; trivial
          | 2, hj => cases hj; trivial
          | 3, hj => cases hj; trivial
        · match j, h1 with
          | 0, h1 => cases h1
          | 1, h1 => cases h1
          | 2, h1 => cases h1
          | 3, h1 => cases h1
      · obtain ⟨nm, fs, dx, vs, q1, q2, q3, q4, q5, q6, q7, q8, q9⟩ := he
        exact ⟨nm, fs, dx, vs, q1, q2, q3, q4, q5, q6, fun a o nw e => q7 a o nw (stZ.keep a o nw e), q8, q9⟩
  refine wpAny_call (codeAny_mono rc fun r s2 hq => ?_)
  match r, hq with
  | .error e, hq => exact (show False from hq).elim
  | .ok (.ret u), hq =>
    obtain ⟨v, H2, I2, rv, d', st', rp, q⟩ := I1.after hq
    exact ⟨d', v, H2, I2, rv, st.trans st', rp, q⟩⟩
end
end DL

/-! DLx: what each term says, as equations (not by computation: the kernel is to take them as they stand). -/
namespace DL
open PySem L2
section
variable {E : XP} {z : EndsD} {η : EnvD} {QD : D → Prop} {QL : List D → Prop} {QC : List Cell → Prop} {QB : Bool → Prop} {QO : Option Int → Prop} {QE : EnvD → Prop}
variable {t u : ET} {ta tb tc : ET} {s s1 s2 : SD} {nt : NT} {b b1 b2 : BT} {at_ : AT} {ct : CT} {it : IT} {g : GT} {gs : GTs} {i j : Nat}
theorem x_sSeq : sSeq s1 s2 E z η = s1 E { z with nx := s2 E z } η := id rfl
theorem x_sNext : sNext E z η = z.nx η := id rfl
theorem x_sSet : sSet i t E z η = t E η (fun d => z.nx (η.set i (.dat d))) := id rfl
theorem x_sSetL : sSetL i t E z η = t E (lend η) (fun d => flat d = true ∧ z.nx (η.set i (.dat d))) := id rfl
theorem x_sOwn : sOwn i nt E z η = nt E η (fun ds => z.nx (η.set i (.own ds))) := id rfl
theorem x_sOwnL : sOwnL i nt E z η = nt E (lend η) (fun ds => flatAll ds = true ∧ z.nx (η.set i (.own ds))) := id rfl
theorem x_sNew : sNew i nt E z η = nt E η (fun ds => z.nx (η.set i (.dat (.list ds)))) := id rfl
theorem x_sPar : sPar i j t u E z η = t E η (fun x => u E η fun y => z.nx ((η.set i (.dat x)).set j (.dat y))) := id rfl
theorem x_sParN : sParN i j nt u E z η = nt E η (fun ds => u E η fun y => z.nx ((η.set i (.own ds)).set j (.dat y))) := id rfl
theorem x_sRet : sRet t E z η = t E (lend η) z.rt := id rfl
theorem x_sRetN : sRetN E z η = z.rt .none := id rfl
theorem x_sIf : sIf b s1 s2 E z η = b E (lend η) (fun k => if k = true then s1 E z η else s2 E z η) := id rfl
theorem x_sDrop : sDrop t E z η = t E (lend η) (fun _ => z.nx η) := id rfl
theorem x_sFor : sFor it g s E z η = it E η (fun ds => forD g s E z ds η) := id rfl
theorem x_sWhile : sWhile b s E z η = ∃ n, whileD b s E z n η := id rfl
theorem x_sNever : sNever E z η = False := id rfl
theorem x_sFrz : sFrz i s E z η = s E z (frz i η) := id rfl
theorem x_sApp : sApp i t E z η = onOwn η[i]? (fun ds => t E η fun d => ds.length < sizeLine ∧ z.nx (η.set i (.own (ds ++ [d])))) := id rfl
theorem x_sAppL : sAppL i t E z η = onOwn η[i]? (fun ds => t E (lend η) fun d => flat d = true ∧ ds.length < sizeLine ∧ z.nx (η.set i (.own (ds ++ [d])))) := id rfl
theorem x_sExtL : sExtL i t E z η = onOwn η[i]? (fun ds => t E (lend η) fun d => onList d fun es => flatAll es = true ∧ ds.length + es.length ≤ sizeLine ∧ z.nx (η.set i (.own (ds ++ es)))) := id rfl
theorem x_sExtS : sExtS i t E z η = onOwn η[i]? (fun ds => t E (lend η) fun d => onSeqE d fun es => flatAll es = true ∧ ds.length + es.length ≤ sizeLine ∧ z.nx (η.set i (.own (ds ++ es)))) := id rfl
theorem x_onSeqEL {ds : List D} : onSeqE (.list ds) QL = QL ds := id rfl
theorem x_onSeqET {ds : List D} : onSeqE (.tuple ds) QL = QL ds := id rfl
theorem x_sAug : sAug i t E z η = onCInt η[i]? (fun m => t E (lend η) fun d => onInt d fun n => z.nx (η.set i (.dat (.int (m + n))))) := id rfl
theorem x_sAsg : sAsg t g E z η = t E η (fun d => g d η z.nx) := id rfl
theorem x_sBreak : sBreak E z η = z.bk η := id rfl
theorem x_sCont : sCont E z η = z.ct η := id rfl
def onDat (o : Option Cell) (k : D → Prop) : Prop := match o with | some (.dat d) => k d | _ => False
def onSeq (d : D) (f g : List D → Prop) : Prop := match d with | .list ds => f ds | .tuple ds => g ds | _ => False
def on1I (ds : List D) (k : Int → Prop) : Prop := match ds with | [.int j] => k j | _ => False
def on2T (ds : List D) (k : List D → List D → Prop) : Prop := match ds with | [.tuple xs, .tuple ys] => k xs ys | _ => False
def on2I (ds : List D) (k : Int → Int → Prop) : Prop := match ds with | [.int i, .int j] => k i j | _ => False
def on2S (ds : List D) (k : List D → List D → Prop) : Prop := match ds with | [.list xs, .list ys] => k xs ys | [.tuple xs, .tuple ys] => k xs ys | _ => False
def onScr (o : Option Cell) (k : List Int → Prop) : Prop := match o with | some (.scr ns) => k ns | _ => False
theorem x_onDat {d : D} : onDat (some (.dat d)) QD = QD d := id rfl
theorem x_onSeqL {ds : List D} {f k : List D → Prop} : onSeq (.list ds) f k = f ds := id rfl
theorem x_onSeqT {ds : List D} {f k : List D → Prop} : onSeq (.tuple ds) f k = k ds := id rfl
theorem x_on1I {k : Int → Prop} {m : Int} : on1I [.int m] k = k m := id rfl
theorem x_on2I {k : Int → Int → Prop} {m n : Int} : on2I [.int m, .int n] k = k m n := id rfl
theorem x_on2L {k : List D → List D → Prop} {xs ys : List D} : on2S [.list xs, .list ys] k = k xs ys := id rfl
theorem x_on2T {k : List D → List D → Prop} {xs ys : List D} : on2S [.tuple xs, .tuple ys] k = k xs ys := id rfl
theorem x_onScr {k : List Int → Prop} {ns : List Int} : onScr (some (.scr ns)) k = k ns := id rfl
theorem x_ifB {c : Bool} : ifB (.bool c) QB = QB c := id rfl
theorem x_onS {α : Type} {a : α} {k : α → Prop} : onS (some a) k = k a := id rfl
theorem x_onOwn {ds : List D} : onOwn (some (.own ds)) QL = QL ds := id rfl
theorem x_onList {ds : List D} : onList (.list ds) QL = QL ds := id rfl
theorem x_onInt {m : Int} {k : Int → Prop} : onInt (.int m) k = k m := id rfl
theorem x_onCInt {m : Int} {k : Int → Prop} : onCInt (some (.dat (.int m))) k = k m := id rfl
theorem x_isDrw {k : Prop} : isDrw (some .drw) k = k := id rfl
theorem x_lenScr : lenScr i E η QD = onScr η[i]? (fun ns => QD (.int ns.length)) := id rfl
theorem x_dV : dV i E η QD = onDat η[i]? QD := id rfl
theorem x_dK {d : D} : dK d E η QD = QD d := id rfl
theorem x_dOp {r : OpD} : dOp r ta tb E η QD = ta E η (fun x => tb E η fun y => r x y QD) := id rfl
theorem x_dTup : dTup at_ E η QD = at_ E η (fun ds => ds.length ≤ sizeLine ∧ QD (.tuple ds)) := id rfl
theorem x_dNew : dNew nt E η QD = nt E η (fun ds => QD (.list ds)) := id rfl
theorem x_nLst : nLst at_ E η QL = at_ E η (fun ds => ds.length ≤ sizeLine ∧ QL ds) := id rfl
theorem x_nCall {r : List D → (List D → Prop) → Prop} : nCall r at_ E η QL = at_ E η (fun ds => r ds QL) := id rfl
theorem x_nComp {own : List Nat} : nComp own it g b t E η QL = it E η (fun ds => compD g b t (wipeD η own) ds [] QL) := id rfl
theorem x_nRg {r : GRg} : nRg r E η QL = r E η (fun i j => QL (rangeD i (j - i).toNat)) := id rfl
theorem x_dTupRg {r : GRg} : dTupRg r E η QD = r E η (fun i j => QD (.tuple (rangeD i (j - i).toNat))) := id rfl
theorem x_gRg1 {k : Int → Int → Prop} : gRg1 ta E η k = ta E η (fun x => onInt x fun j => RgOk 0 j ∧ k 0 j) := id rfl
theorem x_gRg2 {k : Int → Int → Prop} : gRg2 ta tb E η k = ta E η (fun x => tb E η fun y => on2I [x, y] fun i j => RgOk i j ∧ k i j) := by
  unfold gRg2 on2I
  refine congrArg _ (funext fun x => congrArg _ (funext fun y => ?_))
  cases x <;> cases y <;> rfl
theorem x_dCall {r : CallD} : dCall r at_ E η QD = at_ E η (fun ds => r ds QD) := id rfl
theorem x_dCallF {wf : FT} : dCallF wf ct E η QD = ct E η (fun cs => wf never cs QD) := id rfl
theorem x_dSl {tl th : OT} : dSl ta tl th E η QD = ta E η (fun x => tl E η fun l => th E η fun h => onSeq x (fun ds => QD (.list (cutD ds l h))) fun ds => QD (.tuple (cutD ds l h))) := id rfl
theorem x_oNone : oNone E η QO = QO none := id rfl
theorem x_oSome : oSome t E η QO = t E η (fun x => onInt x fun i => QO (some i)) := id rfl
theorem x_dAnd : dAnd ta tb E η QD = ta E η (fun x => ifB x fun c => if c = true then tb E η QD else QD (.bool false)) := id rfl
theorem x_dOr : dOr ta tb E η QD = ta E η (fun x => ifB x fun c => if c = true then QD (.bool true) else tb E η QD) := id rfl
theorem x_dNot : dNot ta E η QD = ta E η (fun x => ifB x fun c => QD (.bool (!c))) := id rfl
theorem x_oNeg : oNeg ta E η QD = ta E η (fun x => onInt x fun i => QD (.int (-i))) := id rfl
theorem x_bVal : bVal t E η QB = t E η (fun x => ifB x QB) := id rfl
theorem x_bAnd : bAnd b1 b2 E η QB = b1 E η (fun c => if c = true then b2 E η QB else QB false) := id rfl
theorem x_bOr : bOr b1 b2 E η QB = b1 E η (fun c => if c = true then QB true else b2 E η QB) := id rfl
theorem x_bNot : bNot b E η QB = b E η (fun c => QB (!c)) := id rfl
theorem x_dIf : dIf b ta tb E η QD = b E η (fun c => if c = true then ta E η QD else tb E η QD) := id rfl
theorem x_dChain {r r' : OpD} : dChain r r' ta tb tc E η QD = ta E η (fun x => tb E η fun y => r x y fun z => ifB z fun k => if k = true then tc E η fun w => r' y w QD else QD (.bool false)) := id rfl
theorem x_aNil : aNil E η QL = QL [] := id rfl
theorem x_aCons : aCons t at_ E η QL = t E η (fun d => at_ E η fun ds => QL (d :: ds)) := id rfl
theorem x_cNil : cNil E η QC = QC [] := id rfl
theorem x_cCons : cCons t ct E η QC = t E η (fun d => ct E η fun cs => QC (.dat d :: cs)) := id rfl
theorem x_cDrw : cDrw i ct E η QC = isDrw η[i]? (ct E η fun cs => QC (.drw :: cs)) := id rfl
theorem x_iSeq : iSeq t E η QL = t E η (fun d => onSeq d QL QL) := id rfl
theorem x_iRange1 : iRange1 at_ E η QL = at_ E η (fun ds => on1I ds fun j => (-(2 ^ 62) ≤ j ∧ j < 2 ^ 62) ∧ QL (rangeD 0 j.toNat)) := id rfl
theorem x_iRange2 : iRange2 at_ E η QL = at_ E η (fun ds => on2I ds fun i j => (-(2 ^ 62) ≤ i ∧ i < 2 ^ 62 ∧ -(2 ^ 62) ≤ j ∧ j < 2 ^ 62) ∧ QL (rangeD i (j - i).toNat)) := id rfl
theorem x_iZip2 : iZip2 at_ E η QL = at_ E η (fun ds => on2S ds fun xs ys => QL (pairsD xs ys)) := id rfl
theorem x_iEnum1 : iEnum1 t E η QL = t E η (fun d => onSeq d (fun ds => QL (pairsD (rangeD 0 ds.length) ds)) fun ds => QL (pairsD (rangeD 0 ds.length) ds)) := id rfl
theorem x_nSortSet : nSortSet t E η QL = t E η (fun d => onList d fun xs => SetOk xs ∧ ∀ ys, ys.Pairwise (fun a b => PySem.W.dataLt a b = true) → (∀ d, d ∈ ys ↔ d ∈ xs) → QL ys) := id rfl
theorem x_nSortSetE : nSortSetE t E η QL = t E η (fun d => onList d fun xs => SetOkE xs ∧ ∀ ys, ys.Pairwise (fun a b => PySem.W.dataLt a b = true) → (∀ d, d ∈ ys ↔ d ∈ xs) → QL ys) := id rfl
theorem x_dDict0 : dDict0 E η QD = QD (.dict []) := id rfl
theorem x_sIns {t1 t2 : ET} : sIns i t1 t2 E z η = onOwn η[i]? (fun ds => t1 E (lend η) fun d1 => onInt d1 fun k => t2 E η fun d2 => (0 ≤ k ∧ k < 2 ^ 63 ∧ ds.length < sizeLine) ∧ z.nx (η.set i (.own (ds.take k.toNat ++ [d2] ++ ds.drop k.toNat)))) := id rfl
theorem x_sPut {t1 t2 : ET} : sPut i t1 t2 E z η = onOwn η[i]? (fun ds => t2 E η fun d2 => t1 E (lend η) fun d1 => onInt d1 fun k => ∃ j, ixN ds.length k = some j ∧ z.nx (η.set i (.own (ds.set j d2)))) := id rfl
theorem x_sRaise {nm f : Str} {t : ET} : sRaise nm f t E z η = t E (lend η) (fun d => E nm [(f, d)]) := id rfl
theorem x_dCallE {wf : FT} {ts : CT} : dCallE wf ts E η QD = ts E η (fun cs => wf E cs QD) := id rfl
theorem x_sTry1 {s : SD} {cn f : Str} {k : D → D} : sTry1 s cn f k E z η = s (fun nm fs => nm = cn ∧ ∃ d, fs = [(f, d)] ∧ z.rt (k d)) z η := id rfl
def onTupO (d : D) (k : List D → Prop) : Prop := match d with | .tuple xs => k xs | _ => False
theorem x_onTupO {ds : List D} : onTupO (.tuple ds) QL = QL ds := id rfl
theorem x_nSortSetI : nSortSetI t E η QL = t E η (fun d => onTupO d fun xs => xs.length < 64 ∧ xs.all isI = true ∧ ∀ ns : List Int, ns.Pairwise (· < ·) → (∀ i, i ∈ ns ↔ i ∈ xs.map iOf) → QL (ns.map .int)) := id rfl
theorem x_fMinL {xs : List D} : fMinL [.list xs] QD = (MinOk xs ∧ QD (minD xs)) := id rfl
theorem x_fSumL {xs ys : List D} : fSumL [.list xs, .list ys] QD = (xs.all isL = true ∧ ys.length + (xs.map lOf).flatten.length ≤ sizeLine ∧ QD (.list (ys ++ (xs.map lOf).flatten))) := id rfl
theorem x_gN {d : D} : gN i d η QE = QE (η.set i (.dat d)) := id rfl
theorem x_gT {ds : List D} : gT gs (.tuple ds) η QE = gs ds η QE := id rfl
theorem x_gCons {d : D} {r : List D} : gCons' g gs (d :: r) η QE = g d η (fun η1 => gs r η1 QE) := id rfl
theorem x_gNil : gNil' [] η QE = QE η := id rfl
theorem x_bYes : bYes E η QB = QB true := id rfl
theorem x_fLenL {xs : List D} : fLen [.list xs] QD = QD (.int xs.length) := id rfl
theorem x_fLenT {xs : List D} : fLen [.tuple xs] QD = QD (.int xs.length) := id rfl
theorem x_fLenS {x : Str} : fLen [.str x] QD = (x.length ≤ sizeLine ∧ QD (.int x.length)) := id rfl
theorem x_fTupleL {xs : List D} : fTuple [.list xs] QD = QD (.tuple xs) := id rfl
theorem x_fTupleT {xs : List D} : fTuple [.tuple xs] QD = QD (.tuple xs) := id rfl
theorem x_fListL {xs : List D} : fList [.list xs] QL = QL xs := id rfl
theorem x_fListT {xs : List D} : fList [.tuple xs] QL = QL xs := id rfl
theorem x_fSorted {xs : List D} : fSorted [.list xs] QL = (SrtOk xs ∧ QL (sortD xs)) := id rfl
theorem x_fAll {xs : List D} : fAll [.list xs] QD = (xs.all isB = true ∧ QD (.bool ((xs.map bOf).all id))) := id rfl
theorem x_fAny {xs : List D} : fAny [.list xs] QD = (xs.all isB = true ∧ QD (.bool ((xs.map bOf).any id))) := id rfl
theorem x_fSum {xs : List D} : fSum [.list xs] QD = (xs.all isI = true ∧ QD (.int (xs.map iOf).sum)) := id rfl
theorem x_fIntI {i : Int} : fInt [.int i] QD = QD (.int i) := id rfl
theorem x_fIntB {c : Bool} : fInt [.bool c] QD = QD (.int (if c then 1 else 0)) := id rfl
theorem x_fMin2 {i j : Int} : fMin2 [.int i, .int j] QD = QD (.int (if j < i then j else i)) := id rfl
theorem x_fMax2 {i j : Int} : fMax2 [.int i, .int j] QD = QD (.int (if j > i then j else i)) := id rfl
theorem x_fRepr {d : D} : fRepr [d] QD = (reprOk d ∧ d.hasDict = false ∧ QD (.str d.shown)) := id rfl
theorem x_dIsi {T : String} : dIsi T ta E η QD = ta E η (fun d => QD (.bool (isiD T d))) := id rfl
theorem x_lend : lend η = η.map lendC := id rfl
theorem x_lendD {d : D} : lendC (.dat d) = .dat d := id rfl
theorem x_lendO {ds : List D} : lendC (.own ds) = .dat (.list ds) := id rfl
theorem x_lendR : lendC .drw = .drw := id rfl
theorem x_lendU : lendC .un = .un := id rfl
theorem x_lendS {ns : List Int} : lendC (.scr ns) = .scr ns := id rfl
theorem x_wipe0 : wipeD η [] = η := id rfl
theorem x_wipe1 {is : List Nat} : wipeD η (i :: is) = (wipeD η is).set i .un := id rfl
theorem x_addI {i j : Int} : oAdd (.int i) (.int j) QD = QD (.int (i + j)) := id rfl
theorem x_addS {i j : Str} : oAdd (.str i) (.str j) QD = (i.length + j.length ≤ sizeLine ∧ QD (.str (i ++ j))) := id rfl
theorem x_addL {xs ys : List D} : oAdd (.list xs) (.list ys) QD = (xs.length + ys.length ≤ sizeLine ∧ QD (.list (xs ++ ys))) := id rfl
theorem x_addT {xs ys : List D} : oAdd (.tuple xs) (.tuple ys) QD = (xs.length + ys.length ≤ sizeLine ∧ QD (.tuple (xs ++ ys))) := id rfl
theorem x_sub {i j : Int} : oSub (.int i) (.int j) QD = QD (.int (i - j)) := by
  show (True ∧ QD (.int (i - j))) = _
  exact true_and _
theorem x_mod {i j : Int} : oMod (.int i) (.int j) QD = (0 < j ∧ QD (.int (i % j))) := id rfl
theorem x_div {i j : Int} : oDiv (.int i) (.int j) QD = (CDiv i j ∧ QD (.int (i / j))) := id rfl
theorem x_pow {i j : Int} : oPow (.int i) (.int j) QD = (CPow i j ∧ QD (.int (i ^ j.toNat))) := id rfl
theorem x_mulI {i j : Int} : oMul (.int i) (.int j) QD = (CMul i j ∧ QD (.int (i * j))) := id rfl
theorem x_mulL {xs : List D} {j : Int} : oMul (.list xs) (.int j) QD = ((0 ≤ j ∧ j < 2 ^ 63 ∧ xs.length * j.toNat ≤ sizeLine) ∧ QD (.list (List.replicate j.toNat xs).flatten)) := id rfl
theorem x_eq {x y : D} : oEq x y QD = (eqOk x y = true ∧ QD (.bool (PyData.eqv x y))) := id rfl
theorem x_ne {x y : D} : oNe x y QD = (eqOk x y = true ∧ QD (.bool (!PyData.eqv x y))) := id rfl
theorem x_inL {x : D} {ds : List D} {neg : Bool} : oIn neg x (.list ds) QD = (SeqAt.shaped x = true ∧ SeqAt.shaped (.list ds) = true ∧ QD (.bool ((ds.any fun z => PyData.eqv z x) != neg))) := by
  cases x <;> exact id rfl
theorem x_inT {x : D} {ds : List D} {neg : Bool} : oIn neg x (.tuple ds) QD = (SeqAt.shaped x = true ∧ SeqAt.shaped (.tuple ds) = true ∧ QD (.bool ((ds.any fun z => PyData.eqv z x) != neg))) := by
  cases x <;> exact id rfl
theorem x_mul2T {xs : List D} {j : Int} : oMul2 (.tuple xs) (.int j) QD = ((xs ≠ [] ∧ 1 ≤ j ∧ j ≤ 1000 ∧ xs.length ≤ 1000) ∧ QD (.tuple (List.replicate j.toNat xs).flatten)) := id rfl
theorem x_sM2 {m : MT} : sM2 i j m E z η = m E η (fun cs => on2C cs fun x y => z.nx ((η.set i x).set j y)) := id rfl
theorem x_sM3 {m : MT} {k : Nat} : sM3 i j k m E z η = m E η (fun cs => on3C cs fun x y u => z.nx (((η.set i x).set j y).set k u)) := id rfl
theorem x_on2C {k : Cell → Cell → Prop} {x y : Cell} : on2C [x, y] k = k x y := id rfl
theorem x_on3C {k : Cell → Cell → Cell → Prop} {x y u : Cell} : on3C [x, y, u] k = k x y u := id rfl
theorem x_mNil : mNil E η QC = QC [] := id rfl
theorem x_mD {ms : MT} : mD t ms E η QC = t E η (fun d => ms E η fun cs => QC (.dat d :: cs)) := id rfl
theorem x_mN {ms : MT} : mN nt ms E η QC = nt E η (fun ds => ms E η fun cs => QC (.own ds :: cs)) := id rfl
theorem x_aStar {t : ET} {ts : AT} : aStar t ts E η QL = t E η (fun d => onSeq d (fun ds => ts E η fun es => QL (ds ++ es)) fun ds => ts E η fun es => QL (ds ++ es)) := id rfl
theorem x_fSortedD {kvs : List (D × D)} : fSortedD [.dict kvs] QL = (SrtOk (kvs.map (·.1)) ∧ QL (sortD (kvs.map (·.1)))) := id rfl
theorem x_dDc {own : List Nat} {tk tv : ET} : dDc own it g b tk tv E η QD = it E η (fun ds => compDD g b tk tv (wipeD η own) ds [] fun kvs => kvs.length ≤ sizeLine ∧ QD (.dict kvs)) := id rfl
theorem x_fSortedT {xs : List D} : fSortedT [.tuple xs] QL = (SrtT xs ∧ QL (sortD xs)) := id rfl
theorem x_iEnumZ {ts : AT} : iEnumZ ts E η QL = ts E η (fun ds => on2T ds fun xs ys => xs.length ≤ ys.length ∧ QL (pairsD (rangeD 0 xs.length) (pairsD xs ys))) := id rfl
theorem x_on2TT {xs ys : List D} {k : List D → List D → Prop} : on2T [.tuple xs, .tuple ys] k = k xs ys := id rfl
def onSeqR (x : D) (Q : D → Prop) : Prop := match x with
  | .list ds => Q (.list ds.reverse)
  | .tuple ds => Q (.tuple ds.reverse)
  | _ => False
def onCat (x y : D) (Q : List D → Prop) : Prop := match x, y with
  | .list xs, .list ys => xs.length + ys.length ≤ sizeLine ∧ Q (xs ++ ys)
  | _, _ => False
/-- is it None? -/
def isN : D → Bool
  | .none => true
  | _ => false
theorem x_isN {x : D} {neg : Bool} : oIs neg x .none QD = QD (.bool (isN x != neg)) := by
  cases x <;> exact id rfl
theorem x_isN0 : isN .none = true := id rfl
theorem x_isNI {i : Int} : isN (.int i) = false := id rfl
theorem x_isNT {xs : List D} : isN (.tuple xs) = false := id rfl
theorem x_isNL {xs : List D} : isN (.list xs) = false := id rfl
theorem x_isNS {x : Str} : isN (.str x) = false := id rfl
theorem x_isNB {c : Bool} : isN (.bool c) = false := id rfl
theorem x_lt {i j : Int} : oLt (.int i) (.int j) QD = QD (.bool (decide (i < j))) := id rfl
theorem x_ltT {xs ys : List D} : oLt (.tuple xs) (.tuple ys) QD = ((PySem.W.alike (.tuple xs) (.tuple ys) = true ∧ (PyData.tuple xs).depth ≤ 64 ∧ PyData.hasDict (.tuple xs) = false ∧ PyData.hasDict (.tuple ys) = false) ∧ QD (.bool (PySem.W.dataLt (.tuple xs) (.tuple ys)))) := id rfl
theorem x_ord {f : Int → Int → Bool} {k : D → D → Bool} {i j : Int} : oOrd f k (.int i) (.int j) QD = QD (.bool (f i j)) := id rfl
theorem x_ordT {f : Int → Int → Bool} {k : D → D → Bool} {xs ys : List D} : oOrd f k (.tuple xs) (.tuple ys) QD = ((PySem.W.alike (.tuple xs) (.tuple ys) = true ∧ (PyData.tuple xs).depth ≤ 64 ∧ PyData.hasDict (.tuple xs) = false ∧ PyData.hasDict (.tuple ys) = false) ∧ QD (.bool (k (.tuple xs) (.tuple ys)))) := id rfl
theorem x_ixL {ds : List D} {i : Int} : oIx (.list ds) (.int i) QD = onS (atI ds i) QD := id rfl
theorem x_ixT {ds : List D} {i : Int} : oIx (.tuple ds) (.int i) QD = onS (atI ds i) QD := id rfl
theorem x_ixS {x : Str} {i : Int} : oIx (.str x) (.int i) QD = (x.length ≤ sizeLine ∧ onS (atI x.cps.toList i) fun n => QD (.str ⟨#[n]⟩)) := id rfl
theorem x_ixD {kvs : List (D × D)} {k : D} : oIxD (.dict kvs) k QD = (keyOk k = true ∧ onS (dLook kvs k) QD) := id rfl
theorem x_ixDL {ds : List D} {k : D} : oIxD (.list ds) k QD = oIx (.list ds) k QD := id rfl
theorem x_ixDT {ds : List D} {k : D} : oIxD (.tuple ds) k QD = oIx (.tuple ds) k QD := id rfl
theorem x_fListD {kvs : List (D × D)} : fListD [.dict kvs] QL = QL (kvs.map (·.1)) := id rfl
theorem x_fListDL {ds : List D} : fListD [.list ds] QL = QL ds := id rfl
theorem x_fDictP {ps : List D} : fDictP [.list ps] QD = ∃ kvs, ps = kvs.map pairD ∧ KvOk kvs ∧ QD (.dict kvs) := id rfl
theorem body_in {E : XP} {m n : Nat} {cs : List Cell} (hl : cs.length = m) (k : s E { nx := fun _ => QD .none, rt := QD } (cs ++ List.replicate (n - cs.length) .un)) : bodyD m n s E cs QD := ⟨hl, k⟩
theorem x_fReprD {d : D} : fReprD [d] QD = (reprOk d ∧ QD (.str d.shown)) := id rfl
theorem x_dRev {ta : ET} : dRev ta E η QD = ta E η (fun x => onSeqR x QD) := id rfl
theorem x_nCat2 {ta tb : ET} : nCat2 ta tb E η QL = ta E η (fun x => tb E η fun y => onCat x y QL) := by
  first | exact id rfl | (unfold nCat2 onCat; rfl)
theorem x_onSeqRL {ds : List D} : onSeqR (.list ds) QD = QD (.list ds.reverse) := id rfl
theorem x_onSeqRT {ds : List D} : onSeqR (.tuple ds) QD = QD (.tuple ds.reverse) := id rfl
theorem x_onCat {xs ys : List D} : onCat (.list xs) (.list ys) QL = (xs.length + ys.length ≤ sizeLine ∧ QL (xs ++ ys)) := id rfl
theorem x_eqT0 {xs : List D} : oEqT0 (.tuple xs) (.tuple []) QD = QD (.bool xs.isEmpty) := id rfl
theorem x_neL0 {xs : List D} : oNeL0 (.list xs) (.list []) QD = QD (.bool (!xs.isEmpty)) := id rfl
theorem x_dIsE {i : Nat} {a dx : Addr} {b : Bool} : dIsE i a dx b E η QD = ((∃ f d, η[i]? = some (.obj a (some (dx, f, d)))) ∧ QD (.bool b)) := id rfl
theorem x_dFldE {i : Nat} {a dx : Addr} {f : Str} : dFldE i a dx f E η QD = (∃ d, η[i]? = some (.obj a (some (dx, f, d))) ∧ QD d) := id rfl
theorem x_sOwnCat {i : Nat} {t : ET} {z : EndsD} : sOwnCat i t E z η = onOwn η[i]? (fun ds => t E η fun y => onList y fun ys => ds.length + ys.length ≤ sizeLine ∧ z.nx (η.set i (.own (ds ++ ys)))) := by
  first | exact id rfl | (unfold sOwnCat onOwn onList; rfl)
end
end DL

/-! DLdet: what a term asks it asks of one value: told again the same. -/
namespace DL
open PySem L2
/-- F asks its question of one value alone -/
def Dt {α : Type} (F : (α → Prop) → Prop) : Prop := ∀ P, F P → ∃ a, P a ∧ ∀ Q : α → Prop, Q a → F Q
section
variable {α β : Type}
theorem Dt.pure (a : α) : Dt fun Q : α → Prop => Q a := fun P h => ⟨a, h, fun Q q => q⟩
theorem Dt.fls : Dt fun _ : α → Prop => False := fun P h => h.elim
theorem Dt.and {C : Prop} {F : (α → Prop) → Prop} (h : Dt F) : Dt fun Q => C ∧ F Q := fun P ⟨c, p⟩ => by
  obtain ⟨a, ha, k⟩ := h P p
  exact ⟨a, ha, fun Q q => ⟨c, k Q q⟩⟩
theorem Dt.bind {F : (β → Prop) → Prop} {G : β → (α → Prop) → Prop} (h : Dt F) (g : ∀ b, Dt (G b)) : Dt fun Q => F fun b => G b Q := fun P p => by
  obtain ⟨b, hb, k⟩ := h _ p
  obtain ⟨a, ha, k2⟩ := g b P hb
  exact ⟨a, ha, fun Q q => k _ (k2 Q q)⟩
theorem Dt.ite {c : Prop} [Decidable c] {F G : (α → Prop) → Prop} (h : Dt F) (g : Dt G) : Dt fun Q => if c then F Q else G Q := by
  by_cases hc : c
  · simp only [if_pos hc]; exact h
  · simp only [if_neg hc]; exact g
theorem Dt.map {F : (β → Prop) → Prop} (h : Dt F) (f : β → α) : Dt fun Q : α → Prop => F fun b => Q (f b) := h.bind fun b => .pure (f b)
theorem Dt.onS {o : Option β} {G : β → (α → Prop) → Prop} (g : ∀ b, Dt (G b)) : Dt fun Q => DL.onS o fun b => G b Q := by
  cases o with
  | none => exact fun P h => h.elim
  | some b => exact g b
end
/-! ### operations -/
class DOp (r : OpD) : Prop where
  dt : ∀ x y, Dt (r x y)
instance : DOp oAdd := ⟨fun x y => by cases x <;> cases y <;> first | exact Dt.fls | exact Dt.pure _ | exact (Dt.pure _).and⟩
instance {C : Int → Int → Prop} {f : Int → Int → Int} : DOp (oI C f) := ⟨fun x y => by cases x <;> cases y <;> first | exact Dt.fls | exact (Dt.pure _).and⟩
instance : DOp oSub := inferInstanceAs (DOp (oI _ _))
instance : DOp oMod := inferInstanceAs (DOp (oI _ _))
instance : DOp oDiv := inferInstanceAs (DOp (oI _ _))
instance : DOp oPow := inferInstanceAs (DOp (oI _ _))
instance : DOp oMul := ⟨fun x y => by cases x <;> cases y <;> first | exact Dt.fls | exact (Dt.pure _).and⟩
instance : DOp oMul2 := ⟨fun x y => by cases x <;> cases y <;> first | exact Dt.fls | exact (Dt.pure _).and⟩
instance : DOp oEq := ⟨fun x y => (Dt.pure _).and⟩
instance : DOp oNeL0 := ⟨fun x y => by cases x <;> cases y <;> first | exact Dt.fls | (rename_i ys; cases ys <;> first | exact Dt.fls | exact Dt.pure _)⟩
instance : DOp oNe := ⟨fun x y => (Dt.pure _).and⟩
instance {b : Bool} : DOp (oIn b) := ⟨fun x y => by cases x <;> cases y <;> first | exact Dt.fls | exact (Dt.pure _).and | exact ((Dt.pure _).and).and⟩
instance {b : Bool} : DOp (oIs b) := ⟨fun x y => by cases x <;> cases y <;> first | exact Dt.fls | exact Dt.pure _⟩
instance : DOp oLt := ⟨fun x y => by cases x <;> cases y <;> first | exact Dt.fls | exact Dt.pure _ | exact (Dt.pure _).and⟩
instance {f : Int → Int → Bool} {k : D → D → Bool} : DOp (oOrd f k) := ⟨fun x y => by cases x <;> cases y <;> first | exact Dt.fls | exact Dt.pure _ | exact (Dt.pure _).and⟩
instance : DOp oIx := ⟨fun x y => by cases x <;> cases y <;> first | exact Dt.fls | exact Dt.onS fun b => Dt.pure b | exact (Dt.onS fun b => Dt.pure _).and⟩
class DCall {α : Type} (r : List D → (α → Prop) → Prop) : Prop where
  dt : ∀ ds, Dt (r ds)
/-- by cases of up to two arguments -/
theorem dt_args {α : Type} {r : List D → (α → Prop) → Prop} (h0 : Dt (r [])) (h1 : ∀ x, Dt (r [x])) (h2 : ∀ x y, Dt (r [x, y])) (h3 : ∀ x y z l, Dt (r (x :: y :: z :: l))) : DCall r := ⟨fun ds => match ds with
  | [] => h0
  | [x] => h1 x
  | [x, y] => h2 x y
  | x :: y :: z :: l => h3 x y z l⟩
instance : DCall fLen := dt_args .fls (fun x => by cases x <;> first | exact Dt.fls | exact Dt.pure _ | exact (Dt.pure _).and) (fun x _ => by cases x <;> exact Dt.fls) fun x _ _ _ => by cases x <;> exact Dt.fls
instance : DCall fTuple := dt_args .fls (fun x => by cases x <;> first | exact Dt.fls | exact Dt.pure _) (fun x _ => by cases x <;> exact Dt.fls) fun x _ _ _ => by cases x <;> exact Dt.fls
instance : DCall fList := dt_args .fls (fun x => by cases x <;> first | exact Dt.fls | exact Dt.pure _) (fun x _ => by cases x <;> exact Dt.fls) fun x _ _ _ => by cases x <;> exact Dt.fls
instance : DCall fSorted := dt_args .fls (fun x => by cases x <;> first | exact Dt.fls | exact (Dt.pure _).and) (fun x _ => by cases x <;> exact Dt.fls) fun x _ _ _ => by cases x <;> exact Dt.fls
instance : DCall fSortedT := dt_args .fls (fun x => by cases x <;> first | exact Dt.fls | exact (Dt.pure _).and) (fun x _ => by cases x <;> exact Dt.fls) fun x _ _ _ => by cases x <;> exact Dt.fls
instance : DCall fSortedD := dt_args .fls (fun x => by cases x <;> first | exact Dt.fls | exact (Dt.pure _).and) (fun x _ => by cases x <;> exact Dt.fls) fun x _ _ _ => by cases x <;> exact Dt.fls
instance : DCall fReprD := dt_args .fls (fun x => (Dt.pure _).and) (fun _ _ => .fls) fun _ _ _ _ => .fls
instance : DCall fAll := dt_args .fls (fun x => by cases x <;> first | exact Dt.fls | exact (Dt.pure _).and) (fun x _ => by cases x <;> exact Dt.fls) fun x _ _ _ => by cases x <;> exact Dt.fls
instance : DCall fAny := dt_args .fls (fun x => by cases x <;> first | exact Dt.fls | exact (Dt.pure _).and) (fun x _ => by cases x <;> exact Dt.fls) fun x _ _ _ => by cases x <;> exact Dt.fls
instance : DCall fSum := dt_args .fls (fun x => by cases x <;> first | exact Dt.fls | exact (Dt.pure _).and) (fun x _ => by cases x <;> exact Dt.fls) fun x _ _ _ => by cases x <;> exact Dt.fls
instance : DCall fInt := dt_args .fls (fun x => by cases x <;> first | exact Dt.fls | exact Dt.pure _) (fun x _ => by cases x <;> exact Dt.fls) fun x _ _ _ => by cases x <;> exact Dt.fls
instance : DCall fRepr := dt_args .fls (fun x => ((Dt.pure _).and).and) (fun _ _ => .fls) fun _ _ _ _ => .fls
instance : DCall fMin2 := dt_args .fls (fun x => by cases x <;> exact Dt.fls) (fun x y => by cases x <;> cases y <;> first | exact Dt.fls | exact Dt.pure _) fun x y _ _ => by cases x <;> cases y <;> exact Dt.fls
instance : DCall fMax2 := dt_args .fls (fun x => by cases x <;> exact Dt.fls) (fun x y => by cases x <;> cases y <;> first | exact Dt.fls | exact Dt.pure _) fun x y _ _ => by cases x <;> cases y <;> exact Dt.fls
/-! ### expressions -/
class DTm {α : Type} (t : XP → EnvD → (α → Prop) → Prop) : Prop where
  dt : ∀ E η, Dt (t E η)
class DF (w : FT) : Prop where
  dt : ∀ E cs, Dt (w E cs)
section
variable {t u ta tb tc : ET} {b b1 b2 : BT} {nt : NT} {at_ : AT} {ct : CT} {it : IT} {r r' : OpD} {w : FT} {m : MT} {tl th : OT}
theorem Dt.ifB {α : Type} {d : D} {G : Bool → (α → Prop) → Prop} (g : ∀ c, Dt (G c)) : Dt fun Q => DL.ifB d fun c => G c Q := by
  cases d <;> first | exact Dt.fls | exact g _
instance {i : Nat} : DTm (dV i) := ⟨fun E η => by unfold dV; split <;> first | exact Dt.pure _ | exact Dt.fls⟩
instance {d : D} : DTm (dK d) := ⟨fun E η => Dt.pure d⟩
instance {i : Nat} : DTm (lenScr i) := ⟨fun E η => by unfold lenScr; split <;> first | exact Dt.pure _ | exact Dt.fls⟩
instance [ha : DTm ta] [hb : DTm tb] [hr : DOp r] : DTm (dOp r ta tb) := ⟨fun E η => (ha.dt E η).bind fun x => (hb.dt E η).bind fun y => hr.dt x y⟩
instance [ha : DTm at_] : DTm (dTup at_) := ⟨fun E η => (ha.dt E η).bind fun ds => (Dt.pure _).and⟩
instance [ha : DTm nt] : DTm (dNew nt) := ⟨fun E η => (ha.dt E η).map _⟩
instance {r : CallD} [ha : DTm at_] [hr : DCall r] : DTm (dCall r at_) := ⟨fun E η => (ha.dt E η).bind hr.dt⟩
instance {r : List D → (List D → Prop) → Prop} [ha : DTm at_] [hr : DCall r] : DTm (nCall r at_) := ⟨fun E η => (ha.dt E η).bind hr.dt⟩
instance [ha : DTm ct] [hw : DF w] : DTm (dCallF w ct) := ⟨fun E η => (ha.dt E η).bind fun cs => hw.dt _ cs⟩
instance : DTm oNone := ⟨fun E η => Dt.pure _⟩
instance [ha : DTm ta] : DTm (oSome ta) := ⟨fun E η => (ha.dt E η).bind fun x => by cases x <;> first | exact Dt.fls | exact Dt.pure _⟩
instance [ha : DTm ta] [hl : DTm tl] [hh : DTm th] : DTm (dSl ta tl th) := ⟨fun E η => (ha.dt E η).bind fun x => (hl.dt E η).bind fun l => (hh.dt E η).bind fun h => by cases x <;> first | exact Dt.fls | exact Dt.pure _⟩
instance [ha : DTm ta] [hb : DTm tb] : DTm (dAnd ta tb) := ⟨fun E η => (ha.dt E η).bind fun x => .ifB fun c => .ite (hb.dt E η) (.pure _)⟩
instance [ha : DTm ta] [hb : DTm tb] : DTm (dOr ta tb) := ⟨fun E η => (ha.dt E η).bind fun x => .ifB fun c => .ite (.pure _) (hb.dt E η)⟩
instance [ha : DTm ta] : DTm (dNot ta) := ⟨fun E η => (ha.dt E η).bind fun x => .ifB fun c => .pure _⟩
instance [ha : DTm ta] : DTm (oNeg ta) := ⟨fun E η => (ha.dt E η).bind fun x => by cases x <;> first | exact Dt.fls | exact Dt.pure _⟩
instance [hb : DTm b] [ha : DTm ta] [hc : DTm tb] : DTm (dIf b ta tb) := ⟨fun E η => (hb.dt E η).bind fun c => .ite (ha.dt E η) (hc.dt E η)⟩
instance [ha : DTm ta] [hb : DTm tb] [hc : DTm tc] [hr : DOp r] [hr' : DOp r'] : DTm (dChain r r' ta tb tc) := ⟨fun E η => (ha.dt E η).bind fun x => (hb.dt E η).bind fun y => (hr.dt x y).bind fun z => .ifB fun k => .ite ((hc.dt E η).bind fun w => hr'.dt y w) (.pure _)⟩
instance {T : String} [ha : DTm ta] : DTm (dIsi T ta) := ⟨fun E η => (ha.dt E η).map _⟩
instance [ha : DTm ta] : DTm (bVal ta) := ⟨fun E η => (ha.dt E η).bind fun x => .ifB fun c => .pure c⟩
instance [h1 : DTm b1] [h2 : DTm b2] : DTm (bAnd b1 b2) := ⟨fun E η => (h1.dt E η).bind fun c => .ite (h2.dt E η) (.pure _)⟩
instance [h1 : DTm b1] [h2 : DTm b2] : DTm (bOr b1 b2) := ⟨fun E η => (h1.dt E η).bind fun c => .ite (.pure _) (h2.dt E η)⟩
instance [h1 : DTm b1] : DTm (bNot b1) := ⟨fun E η => (h1.dt E η).map _⟩
instance : DTm bYes := ⟨fun E η => .pure _⟩
instance : DTm aNil := ⟨fun E η => .pure _⟩
instance [ha : DTm ta] [hb : DTm at_] : DTm (aCons ta at_) := ⟨fun E η => (ha.dt E η).bind fun d => (hb.dt E η).map _⟩
instance [ha : DTm ta] [hb : DTm at_] : DTm (aStar ta at_) := ⟨fun E η => (ha.dt E η).bind fun d => by cases d <;> first | exact Dt.fls | exact (hb.dt E η).map _⟩
instance : DTm cNil := ⟨fun E η => .pure _⟩
instance [ha : DTm ta] [hb : DTm ct] : DTm (cCons ta ct) := ⟨fun E η => (ha.dt E η).bind fun d => (hb.dt E η).map _⟩
instance : DTm mNil := ⟨fun E η => .pure _⟩
instance [ha : DTm ta] [hb : DTm m] : DTm (mD ta m) := ⟨fun E η => (ha.dt E η).bind fun d => (hb.dt E η).map _⟩
instance [ha : DTm nt] [hb : DTm m] : DTm (mN nt m) := ⟨fun E η => (ha.dt E η).bind fun d => (hb.dt E η).map _⟩
instance [ha : DTm at_] : DTm (nLst at_) := ⟨fun E η => (ha.dt E η).bind fun ds => (Dt.pure _).and⟩
instance [ha : DTm ta] : DTm (iSeq ta) := ⟨fun E η => (ha.dt E η).bind fun d => by cases d <;> first | exact Dt.fls | exact Dt.pure _⟩
instance [ha : DTm ta] : DTm (iEnum1 ta) := ⟨fun E η => (ha.dt E η).bind fun d => by cases d <;> first | exact Dt.fls | exact Dt.pure _⟩
theorem dt_one {α : Type} {r : List D → (α → Prop) → Prop} (h1 : ∀ x, Dt (r [x])) (h0 : Dt (r [])) (h2 : ∀ x y l, Dt (r (x :: y :: l))) (ds : List D) : Dt (r ds) := match ds with
  | [] => h0
  | [x] => h1 x
  | x :: y :: l => h2 x y l
theorem dt_two {α : Type} {r : List D → (α → Prop) → Prop} (h2 : ∀ x y, Dt (r [x, y])) (h0 : Dt (r [])) (h1 : ∀ x, Dt (r [x])) (h3 : ∀ x y z l, Dt (r (x :: y :: z :: l))) (ds : List D) : Dt (r ds) := match ds with
  | [] => h0
  | [x] => h1 x
  | [x, y] => h2 x y
  | x :: y :: z :: l => h3 x y z l
instance [ha : DTm at_] : DTm (iRange1 at_) := ⟨fun E η => (ha.dt E η).bind (dt_one (fun x => by cases x <;> first | exact Dt.fls | exact (Dt.pure _).and) .fls fun x y l => by cases x <;> exact Dt.fls)⟩
instance [ha : DTm at_] : DTm (iRange2 at_) := ⟨fun E η => (ha.dt E η).bind (dt_two (fun x y => by cases x <;> cases y <;> first | exact Dt.fls | exact (Dt.pure _).and) .fls (fun x => by cases x <;> exact Dt.fls) fun x y z l => by cases x <;> cases y <;> exact Dt.fls)⟩
instance [ha : DTm at_] : DTm (iZip2 at_) := ⟨fun E η => (ha.dt E η).bind (dt_two (fun x y => by cases x <;> cases y <;> first | exact Dt.fls | exact Dt.pure _) .fls (fun x => by cases x <;> exact Dt.fls) fun x y z l => by cases x <;> cases y <;> exact Dt.fls)⟩
instance [ha : DTm at_] : DTm (iEnumZ at_) := ⟨fun E η => (ha.dt E η).bind (dt_two (fun x y => by cases x <;> cases y <;> first | exact Dt.fls | exact (Dt.pure _).and) .fls (fun x => by cases x <;> exact Dt.fls) fun x y z l => by cases x <;> cases y <;> exact Dt.fls)⟩
/-- two ints told one behind another -/
class DRg (g : GRg) : Prop where
  dt : ∀ E η P, g E η P → ∃ i j, P i j ∧ ∀ Q : Int → Int → Prop, Q i j → g E η Q
instance [ha : DTm ta] : DRg (gRg1 ta) := ⟨fun E η P h => by
  obtain ⟨x, hx, k⟩ := ha.dt E η _ h
  cases x with
  | int j => exact ⟨0, j, hx.2, fun Q q => k _ ⟨hx.1, q⟩⟩
  | _ => exact hx.elim⟩
instance [ha : DTm ta] [hb : DTm tb] : DRg (gRg2 ta tb) := ⟨fun E η P h => by
  obtain ⟨x, hx, k⟩ := ha.dt E η _ h
  obtain ⟨y, hy, k2⟩ := hb.dt E η _ hx
  cases x with
  | int i => cases y with
    | int j => exact ⟨i, j, hy.2, fun Q q => k _ (k2 _ ⟨hy.1, q⟩)⟩
    | _ => exact hy.elim
  | _ => exact hy.elim⟩
instance {g : GRg} [hg : DRg g] : DTm (nRg g) := ⟨fun E η P h => by
  obtain ⟨i, j, p, k⟩ := hg.dt E η _ h
  exact ⟨_, p, fun Q q => k _ q⟩⟩
instance {g : GRg} [hg : DRg g] : DTm (dTupRg g) := ⟨fun E η P h => by
  obtain ⟨i, j, p, k⟩ := hg.dt E η _ h
  exact ⟨_, p, fun Q q => k _ q⟩⟩
end
/-! ### targets, comprehensions -/
class DG' (g : GT) : Prop where
  dt : ∀ d η, Dt (g d η)
class DGs' (g : GTs) : Prop where
  dt : ∀ ds η, Dt (g ds η)
instance {i : Nat} : DG' (gN i) := ⟨fun d η => .pure _⟩
instance : DGs' gNil' := ⟨fun ds η => by cases ds <;> first | exact Dt.fls | exact Dt.pure _⟩
instance {g : GT} {gs : GTs} [h : DG' g] [h2 : DGs' gs] : DGs' (gCons' g gs) := ⟨fun ds η => by
  cases ds with
  | nil => exact Dt.fls
  | cons d r => exact (h.dt d η).bind fun η1 => h2.dt r η1⟩
instance {gs : GTs} [h2 : DGs' gs] : DG' (gT gs) := ⟨fun d η => by cases d <;> first | exact Dt.fls | exact h2.dt _ _⟩
theorem compD_dt {g : GT} {tt : BT} {te : ET} [hg : DG' g] [ht : DTm tt] [he : DTm te] {η0 : EnvD} : ∀ (ds acc : List D), Dt (compD g tt te η0 ds acc)
  | [], acc => .pure acc
  | d :: ds, acc => (hg.dt d η0).bind fun η1 => (ht.dt never η1).bind fun b => .ite ((he.dt never η1).bind fun y => (compD_dt ds (acc ++ [y])).and) (compD_dt ds acc)
instance {own : List Nat} {ti : IT} {g : GT} {tt : BT} {te : ET} [hi : DTm ti] [hg : DG' g] [ht : DTm tt] [he : DTm te] : DTm (nComp own ti g tt te) := ⟨fun E η => (hi.dt E η).bind fun ds => compD_dt ds []⟩
theorem compDD_dt {g : GT} {tt : BT} {tk tv : ET} [hg : DG' g] [ht : DTm tt] [hk : DTm tk] [hv : DTm tv] {η0 : EnvD} : ∀ (ds : List D) (acc : List (D × D)), Dt (compDD g tt tk tv η0 ds acc)
  | [], acc => .pure acc
  | d :: ds, acc => (hg.dt d η0).bind fun η1 => (ht.dt never η1).bind fun b => .ite ((hk.dt never η1).bind fun k => (hv.dt never η1).bind fun v => ((compDD_dt ds (putD acc k v)).and).and) (compDD_dt ds acc)
instance {own : List Nat} {ti : IT} {g : GT} {tt : BT} {tk tv : ET} [hi : DTm ti] [hg : DG' g] [ht : DTm tt] [hk : DTm tk] [hv : DTm tv] : DTm (dDc own ti g tt tk tv) := ⟨fun E η => (hi.dt E η).bind fun ds => (compDD_dt ds []).bind fun kvs => (Dt.pure _).and⟩
instance : DTm dDict0 := ⟨fun E η => Dt.pure _⟩
/-! ### statements -/
inductive Out where
  | nx (η : EnvD)
  | rt (d : D)
  | bk (η : EnvD)
  | ct (η : EnvD)
def zo (P : Out → Prop) : EndsD := { nx := fun η => P (.nx η), rt := fun d => P (.rt d), bk := fun η => P (.bk η), ct := fun η => P (.ct η) }
def oz (z : EndsD) : Out → Prop
  | .nx η => z.nx η
  | .rt d => z.rt d
  | .bk η => z.bk η
  | .ct η => z.ct η
theorem zo_oz (z : EndsD) : zo (oz z) = z := rfl
class DSt (t : SD) : Prop where
  dt : ∀ E η, Dt fun P : Out → Prop => t E (zo P) η
section
variable {t u ta tb tc : ET} {b b1 b2 : BT} {nt : NT} {at_ : AT} {it : IT} {g : GT} {s s1 s2 : SD} {i j k : Nat} {m : MT}
/-- behind a statement, by how it ends -/
theorem Dt.seq {α : Type} {E : XP} {η : EnvD} [h1 : DSt s1] {z : (α → Prop) → EndsD} {G : Out → (α → Prop) → Prop} (hz : ∀ P, z P = zo fun o => G o P) (g : ∀ o, Dt (G o)) : Dt fun P => s1 E (z P) η := by
  have : (fun P => s1 E (z P) η) = fun P => s1 E (zo fun o => G o P) η := funext fun P => by rw [hz]
  rw [this]
  exact (h1.dt E η).bind g
def outSeq (E : XP) (s2 : SD) : Out → (Out → Prop) → Prop
  | .nx η => fun P => s2 E (zo P) η
  | o => fun P => P o
instance [h1 : DSt s1] [h2 : DSt s2] : DSt (sSeq s1 s2) := ⟨fun E η => Dt.seq (s1 := s1) (G := outSeq E s2) (fun P => rfl) fun o => by
  cases o with
  | nx η' => exact h2.dt E η'
  | _ => exact Dt.pure _⟩
instance : DSt sNext := ⟨fun E η => .pure (Out.nx η)⟩
instance : DSt sBreak := ⟨fun E η => .pure (Out.bk η)⟩
instance : DSt sCont := ⟨fun E η => .pure (Out.ct η)⟩
instance : DSt sNever := ⟨fun E η => .fls⟩
instance : DSt sRetN := ⟨fun E η => .pure (Out.rt .none)⟩
instance [h : DTm t] : DSt (sSet i t) := ⟨fun E η => (h.dt E η).map fun d => Out.nx (η.set i (.dat d))⟩
instance [h : DTm t] : DSt (sSetL i t) := ⟨fun E η => (h.dt E (lend η)).bind fun d => (Dt.pure (Out.nx (η.set i (.dat d)))).and⟩
instance [h : DTm nt] : DSt (sOwn i nt) := ⟨fun E η => (h.dt E η).map fun d => Out.nx (η.set i (.own d))⟩
instance [h : DTm nt] : DSt (sOwnL i nt) := ⟨fun E η => (h.dt E (lend η)).bind fun d => (Dt.pure (Out.nx (η.set i (.own d)))).and⟩
instance [h : DTm nt] : DSt (sNew i nt) := ⟨fun E η => (h.dt E η).map fun d => Out.nx (η.set i (.dat (.list d)))⟩
instance [h : DTm t] [h2 : DTm u] : DSt (sPar i j t u) := ⟨fun E η => (h.dt E η).bind fun x => (h2.dt E η).map fun y => Out.nx ((η.set i (.dat x)).set j (.dat y))⟩
instance [h : DTm nt] [h2 : DTm u] : DSt (sParN i j nt u) := ⟨fun E η => (h.dt E η).bind fun x => (h2.dt E η).map fun y => Out.nx ((η.set i (.own x)).set j (.dat y))⟩
instance [h : DTm t] : DSt (sRet t) := ⟨fun E η => (h.dt E (lend η)).map fun d => Out.rt d⟩
instance [hb : DTm b] [h1 : DSt s1] [h2 : DSt s2] : DSt (sIf b s1 s2) := ⟨fun E η => (hb.dt E (lend η)).bind fun k => .ite (h1.dt E η) (h2.dt E η)⟩
instance [h : DTm t] : DSt (sDrop t) := ⟨fun E η => (h.dt E (lend η)).map fun _ => Out.nx η⟩
instance [h : DSt s] : DSt (sFrz i s) := ⟨fun E η => h.dt E (frz i η)⟩
theorem Dt.onOwn {α : Type} {o : Option Cell} {G : List D → (α → Prop) → Prop} (g : ∀ ds, Dt (G ds)) : Dt fun Q => DL.onOwn o fun ds => G ds Q := by
  unfold DL.onOwn
  split
  · exact g _
  · exact Dt.fls
instance [h : DTm t] : DSt (sApp i t) := ⟨fun E η => .onOwn fun ds => (h.dt E η).bind fun d => (Dt.pure (Out.nx (η.set i (.own (ds ++ [d]))))).and⟩
instance [h : DTm t] : DSt (sAppL i t) := ⟨fun E η => .onOwn fun ds => (h.dt E (lend η)).bind fun d => ((Dt.pure (Out.nx (η.set i (.own (ds ++ [d]))))).and).and⟩
instance [h : DTm t] : DSt (sExtL i t) := ⟨fun E η => .onOwn fun ds => (h.dt E (lend η)).bind fun d => by cases d <;> first | exact Dt.fls | exact ((Dt.pure (Out.nx (η.set i (.own (ds ++ _))))).and).and⟩
instance [h : DTm t] : DSt (sExtS i t) := ⟨fun E η => .onOwn fun ds => (h.dt E (lend η)).bind fun d => by cases d <;> first | exact Dt.fls | exact ((Dt.pure (Out.nx (η.set i (.own (ds ++ _))))).and).and⟩
instance [h : DTm t] : DSt (sAug i t) := ⟨fun E η => by
  show Dt fun P : Out → Prop => onCInt η[i]? fun m => t E (lend η) fun d => onInt d fun n => P (.nx (η.set i (.dat (.int (m + n)))))
  unfold onCInt
  split
  · exact (h.dt E (lend η)).bind fun d => by cases d <;> first | exact Dt.fls | exact Dt.pure (Out.nx _)
  · exact Dt.fls⟩
instance [h : DTm t] [hg : DG' g] : DSt (sAsg t g) := ⟨fun E η => (h.dt E η).bind fun d => (hg.dt d η).map Out.nx⟩
instance [h : DTm m] : DSt (sM2 i j m) := ⟨fun E η => (h.dt E η).bind fun cs => match cs with
  | [] => .fls
  | [_] => .fls
  | [x, y] => .pure (Out.nx ((η.set i x).set j y))
  | _ :: _ :: _ :: _ => .fls⟩
instance [h : DTm m] : DSt (sM3 i j k m) := ⟨fun E η => (h.dt E η).bind fun cs => match cs with
  | [] => .fls
  | [_] => .fls
  | [_, _] => .fls
  | [x, y, u] => .pure (Out.nx (((η.set i x).set j y).set k u))
  | _ :: _ :: _ :: _ :: _ => .fls⟩
/-- a loop's body: what it does to the next turn -/
def outLoop (f : EnvD → (Out → Prop) → Prop) : Out → (Out → Prop) → Prop
  | .nx η => f η
  | .rt d => fun P => P (.rt d)
  | .bk η => fun P => P (.nx η)
  | .ct η => f η
theorem forD_dt [hg : DG' g] [hs : DSt s] (E : XP) : ∀ (ds : List D) (η : EnvD), Dt fun P : Out → Prop => forD g s E (zo P) ds η
  | [], η => .pure (Out.nx η)
  | d :: ds, η => (hg.dt d η).bind fun η1 => Dt.seq (s1 := s) (G := outLoop fun η2 P => forD g s E (zo P) ds η2) (fun P => rfl) fun o => by
    cases o with
    | nx η2 => exact forD_dt E ds η2
    | ct η2 => exact forD_dt E ds η2
    | _ => exact Dt.pure _
instance [hi : DTm it] [hg : DG' g] [hs : DSt s] : DSt (sFor it g s) := ⟨fun E η => (hi.dt E η).bind fun ds => forD_dt E ds η⟩
theorem whileD_dt [hb : DTm b] [hs : DSt s] (E : XP) : ∀ (n : Nat) (η : EnvD), Dt fun P : Out → Prop => whileD b s E (zo P) n η
  | 0, η => .fls
  | n + 1, η => (hb.dt E (lend η)).bind fun k => .ite (Dt.seq (s1 := s) (G := outLoop fun η2 P => whileD b s E (zo P) n η2) (fun P => rfl) fun o => by
    cases o with
    | nx η2 => exact whileD_dt E n η2
    | ct η2 => exact whileD_dt E n η2
    | _ => exact Dt.pure _) (.pure (Out.nx η))
instance [hb : DTm b] [hs : DSt s] : DSt (sWhile b s) := ⟨fun E η P ⟨n, h⟩ => by
  obtain ⟨o, ho, k⟩ := whileD_dt (b := b) (s := s) E n η P h
  exact ⟨o, ho, fun Q q => ⟨n, k Q q⟩⟩⟩
def outBody : Out → (D → Prop) → Prop
  | .nx _ => fun Q => Q .none
  | .rt d => fun Q => Q d
  | .bk _ => fun _ => False
  | .ct _ => fun _ => False
theorem df_body {p q : Nat} {s : SD} [hs : DSt s] : DF (bodyD p q s) := ⟨fun E cs => by
  refine Dt.and ?_
  exact Dt.seq (s1 := s) (G := outBody) (fun Q => rfl) fun o => by cases o <;> first | exact Dt.fls | exact Dt.pure _⟩
end
end DL

/-! PL2m: lots and closures, plain. -/
namespace PL
open PySem DL
/-! ### all lots, in order -/
def neLots : List Int → List (List Int)
  | [] => []
  | c :: cs => [c] :: ((neLots cs).map (c :: ·) ++ neLots cs)
def lexLots (cs : List Int) : List (List Int) := [] :: neLots cs
theorem mem_neLots : ∀ {cs l : List Int}, l ∈ neLots cs ↔ l ≠ [] ∧ l.Sublist cs
  | [], l => by simp [neLots]
  | c :: cs, l => by
    have ih := @mem_neLots cs
    simp only [neLots, List.mem_cons, List.mem_append, List.mem_map, ih]
    constructor
    · rintro (rfl | ⟨m, ⟨_, h⟩, rfl⟩ | ⟨h1, h2⟩)
      · exact ⟨by simp, (List.nil_sublist cs).cons₂ c⟩
      · exact ⟨by simp, h.cons₂ c⟩
      · exact ⟨h1, h2.cons c⟩
    · rintro ⟨h1, h2⟩
      cases h2 with
      | cons _ h => exact .inr (.inr ⟨h1, h⟩)
      | @cons_cons m _ _ h =>
        cases m with
        | nil => exact .inl rfl
        | cons a m => exact .inr (.inl ⟨_, ⟨by simp, h⟩, rfl⟩)
theorem mem_lexLots {cs l : List Int} : l ∈ lexLots cs ↔ l.Sublist cs := by
  unfold lexLots
  rw [List.mem_cons, mem_neLots]
  constructor
  · rintro (rfl | h)
    · exact List.nil_sublist _
    · exact h.2
  · intro h
    by_cases e : l = []
    · exact .inl e
    · exact .inr ⟨e, h⟩
theorem ltL_cons (c : Int) (l m : List Int) : ltL (c :: l) (c :: m) = ltL l m := by
  rw [ltL, if_pos rfl]
theorem neLots_head {cs l : List Int} {c : Int} (h : ∀ x ∈ cs, c < x) (hl : l ∈ neLots cs) : ∃ a m, l = a :: m ∧ c < a := by
  obtain ⟨h1, h2⟩ := mem_neLots.mp hl
  cases l with
  | nil => exact absurd rfl h1
  | cons a m => exact ⟨a, m, rfl, h a (h2.subset List.mem_cons_self)⟩
theorem neLots_sorted : ∀ {cs : List Int}, Asc cs → (neLots cs).Pairwise fun a b => ltL a b = true
  | [], _ => .nil
  | c :: cs, h => by
    obtain ⟨h1, h2⟩ := List.pairwise_cons.mp h
    have ih := neLots_sorted h2
    unfold neLots
    refine List.pairwise_cons.mpr ⟨fun l hl => ?_, List.pairwise_append.mpr ⟨?_, ih, fun a ha b hb => ?_⟩⟩
    · rcases List.mem_append.mp hl with hl | hl
      · obtain ⟨m, hm, rfl⟩ := List.mem_map.mp hl
        rw [ltL_cons]
        obtain ⟨a, m', rfl, _⟩ := neLots_head h1 hm
        rfl
      · obtain ⟨a, m, rfl, ha⟩ := neLots_head h1 hl
        rw [ltL, if_neg (by omega), decide_eq_true ha]
    · rw [List.pairwise_map]
      exact ih.imp fun {a b} hab => by rwa [ltL_cons]
    · obtain ⟨m, hm, rfl⟩ := List.mem_map.mp ha
      obtain ⟨a, m', rfl, ha⟩ := neLots_head h1 hb
      rw [ltL, if_neg (by omega), decide_eq_true ha]
theorem lexLots_sorted {cs : List Int} (h : Asc cs) : (lexLots cs).Pairwise fun a b => ltL a b = true := by
  refine List.pairwise_cons.mpr ⟨fun l hl => ?_, neLots_sorted h⟩
  obtain ⟨h1, _⟩ := mem_neLots.mp hl
  cases l with
  | nil => exact absurd rfl h1
  | cons a m => rfl
theorem ltL_irrefl : ∀ l : List Int, ltL l l = false
  | [] => rfl
  | a :: l => by rw [ltL_cons, ltL_irrefl l]
theorem lexLots_nodup {cs : List Int} (h : Asc cs) : (lexLots cs).Nodup := (lexLots_sorted h).imp fun {a b} hab e => by
  subst e
  rw [ltL_irrefl] at hab
  cases hab
/-- as the text lays them -/
def rawLots (cs : List Int) : List (List Int) := cs.foldl (fun F c => F ++ F.map fun l => l ++ [c]) [[]]
theorem rawLots_snoc (cs : List Int) (c : Int) : rawLots (cs ++ [c]) = rawLots cs ++ (rawLots cs).map fun l => l ++ [c] := by
  unfold rawLots
  rw [List.foldl_append]
  rfl
theorem snoc_cases (cs : List Int) : cs = [] ∨ ∃ ds c, cs = ds ++ [c] := by
  rcases List.eq_nil_or_concat cs with h | ⟨ds, c, h⟩
  · exact .inl h
  · exact .inr ⟨ds, c, by rw [h, List.concat_eq_append]⟩
theorem rawLots_all (n : Nat) : ∀ cs : List Int, cs.length = n → cs.Nodup → (rawLots cs).Nodup ∧ (∀ l, l ∈ rawLots cs ↔ l.Sublist cs) ∧ (rawLots cs).length = 2 ^ n ∧ (rawLots cs).head? = some [] := by
  induction n with
  | zero =>
    intro cs hl _
    have : cs = [] := List.eq_nil_of_length_eq_zero hl
    subst this
    refine ⟨by simp [rawLots], fun l => ?_, rfl, rfl⟩
    simp [rawLots]
  | succ n ih =>
    intro cs hl hn
    rcases snoc_cases cs with rfl | ⟨ds, c, rfl⟩
    · simp at hl
    · rw [List.length_append, List.length_singleton] at hl
      obtain ⟨hd, _, hx⟩ := List.nodup_append.mp hn
      obtain ⟨i1, i2, i3, i4⟩ := ih ds (by omega) hd
      rw [rawLots_snoc]
      refine ⟨List.nodup_append.mpr ⟨i1, ?_, ?_⟩, fun l => ?_, ?_, ?_⟩
      · refine List.pairwise_map.mpr (i1.imp fun {a b} hab e => hab (List.append_cancel_right e))
      · intro a ha b hb e
        obtain ⟨m, _, rfl⟩ := List.mem_map.mp hb
        subst e
        have := ((i2 _).mp ha).subset (List.mem_append_right m List.mem_cons_self)
        exact hx c this c List.mem_cons_self rfl
      · rw [List.mem_append, List.mem_map, i2, List.sublist_append_iff]
        constructor
        · rintro (h | ⟨m, hm, rfl⟩)
          · exact ⟨l, [], by simp, h, List.nil_sublist _⟩
          · exact ⟨m, [c], rfl, (i2 m).mp hm, List.Sublist.refl _⟩
        · rintro ⟨l1, l2, rfl, h1, h2⟩
          cases h2 with
          | cons _ h =>
            have : l2 = [] := List.sublist_nil.mp h
            subst this
            rw [List.append_nil]
            exact .inl h1
          | @cons_cons m _ _ h =>
            have : m = [] := List.sublist_nil.mp h
            subst this
            exact .inr ⟨l1, (i2 l1).mpr h1, rfl⟩
      · rw [List.length_append, List.length_map, i3, Nat.pow_succ]
        omega
      · cases e : rawLots ds with
        | nil => rw [e] at i4; cases i4
        | cons x xs =>
          rw [e] at i4
          simpa using i4
theorem lots_perm {cs : List Int} (h : Asc cs) : (lexLots cs).Perm (rawLots cs) := by
  obtain ⟨i1, i2, _, _⟩ := rawLots_all cs.length cs rfl h.nodup
  exact (List.perm_ext_iff_of_nodup (lexLots_nodup h) i1).mpr fun l => by rw [mem_lexLots, i2]
theorem sort_lots {cs : List Int} (h : Asc cs) : sortD ((rawLots cs).map T) = (lexLots cs).map T := by
  refine sortD_eq ((lots_perm h).map _) ?_
  rw [List.pairwise_map]
  exact (lexLots_sorted h).imp fun {a b} hab => by rwa [dataLt_T]
/-! ### columns, closures -/
def cols (n : Nat) : List Int := (List.range n).map fun (i : Nat) => (i : Int)
theorem mem_cols {n : Nat} {x : Int} : x ∈ cols n ↔ 0 ≤ x ∧ x < n := by
  unfold cols
  rw [List.mem_map]
  constructor
  · rintro ⟨i, hi, rfl⟩
    rw [List.mem_range] at hi
    omega
  · rintro ⟨h0, h1⟩
    exact ⟨x.toNat, List.mem_range.mpr (by omega), by omega⟩
theorem cols_asc (n : Nat) : Asc (cols n) := by
  unfold cols
  rw [Asc, List.pairwise_map]
  exact List.pairwise_lt_range.imp fun {a b} h => by omega
theorem cols_len (n : Nat) : (cols n).length = n := by simp [cols]
theorem cols_range (n : Nat) : rangeD 0 n = (cols n).map .int := by
  unfold rangeD cols
  rw [List.map_map]
  refine List.map_congr_left fun i _ => ?_
  simp
/-- a lot of n columns -/
structure InL (n : Nat) (l : List Int) : Prop where
  asc : Asc l
  rng : ∀ x ∈ l, 0 ≤ x ∧ x < n
theorem asc_len : ∀ {l : List Int} {a n : Int}, Asc l → (∀ x ∈ l, a ≤ x ∧ x < n) → a ≤ n → (l.length : Int) ≤ n - a
  | [], a, n, _, _, h => by simp; omega
  | x :: l, a, n, h, hr, h' => by
    obtain ⟨h1, h2⟩ := List.pairwise_cons.mp h
    have hx := hr x List.mem_cons_self
    have := asc_len (a := x + 1) (n := n) h2 (fun y hy => ⟨by have := h1 y hy; omega, (hr y (List.mem_cons_of_mem _ hy)).2⟩) (by omega)
    rw [List.length_cons]
    omega
theorem InL.len {n : Nat} {l : List Int} (h : InL n l) : l.length ≤ n := by
  have := asc_len h.asc h.rng (Int.natCast_nonneg n)
  omega
theorem InL.small {n : Nat} {l : List Int} (h : InL n l) (hn : n ≤ 64) : l.length ≤ sizeLine := by
  have := h.len
  rw [sizeLine_eq]
  omega
theorem InL.of_sub {n : Nat} {l : List Int} (h : l.Sublist (cols n)) : InL n l := ⟨(cols_asc n).sublist h, fun x hx => mem_cols.mp (h.subset hx)⟩
theorem filter_mem {l m : List Int} (hl : Asc l) (hm : Asc m) (h : ∀ x ∈ l, x ∈ m) : m.filter (fun x => decide (x ∈ l)) = l := by
  refine asc_ext (hm.sublist List.filter_sublist) hl fun x => ?_
  rw [List.mem_filter, decide_eq_true_eq]
  exact ⟨fun h => h.2, fun hx => ⟨h x hx, hx⟩⟩
theorem InL.sub {n : Nat} {l : List Int} (h : InL n l) : l.Sublist (cols n) := by
  have := filter_mem h.asc (cols_asc n) fun x hx => mem_cols.mpr (h.rng x hx)
  rw [← this]
  exact List.filter_sublist
theorem mem_lots {n : Nat} {l : List Int} : l ∈ lexLots (cols n) ↔ InL n l := mem_lexLots.trans ⟨.of_sub, fun h => h.sub⟩
theorem InL.rp {n : Nat} {l : List Int} (h : InL n l) (hn : n ≤ 64) : Rp 1 2688 (T l) := by
  have := rp_tup 64 (k := 0) (w := 41) (ds := l.map .int) (fun d hd => by
    obtain ⟨x, hx, rfl⟩ := List.mem_map.mp hd
    exact rp_int (by have := h.rng x hx; omega)) (by rw [List.length_map]; exact Nat.le_trans h.len hn)
  exact this
abbrev Rules := List (List Int × List Int)
/-- closed by the rules -/
def Cl (rs : Rules) (m : List Int) : Prop := ∀ r ∈ rs, (∀ x ∈ r.1, x ∈ m) → ∀ x ∈ r.2, x ∈ m
def subB (l m : List Int) : Bool := l.all fun x => decide (x ∈ m)
theorem subB_iff {l m : List Int} : subB l m = true ↔ ∀ x ∈ l, x ∈ m := by
  unfold subB
  simp
def clB (rs : Rules) (m : List Int) : Bool := rs.all fun r => !(subB r.1 m) || subB r.2 m
theorem clB_iff {rs : Rules} {m : List Int} : clB rs m = true ↔ Cl rs m := by
  unfold clB Cl
  rw [List.all_eq_true]
  constructor
  · intro h r hr h1
    have := h r hr
    rw [subB_iff.mpr h1] at this
    exact subB_iff.mp (by simpa using this)
  · intro h r hr
    by_cases h1 : subB r.1 m = true
    · rw [h1, subB_iff.mpr (h r hr (subB_iff.mp h1))]
      rfl
    · rw [Bool.not_eq_true] at h1
      rw [h1]
      rfl
/-- what all closed lots have that have l -/
def settle (n : Nat) (rs : Rules) (l : List Int) : List Int := (cols n).filter fun c => (lexLots (cols n)).all fun m => !(clB rs m && subB l m) || decide (c ∈ m)
theorem mem_settle {n : Nat} {rs : Rules} {l : List Int} {c : Int} : c ∈ settle n rs l ↔ (0 ≤ c ∧ c < n) ∧ ∀ m, InL n m → Cl rs m → (∀ x ∈ l, x ∈ m) → c ∈ m := by
  unfold settle
  rw [List.mem_filter, mem_cols, List.all_eq_true]
  refine and_congr_right fun _ => ⟨fun h m hm hc hl => ?_, fun h m hm => ?_⟩
  · have := h m (mem_lots.mpr hm)
    rw [clB_iff.mpr hc, subB_iff.mpr hl] at this
    simpa using this
  · by_cases hc : clB rs m = true
    · by_cases hl : subB l m = true
      · rw [hc, hl, decide_eq_true (h m (mem_lots.mp hm) (clB_iff.mp hc) (subB_iff.mp hl))]
        rfl
      · rw [Bool.not_eq_true] at hl
        simp [hl]
    · rw [Bool.not_eq_true] at hc
      simp [hc]
theorem settle_in (n : Nat) (rs : Rules) (l : List Int) : InL n (settle n rs l) := .of_sub List.filter_sublist
theorem settle_has {n : Nat} {rs : Rules} {l : List Int} (h : InL n l) {x : Int} (hx : x ∈ l) : x ∈ settle n rs l := mem_settle.mpr ⟨h.rng x hx, fun m _ _ hm => hm x hx⟩
theorem settle_cl {n : Nat} {rs : Rules} {l : List Int} (hr : ∀ r ∈ rs, InL n r.1 ∧ InL n r.2) : Cl rs (settle n rs l) := fun r hr' h1 x hx => by
  refine mem_settle.mpr ⟨(hr r hr').2.rng x hx, fun m hm hc hl => hc r hr' (fun y hy => ?_) x hx⟩
  exact (mem_settle.mp (h1 y hy)).2 m hm hc hl
/-- a lot is settled by itself just if it is closed -/
theorem settle_self {n : Nat} {rs : Rules} {l : List Int} (hr : ∀ r ∈ rs, InL n r.1 ∧ InL n r.2) (h : InL n l) : settle n rs l = l ↔ Cl rs l := by
  constructor
  · intro e
    have := settle_cl (l := l) hr
    rwa [e] at this
  · intro hc
    refine asc_ext (settle_in n rs l).asc h.asc fun x => ⟨fun hx => ?_, settle_has h⟩
    exact (mem_settle.mp hx).2 l h hc fun y hy => hy
/-- the closure from any row that has grown from l -/
theorem settle_grown {n : Nat} {rs : Rules} {l F : List Int} (hF : ∀ x ∈ F, 0 ≤ x ∧ x < n) (hn : F.Nodup) (hl : ∀ x ∈ l, x ∈ F) (hm : ∀ m, InL n m → Cl rs m → (∀ x ∈ l, x ∈ m) → ∀ x ∈ F, x ∈ m) (hc : Cl rs F) : (settle n rs l).Perm F := by
  refine (List.perm_ext_iff_of_nodup (settle_in n rs l).asc.nodup hn).mpr fun x => ⟨fun hx => ?_, fun hx => ?_⟩
  · have h0 : InL n ((cols n).filter fun y => decide (y ∈ F)) := .of_sub List.filter_sublist
    have mem : ∀ y, y ∈ (cols n).filter (fun y => decide (y ∈ F)) ↔ y ∈ F := fun y => by
      rw [List.mem_filter, mem_cols, decide_eq_true_eq]
      exact ⟨fun h => h.2, fun h => ⟨hF y h, h⟩⟩
    refine (mem x).mp ((mem_settle.mp hx).2 _ h0 (fun r hr h1 y hy => (mem y).mpr (hc r hr (fun z hz => (mem z).mp (h1 z hz)) y hy)) fun y hy => (mem y).mpr (hl y hy))
  · exact mem_settle.mpr ⟨hF x hx, fun m h1 h2 h3 => hm m h1 h2 h3 x hx⟩
end PL

/-! PL6m: two rows that agree on a lot, steps that lead: plain laws for k03, no program. -/
namespace PL
open PySem DL
/-- the columns where two rows agree -/
def agr (a b : List Int) : List Int := (cols a.length).filter fun c => decide (a.getD c.toNat 0 = b.getD c.toNat 0)
def rowO (n : Nat) : List Int := List.replicate n 0
def rowI (n : Nat) (m : List Int) : List Int := (cols n).map fun c => if c ∈ m then 0 else 1
theorem rowO_len (n : Nat) : (rowO n).length = n := by simp [rowO]
theorem rowI_len (n : Nat) (m : List Int) : (rowI n m).length = n := by simp [rowI, cols_len]
theorem rowI_get {n : Nat} {m : List Int} {c : Int} (h0 : 0 ≤ c) (h1 : c < n) : (rowI n m).getD c.toNat 0 = if c ∈ m then 0 else 1 := by
  have h : c.toNat < n := by omega
  have e : ((c.toNat : Nat) : Int) = c := Int.toNat_of_nonneg h0
  simp [rowI, cols, List.getD, h, e]
theorem rowO_get {n : Nat} (k : Nat) : (rowO n).getD k 0 = 0 := by
  unfold rowO
  by_cases h : k < n <;> simp [List.getD, h]
theorem agr_apart {n : Nat} {m : List Int} (h : InL n m) : agr (rowO n) (rowI n m) = m := by
  unfold agr
  rw [rowO_len]
  refine Eq.trans (List.filter_congr fun c hc => ?_) (filter_mem h.asc (cols_asc n) fun x hx => mem_cols.mpr (h.rng x hx))
  obtain ⟨h0, h1⟩ := mem_cols.mp hc
  rw [rowO_get, rowI_get h0 h1]
  by_cases e : c ∈ m <;> simp [e]
/-- what the steps' numbers add, each rule's left side met before -/
def leadB (rs : Rules) : List Int → List Nat → Bool
  | _, [] => true
  | F, k :: ks => match rs[k]? with
    | some r => subB r.1 F && leadB rs (F ++ r.2) ks
    | none => false
def leadF (rs : Rules) : List Int → List Nat → List Int
  | F, [] => F
  | F, k :: ks => leadF rs (F ++ (rs.getD k ([], [])).2) ks
theorem subB_mono {l F G : List Int} (h : ∀ x ∈ F, x ∈ G) (q : subB l F = true) : subB l G = true := subB_iff.mpr fun x hx => h x (subB_iff.mp q x hx)
theorem leadB_snoc {rs : Rules} {k : Nat} {r : List Int × List Int} (hk : rs[k]? = some r) : ∀ {ks : List Nat} {F : List Int}, leadB rs F ks = true → subB r.1 (leadF rs F ks) = true → leadB rs F (ks ++ [k]) = true
  | [], F, _, h => by simp [leadB, hk]; exact h
  | j :: ks, F, h, h2 => by
    simp only [leadB, List.cons_append] at h ⊢
    cases e : rs[j]? with
    | none => rw [e] at h; cases h
    | some q =>
      rw [e] at h
      simp only [Bool.and_eq_true] at h ⊢
      have eg : rs.getD j ([], []) = q := by simp [List.getD, e]
      refine ⟨h.1, leadB_snoc hk h.2 ?_⟩
      rw [leadF, eg] at h2
      exact h2
theorem leadF_snoc {rs : Rules} {k : Nat} : ∀ {ks : List Nat} {F : List Int}, leadF rs F (ks ++ [k]) = leadF rs F ks ++ (rs.getD k ([], [])).2
  | [], F => rfl
  | j :: ks, F => by
    rw [List.cons_append, leadF, leadF]
    exact leadF_snoc
end PL

/-! PL6n: what enumerate(zip(a, b)) yields, as a map over the columns. -/
namespace PL
open PySem DL
def cellP (a b : List Int) (c : Int) : D := .tuple [.int c, .tuple [.int (a.getD c.toNat 0), .int (b.getD c.toNat 0)]]
theorem pairs_cols {a b : List Int} (h : a.length = b.length) : pairsD (rangeD 0 a.length) (pairsD (a.map .int) (b.map .int)) = (cols a.length).map (cellP a b) := by
  refine List.ext_getElem? fun i => ?_
  by_cases hi : i < a.length
  · have hb : i < b.length := by omega
    rw [pairsD_get (x := .int (i : Nat)) (y := .tuple [.int a[i], .int b[i]]) (by simp [rangeD, hi]) (pairsD_get (by simp [hi]) (by simp [hb]))]
    simp [cols, cellP, hi, hb, List.getD]
  · rw [List.getElem?_eq_none (by rw [pairsD_len, rangeD_len, pairsD_len]; simp; omega), List.getElem?_eq_none (by simp [cols_len]; omega)]
end PL

/-! PLx: rules for rows of ints (T), lists of coded things, loops over them. -/
namespace PL
open PySem DL L2
/-! ### coded data that may be compared -/
class Sh {α : Type} (f : α → D) : Prop where
  lay : ∀ a, (f a).canLay0 = true
  dep : ∀ a, (f a).depth ≤ 20
class Shd (d : D) : Prop where
  lay : d.canLay0 = true
  dep : d.depth ≤ 30
theorem canLayAll_map {α : Type} {f : α → D} (h : ∀ a, (f a).canLay0 = true) : ∀ xs : List α, PyData.canLayAll0 (xs.map f) = true
  | [] => rfl
  | a :: xs => by rw [List.map_cons, PyData.canLayAll0, h a, canLayAll_map h xs]; rfl
theorem depthAll_map {α : Type} {f : α → D} {k : Nat} (h : ∀ a, (f a).depth ≤ k) : ∀ xs : List α, PyData.depthAll (xs.map f) ≤ k
  | [] => Nat.zero_le _
  | a :: xs => by rw [List.map_cons, PyData.depthAll]; exact Nat.max_le.mpr ⟨h a, depthAll_map h xs⟩
instance : Sh PyData.int := ⟨fun _ => rfl, fun _ => Nat.zero_le _⟩
instance : Sh PyData.bool := ⟨fun _ => rfl, fun _ => Nat.zero_le _⟩
instance : Sh T := ⟨fun l => by unfold T; rw [PyData.canLay0]; exact canLayAll_map (fun _ => rfl) l, fun l => by unfold T; rw [PyData.depth]; exact Nat.succ_le_succ (Nat.le_trans (depthAll_map (k := 0) (fun _ => Nat.le_refl _) l) (by decide))⟩
theorem Shd.of {α : Type} {f : α → D} [h : Sh f] (a : α) : Shd (f a) := ⟨h.lay a, Nat.le_trans (h.dep a) (by decide)⟩
instance (i : Int) : Shd (.int i) := Shd.of i
instance (i : Bool) : Shd (.bool i) := Shd.of i
instance : Shd .none := ⟨rfl, Nat.zero_le _⟩
instance (l : List Int) : Shd (T l) := Shd.of l
instance {α : Type} {f : α → D} [h : Sh f] (xs : List α) : Shd (.list (xs.map f)) := ⟨by rw [PyData.canLay0]; exact canLayAll_map h.lay xs, by rw [PyData.depth]; exact Nat.succ_le_succ (Nat.le_trans (depthAll_map h.dep xs) (by decide))⟩
instance {α : Type} {f : α → D} [h : Sh f] (xs : List α) : Shd (.tuple (xs.map f)) := ⟨by rw [PyData.canLay0]; exact canLayAll_map h.lay xs, by rw [PyData.depth]; exact Nat.succ_le_succ (Nat.le_trans (depthAll_map h.dep xs) (by decide))⟩
instance : Shd (.list []) := ⟨rfl, by decide⟩
instance : Shd (.tuple []) := ⟨rfl, by decide⟩
theorem shd (d : D) [h : Shd d] : SeqAt.shaped d = true := by
  unfold SeqAt.shaped
  rw [h.lay, decide_eq_true (Nat.le_trans h.dep (by decide))]
  rfl
theorem eqOk_shd (x y : D) [Shd x] [Shd y] : eqOk x y = true := by
  unfold eqOk
  split
  · rfl
  · rw [shd x, shd y]; rfl
/-! ### an injective code, told by eqv -/
class Cod {α : Type} [DecidableEq α] (f : α → D) : Prop extends Sh f where
  eqv : ∀ a b, PyData.eqv (f a) (f b) = decide (a = b)
instance : Cod PyData.int := ⟨eqv_int⟩
instance : Cod T := ⟨eqv_T⟩
theorem eqv_strs (a b : Str) : PyData.eqv (.str a) (.str b) = decide (a = b) := by rw [Bool.eq_iff_iff, decide_eq_true_eq]; simp [PyData.eqv]
theorem eqvAll_map {α : Type} [DecidableEq α] {f : α → D} (h : ∀ a b, PyData.eqv (f a) (f b) = decide (a = b)) : ∀ xs ys : List α, PyData.eqvAll (xs.map f) (ys.map f) = decide (xs = ys)
  | [], [] => rfl
  | [], _ :: _ => rfl
  | _ :: _, [] => rfl
  | a :: xs, b :: ys => by
    rw [List.map_cons, List.map_cons, PyData.eqvAll, h, eqvAll_map h xs ys, Bool.eq_iff_iff]
    simp
theorem eqv_mapL {α : Type} [DecidableEq α] {f : α → D} [c : Cod f] (xs ys : List α) : PyData.eqv (.list (xs.map f)) (.list (ys.map f)) = decide (xs = ys) := by
  rw [← eqvAll_map c.eqv]; simp [PyData.eqv]
theorem eqv_mapT {α : Type} [DecidableEq α] {f : α → D} [c : Cod f] (xs ys : List α) : PyData.eqv (.tuple (xs.map f)) (.tuple (ys.map f)) = decide (xs = ys) := by
  rw [← eqvAll_map c.eqv]; simp [PyData.eqv]
theorem any_map {α : Type} [DecidableEq α] {f : α → D} [c : Cod f] (xs : List α) (x : α) : ((xs.map f).any fun z => PyData.eqv z (f x)) = decide (x ∈ xs) := by
  rw [Bool.eq_iff_iff, List.any_eq_true, decide_eq_true_eq]
  constructor
  · rintro ⟨z, hz, e⟩
    obtain ⟨i, hi, rfl⟩ := List.mem_map.mp hz
    rw [c.eqv, decide_eq_true_eq] at e
    rwa [← e]
  · intro h
    exact ⟨_, List.mem_map.mpr ⟨x, h, rfl⟩, by rw [c.eqv]; simp⟩
section
variable {QD : D → Prop} {QL : List D → Prop} {QE : EnvD → Prop} {l m : List Int} {c i j : Int} {neg : Bool} {η : EnvD}
/-! ### comparisons -/
theorem k_eqI : oEq (.int i) (.int j) QD = QD (.bool (decide (i = j))) := by rw [x_eq, eqOk_shd, eqv_int]; simp
theorem k_neI : oNe (.int i) (.int j) QD = QD (.bool (!decide (i = j))) := by rw [x_ne, eqOk_shd, eqv_int]; simp
theorem k_eqS {x y : Str} : oEq (.str x) (.str y) QD = QD (.bool (decide (x = y))) := by rw [x_eq, eqv_strs, show eqOk (.str x) (.str y) = true from rfl]; simp
theorem k_neS {x y : Str} : oNe (.str x) (.str y) QD = QD (.bool (!decide (x = y))) := by rw [x_ne, eqv_strs, show eqOk (.str x) (.str y) = true from rfl]; simp
theorem k_eqT : oEq (T l) (T m) QD = QD (.bool (decide (l = m))) := by rw [x_eq, eqOk_shd, eqv_T]; simp
theorem k_neT : oNe (T l) (T m) QD = QD (.bool (!decide (l = m))) := by rw [x_ne, eqOk_shd, eqv_T]; simp
section
variable {α : Type} [DecidableEq α] {f : α → D} [Cod f] {xs ys : List α} {x : α}
theorem k_eqLL : oEq (.list (xs.map f)) (.list (ys.map f)) QD = QD (.bool (decide (xs = ys))) := by rw [x_eq, eqOk_shd, eqv_mapL]; simp
theorem k_neLL : oNe (.list (xs.map f)) (.list (ys.map f)) QD = QD (.bool (!decide (xs = ys))) := by rw [x_ne, eqOk_shd, eqv_mapL]; simp
theorem k_eqTT : oEq (.tuple (xs.map f)) (.tuple (ys.map f)) QD = QD (.bool (decide (xs = ys))) := by rw [x_eq, eqOk_shd, eqv_mapT]; simp
theorem k_neTT : oNe (.tuple (xs.map f)) (.tuple (ys.map f)) QD = QD (.bool (!decide (xs = ys))) := by rw [x_ne, eqOk_shd, eqv_mapT]; simp
theorem k_inL : oIn neg (f x) (.list (xs.map f)) QD = QD (.bool (decide (x ∈ xs) != neg)) := by
  haveI : Shd (f x) := Shd.of x
  rw [x_inL, shd, shd, any_map]; simp
theorem k_inTT : oIn neg (f x) (.tuple (xs.map f)) QD = QD (.bool (decide (x ∈ xs) != neg)) := by
  haveI : Shd (f x) := Shd.of x
  rw [x_inT, shd, shd, any_map]; simp
end
theorem k_inLI : oIn neg (.int c) (.list (l.map .int)) QD = QD (.bool (decide (c ∈ l) != neg)) := k_inL (f := PyData.int)
theorem k_inLT {Ls : List (List Int)} : oIn neg (T l) (.list (Ls.map T)) QD = QD (.bool (decide (l ∈ Ls) != neg)) := (k_inL (f := T)).trans (congrArg QD (congrArg PyData.bool (congrArg (· != neg) (decide_eq_decide.mpr Iff.rfl))))
theorem k_inTTT {Ls : List (List Int)} : oIn neg (T l) (.tuple (Ls.map T)) QD = QD (.bool (decide (l ∈ Ls) != neg)) := (k_inTT (f := T)).trans (congrArg QD (congrArg PyData.bool (congrArg (· != neg) (decide_eq_decide.mpr Iff.rfl))))
theorem k_inT : oIn neg (.int c) (T l) QD = QD (.bool (decide (c ∈ l) != neg)) := k_inTT (f := PyData.int)
theorem k_in23 : oIn neg (.int c) (.tuple [.int i, .int j]) QD = QD (.bool (decide (c = i ∨ c = j) != neg)) := by
  have := @k_inT QD [i, j] c neg
  simpa [T] using this
section
variable {α : Type} {f : α → D} [Sh f] {xs : List α}
theorem eqv_nilL (xs : List D) : PyData.eqv (.list xs) (.list []) = xs.isEmpty := by
  cases xs with
  | nil => rfl
  | cons x xs => simp [PyData.eqv, PyData.eqvAll]
theorem eqv_nilT (xs : List D) : PyData.eqv (.tuple xs) (.tuple []) = xs.isEmpty := by
  cases xs with
  | nil => rfl
  | cons x xs => simp [PyData.eqv, PyData.eqvAll]
theorem k_eqLn : oEq (.list (xs.map f)) (.list []) QD = QD (.bool xs.isEmpty) := by rw [x_eq, eqOk_shd, eqv_nilL, List.isEmpty_map]; simp
theorem k_neLn : oNe (.list (xs.map f)) (.list []) QD = QD (.bool (!xs.isEmpty)) := by rw [x_ne, eqOk_shd, eqv_nilL, List.isEmpty_map]; simp
theorem k_eqTn : oEq (.tuple (xs.map f)) (.tuple []) QD = QD (.bool xs.isEmpty) := by rw [x_eq, eqOk_shd, eqv_nilT, List.isEmpty_map]; simp
theorem k_neTn : oNe (.tuple (xs.map f)) (.tuple []) QD = QD (.bool (!xs.isEmpty)) := by rw [x_ne, eqOk_shd, eqv_nilT, List.isEmpty_map]; simp
end
theorem k_eqTn' : oEq (T l) (.tuple []) QD = QD (.bool l.isEmpty) := k_eqTn (f := PyData.int)
theorem k_neTn' : oNe (T l) (.tuple []) QD = QD (.bool (!l.isEmpty)) := k_neTn (f := PyData.int)
theorem ne_lit {x y : D} (h : (eqOk x y && PyData.eqv x y) = true) : oNe x y QD = QD (.bool false) := by
  rw [Bool.and_eq_true] at h
  rw [x_ne, h.1, h.2]
  simp
theorem eq_lit {x y : D} (h : (eqOk x y && PyData.eqv x y) = true) : oEq x y QD = QD (.bool true) := by
  rw [Bool.and_eq_true] at h
  rw [x_eq, h.1, h.2]
  simp
/-! ### rows of ints -/
theorem k_onSeq {f k : List D → Prop} : onSeq (T l) f k = k (l.map .int) := id rfl
theorem k_onTupO {k : List D → Prop} : onTupO (T l) k = k (l.map .int) := id rfl
theorem k_onSeqE {k : List D → Prop} : onSeqE (T l) k = k (l.map .int) := id rfl
theorem k_lenT : fLen [T l] QD = QD (.int l.length) := by
  show QD (.int (l.map PyData.int).length) = _
  rw [List.length_map]
theorem k_lenTM {α : Type} {f : α → D} {xs : List α} : fLen [.tuple (xs.map f)] QD = QD (.int xs.length) := by
  rw [x_fLenT, List.length_map]
theorem k_lenLM {α : Type} {f : α → D} {xs : List α} : fLen [.list (xs.map f)] QD = QD (.int xs.length) := by
  rw [x_fLenL, List.length_map]
theorem k_tupL : fTuple [.list (l.map .int)] QD = QD (T l) := id rfl
theorem k_tupT : fTuple [T l] QD = QD (T l) := id rfl
theorem k_listT : fList [T l] QL = QL (l.map .int) := id rfl
theorem k_addT : oAdd (T l) (T m) QD = (l.length + m.length ≤ sizeLine ∧ QD (T (l ++ m))) := by
  show ((l.map PyData.int).length + (m.map PyData.int).length ≤ sizeLine ∧ QD (.tuple (l.map .int ++ m.map .int))) = _
  rw [List.length_map, List.length_map, ← List.map_append]
  rfl
theorem k_addT1 : oAdd (T l) (.tuple [.int i]) QD = (l.length + 1 ≤ sizeLine ∧ QD (T (l ++ [i]))) := k_addT (m := [i])
theorem k_addTn : oAdd (T l) (.tuple []) QD = (l.length + 0 ≤ sizeLine ∧ QD (T (l ++ []))) := k_addT (m := [])
theorem ixN_map {α β : Type} (f : α → β) (xs : List α) (i : Int) : atI (xs.map f) i = (atI xs i).map f := by
  unfold atI
  rw [List.length_map]
  cases ixN xs.length i with
  | none => rfl
  | some j => simp
theorem onS_map {α β : Type} {f : α → β} {o : Option α} {k : β → Prop} : onS (o.map f) k = onS o fun a => k (f a) := by
  cases o <;> exact id rfl
theorem k_ixT : oIx (T l) (.int i) QD = onS (atI l i) fun x => QD (.int x) := by
  show onS (atI (l.map PyData.int) i) QD = _
  rw [ixN_map, onS_map]
theorem k_ixTM {α : Type} {f : α → D} {xs : List α} : oIx (.tuple (xs.map f)) (.int i) QD = onS (atI xs i) fun x => QD (f x) := by
  rw [x_ixT, ixN_map, onS_map]
theorem k_ixLM {α : Type} {f : α → D} {xs : List α} : oIx (.list (xs.map f)) (.int i) QD = onS (atI xs i) fun x => QD (f x) := by
  rw [x_ixL, ixN_map, onS_map]
theorem atI_some {α : Type} {xs : List α} {k : Nat} {a : α} (h : xs[k]? = some a) : atI xs (k : Int) = some a := atI_nat h
theorem k_isiT : isiD "tuple" (T l) = true := id rfl
theorem k_isiTi : isiD "int" (T l) = false := id rfl
theorem k_isiTb : isiD "bool" (T l) = false := id rfl
theorem k_isiTs : isiD "str" (T l) = false := id rfl
theorem k_isiTl : isiD "list" (T l) = false := id rfl
theorem k_isi {ds : List D} : isiD "tuple" (.tuple ds) = true := id rfl
theorem k_isil {ds : List D} : isiD "list" (.list ds) = true := id rfl
theorem k_isii : isiD "int" (.int i) = true := id rfl
theorem k_isiib : isiD "bool" (.int i) = false := id rfl
theorem k_isis {x : Str} : isiD "str" (.str x) = true := id rfl
theorem k_isNT : isN (T l) = false := id rfl
theorem k_flatT : flat (T l) = true := by
  unfold T flat
  induction l with
  | nil => rfl
  | cons a l ih => rw [List.map_cons, flatAll, ih]; rfl
theorem k_flatI : flatAll (l.map .int) = true := by
  induction l with
  | nil => rfl
  | cons a l ih => rw [List.map_cons, flatAll, ih]; rfl
theorem flatAll_map {α : Type} {f : α → D} (h : ∀ a, flat (f a) = true) : ∀ xs : List α, flatAll (xs.map f) = true
  | [] => rfl
  | a :: xs => by rw [List.map_cons, flatAll, h a, flatAll_map h xs]; rfl
theorem k_flatLs {Ls : List (List Int)} : flatAll (Ls.map T) = true := flatAll_map (fun l => k_flatT) Ls
theorem k_flatTLs {Ls : List (List Int)} : flat (.tuple (Ls.map T)) = true := k_flatLs
theorem k_gT {gs : GTs} : gT gs (T l) η QE = gs (l.map .int) η QE := id rfl
theorem k_on2T {k : List D → List D → Prop} : on2T [T l, T m] k = k (l.map .int) (m.map .int) := id rfl
theorem alikeI : ∀ l m : List Int, PySem.W.alikeAll (l.map .int) (m.map .int) = true
  | [], m => by cases m <;> rfl
  | _ :: _, [] => rfl
  | a :: l, b :: m => by
    rw [List.map_cons, List.map_cons, PySem.W.alikeAll, alikeI l m]
    rfl
theorem alikeT (l m : List Int) : PySem.W.alike (T l) (T m) = true := by
  unfold T
  rw [PySem.W.alike]
  exact alikeI l m
theorem depT (l : List Int) : (T l).depth = 1 := by
  unfold T
  rw [PyData.depth]
  have := depthAll_map (f := PyData.int) (k := 0) (fun _ => Nat.le_refl _) l
  omega
theorem ndT (l : List Int) : (T l).hasDict = false := PyData.hasDict_of_canLay _ ((inferInstance : Sh T).lay l)
theorem k_ordT {f : Int → Int → Bool} {k : D → D → Bool} : oOrd f k (T l) (T m) QD = QD (.bool (k (T l) (T m))) := by
  show ((PySem.W.alike (T l) (T m) = true ∧ (T l).depth ≤ 64 ∧ (T l).hasDict = false ∧ (T m).hasDict = false) ∧ QD (.bool (k (T l) (T m)))) = _
  rw [alikeT, depT, ndT, ndT]
  simp
theorem k_ltT : oLt (T l) (T m) QD = QD (.bool (ltL l m)) := by
  show ((PySem.W.alike (T l) (T m) = true ∧ (T l).depth ≤ 64 ∧ (T l).hasDict = false ∧ (T m).hasDict = false) ∧ QD (.bool (PySem.W.dataLt (T l) (T m)))) = _
  rw [alikeT, depT, dataLt_T, ndT, ndT]
  simp
end
theorem ofS_inj {a b : String} (h : Str.ofString a = Str.ofString b) : a = b := by
  rw [Str.ofString_eq_toList, Str.ofString_eq_toList] at h
  have h2 : (a.toList.map Char.toNat).toArray = (b.toList.map Char.toNat).toArray := Str.mk.inj h
  have h3 : a.toList.map Char.toNat = b.toList.map Char.toNat := by simpa using h2
  have : ∀ {l m : List Char}, l.map Char.toNat = m.map Char.toNat → l = m := by
    intro l
    induction l with
    | nil => intro m hm; cases m with
      | nil => rfl
      | cons x m => simp at hm
    | cons c l ih =>
      intro m hm
      cases m with
      | nil => simp at hm
      | cons x m =>
        simp only [List.map_cons, List.cons.injEq] at hm
        have e : c = x := Char.ext (UInt32.toNat_inj.mp hm.1)
        rw [e, ih hm.2]
  exact String.toList_inj.mp (this h3)
theorem k_ofS {a b : String} : (Str.ofString a = Str.ofString b) = (a = b) := propext ⟨ofS_inj, congrArg _⟩
theorem k_at0 {α : Type} {a : α} {l : List α} : atI (a :: l) 0 = some a := atI_nat (j := 0) rfl
theorem k_at1 {α : Type} {a b : α} {l : List α} : atI (a :: b :: l) 1 = some b := atI_nat (j := 1) rfl
theorem k_at2 {α : Type} {a b c : α} {l : List α} : atI (a :: b :: c :: l) 2 = some c := atI_nat (j := 2) rfl
theorem k_at3 {α : Type} {a b c d : α} {l : List α} : atI (a :: b :: c :: d :: l) 3 = some d := atI_nat (j := 3) rfl
theorem cut_map {α β : Type} (f : α → β) (xs : List α) (lo hi : Option Int) : cutD (xs.map f) lo hi = (cutD xs lo hi).map f := by
  unfold cutD
  rw [List.length_map, List.map_take, List.map_drop]
theorem cut_take {α : Type} (xs : List α) {i : Int} (h : 0 ≤ i) : cutD xs none (some i) = xs.take i.toNat := by
  unfold cutD
  have e : HT.sIx xs.length xs.length (some i) = min i.toNat xs.length := by
    have := HT.sIx_nat xs.length xs.length i.toNat
    rwa [Int.toNat_of_nonneg h] at this
  rw [HT.sIx_none, e, List.drop_zero, Nat.sub_zero]
  rw [Nat.min_def]
  split
  · rfl
  · rw [List.take_of_length_le (Nat.le_refl _), List.take_of_length_le (by omega)]
theorem cut_drop {α : Type} (xs : List α) {i : Int} (h : 0 ≤ i) : cutD xs (some i) none = xs.drop i.toNat := by
  unfold cutD
  have e : HT.sIx xs.length 0 (some i) = min i.toNat xs.length := by
    have := HT.sIx_nat xs.length 0 i.toNat
    rwa [Int.toNat_of_nonneg h] at this
  rw [HT.sIx_none, e]
  rw [List.take_of_length_le (by rw [List.length_drop]; omega)]
  rw [Nat.min_def]
  split
  · rfl
  · rw [List.drop_of_length_le (Nat.le_refl _), List.drop_of_length_le (by omega)]
theorem rangeD_map (lo : Int) (n : Nat) : rangeD lo n = (List.range n).map fun (i : Nat) => PyData.int (lo + i) := rfl
theorem rangeD_map0 (n : Nat) : rangeD 0 n = (List.range n).map fun (i : Nat) => PyData.int i := by
  unfold rangeD
  refine List.map_congr_left fun i _ => ?_
  rw [Int.zero_add]
/-! ### sorted -/
theorem srt_ints (F : List Int) : SrtOk (F.map .int) := by
  refine ⟨fun d hd d' hd' => ?_, .inl (.inr fun d hd => ?_), fun d hd => ?_⟩
  · obtain ⟨x, _, rfl⟩ := List.mem_map.mp hd
    obtain ⟨y, _, rfl⟩ := List.mem_map.mp hd'
    rfl
  · obtain ⟨x, _, rfl⟩ := List.mem_map.mp hd
    exact ⟨by simp, by simp⟩
  · obtain ⟨x, _, rfl⟩ := List.mem_map.mp hd
    exact Nat.zero_le _
theorem sort_lex {cs : List Int} (h : Asc cs) : sortD ((lexLots cs).map T) = (lexLots cs).map T := by
  refine sortD_eq (List.Perm.refl _) ?_
  rw [List.pairwise_map]
  exact (lexLots_sorted h).imp fun {a b} hab => by rwa [dataLt_T]
theorem srt_lex (cs : List Int) : SrtOk ((lexLots cs).map T) := by
  refine ⟨fun d hd d' hd' => ?_, .inr ⟨fun d hd => ?_, rfl⟩, fun d hd => ?_⟩
  · obtain ⟨l, _, rfl⟩ := List.mem_map.mp hd
    obtain ⟨m, _, rfl⟩ := List.mem_map.mp hd'
    exact alikeT l m
  · obtain ⟨l, _, rfl⟩ := List.mem_map.mp hd
    exact ⟨_, rfl⟩
  · obtain ⟨l, _, rfl⟩ := List.mem_map.mp hd
    rw [depT]
    decide
/-! ### dicts by lots -/
theorem itup_ints' : ∀ l : List Int, itupAll (l.map .int) = true
  | [] => rfl
  | a :: l => by rw [List.map_cons, itupAll, itup_ints' l]; rfl
theorem keyT (l : List Int) : keyOk (T l) = true := by
  unfold keyOk
  rw [depT]
  simp [T, isTup, itup, itup_ints']
theorem lookT {g : List Int → D} {m : List Int} : ∀ {Ls : List (List Int)}, m ∈ Ls → dLook (Ls.map fun l => (T l, g l)) (T m) = some (g m)
  | [], h => by cases h
  | l :: Ls, h => by
    unfold dLook
    rw [List.map_cons]
    by_cases e : l = m
    · subst e
      rw [List.find?_cons_of_pos (p := fun z : D × D => PyData.eqv z.1 (T l)) (by rw [eqv_T]; simp)]
      rfl
    · rw [List.find?_cons_of_neg (p := fun z : D × D => PyData.eqv z.1 (T m)) (by rw [eqv_T]; simpa using e)]
      exact lookT ((List.mem_cons.mp h).resolve_left fun z => e z.symm)
theorem k_ixDT {g : List Int → D} {m : List Int} {Ls : List (List Int)} {Q : D → Prop} (h : m ∈ Ls) : oIxD (.dict (Ls.map fun l => (T l, g l))) (T m) Q = Q (g m) := by
  rw [x_ixD, keyT, lookT h]
  show (true = true ∧ onS (some (g m)) Q) = _
  rw [x_onS]
  simp
theorem k_dictT {g : List Int → D} {Ls : List (List Int)} {Q : D → Prop} (h : Ls.Nodup) (q : Q (.dict (Ls.map fun l => (T l, g l)))) : fDictP [.list (Ls.map fun l => .tuple [T l, g l])] Q := by
  refine ⟨Ls.map fun l => (T l, g l), by rw [List.map_map]; rfl, ⟨fun p hp => ?_, ?_⟩, q⟩
  · obtain ⟨l, _, rfl⟩ := List.mem_map.mp hp
    exact keyT l
  · rw [List.map_map]
    exact List.pairwise_map.mpr (h.imp fun {a b} hab e => hab (T_inj e))
theorem k_listDT {g : List Int → D} {Ls : List (List Int)} {Q : List D → Prop} : fListD [.dict (Ls.map fun l => (T l, g l))] Q = Q (Ls.map T) := by
  rw [x_fListD, List.map_map]
  rfl
/-! ### loops over coded things -/
theorem forD_dr {α : Type} (f : α → D) {xs : List α} {g : GT} {tb : SD} {E : XP} {z : EndsD} (J : List α → EnvD → Prop)
    (h : ∀ done a rest η, xs = done ++ a :: rest → J done η → ∀ nx : EnvD → Prop, (∀ η', J (done ++ [a]) η' → nx η') → g (f a) η fun η1 => tb E { nx := nx, rt := z.rt, bk := z.nx, ct := nx } η1)
    (h0 : ∀ η, J xs η → z.nx η) {η : EnvD} (j : J [] η) : forD g tb E z (xs.map f) η := by
  refine forD_inv (fun ds η => ∃ done rest, xs = done ++ rest ∧ ds = rest.map f ∧ J done η) ?_ ?_ ⟨[], xs, rfl, rfl, j⟩
  · rintro d ds η ⟨done, rest, e, e2, hj⟩ nx hn
    cases rest with
    | nil => cases e2
    | cons a rest =>
      simp only [List.map_cons, List.cons.injEq] at e2
      obtain ⟨rfl, rfl⟩ := e2
      exact h done a rest η e hj nx fun η' j' => hn η' ⟨done ++ [a], rest, by rw [e]; simp, rfl, j'⟩
  · rintro η ⟨done, rest, e, e2, hj⟩
    have : rest = [] := by cases rest with
      | nil => rfl
      | cons c r => cases e2
    subst this
    rw [List.append_nil] at e
    subst e
    exact h0 η hj
theorem forD_each {α : Type} (f : α → D) {xs : List α} {g : GT} {tb : SD} {E : XP} {z : EndsD} (J : EnvD → Prop)
    (h : ∀ a ∈ xs, ∀ η, J η → ∀ nx : EnvD → Prop, (∀ η', J η' → nx η') → g (f a) η fun η1 => tb E { nx := nx, rt := z.rt, bk := z.nx, ct := nx } η1)
    (h0 : ∀ η, J η → z.nx η) {η : EnvD} (j : J η) : forD g tb E z (xs.map f) η :=
  forD_dr f (fun _ η => J η) (fun done a rest η e hj nx hn => h a (by rw [e]; simp) η hj nx hn) h0 j
theorem zipIdx_mem {α : Type} {xs : List α} {p : α × Nat} (h : p ∈ xs.zipIdx) : xs[p.2]? = some p.1 := by
  obtain ⟨i, hi⟩ := List.getElem?_of_mem h
  rw [List.getElem?_zipIdx] at hi
  obtain ⟨a, ha, e⟩ := Option.map_eq_some_iff.mp hi
  subst e
  simpa using ha
/-- enumerate -/
theorem enum_map {α : Type} (f : α → D) (xs : List α) : pairsD (rangeD 0 (xs.map f).length) (xs.map f) = xs.zipIdx.map fun p => .tuple [.int (p.2 : Nat), f p.1] := by
  refine List.ext_getElem? fun i => ?_
  by_cases hi : i < xs.length
  · rw [pairsD_get (x := .int (i : Nat)) (y := f xs[i]) (by simp [rangeD, hi]) (by simp [hi])]
    simp [hi]
  · rw [List.getElem?_eq_none (by rw [pairsD_len, rangeD_len]; simp; omega), List.getElem?_eq_none (by simp; omega)]
theorem enum_map' {α : Type} (f : α → D) (xs : List α) : pairsD (rangeD 0 xs.length) (xs.map f) = xs.zipIdx.map fun p => .tuple [.int (p.2 : Nat), f p.1] := by
  rw [← List.length_map (f := f), enum_map]
theorem zipIdx_at {α : Type} {xs : List α} {done rest : List (α × Nat)} {p : α × Nat} (h : xs.zipIdx = done ++ p :: rest) : xs[p.2]? = some p.1 ∧ p.2 = done.length ∧ done = (xs.take done.length).zipIdx := by
  have h1 : xs.zipIdx[done.length]? = some p := by rw [h]; simp
  rw [List.getElem?_zipIdx] at h1
  obtain ⟨a, ha, e⟩ := Option.map_eq_some_iff.mp h1
  subst e
  refine ⟨by simpa using ha, by simp, ?_⟩
  have h2 := congrArg (List.take done.length) h
  rw [List.take_left] at h2
  rw [← h2]
  have hd : done.length ≤ xs.length := by
    have := congrArg List.length h
    simp at this
    omega
  refine List.ext_getElem? fun i => ?_
  have e : min done.length xs.length = done.length := Nat.min_eq_left hd
  by_cases hi : i < done.length
  · have hi' : i < xs.length := by omega
    simp [List.getElem?_take, hi, hi', e]
  · simp [List.getElem?_take, hi, e]
end PL
namespace Lw
open PySem DL PL L2
def ruleD (r : List Int × List Int) : D := .tuple [T r.1, T r.2]
def schD (n : Nat) (rs : List (List Int × List Int)) : D := .tuple [.int n, .tuple (rs.map ruleD)]
instance : Sh ruleD := ⟨fun r => by
  have h1 := (inferInstance : Sh T).lay r.1
  have h2 := (inferInstance : Sh T).lay r.2
  unfold ruleD
  rw [PyData.canLay0, PyData.canLayAll0, PyData.canLayAll0, h1, h2]
  rfl, fun r => by
  unfold ruleD
  rw [PyData.depth, PyData.depthAll, PyData.depthAll, depT, depT]
  decide⟩
section
variable {QD : D → Prop} {QE : EnvD → Prop} {η : EnvD} {n : Nat} {r : List Int × List Int} {rs : List (List Int × List Int)}
theorem k_gR {gs : GTs} : gT gs (ruleD r) η QE = gs [T r.1, T r.2] η QE := id rfl
theorem k_ixR0 : oIx (ruleD r) (.int 0) QD = QD (T r.1) := id rfl
theorem k_ixR1 : oIx (ruleD r) (.int 1) QD = QD (T r.2) := id rfl
theorem k_ixS0 : oIx (schD n rs) (.int 0) QD = QD (.int n) := id rfl
theorem k_ixS1 : oIx (schD n rs) (.int 1) QD = QD (.tuple (rs.map ruleD)) := id rfl
theorem k_lenR : fLen [.tuple (rs.map ruleD)] QD = QD (.int rs.length) := by rw [x_fLenT, List.length_map]
end
end Lw

/-! PLR: who is shown alike is the same: plain data (no texts, no dicts) on one side. -/
namespace PL
open PySem PySem.Spec PyProof.Rows L2 DL TL
def S (d : D) : List Nat := d.shown.cps.toList
mutual
def pln : D → Bool
  | .none => true
  | .bool _ => true
  | .int _ => true
  | .tuple xs => plns xs
  | .list xs => plns xs
  | _ => false
def plns : List D → Bool
  | [] => true
  | x :: xs => pln x && plns xs
end
theorem app_tl (a b : Str) : (a ++ b).cps.toList = a.cps.toList ++ b.cps.toList := by rw [Str.cps_append]; simp
def dig (c : Nat) : Prop := 48 ≤ c ∧ c ≤ 57
theorem S_int (i : Int) : S (.int i) = (if i < 0 then [45] else []) ++ numL i.natAbs := by
  unfold S
  rw [PyData.shown_int]
  by_cases h : i < 0
  · rw [if_pos h]
    obtain ⟨n, rfl⟩ : ∃ n : Nat, i = -((n : Int) + 1) := ⟨(-i - 1).toNat, by omega⟩
    rw [PyProof.Rows.signs_ofString]
    have e : (toString (-((n : Int) + 1)) : String) = "-" ++ (toString (n + 1) : String) := by
      rw [Int.toString_eq_repr, Int.repr_eq_if, if_neg (by omega)]
      have : (-(-((n : Int) + 1))).toNat = n + 1 := by omega
      rw [this]
      rfl
    rw [e, String.toList_append, List.map_append]
    have e2 : (-((n : Int) + 1)).natAbs = n + 1 := by omega
    rw [e2]
    have e3 : ("-" : String).toList.map Char.toNat = [45] := by decide
    rw [e3]
    refine congrArg ([45] ++ ·) ?_
    show ((Nat.repr (n + 1)).toList).map Char.toNat = numL (n + 1)
    rw [Nat.toList_repr]
    rfl
  · rw [if_neg h, List.nil_append]
    obtain ⟨n, rfl⟩ : ∃ n : Nat, i = (n : Int) := ⟨i.toNat, by omega⟩
    rw [show ((n : Int)).natAbs = n by omega]
    exact tl_num n
theorem S_non : S .none = [78, 111, 110, 101] := by decide +kernel
theorem S_tru : S (.bool true) = [84, 114, 117, 101] := by decide +kernel
theorem S_fls : S (.bool false) = [70, 97, 108, 115, 101] := by decide +kernel
/-- between the items -/
def J2 : List D → List Nat
  | [] => []
  | [x] => S x
  | x :: y :: r => S x ++ 44 :: 32 :: J2 (y :: r)
theorem join_J2 : ∀ xs : List D, (Str.join ", " (PyData.shownAll xs)).cps.toList = J2 xs
  | [] => by decide +kernel
  | [x] => rfl
  | x :: y :: r => by
    show (x.shown ++ ", " ++ Str.join ", " (PyData.shownAll (y :: r))).cps.toList = _
    rw [app_tl, app_tl, join_J2 (y :: r)]
    show S x ++ [44, 32] ++ _ = S x ++ 44 :: 32 :: _
    simp
theorem S_tup (xs : List D) : S (.tuple xs) = 40 :: (J2 xs ++ if xs.length = 1 then [44, 41] else [41]) := by
  unfold S
  rw [PyData.shown]
  unfold tupleText
  rw [app_tl, app_tl, join_J2, PyData.shownAll_length]
  by_cases h : xs.length = 1
  · rw [if_pos h, h]; rfl
  · rw [if_neg h, if_neg (by simpa using h)]; rfl
theorem text_from : ∀ (xs : List D) (k : Nat) (acc : Str), (textFrom (k + 1) acc (PyData.shownAll xs)).cps.toList = acc.cps.toList ++ (if xs = [] then [] else 44 :: 32 :: J2 xs)
  | [], k, acc => by simp [PyData.shownAll, textFrom]
  | x :: xs, k, acc => by
    show (textFrom (k + 1 + 1) (acc ++ (if k + 1 > 0 then ", " else "" : String) ++ x.shown) (PyData.shownAll xs)).cps.toList = _
    have e : (if k + 1 > 0 then ", " else "" : String) = ", " := if_pos (by omega)
    have e2 : (if x :: xs = [] then [] else 44 :: 32 :: J2 (x :: xs)) = 44 :: 32 :: J2 (x :: xs) := if_neg (by simp)
    rw [e, e2, text_from xs (k + 1), app_tl, app_tl]
    cases xs with
    | nil =>
      rw [if_pos rfl, List.append_nil]
      show (acc.cps.toList ++ [44, 32]) ++ S x = _ ++ 44 :: 32 :: S x
      simp
    | cons y r =>
      have e3 : (if y :: r = [] then [] else 44 :: 32 :: J2 (y :: r)) = 44 :: 32 :: J2 (y :: r) := if_neg (by simp)
      rw [e3]
      show (acc.cps.toList ++ [44, 32]) ++ S x ++ _ = _ ++ 44 :: 32 :: (S x ++ 44 :: 32 :: J2 (y :: r))
      simp
theorem S_lst (xs : List D) : S (.list xs) = 91 :: (J2 xs ++ [93]) := by
  unfold S
  rw [PyData.shown]
  unfold listText
  rw [app_tl]
  cases xs with
  | nil => rfl
  | cons x xs =>
    show (textFrom 1 ("[" ++ (if 0 > 0 then ", " else "" : String) ++ x.shown) (PyData.shownAll xs)).cps.toList ++ _ = _
    rw [text_from xs 0, app_tl, app_tl]
    cases xs with
    | nil => simp [J2, S]; rfl
    | cons y r =>
      rw [if_neg (by simp)]
      show [91] ++ [] ++ S x ++ _ ++ [93] = 91 :: ((S x ++ 44 :: 32 :: J2 (y :: r)) ++ [93])
      simp
theorem S_str (x : Str) : ∃ t, S (.str x) = 39 :: t ∨ S (.str x) = 34 :: t := by
  unfold S
  rw [PyData.shown]
  unfold reprText
  have key : ∀ (l : List Nat) (a : Array Nat) (q : Nat), ∃ m : Array Nat, l.foldl (fun out c => out ++ (Builtin.Str.reprChar (reprQuote x) c).toArray) (#[q] ++ a) = #[q] ++ m := by
    intro l
    induction l with
    | nil => intro a q; exact ⟨a, rfl⟩
    | cons c l ih =>
      intro a q
      obtain ⟨m, e⟩ := ih (a ++ (Builtin.Str.reprChar (reprQuote x) c).toArray) q
      exact ⟨m, by rw [List.foldl_cons, Array.append_assoc]; exact e⟩
  obtain ⟨m, e⟩ := key x.cps.toList #[] (reprQuote x)
  have e' : x.cps.foldl (fun out c => out ++ (Builtin.Str.reprChar (reprQuote x) c).toArray) #[reprQuote x] = #[reprQuote x] ++ m := by
    rw [← Array.foldl_toList]
    simpa using e
  rw [e']
  have hq : reprQuote x = 39 ∨ reprQuote x = 34 := by
    unfold reprQuote
    split <;> simp
  refine ⟨m.toList ++ [reprQuote x], ?_⟩
  rcases hq with h | h
  · left; rw [h]; simp
  · right; rw [h]; simp
theorem S_dct (kvs : List (D × D)) : ∃ t, S (.dict kvs) = 123 :: t := by
  unfold S
  rw [PyData.shown]
  unfold dictText
  rw [app_tl, app_tl]
  exact ⟨_, rfl⟩
theorem numL_head (n : Nat) : ∃ c t, numL n = c :: t ∧ dig c := by
  cases h : numL n with
  | nil => exact absurd h (numL_ne n)
  | cons c t => exact ⟨c, t, rfl, numL_digits n c (by rw [h]; exact List.mem_cons_self)⟩
/-- how a text begins -/
def kd : D → Nat
  | .int _ => 0
  | .tuple _ => 40
  | .list _ => 91
  | .none => 78
  | .bool true => 84
  | .bool false => 70
  | .str _ => 39
  | .dict _ => 123
def cls (c : Nat) : Nat := if c = 45 ∨ (48 ≤ c ∧ c ≤ 57) then 0 else if c = 34 then 39 else c
theorem S_head (d : D) : ∃ c t, S d = c :: t ∧ cls c = kd d ∧ c ≠ 41 ∧ c ≠ 93 ∧ c ≠ 44 := by
  cases d with
  | int i =>
    rw [S_int]
    obtain ⟨c, t, e, h⟩ := numL_head i.natAbs
    by_cases z : i < 0
    · rw [if_pos z]; exact ⟨45, _, rfl, rfl, by decide, by decide, by decide⟩
    · rw [if_neg z, e]
      refine ⟨c, t, rfl, ?_, ?_, ?_, ?_⟩
      · unfold cls; rw [if_pos (.inr h)]; rfl
      · unfold dig at h; omega
      · unfold dig at h; omega
      · unfold dig at h; omega
  | tuple xs => rw [S_tup]; exact ⟨40, _, rfl, rfl, by decide, by decide, by decide⟩
  | list xs => rw [S_lst]; exact ⟨91, _, rfl, rfl, by decide, by decide, by decide⟩
  | none => rw [S_non]; exact ⟨78, _, rfl, rfl, by decide, by decide, by decide⟩
  | bool b => cases b with
    | true => rw [S_tru]; exact ⟨84, _, rfl, rfl, by decide, by decide, by decide⟩
    | false => rw [S_fls]; exact ⟨70, _, rfl, rfl, by decide, by decide, by decide⟩
  | str x =>
    obtain ⟨t, h | h⟩ := S_str x
    · exact ⟨39, t, h, rfl, by decide, by decide, by decide⟩
    · exact ⟨34, t, h, rfl, by decide, by decide, by decide⟩
  | dict kvs => obtain ⟨t, h⟩ := S_dct kvs; exact ⟨123, t, h, rfl, by decide, by decide, by decide⟩
/-- no figure comes next -/
def Stop (r : List Nat) : Prop := ∀ c t, r = c :: t → ¬ dig c
theorem num_split : ∀ {a b r r' : List Nat}, (∀ c ∈ a, dig c) → (∀ c ∈ b, dig c) → Stop r → Stop r' → a ++ r = b ++ r' → a = b ∧ r = r'
  | [], [], _, _, _, _, _, _, h => ⟨rfl, h⟩
  | [], c :: b, r, r', _, hb, hr, _, h => absurd (hb c List.mem_cons_self) (hr c (b ++ r') (by simpa using h))
  | c :: a, [], r, r', ha, _, _, hr', h => absurd (ha c List.mem_cons_self) (hr' c (a ++ r) (by simpa using h.symm))
  | c :: a, d :: b, r, r', ha, hb, hr, hr', h => by
    rw [List.cons_append, List.cons_append, List.cons.injEq] at h
    obtain ⟨e1, e2⟩ := num_split (fun x hx => ha x (List.mem_cons_of_mem _ hx)) (fun x hx => hb x (List.mem_cons_of_mem _ hx)) hr hr' h.2
    exact ⟨by rw [h.1, e1], e2⟩
theorem kd_eq {d e : D} {r r' : List Nat} (h : S d ++ r = S e ++ r') : kd d = kd e := by
  obtain ⟨c, t, e1, k1, _⟩ := S_head d
  obtain ⟨c', t', e2, k2, _⟩ := S_head e
  rw [e1, e2, List.cons_append, List.cons_append, List.cons.injEq] at h
  rw [← k1, ← k2, h.1]
theorem stop_c {c : Nat} {r : List Nat} (h : ¬ dig c) : Stop (c :: r) := fun c' t e => by
  rw [List.cons.injEq] at e
  rw [← e.1]; exact h
theorem stop_n : Stop [] := fun _ _ e => by cases e
mutual
theorem S_inj : ∀ (e d : D) (r r' : List Nat), pln e = true → Stop r → Stop r' → S d ++ r = S e ++ r' → d = e ∧ r = r'
  | .int j, d, r, r', _, hr, hr', h => by
    have k := kd_eq h
    cases d with
    | int i =>
      rw [S_int, S_int] at h
      have dg : ∀ n : Nat, ∀ c ∈ numL n, dig c := fun n c hc => numL_digits n c hc
      have nodash : ∀ (n : Nat) (t s : List Nat), 45 :: t ≠ numL n ++ s := fun n t s z => by
        obtain ⟨c, u, e, hd⟩ := numL_head n
        rw [e, List.cons_append, List.cons.injEq] at z
        rw [← z.1] at hd
        unfold dig at hd; omega
      by_cases z1 : i < 0
      · by_cases z2 : j < 0
        · rw [if_pos z1, if_pos z2] at h
          simp only [List.cons_append, List.nil_append, List.cons.injEq, true_and] at h
          obtain ⟨e1, e2⟩ := num_split (dg _) (dg _) hr hr' h
          have := numL_inj e1
          exact ⟨congrArg _ (by omega), e2⟩
        · rw [if_pos z1, if_neg z2] at h
          simp only [List.cons_append, List.nil_append] at h
          exact absurd h (nodash _ _ _)
      · by_cases z2 : j < 0
        · rw [if_neg z1, if_pos z2] at h
          simp only [List.cons_append, List.nil_append] at h
          exact absurd h.symm (nodash _ _ _)
        · rw [if_neg z1, if_neg z2] at h
          simp only [List.nil_append] at h
          obtain ⟨e1, e2⟩ := num_split (dg _) (dg _) hr hr' h
          have := numL_inj e1
          exact ⟨congrArg _ (by omega), e2⟩
    | bool b => cases b <;> simp [kd] at k
    | _ => simp [kd] at k
  | .none, d, r, r', _, hr, hr', h => by
    have k := kd_eq h
    cases d with
    | none => exact ⟨rfl, List.append_cancel_left h⟩
    | bool b => cases b <;> simp [kd] at k
    | _ => simp [kd] at k
  | .bool b, d, r, r', _, hr, hr', h => by
    have k := kd_eq h
    cases d with
    | bool b' => cases b <;> cases b' <;> first | exact ⟨rfl, List.append_cancel_left h⟩ | simp [kd] at k
    | _ => cases b <;> simp [kd] at k
  | .tuple es, d, r, r', he, hr, hr', h => by
    have k := kd_eq h
    cases d with
    | tuple ds =>
      rw [S_tup, S_tup, List.cons_append, List.cons_append, List.cons.injEq] at h
      have h := h.2
      rw [List.append_assoc, List.append_assoc] at h
      have he : plns es = true := by simpa [pln] using he
      have key : ds = es := by
        cases es with
        | nil =>
          cases ds with
          | nil => rfl
          | cons x ds =>
            obtain ⟨c, t, e1, _, n1, _⟩ := S_head x
            cases ds with
            | nil => simp only [J2, e1, List.cons_append, List.nil_append] at h; simp at h; exact absurd h.1 n1
            | cons y ds => simp only [J2, e1, List.cons_append, List.nil_append] at h; simp at h; exact absurd h.1 n1
        | cons y es =>
          cases ds with
          | nil =>
            obtain ⟨c, t, e1, _, n1, _⟩ := S_head y
            cases es with
            | nil => simp only [J2, e1, List.cons_append, List.nil_append] at h; simp at h; exact absurd h.1.symm n1
            | cons z es => simp only [J2, e1, List.cons_append, List.nil_append] at h; simp at h; exact absurd h.1.symm n1
          | cons x ds =>
            have sub : ∀ {a b : List Nat}, (∃ t, a = 41 :: t ∨ a = 44 :: 41 :: t) → (∃ t, b = 41 :: t ∨ b = 44 :: 41 :: t) → J2 (x :: ds) ++ a = J2 (y :: es) ++ b → x :: ds = y :: es ∧ a = b := fun ha hb hh => J2_inj (y :: es) (x :: ds) _ _ he (by simp) (by simp) (by
              obtain ⟨t, rfl | rfl⟩ := ha
              · exact ⟨41, t, rfl, by unfold dig; omega, .inl (by decide)⟩
              · exact ⟨44, _, rfl, by unfold dig; omega, .inr ⟨41, t, rfl, by decide⟩⟩) (by
              obtain ⟨t, rfl | rfl⟩ := hb
              · exact ⟨41, t, rfl, by unfold dig; omega, .inl (by decide)⟩
              · exact ⟨44, _, rfl, by unfold dig; omega, .inr ⟨41, t, rfl, by decide⟩⟩) hh
            refine (sub ?_ ?_ h).1
            · split
              · exact ⟨_, .inr rfl⟩
              · exact ⟨_, .inl rfl⟩
            · split
              · exact ⟨_, .inr rfl⟩
              · exact ⟨_, .inl rfl⟩
      subst key
      exact ⟨rfl, by simpa using h⟩
    | bool b => cases b <;> simp [kd] at k
    | _ => simp [kd] at k
  | .list es, d, r, r', he, hr, hr', h => by
    have k := kd_eq h
    cases d with
    | list ds =>
      rw [S_lst, S_lst, List.cons_append, List.cons_append, List.cons.injEq] at h
      have h := h.2
      rw [List.append_assoc, List.append_assoc] at h
      have he : plns es = true := by simpa [pln] using he
      have key : ds = es := by
        cases es with
        | nil =>
          cases ds with
          | nil => rfl
          | cons x ds =>
            obtain ⟨c, t, e1, _, _, n1, _⟩ := S_head x
            cases ds with
            | nil => simp only [J2, e1, List.cons_append, List.nil_append, List.cons.injEq] at h; exact absurd h.1 n1
            | cons y ds => simp only [J2, e1, List.cons_append, List.nil_append, List.cons.injEq] at h; exact absurd h.1 n1
        | cons y es =>
          cases ds with
          | nil =>
            obtain ⟨c, t, e1, _, _, n1, _⟩ := S_head y
            cases es with
            | nil => simp only [J2, e1, List.cons_append, List.nil_append, List.cons.injEq] at h; exact absurd h.1.symm n1
            | cons z es => simp only [J2, e1, List.cons_append, List.nil_append, List.cons.injEq] at h; exact absurd h.1.symm n1
          | cons x ds =>
            exact (J2_inj (y :: es) (x :: ds) _ _ he (by simp) (by simp) ⟨93, r, rfl, by unfold dig; omega, .inl (by decide)⟩ ⟨93, r', rfl, by unfold dig; omega, .inl (by decide)⟩ h).1
      subst key
      exact ⟨rfl, by simpa using h⟩
    | bool b => cases b <;> simp [kd] at k
    | _ => simp [kd] at k
  | .str _, _, _, _, he, _, _, _ => by simp [pln] at he
  | .dict _, _, _, _, he, _, _, _ => by simp [pln] at he
theorem J2_inj : ∀ (es ds : List D) (r r' : List Nat), plns es = true → es ≠ [] → ds ≠ [] → (∃ c t, r = c :: t ∧ ¬ dig c ∧ (c ≠ 44 ∨ ∃ c' t', t = c' :: t' ∧ c' ≠ 32)) → (∃ c t, r' = c :: t ∧ ¬ dig c ∧ (c ≠ 44 ∨ ∃ c' t', t = c' :: t' ∧ c' ≠ 32)) → J2 ds ++ r = J2 es ++ r' → ds = es ∧ r = r'
  | [], _, _, _, _, h, _, _, _, _ => absurd rfl h
  | e :: es, [], _, _, _, _, h, _, _, _ => absurd rfl h
  | e :: es, d :: ds, r, r', he, _, _, hr, hr', h => by
    simp only [plns, Bool.and_eq_true] at he
    obtain ⟨c, t, rfl, dc, ac⟩ := hr
    obtain ⟨c', t', rfl, dc', ac'⟩ := hr'
    have n44 : ¬ dig 44 := by unfold dig; omega
    cases es with
    | nil =>
      cases ds with
      | nil =>
        obtain ⟨e1, e2⟩ := S_inj e d _ _ he.1 (stop_c dc) (stop_c dc') h
        exact ⟨by rw [e1], e2⟩
      | cons y ds =>
        simp only [J2, List.append_assoc, List.cons_append] at h
        obtain ⟨e1, e2⟩ := S_inj e d _ _ he.1 (stop_c n44) (stop_c dc') h
        rw [List.cons.injEq] at e2
        rcases ac' with z | ⟨c2, t2, rfl, z⟩
        · exact absurd e2.1.symm z
        · rw [List.cons.injEq] at e2
          exact absurd e2.2.1.symm z
    | cons x es =>
      cases ds with
      | nil =>
        simp only [J2, List.append_assoc, List.cons_append] at h
        obtain ⟨e1, e2⟩ := S_inj e d _ _ he.1 (stop_c dc) (stop_c n44) h
        rw [List.cons.injEq] at e2
        rcases ac with z | ⟨c2, t2, rfl, z⟩
        · exact absurd e2.1 z
        · rw [List.cons.injEq] at e2
          exact absurd e2.2.1 z
      | cons y ds =>
        simp only [J2, List.append_assoc, List.cons_append] at h
        obtain ⟨e1, e2⟩ := S_inj e d _ _ he.1 (stop_c n44) (stop_c n44) h
        rw [List.cons.injEq, List.cons.injEq] at e2
        obtain ⟨e3, e4⟩ := J2_inj (x :: es) (y :: ds) _ _ he.2 (by simp) (by simp) ⟨c, t, rfl, dc, ac⟩ ⟨c', t', rfl, dc', ac'⟩ e2.2.2
        exact ⟨by rw [e1, e3], e4⟩
end
/-- who is shown alike is the same -/
theorem shown_inj {d e : D} (he : pln e = true) : d.shown = e.shown ↔ d = e := by
  constructor
  · intro h
    have h2 : S d ++ [] = S e ++ [] := by unfold S; rw [h]
    exact (S_inj e d [] [] he stop_n stop_n h2).1
  · rintro rfl; rfl
theorem plns_map {α : Type} {f : α → D} (h : ∀ a, pln (f a) = true) : ∀ xs : List α, plns (xs.map f) = true
  | [] => rfl
  | x :: xs => by rw [List.map_cons, plns, h x, plns_map h xs]; rfl
theorem pln_T (l : List Int) : pln (T l) = true := by
  unfold T
  rw [pln]
  exact plns_map (fun _ => rfl) l
theorem pln_Ts (Ls : List (List Int)) : pln (.tuple (Ls.map T)) = true := by
  rw [pln]
  exact plns_map pln_T Ls
end PL

namespace Lw
open PySem PySem.Spec PyProof.Rows L2 DL
def topS (i : Nat) : Stmt := PySem.Challenge.pw_restshares_k01_schemas_checked.main.body.getD i (.Pass ⟨0, 0, 0, 0⟩)
abbrev s_law_begun : Stmt := topS 21
abbrev N_law_begun : List Str := ["_law_script", "_law_mixed", "_law_k", "_law_cell"]
theorem sc_law_begun : FnScope N_law_begun ["_law_script"] (defScope s_law_begun) := ⟨rfl, rfl, rfl, by decide +kernel, rfl, by decide +kernel, by decide +kernel⟩
abbrev s_law_next : Stmt := topS 22
abbrev N_law_next : List Str := ["_law_draw", "_law_below", "_law_great", "_law_at", "_law_found", "_law_mixed"]
theorem sc_law_next : FnScope N_law_next ["_law_draw", "_law_below"] (defScope s_law_next) := ⟨rfl, rfl, rfl, by decide +kernel, rfl, by decide +kernel, by decide +kernel⟩
abbrev s_is_whole : Stmt := topS 13
abbrev N_is_whole : List Str := ["thing", "least", "most"]
theorem sc_is_whole : FnScope N_is_whole ["thing", "least", "most"] (defScope s_is_whole) := ⟨rfl, rfl, rfl, by decide +kernel, rfl, by decide +kernel, by decide +kernel⟩
abbrev s_are_ascending : Stmt := topS 14
abbrev N_are_ascending : List Str := ["items", "one", "other"]
theorem sc_are_ascending : FnScope N_are_ascending ["items"] (defScope s_are_ascending) := ⟨rfl, rfl, rfl, by decide +kernel, rfl, by decide +kernel, by decide +kernel⟩
abbrev s_is_lot_of : Stmt := topS 15
abbrev N_is_lot_of : List Str := ["wide", "thing", "column"]
theorem sc_is_lot_of : FnScope N_is_lot_of ["wide", "thing"] (defScope s_is_lot_of) := ⟨rfl, rfl, rfl, by decide +kernel, rfl, by decide +kernel, by decide +kernel⟩
abbrev s_is_rule : Stmt := topS 16
abbrev N_is_rule : List Str := ["wide", "thing", "lot"]
theorem sc_is_rule : FnScope N_is_rule ["wide", "thing"] (defScope s_is_rule) := ⟨rfl, rfl, rfl, by decide +kernel, rfl, by decide +kernel, by decide +kernel⟩
abbrev s_schema_fault : Stmt := topS 17
abbrev N_schema_fault : List Str := ["thing", "number", "rule"]
theorem sc_schema_fault : FnScope N_schema_fault ["thing"] (defScope s_schema_fault) := ⟨rfl, rfl, rfl, by decide +kernel, rfl, by decide +kernel, by decide +kernel⟩
abbrev s_need_schema : Stmt := topS 18
abbrev N_need_schema : List Str := ["thing", "place"]
theorem sc_need_schema : FnScope N_need_schema ["thing"] (defScope s_need_schema) := ⟨rfl, rfl, rfl, by decide +kernel, rfl, by decide +kernel, by decide +kernel⟩
abbrev s_is_lot : Stmt := topS 19
abbrev N_is_lot : List Str := ["schema", "thing"]
theorem sc_is_lot : FnScope N_is_lot ["schema", "thing"] (defScope s_is_lot) := ⟨rfl, rfl, rfl, by decide +kernel, rfl, by decide +kernel, by decide +kernel⟩
abbrev s_law_among : Stmt := topS 23
abbrev N_law_among : List Str := ["_law_draw", "_law_some"]
theorem sc_law_among : FnScope N_law_among ["_law_draw", "_law_some"] (defScope s_law_among) := ⟨rfl, rfl, rfl, by decide +kernel, rfl, by decide +kernel, by decide +kernel⟩
abbrev s_law_lots : Stmt := topS 24
abbrev N_law_lots : List Str := ["_law_columns", "_law_found", "_law_column", "_law_one"]
theorem sc_law_lots : FnScope N_law_lots ["_law_columns"] (defScope s_law_lots) := ⟨rfl, rfl, rfl, by decide +kernel, rfl, by decide +kernel, by decide +kernel⟩
abbrev s_law_lot : Stmt := topS 25
abbrev N_law_lot : List Str := ["_law_draw", "_law_wide", "_law_odds", "_law_column"]
theorem sc_law_lot : FnScope N_law_lot ["_law_draw", "_law_wide", "_law_odds"] (defScope s_law_lot) := ⟨rfl, rfl, rfl, by decide +kernel, rfl, by decide +kernel, by decide +kernel⟩
abbrev s_law_schema : Stmt := topS 26
abbrev N_law_schema : List Str := ["_law_draw", "_law_wide", "_law_most", "_law_found", "_law_turn"]
theorem sc_law_schema : FnScope N_law_schema ["_law_draw", "_law_wide", "_law_most"] (defScope s_law_schema) := ⟨rfl, rfl, rfl, by decide +kernel, rfl, by decide +kernel, by decide +kernel⟩
abbrev s_law_refusal : Stmt := topS 28
abbrev N_law_refusal : List Str := ["_law_error", "_law_some", "_law_words", "_law_word", "_law_holds"]
theorem sc_law_refusal : FnScope N_law_refusal ["_law_error"] (defScope s_law_refusal) := ⟨rfl, rfl, rfl, by decide +kernel, rfl, by decide +kernel, by decide +kernel⟩
abbrev s_law_told : Stmt := topS 27
abbrev N_law_told : List Str := ["_law_call", "_law_found", "_law_error", "e"]
theorem sc_law_told : FnScope N_law_told ["_law_call"] (defScope s_law_told) := ⟨rfl, rfl, rfl, by decide +kernel, rfl, by decide +kernel, by decide +kernel⟩
abbrev s_law_is_whole : Stmt := topS 29
abbrev N_law_is_whole : List Str := ["_law_thing", "_law_least", "_law_most"]
theorem sc_law_is_whole : FnScope N_law_is_whole ["_law_thing", "_law_least", "_law_most"] (defScope s_law_is_whole) := ⟨rfl, rfl, rfl, by decide +kernel, rfl, by decide +kernel, by decide +kernel⟩
abbrev s_law_is_lot_so : Stmt := topS 30
abbrev N_law_is_lot_so : List Str := ["_law_thing", "_law_wide", "_law_one", "_law_far"]
theorem sc_law_is_lot_so : FnScope N_law_is_lot_so ["_law_thing", "_law_wide"] (defScope s_law_is_lot_so) := ⟨rfl, rfl, rfl, by decide +kernel, rfl, by decide +kernel, by decide +kernel⟩
abbrev s_law_is_rule : Stmt := topS 31
abbrev N_law_is_rule : List Str := ["_law_thing", "_law_wide"]
theorem sc_law_is_rule : FnScope N_law_is_rule ["_law_thing", "_law_wide"] (defScope s_law_is_rule) := ⟨rfl, rfl, rfl, by decide +kernel, rfl, by decide +kernel, by decide +kernel⟩
abbrev s_law_wrong : Stmt := topS 32
abbrev N_law_wrong : List Str := ["_law_thing", "_law_at", "_law_one"]
theorem sc_law_wrong : FnScope N_law_wrong ["_law_thing"] (defScope s_law_wrong) := ⟨rfl, rfl, rfl, by decide +kernel, rfl, by decide +kernel, by decide +kernel⟩
abbrev s_law_bent : Stmt := topS 33
abbrev N_law_bent : List Str := ["_law_draw", "_law_thing", "_law_some", "_law_at", "_law_way"]
theorem sc_law_bent : FnScope N_law_bent ["_law_draw", "_law_thing"] (defScope s_law_bent) := ⟨rfl, rfl, rfl, by decide +kernel, rfl, by decide +kernel, by decide +kernel⟩
abbrev s_law_is_read : Stmt := topS 34
abbrev N_law_is_read : List Str := ["_law_thing", "_law_kept", "_law_wrong_here", "_law_due", "_law_heard"]
theorem sc_law_is_read : FnScope N_law_is_read ["_law_thing"] (defScope s_law_is_read) := ⟨rfl, rfl, rfl, by decide +kernel, rfl, by decide +kernel, by decide +kernel⟩
abbrev s_law_lots_right : Stmt := topS 35
abbrev N_law_lots_right : List Str := ["_law_draw", "_law_plan", "_law_odd", "_law_things", "_law_turn", "_law_thing", "_law_kept", "_law_due", "_law_wrong_here"]
theorem sc_law_lots_right : FnScope N_law_lots_right ["_law_draw", "_law_plan", "_law_odd"] (defScope s_law_lots_right) := ⟨rfl, rfl, rfl, by decide +kernel, rfl, by decide +kernel, by decide +kernel⟩
abbrev s_law_by_hand_right : Stmt := topS 36
abbrev N_law_by_hand_right : List Str := ["_law_lots_here", "_law_ten", "_law_one", "_law_eleven", "_law_some", "_law_thing", "_law_heard"]
theorem sc_law_by_hand_right : FnScope N_law_by_hand_right [] (defScope s_law_by_hand_right) := ⟨rfl, rfl, rfl, by decide +kernel, rfl, by decide +kernel, by decide +kernel⟩
abbrev s_law : Stmt := topS 37
abbrev N_law : List Str := ["_law_script", "_law_draw", "_law_turn", "_law_plan", "_law_things", "_law_k", "_law_thing"]
theorem sc_law : FnScope N_law ["_law_script"] (defScope s_law) := ⟨rfl, rfl, rfl, by decide +kernel, rfl, by decide +kernel, by decide +kernel⟩
/-- the built-ins are not hidden, the constants stand -/
structure Bl (mg : Str → Option Value) : Prop where
  b_all : mg "all" = none
  b_bool : mg "bool" = none
  b_enumerate : mg "enumerate" = none
  b_int : mg "int" = none
  b_isinstance : mg "isinstance" = none
  b_len : mg "len" = none
  b_list : mg "list" = none
  b_max : mg "max" = none
  b_min : mg "min" = none
  b_range : mg "range" = none
  b_repr : mg "repr" = none
  b_set : mg "set" = none
  b_sorted : mg "sorted" = none
  b_tuple : mg "tuple" = none
  b_zip : mg "zip" = none
  c_MOST_RULES : ∃ t, mg "MOST_RULES" = some (.int (10) t)
  c_MOST_WIDE : ∃ t, mg "MOST_WIDE" = some (.int (6) t)
structure Df (K : PySem.W.Frag) (mg : Str → Option Value) : Prop where
  d_law_begun : DefIn K mg "_law_begun" s_law_begun ["_law_script"]
  d_law_next : DefIn K mg "_law_next" s_law_next ["_law_draw", "_law_below"]
  d_is_whole : DefIn K mg "is_whole" s_is_whole ["thing", "least", "most"]
  d_are_ascending : DefIn K mg "are_ascending" s_are_ascending ["items"]
  d_is_lot_of : DefIn K mg "is_lot_of" s_is_lot_of ["wide", "thing"]
  d_is_rule : DefIn K mg "is_rule" s_is_rule ["wide", "thing"]
  d_schema_fault : DefIn K mg "schema_fault" s_schema_fault ["thing"]
  d_need_schema : DefIn K mg "need_schema" s_need_schema ["thing"]
  d_is_lot : DefIn K mg "is_lot" s_is_lot ["schema", "thing"]
  d_law_among : DefIn K mg "_law_among" s_law_among ["_law_draw", "_law_some"]
  d_law_lots : DefIn K mg "_law_lots" s_law_lots ["_law_columns"]
  d_law_lot : DefIn K mg "_law_lot" s_law_lot ["_law_draw", "_law_wide", "_law_odds"]
  d_law_schema : DefIn K mg "_law_schema" s_law_schema ["_law_draw", "_law_wide", "_law_most"]
  d_law_told : DefIn K mg "_law_told" s_law_told ["_law_call"]
  d_law_refusal : DefIn K mg "_law_refusal" s_law_refusal ["_law_error"]
  d_law_is_whole : DefIn K mg "_law_is_whole" s_law_is_whole ["_law_thing", "_law_least", "_law_most"]
  d_law_is_lot_so : DefIn K mg "_law_is_lot_so" s_law_is_lot_so ["_law_thing", "_law_wide"]
  d_law_is_rule : DefIn K mg "_law_is_rule" s_law_is_rule ["_law_thing", "_law_wide"]
  d_law_wrong : DefIn K mg "_law_wrong" s_law_wrong ["_law_thing"]
  d_law_bent : DefIn K mg "_law_bent" s_law_bent ["_law_draw", "_law_thing"]
  d_law_is_read : DefIn K mg "_law_is_read" s_law_is_read ["_law_thing"]
  d_law_lots_right : DefIn K mg "_law_lots_right" s_law_lots_right ["_law_draw", "_law_plan", "_law_odd"]
  d_law_by_hand_right : DefIn K mg "_law_by_hand_right" s_law_by_hand_right []
structure ErrC (P : Program) (K : PySem.W.Frag) (mg : Str → Option Value) : Prop where
  c_BadSchema : ClsIn P K mg "BadSchema" "place"
def toldNames : List Str := ["BadSchema"]
abbrev okN : Str → Prop := (· ∈ toldNames)
structure Lm (K : PySem.W.Frag) (mg : Str → Option Value) (base : Heap) : Prop where
  l_law_is_read : ∃ c P, LamAt K mg base "_law_is_read" c P
  l_law_lots_right : ∃ c P, LamAt K mg base "_law_lots_right" c P
  l_law_by_hand_right : ∃ c P, LamAt K mg base "_law_by_hand_right" c P
def t_is_whole : SD := sSeq (sIf (bOr (bNot (bVal (dIsi "int" (dV 0)))) (bVal (dIsi "bool" (dV 0)))) (sRet (dK (.bool false))) (sNext))
    (sRet (dAnd (dOr (dOp (oIs false) (dV 1) (dK .none)) (dOp (oGe2) (dV 0) (dV 1))) (dOr (dOp (oIs false) (dV 2) (dK .none)) (dOp (oLe2) (dV 0) (dV 2)))))
def w_is_whole : FT := bodyD 3 3 t_is_whole
set_option synthInstance.maxHeartbeats 1000000 in
set_option synthInstance.maxSize 100000 in
instance det_is_whole : DF w_is_whole := @df_body _ _ t_is_whole (by unfold t_is_whole; infer_instance)
def t_are_ascending : SD := sRet (dCall fAll (aCons (dNew (nComp [1, 2] (iZip2 (aCons (dV 0) (aCons (dSl (dV 0) (oSome (dK (.int 1))) (oNone)) (aNil)))) (gT (gCons' (gN 1) (gCons' (gN 2) (gNil')))) (bYes) (dOp (oLt) (dV 1) (dV 2)))) (aNil)))
def w_are_ascending : FT := bodyD 1 3 t_are_ascending
set_option synthInstance.maxHeartbeats 1000000 in
set_option synthInstance.maxSize 100000 in
instance det_are_ascending : DF w_are_ascending := @df_body _ _ t_are_ascending (by unfold t_are_ascending; infer_instance)
def t_is_lot_of : SD := sSeq (sIf (bOr (bNot (bVal (dIsi "tuple" (dV 1)))) (bNot (bVal (dCall fAll (aCons (dNew (nComp [2] (iSeq (dV 1)) (gN 2) (bYes) (dCallF w_is_whole (cCons (dV 2) (cCons (dK (.int 0)) (cCons (dOp oSub (dV 0) (dK (.int 1))) (cNil))))))) (aNil)))))) (sRet (dK (.bool false))) (sNext))
    (sRet (dCallF w_are_ascending (cCons (dV 1) (cNil))))
def w_is_lot_of : FT := bodyD 2 3 t_is_lot_of
set_option synthInstance.maxHeartbeats 1000000 in
set_option synthInstance.maxSize 100000 in
instance det_is_lot_of : DF w_is_lot_of := @df_body _ _ t_is_lot_of (by unfold t_is_lot_of; infer_instance)
def t_is_rule : SD := sRet (dAnd (dIsi "tuple" (dV 1)) (dAnd (dOp (oEq) (dCall fLen (aCons (dV 1) (aNil))) (dK (.int 2))) (dCall fAll (aCons (dNew (nComp [2] (iSeq (dV 1)) (gN 2) (bYes) (dCallF w_is_lot_of (cCons (dV 0) (cCons (dV 2) (cNil)))))) (aNil)))))
def w_is_rule : FT := bodyD 2 3 t_is_rule
set_option synthInstance.maxHeartbeats 1000000 in
set_option synthInstance.maxSize 100000 in
instance det_is_rule : DF w_is_rule := @df_body _ _ t_is_rule (by unfold t_is_rule; infer_instance)
def t_schema_fault : SD := sSeq (sIf (bOr (bNot (bVal (dIsi "tuple" (dV 0)))) (bVal (dOp (oNe) (dCall fLen (aCons (dV 0) (aNil))) (dK (.int 2))))) (sRet (dTup (aNil))) (sNext))
    (sSeq (sIf (bNot (bVal (dCallF w_is_whole (cCons (dOp oIx (dV 0) (dK (.int 0))) (cCons (dK (.int 1)) (cCons (dK (.int 6)) (cNil))))))) (sRet (dTup (aCons (dK (.str "wide")) (aNil)))) (sNext))
    (sSeq (sIf (bOr (bNot (bVal (dIsi "tuple" (dOp oIx (dV 0) (dK (.int 1)))))) (bVal (dOp (oGt2) (dCall fLen (aCons (dOp oIx (dV 0) (dK (.int 1))) (aNil))) (dK (.int 10))))) (sRet (dTup (aCons (dK (.str "rules")) (aNil)))) (sNext))
    (sSeq (sFor (iEnum1 (dOp oIx (dV 0) (dK (.int 1)))) (gT (gCons' (gN 1) (gCons' (gN 2) (gNil')))) (sIf (bOr (bNot (bVal (dCallF w_is_rule (cCons (dOp oIx (dV 0) (dK (.int 0))) (cCons (dV 2) (cNil)))))) (bAnd (bVal (dOp (oGt2) (dV 1) (dK (.int 0)))) (bVal (dOp (oGe2) (dOp oIx (dOp oIx (dV 0) (dK (.int 1))) (dOp oSub (dV 1) (dK (.int 1)))) (dV 2))))) (sRet (dTup (aCons (dK (.str "rule")) (aCons (dV 1) (aNil))))) (sNext)))
    (sRet (dK .none)))))
def w_schema_fault : FT := bodyD 1 3 t_schema_fault
set_option synthInstance.maxHeartbeats 1000000 in
set_option synthInstance.maxSize 100000 in
instance det_schema_fault : DF w_schema_fault := @df_body _ _ t_schema_fault (by unfold t_schema_fault; infer_instance)
def t_need_schema : SD := sSeq (sSet 1 (dCallF w_schema_fault (cCons (dV 0) (cNil))))
    (sSeq (sIf (bVal (dOp (oIs true) (dV 1) (dK .none))) (sRaise "BadSchema" "place" (dV 1)) (sNext))
    (sRet (dV 0)))
def w_need_schema : FT := bodyD 1 2 t_need_schema
def t_is_lot : SD := sRet (dCallF w_is_lot_of (cCons (dOp oIx (dCallE w_need_schema (cCons (dV 0) (cNil))) (dK (.int 0))) (cCons (dV 1) (cNil))))
def w_is_lot : FT := bodyD 2 2 t_is_lot
def t_law_among : SD := sRet (dOp oIx (dV 1) (dCallF w_next (cDrw 0 (cCons (dCall fLen (aCons (dV 1) (aNil))) (cNil)))))
def w_law_among : FT := bodyD 2 2 t_law_among
def t_law_lots : SD := sSeq (sSet 1 (dNew (nLst (aCons (dTup (aNil)) (aNil)))))
    (sSeq (sFor (iSeq (dV 0)) (gN 2) (sSet 1 (dOp oAdd (dV 1) (dNew (nComp [3] (iSeq (dV 1)) (gN 3) (bYes) (dOp oAdd (dV 3) (dTup (aCons (dV 2) (aNil)))))))))
    (sRet (dNew (nCall fSorted (aCons (dV 1) (aNil))))))
def w_law_lots : FT := bodyD 1 4 t_law_lots
def t_law_lot : SD := sRet (dCall fTuple (aCons (dNew (nComp [3] (iRange1 (aCons (dV 1) (aNil))) (gN 3) (bVal (dOp (oEq) (dCallF w_next (cDrw 0 (cCons (dV 2) (cNil)))) (dK (.int 0)))) (dV 3))) (aNil)))
def w_law_lot : FT := bodyD 3 4 t_law_lot
def t_law_schema : SD := sSeq (sOwn 3 (nLst (aNil)))
    (sSeq (sFor (iRange1 (aCons (dCallF w_next (cDrw 0 (cCons (dOp oAdd (dV 2) (dK (.int 1))) (cNil)))) (aNil))) (gN 4) (sApp 3 (dTup (aCons (dCallF w_law_lot (cDrw 0 (cCons (dV 1) (cCons (dCallF w_law_among (cDrw 0 (cCons (dNew (nLst (aCons (dK (.int 2)) (aCons (dK (.int 3)) (aCons (dK (.int 3)) (aNil)))))) (cNil)))) (cNil))))) (aCons (dCallF w_law_lot (cDrw 0 (cCons (dV 1) (cCons (dK (.int 3)) (cNil))))) (aNil))))))
    (sRet (dTup (aCons (dV 1) (aCons (dCall fTuple (aCons (dNew (nSortSet (dV 3))) (aNil))) (aNil))))))
def w_law_schema : FT := bodyD 3 5 t_law_schema
def t_law_refusal (a dx : Addr) (nm : Str) : SD := sSeq (sSet 1 (dNew (nLst (aCons (dTup (aCons (dK (.str "schema")) (aCons (dIsE 0 a dx (("BadSchema" : Str) == nm)) (aNil)))) (aCons (dTup (aCons (dK (.str "store")) (aCons (dIsE 0 a dx (("BadStore" : Str) == nm)) (aNil)))) (aNil))))))
    (sSeq (sSet 1 (dOp oAdd (dV 1) (dNew (nLst (aCons (dTup (aCons (dK (.str "lot")) (aCons (dIsE 0 a dx (("BadLot" : Str) == nm)) (aNil)))) (aCons (dTup (aCons (dK (.str "column")) (aCons (dIsE 0 a dx (("BadColumn" : Str) == nm)) (aNil)))) (aNil)))))))
    (sSeq (sSet 1 (dOp oAdd (dV 1) (dNew (nLst (aCons (dTup (aCons (dK (.str "cell")) (aCons (dIsE 0 a dx (("BadCell" : Str) == nm)) (aNil)))) (aCons (dTup (aCons (dK (.str "number")) (aCons (dIsE 0 a dx (("BadNumber" : Str) == nm)) (aNil)))) (aNil)))))))
    (sSeq (sSet 1 (dOp oAdd (dV 1) (dNew (nLst (aCons (dTup (aCons (dK (.str "paper")) (aCons (dIsE 0 a dx (("BadPaper" : Str) == nm)) (aNil)))) (aCons (dTup (aCons (dK (.str "many")) (aCons (dIsE 0 a dx (("TooMany" : Str) == nm)) (aNil)))) (aNil)))))))
    (sSeq (sNew 2 (nComp [3, 4] (iSeq (dV 1)) (gT (gCons' (gN 3) (gCons' (gN 4) (gNil')))) (bVal (dV 4)) (dV 3)))
    (sSeq (sIf (bVal (dOp (oNe) (dCall fLen (aCons (dV 2) (aNil))) (dK (.int 1)))) (sRet (dTup (aCons (dK (.str "other")) (aNil)))) (sNext))
    (sSeq (sIf (bVal (dOp (oIn false) (dOp oIx (dV 2) (dK (.int 0))) (dTup (aCons (dK (.str "schema")) (aCons (dK (.str "store")) (aNil)))))) (sRet (dTup (aCons (dOp oIx (dV 2) (dK (.int 0))) (aCons (dFldE 0 a dx "place") (aNil))))) (sNext))
    (sSeq (sIf (bVal (dOp (oIn false) (dOp oIx (dV 2) (dK (.int 0))) (dTup (aCons (dK (.str "lot")) (aCons (dK (.str "column")) (aCons (dK (.str "cell")) (aCons (dK (.str "number")) (aNil)))))))) (sRet (dTup (aCons (dOp oIx (dV 2) (dK (.int 0))) (aCons (dFldE 0 a dx "value") (aNil))))) (sNext))
    (sRet (dTup (aCons (dOp oIx (dV 2) (dK (.int 0))) (aCons (dIf (bVal (dOp (oEq) (dOp oIx (dV 2) (dK (.int 0))) (dK (.str "paper")))) (dFldE 0 a dx "word") (dFldE 0 a dx "most")) (aNil))))))))))))
def t_law_is_whole : SD := sRet (dAnd (dIsi "int" (dV 0)) (dAnd (dNot (dIsi "bool" (dV 0))) (dChain (oLe2) (oLe2) (dV 1) (dV 0) (dV 2))))
def w_law_is_whole : FT := bodyD 3 3 t_law_is_whole
def t_law_is_lot_so : SD := sSeq (sIf (bOr (bNot (bVal (dIsi "tuple" (dV 0)))) (bVal (dOp (oNeL0) (dNew (nComp [2] (iSeq (dV 0)) (gN 2) (bNot (bVal (dCallF w_law_is_whole (cCons (dV 2) (cCons (dK (.int 0)) (cCons (dOp oSub (dV 1) (dK (.int 1))) (cNil))))))) (dV 2))) (dNew (nLst (aNil)))))) (sRet (dK (.bool false))) (sNext))
    (sRet (dOp (oEq) (dNew (nComp [2, 3] (iZip2 (aCons (dV 0) (aCons (dSl (dV 0) (oSome (dK (.int 1))) (oNone)) (aNil)))) (gT (gCons' (gN 2) (gCons' (gN 3) (gNil')))) (bVal (dOp (oGe2) (dV 2) (dV 3))) (dK (.int 1)))) (dNew (nLst (aNil)))))
def w_law_is_lot_so : FT := bodyD 2 4 t_law_is_lot_so
def t_law_is_rule : SD := sSeq (sIf (bOr (bNot (bVal (dIsi "tuple" (dV 0)))) (bVal (dOp (oNe) (dCall fLen (aCons (dV 0) (aNil))) (dK (.int 2))))) (sRet (dK (.bool false))) (sNext))
    (sRet (dAnd (dCallF w_law_is_lot_so (cCons (dOp oIx (dV 0) (dK (.int 0))) (cCons (dV 1) (cNil)))) (dCallF w_law_is_lot_so (cCons (dOp oIx (dV 0) (dK (.int 1))) (cCons (dV 1) (cNil))))))
def w_law_is_rule : FT := bodyD 2 2 t_law_is_rule
def t_law_wrong : SD := sSeq (sIf (bOr (bNot (bVal (dIsi "tuple" (dV 0)))) (bVal (dOp (oNe) (dCall fLen (aCons (dV 0) (aNil))) (dK (.int 2))))) (sRet (dNew (nLst (aCons (dTup (aNil)) (aNil))))) (sNext))
    (sSeq (sIf (bNot (bVal (dCallF w_law_is_whole (cCons (dOp oIx (dV 0) (dK (.int 0))) (cCons (dK (.int 1)) (cCons (dK (.int 6)) (cNil))))))) (sRet (dNew (nLst (aCons (dTup (aCons (dK (.str "wide")) (aNil))) (aNil))))) (sNext))
    (sSeq (sIf (bOr (bNot (bVal (dIsi "tuple" (dOp oIx (dV 0) (dK (.int 1)))))) (bVal (dOp (oGt2) (dCall fLen (aCons (dOp oIx (dV 0) (dK (.int 1))) (aNil))) (dK (.int 10))))) (sRet (dNew (nLst (aCons (dTup (aCons (dK (.str "rules")) (aNil))) (aNil))))) (sNext))
    (sSeq (sFor (iEnum1 (dOp oIx (dV 0) (dK (.int 1)))) (gT (gCons' (gN 1) (gCons' (gN 2) (gNil')))) (sIf (bOr (bNot (bVal (dCallF w_law_is_rule (cCons (dV 2) (cCons (dOp oIx (dV 0) (dK (.int 0))) (cNil)))))) (bAnd (bVal (dOp (oGt2) (dV 1) (dK (.int 0)))) (bVal (dOp (oLe2) (dV 2) (dOp oIx (dOp oIx (dV 0) (dK (.int 1))) (dOp oSub (dV 1) (dK (.int 1)))))))) (sRet (dNew (nLst (aCons (dTup (aCons (dK (.str "rule")) (aCons (dV 1) (aNil)))) (aNil))))) (sNext)))
    (sRet (dNew (nLst (aNil)))))))
def w_law_wrong : FT := bodyD 1 3 t_law_wrong
def tR_law_bent (w_law_bent : FT) : SD := sSeq (sIf (bOr (bNot (bVal (dIsi "tuple" (dV 1)))) (bOr (bVal (dOp (oEqT0) (dV 1) (dTup (aNil)))) (bVal (dOp (oEq) (dCallF w_next (cDrw 0 (cCons (dK (.int 6)) (cNil)))) (dK (.int 0)))))) (sSeq (sSet 2 (dNew (nLst (aCons (dK .none) (aCons (dK (.bool true)) (aCons (dK (.bool false)) (aCons (dK (.int 0)) (aCons (dK (.int 1)) (aCons (dK (.int 2)) (aCons (dK (.int 5)) (aCons (dK (.int 6)) (aCons (dK (.int 7)) (aCons (oNeg (dK (.int 1))) (aCons (dK (.str "0")) (aCons (dK (.str "")) (aCons (dTup (aNil)) (aCons (dTup (aCons (dK (.int 0)) (aNil))) (aCons (dTup (aCons (dK (.int 1)) (aCons (dK (.int 0)) (aNil)))) (aCons (dTup (aCons (dK (.int 0)) (aCons (dK (.int 0)) (aNil)))) (aCons (dNew (nLst (aCons (dK (.int 0)) (aNil)))) (aCons (dDict0) (aCons (dTup (aCons (dTup (aNil)) (aCons (dTup (aNil)) (aNil)))) (aCons (dOp oPow (dK (.int 10)) (dK (.int 29))) (aNil))))))))))))))))))))))))
    (sRet (dCallF w_law_among (cDrw 0 (cCons (dV 2) (cNil)))))) (sNext))
    (sSeq (sPar 3 4 (dCallF w_next (cDrw 0 (cCons (dCall fLen (aCons (dV 1) (aNil))) (cNil)))) (dCallF w_next (cDrw 0 (cCons (dK (.int 9)) (cNil)))))
    (sSeq (sIf (bVal (dOp (oEq) (dV 4) (dK (.int 0)))) (sRet (dOp oAdd (dSl (dV 1) (oNone) (oSome (dV 3))) (dSl (dV 1) (oSome (dOp oAdd (dV 3) (dK (.int 1)))) (oNone)))) (sNext))
    (sSeq (sIf (bVal (dOp (oEq) (dV 4) (dK (.int 1)))) (sRet (dOp oAdd (dOp oAdd (dSl (dV 1) (oNone) (oSome (dV 3))) (dSl (dV 1) (oSome (dV 3)) (oSome (dOp oAdd (dV 3) (dK (.int 1)))))) (dSl (dV 1) (oSome (dV 3)) (oNone)))) (sNext))
    (sSeq (sIf (bVal (dOp (oEq) (dV 4) (dK (.int 2)))) (sRet (dNew (nCall fList (aCons (dV 1) (aNil))))) (sNext))
    (sSeq (sIf (bVal (dOp (oEq) (dV 4) (dK (.int 3)))) (sRet (dRev (dV 1))) (sNext))
    (sRet (dOp oAdd (dOp oAdd (dSl (dV 1) (oNone) (oSome (dV 3))) (dTup (aCons (dCallF w_law_bent (cDrw 0 (cCons (dOp oIx (dV 1) (dV 3)) (cNil)))) (aNil)))) (dSl (dV 1) (oSome (dOp oAdd (dV 3) (dK (.int 1)))) (oNone)))))))))
def wR_law_bent : Nat → FT
  | 0 => fNone
  | n + 1 => bodyD 2 5 (tR_law_bent (wR_law_bent n))
def w_law_bent : FT := wR_law_bent 8
def t_law_is_read : SD := sSeq (sPar 1 2 (dCall fReprD (aCons (dV 0) (aNil))) (dCallF w_law_wrong (cCons (dV 0) (cNil))))
    (sSeq (sSet 3 (dIf (bVal (dOp (oEq) (dV 2) (dNew (nLst (aNil))))) (dNew (nLst (aCons (dV 0) (aNil)))) (dTup (aCons (dK (.str "schema")) (aCons (dOp oIx (dV 2) (dK (.int 0))) (aNil))))))
    (sSeq (sSet 4 (dNew (nLst (aCons (dTold' t_law_refusal 4 okN (dCallE w_need_schema (cCons (dV 0) (cNil)))) (aCons (dTold' t_law_refusal 4 okN (dCallE w_need_schema (cCons (dV 0) (cNil)))) (aNil))))))
    (sRet (dAnd (dOp (oEq) (dCall fReprD (aCons (dV 4) (aNil))) (dCall fReprD (aCons (dNew (nLst (aCons (dV 3) (aCons (dV 3) (aNil))))) (aNil)))) (dOp (oEq) (dCall fReprD (aCons (dV 0) (aNil))) (dV 1))))))
def w_law_is_read : FT := bodyD 1 5 t_law_is_read
def t_law_lots_right : SD := sSeq (sSet 3 (dOp oAdd (dSl (dCallF w_law_lots (cCons (dNew (nRg (gRg1 (dOp oIx (dV 1) (dK (.int 0)))))) (cNil))) (oNone) (oSome (dK (.int 20)))) (dNew (nComp [4] (iRange1 (aCons (dK (.int 12)) (aNil))) (gN 4) (bYes) (dCallF w_law_bent (cDrw 0 (cCons (dCallF w_law_lot (cDrw 0 (cCons (dOp oIx (dV 1) (dK (.int 0))) (cCons (dK (.int 2)) (cNil))))) (cNil))))))))
    (sSeq (sFor (iSeq (dOp oAdd (dV 3) (dNew (nLst (aCons (dK .none) (aCons (dNew (nLst (aNil))) (aCons (dTup (aCons (dK (.bool true)) (aNil))) (aCons (dTup (aCons (dK (.str "0")) (aNil))) (aCons (dTup (aCons (dK .none) (aNil))) (aCons (dTup (aCons (dK (.int 0)) (aCons (dOp oIx (dV 1) (dK (.int 0))) (aNil)))) (aCons (dTup (aCons (dOp oIx (dV 1) (dK (.int 0))) (aNil))) (aCons (dTup (aCons (oNeg (dK (.int 1))) (aNil))) (aCons (dTup (aCons (dNew (nLst (aNil))) (aNil))) (aCons (dDict0) (aCons (dK (.int 0)) (aCons (dK (.str "01")) (aNil))))))))))))))))) (gN 5) (sSeq (sPar 6 7 (dCall fReprD (aCons (dV 5) (aNil))) (dCallF w_law_is_lot_so (cCons (dV 5) (cCons (dOp oIx (dV 1) (dK (.int 0))) (cNil)))))
    (sSeq (sIf (bOr (bVal (dOp (oNe) (dCall fReprD (aCons (dNew (nLst (aCons (dCallE w_is_lot (cCons (dV 1) (cCons (dV 5) (cNil)))) (aCons (dCallE w_is_lot (cCons (dV 1) (cCons (dV 5) (cNil)))) (aNil))))) (aNil))) (dCall fReprD (aCons (dNew (nLst (aCons (dV 7) (aCons (dV 7) (aNil))))) (aNil))))) (bVal (dOp (oNe) (dCall fReprD (aCons (dV 5) (aNil))) (dV 6)))) (sRet (dK (.bool false))) (sNext))
    (sSeq (sSet 8 (dCallF w_law_wrong (cCons (dV 2) (cNil))))
    (sIf (bAnd (bVal (dOp (oNe) (dV 8) (dNew (nLst (aNil))))) (bVal (dOp (oNe) (dTold' t_law_refusal 4 okN (dCallE w_is_lot (cCons (dV 2) (cCons (dV 5) (cNil))))) (dTup (aCons (dK (.str "schema")) (aCons (dOp oIx (dV 8) (dK (.int 0))) (aNil))))))) (sRet (dK (.bool false))) (sNext))))))
    (sRet (dK (.bool true))))
def w_law_lots_right : FT := bodyD 3 9 t_law_lots_right
def t_law_by_hand_right : SD := sSeq (sSet 0 (dCallF w_law_lots (cCons (dNew (nRg (gRg1 (dK (.int 6))))) (cNil))))
    (sSeq (sSet 1 (dCall fTuple (aCons (dNew (nComp [2] (iSeq (dSl (dV 0) (oNone) (oSome (dK (.int 10))))) (gN 2) (bYes) (dTup (aCons (dV 2) (aCons (dTupRg (gRg1 (dK (.int 6)))) (aNil)))))) (aNil))))
    (sSeq (sSet 3 (dCall fTuple (aCons (dNew (nComp [2] (iSeq (dSl (dV 0) (oNone) (oSome (dK (.int 11))))) (gN 2) (bYes) (dTup (aCons (dV 2) (aCons (dTup (aNil)) (aNil)))))) (aNil))))
    (sSeq (sSet 4 (dNew (nLst (aCons (dTup (aCons (dK (.int 6)) (aCons (dV 1) (aNil)))) (aCons (dTup (aCons (dK (.int 1)) (aCons (dTup (aNil)) (aNil)))) (aCons (dTup (aCons (dK (.int 1)) (aCons (dTup (aCons (dTup (aCons (dTup (aNil)) (aCons (dTup (aNil)) (aNil)))) (aNil))) (aNil)))) (aCons (dTup (aCons (dK (.int 6)) (aCons (dV 3) (aNil)))) (aCons (dTup (aCons (dK (.int 6)) (aCons (dRev (dV 1)) (aNil)))) (aCons (dTup (aCons (dK (.int 6)) (aCons (dOp oAdd (dSl (dV 1) (oNone) (oSome (dK (.int 3)))) (dSl (dV 1) (oSome (dK (.int 2))) (oSome (dK (.int 5))))) (aNil)))) (aCons (dTup (aCons (dK (.int 7)) (aCons (dTup (aNil)) (aNil)))) (aCons (dTup (aCons (dK (.int 0)) (aCons (dTup (aNil)) (aNil)))) (aNil))))))))))))
    (sSeq (sSet 4 (dOp oAdd (dV 4) (dNew (nLst (aCons (dTup (aCons (dK (.bool true)) (aCons (dTup (aNil)) (aNil)))) (aCons (dTup (aCons (dK (.int 6)) (aCons (dNew (nCall fList (aCons (dV 1) (aNil)))) (aNil)))) (aCons (dTup (aCons (dK (.int 2)) (aCons (dTup (aCons (dTup (aCons (dTup (aCons (dK (.int 0)) (aNil))) (aCons (dTup (aCons (dK (.int 2)) (aNil))) (aNil)))) (aNil))) (aNil)))) (aCons (dTup (aCons (dK (.int 2)) (aCons (dTup (aCons (dTup (aCons (dTup (aCons (dK (.int 0)) (aCons (dK (.int 1)) (aNil)))) (aCons (dTup (aCons (dK (.int 1)) (aCons (dK (.int 0)) (aNil)))) (aNil)))) (aNil))) (aNil)))) (aCons (dTup (aCons (dK (.int 2)) (aCons (dTup (aCons (dTup (aCons (dK (.int 0)) (aNil))) (aCons (dTup (aCons (dK (.int 1)) (aNil))) (aNil)))) (aNil)))) (aCons (dNew (nLst (aCons (dK (.int 6)) (aCons (dTup (aNil)) (aNil))))) (aNil)))))))))))
    (sSeq (sSet 4 (dOp oAdd (dV 4) (dNew (nLst (aCons (dTup (aCons (dK (.int 3)) (aCons (dTup (aCons (dTup (aCons (dTup (aCons (dK (.int 0)) (aNil))) (aCons (dTup (aCons (dK (.int 1)) (aNil))) (aNil)))) (aCons (dTup (aCons (dTup (aCons (dK (.int 0)) (aNil))) (aCons (dTup (aCons (dK (.int 0)) (aNil))) (aNil)))) (aNil)))) (aNil)))) (aCons (dTup (aCons (dK (.int 3)) (aCons (dTup (aCons (dTup (aCons (dTup (aCons (dK (.int 0)) (aNil))) (aCons (dTup (aNil)) (aNil)))) (aCons (dK .none) (aNil)))) (aNil)))) (aCons (dTup (aCons (dK (.int 3)) (aCons (dTup (aCons (dTup (aCons (dTup (aCons (dNew (nLst (aCons (dK (.int 0)) (aNil)))) (aNil))) (aCons (dTup (aNil)) (aNil)))) (aNil))) (aNil)))) (aCons (dTup (aCons (dK (.int 3)) (aCons (dTup (aNil)) (aNil)))) (aCons (dK .none) (aCons (dTup (aNil)) (aCons (dK (.str "6")) (aNil))))))))))))
    (sSeq (sIf (bOr (bVal (dOp (oNe) (dNew (nComp [5] (iSeq (dV 4)) (gN 5) (bNot (bVal (dCallF w_law_is_read (cCons (dV 5) (cNil))))) (dV 5))) (dNew (nLst (aNil))))) (bVal (dOp (oNe) (dCallE w_need_schema (cCons (dTup (aCons (dK (.int 6)) (aCons (dV 1) (aNil)))) (cNil))) (dTup (aCons (dK (.int 6)) (aCons (dV 1) (aNil))))))) (sRet (dK (.bool false))) (sNext))
    (sSeq (sSet 6 (dNew (nLst (aCons (dTold' t_law_refusal 4 okN (dCallE w_need_schema (cCons (dTup (aCons (dK (.int 6)) (aCons (dV 3) (aNil)))) (cNil)))) (aCons (dTold' t_law_refusal 4 okN (dCallE w_need_schema (cCons (dTup (aCons (dK (.bool true)) (aCons (dK .none) (aNil)))) (cNil)))) (aNil))))))
    (sRet (dAnd (dOp (oEq) (dV 6) (dNew (nLst (aCons (dTup (aCons (dK (.str "schema")) (aCons (dTup (aCons (dK (.str "rules")) (aNil))) (aNil)))) (aCons (dTup (aCons (dK (.str "schema")) (aCons (dTup (aCons (dK (.str "wide")) (aNil))) (aNil)))) (aNil)))))) (dOp (oIsB false) (dCallE w_is_lot (cCons (dTup (aCons (dK (.int 6)) (aCons (dTup (aNil)) (aNil)))) (cCons (dTupRg (gRg1 (dK (.int 6)))) (cNil)))) (dK (.bool true))))))))))))
def w_law_by_hand_right : FT := bodyD 0 7 t_law_by_hand_right
def t_law : SD := sSeq (sFor (iRange1 (aCons (dOp oAdd (dK (.int 2)) (dOp oDiv (dCall fMin2 (aCons (dK (.int 60)) (aCons (lenScr 0) (aNil)))) (dK (.int 20)))) (aNil))) (gN 2) (sSeq (sSet 3 (dCallF w_law_schema (cDrw 1 (cCons (dOp oAdd (dK (.int 1)) (dCallF w_next (cDrw 1 (cCons (dK (.int 6)) (cNil))))) (cCons (dCallF w_law_among (cDrw 1 (cCons (dNew (nLst (aCons (dK (.int 3)) (aCons (dK (.int 10)) (aNil))))) (cNil)))) (cNil))))))
    (sSeq (sSet 4 (dOp oAdd (dNew (nLst (aCons (dV 3) (aNil)))) (dNew (nComp [5] (iRange1 (aCons (dK (.int 30)) (aNil))) (gN 5) (bYes) (dCallF w_law_bent (cDrw 1 (cCons (dV 3) (cNil))))))))
    (sSeq (sSet 4 (dOp oAdd (dV 4) (dNew (nComp [5] (iRange1 (aCons (dK (.int 8)) (aNil))) (gN 5) (bYes) (dCallF w_law_bent (cDrw 1 (cCons (dOp oIx (dV 4) (dOp oAdd (dK (.int 1)) (dV 5))) (cNil))))))))
    (sSeq (sIf (bVal (dOp (oNe) (dNew (nComp [6] (iSeq (dV 4)) (gN 6) (bNot (bVal (dCallF w_law_is_read (cCons (dV 6) (cNil))))) (dV 6))) (dNew (nLst (aNil))))) (sRet (dK (.bool false))) (sNext))
    (sIf (bNot (bVal (dCallF w_law_lots_right (cDrw 1 (cCons (dV 3) (cCons (dCallF w_law_bent (cDrw 1 (cCons (dV 3) (cNil)))) (cNil))))))) (sRet (dK (.bool false))) (sNext)))))))
    (sRet (dCallF w_law_by_hand_right cNil))
section
variable {P : Program} {w : World} {K : PySem.W.Frag} {mg : Str → Option Value} {base : Heap}
theorem ok_law_begun {f : Addr} {fd : FuncData} {k : Nat} (F : Fun K "_law_begun" "_law_begun" s_law_begun f fd) (mlen : mg "len" = none) (menum : mg "enumerate" = none) (mint : mg "int" = none) : FnG P w K mg base CX0 (k + 1) f fd ["_law_script"] (spBegun K) := by
  refine fnG_of F sc_law_begun (fun vs H Q E h => ?_) fun cdv A outer s H vs Q E hg hr h => ?_
  · obtain ⟨a, ns, rfl, _⟩ := h
    rfl
  obtain ⟨a, ns, rfl, hS, hl, q⟩ := h
  refine ⟨_, PSs.nox (pss_cons (ps_set (i := 1) sc_law_begun.nd rfl (.inl rfl) (pe_op op_add pe_int (pe_op op_mul pe_int (pe_callB call_len_seq (by rfl) mlen PySem.boot_len (pa_cons (pv 0) pa_nil)))))
    (pss_cons (ps_for PassesOwn.never rfl (pi_enum (by rfl) menum (pa_cons (pv 0) pa_nil)) (pg_tup rfl (pgs_cons (pg_name (i := 2) sc_law_begun.nd rfl (.inl rfl)) (pgs_cons (pg_name (i := 3) sc_law_begun.nd rfl (.inl rfl)) pgs_nil)))
      (pss_one (ps_set (i := 1) sc_law_begun.nd rfl (.inl rfl) (pe_op op_mod (pe_callTy call_int1 (by rfl) mint (by decide +kernel) (pa_cons (pe_op op_add (pe_op op_add (pe_op op_mul (pv 1) pe_int) (pv 3)) (pe_op op_mul pe_int (pv 2))) pa_nil)) pe_int))))
    (pss_one (ps_ret (pe_disp (pps_cons pe_str (pv 1) (pps_cons pe_str (pe_lc (own := [("_law_cell", 3)]) (g := gName 3) rfl sc_law_begun.nd (pi_list (pv 0)) (blkOk_by (N := N_law_begun) (sc := defScope s_law_begun) (by decide +kernel)) (fun _ _ _ _ _ => pg_name (i := 3) sc_law_begun.nd rfl (Or.inl rfl))
      (fun _ _ _ _ _ => pts_one (pt_cmpR op_ge (pv 3) (pe_op op_pow pe_int pe_int) (nomark _))) (fun _ _ _ _ _ => pv 3)) (pps_cons pe_str pe_int pps_nil))) rfl rfl (by decide) (by decide)))))), ?_⟩
  refine ⟨.ref a, rfl, a, ns.map V.int, rfl, .inl hS, _, _, rfl, rfl, .inl ⟨by decide, by decide⟩, _, _, rfl, rfl, ?_⟩
  refine ⟨.ref a, rfl, a, ns.map V.int, rfl, hS, for_it (walk_enum (xs := ns.map V.int)) (fun i σ H' => ∃ m x2 x3, σ = [some (.ref a), some (.int m), x2, x3] ∧ Same H H' ∧ 0 ≤ m ∧ m < bigM) ⟨_, none, none, rfl, .refl H, ?_, ?_⟩ ?_ ?_ ?_⟩
  · rw [List.length_map]; omega
  · rw [List.length_map]; unfold bigM; omega
  · rintro i σ H1 _ ⟨m, x2, x3, _, sm, _⟩
    exact sm.seq hS
  · rintro i v σ H1 H2 hi ⟨m, x2, x3, rfl, sm, m0, m1⟩ ⟨T, x, y, rfl, hT, rfl, ex, ey⟩
    have ex : x = .int (i : Nat) := (Option.some.inj ex).symm
    subst ex
    have ey : (ns.map V.int)[i]? = some y := ey
    rw [List.getElem?_map] at ey
    obtain ⟨n, hn, rfl⟩ := Option.map_eq_some_iff.mp ey
    refine ⟨T, [.int (i : Nat), .int n], rfl, .inl (.inl upd_same), rfl, _, _, rfl, _, _, rfl, rfl, ?_⟩
    refine ⟨_, rfl, _, _, rfl, rfl, .inr ⟨by decide, by decide⟩, _, rfl, _, _, rfl, rfl, _, rfl, _, _, rfl, rfl, .inl ⟨by decide, by decide⟩, _, _, rfl, rfl, .inl ⟨_, rfl, _, _, rfl, rfl, (by show (0 : Int) < 2305843009213693951; decide), ?_⟩⟩
    exact ⟨_, some (.int (i : Nat)), some (.int n), rfl, sm.trans (same_upd hT), Int.emod_nonneg _ (by decide), Int.emod_lt_of_pos _ (by decide)⟩
  · rintro σ H1 ⟨m, x2, x3, rfl, sm, m0, m1⟩
    intro p hp
    have s1 : Same H1 (upd H1 p (.dK [])) := same_upd hp
    have hS1 := s1.seq (sm.seq hS)
    refine ⟨_, rfl, .ref a, rfl, a, rfl, ⟨_, hS1⟩, fun g hg => lc_list (xs := ns.map V.int) (fun i H' => ∃ zs : List Int, zs.length ≤ i ∧ H' g = some (.lst (zs.map V.int)) ∧ ∀ b o, b ≠ g → (upd H1 p (.dK [])) b = some o → H' b = some o) ⟨[], Nat.zero_le _, upd_same, fun b o hb e => by rw [upd_ne hb]; exact e⟩ ?_ ?_ ?_⟩
    · rintro i H2 hi ⟨zs, hz, e, k2⟩
      have : Same (upd H1 p (.dK [])) H2 := fun b o e => k2 b o (fun z => by rw [z, hg] at e; cases e) e
      exact this.seq hS1
    · rintro i x H2 hx ⟨zs, hz, e, k2⟩
      rw [List.getElem?_map] at hx
      obtain ⟨n, hn, rfl⟩ := Option.map_eq_some_iff.mp hx
      refine ⟨rfl, _, rfl, _, _, rfl, rfl, ⟨by decide, by decide, by decide⟩, _, _, rfl, rfl, _, rfl, ite2 (fun hc => ?_) fun hc => ?_⟩
      · refine ⟨_, rfl, zs.map V.int, e, ?_, zs ++ [n], ?_, ?_, fun b o hb e => ?_⟩
        · rw [List.length_map]
          have hi := (List.getElem?_eq_some_iff.mp hn).1
          exact small1000 (by omega)
        · rw [List.length_append, List.length_singleton]; omega
        · rw [upd_same, List.map_append]; rfl
        · rw [upd_ne hb]; exact k2 b o hb e
      · exact ⟨zs, by omega, e, k2⟩
    · rintro H2 ⟨zs, hz, e, k2⟩
      rw [List.length_map] at hz
      have gp : g ≠ p := fun z => by rw [z, upd_same] at hg; cases hg
      have pe : H2 p = some (.dK []) := k2 p _ (Ne.symm gp) upd_same
      refine ⟨pe, [(.inr "mixed", .int m), (.inr "great", .ref g), (.inr "turn", .int 0)], rfl, by simp, ?_⟩
      refine q p g _ (sm.free hp) (sm.free (s1.free hg)) (fun b o eb => ?_) ⟨Ne.symm gp, m, 0, zs, ?_, ⟨m0, m1⟩, Int.le_refl _, ?_, by omega⟩
      · have b1 := sm b o eb
        rw [upd_ne (ne_of_none b1 hp)]
        exact k2 b o (ne_of_none (s1 b o b1) hg) (s1 b o b1)
      · rw [upd_same]; rfl
      · rw [upd_ne gp]; exact e
theorem ok_next0 {f : Addr} {fd : FuncData} {k : Nat} (F : Fun K "_law_next" "_law_next" s_law_next f fd) (mlen : mg "len" = none) (mmax : mg "max" = none) (mint : mg "int" = none) : FnG P w K mg base CX0 (k + 1) f fd ["_law_draw", "_law_below"] spNext := by
  refine fnG_of F sc_law_next (fun vs H Q E h => ?_) fun cdv A outer s H vs Q E hg hr h => ?_
  · obtain ⟨a, g, b, rfl, _⟩ := h
    rfl
  obtain ⟨a, g, b, rfl, ⟨agne, m, t, ns, ha, ⟨m0, m1⟩, t0, hgr, hl⟩, b0, b1, q⟩ := h
  have hu := hu_of hr
  have hu64 := hr.units
  refine ⟨_, PSs.nox (pss_cons (ps_asg (pe_tup (pa_cons (pe_op op_add (pe_dget hu (pv 0) pe_str (fun _ _ => rfl)) pe_int) (pa_cons (pe_dget hu (pv 0) pe_str (fun _ _ => rfl)) pa_nil))) (pg_tup rfl (pgs_cons (pg_sub (pv 0) pe_str (set_dict hu)) (pgs_cons (pg_name (i := 2) sc_law_next.nd rfl (.inl rfl)) pgs_nil))))
    (pss_cons (ps_set (i := 3) sc_law_next.nd rfl (.inl rfl) (pe_op op_mod (pe_callTy call_int1 (by rfl) mint (by decide +kernel) (pa_cons (pe_dget hu (pv 0) pe_str (fun _ _ => rfl)) pa_nil)) (pe_callB (call_max2 rfl) (by rfl) mmax (by decide +kernel) (pa_cons pe_int (pa_cons (pe_callB call_len_seq (by rfl) mlen PySem.boot_len (pa_cons (pv 2) pa_nil)) pa_nil)))))
    (pss_cons (ps_if (PW.pt (pw_and (pt_cmpR (op_neD hu64) (pv 2) (pe_lst pa_nil) (nomark _)) (pw_and1 (pt_cmpR op_gt (pe_ix ix_list (pv 2) (pv 3) (fun _ _ => rfl)) pe_int (nomark _)))))
      (pss_cons (ps_set (i := 4) sc_law_next.nd rfl (.inl rfl) (pe_op op_mod (pe_callTy call_int1 (by rfl) mint (by decide +kernel) (pa_cons (pe_ix ix_list (pv 2) (pv 3) (fun _ _ => rfl)) pa_nil)) (pv 1)))
      (pss_cons (ps_asg (pe_op op_fdiv (pe_ix ix_list (pv 2) (pv 3) (fun _ _ => rfl)) (pv 1)) (pg_sub (pv 2) (pv 3) set_list))
      (pss_one (ps_ret (pv 4))))) pss_nil)
    (pss_cons (ps_set (i := 5) sc_law_next.nd rfl (.inl rfl) (pe_callTy call_int1 (by rfl) mint (by decide +kernel) (pa_cons (pe_op op_add (pe_op op_add (pe_op op_mul (pe_dget hu (pv 0) pe_str (fun _ _ => rfl)) pe_int) (pe_op op_mul pe_int (pe_dget hu (pv 0) pe_str (fun _ _ => rfl)))) pe_int) pa_nil)))
    (pss_cons (ps_asg (pe_op op_mod (pe_callTy call_int1 (by rfl) mint (by decide +kernel) (pa_cons (pv 5) pa_nil)) pe_int) (pg_sub (pv 0) pe_str (set_dict hu)))
    (pss_one (ps_ret (pe_op op_mod (pe_callTy call_int1 (by rfl) mint (by decide +kernel) (pa_cons (pe_op op_fdiv (pe_dget hu (pv 0) pe_str (fun _ _ => rfl)) pe_int) pa_nil)) (pv 1))))))))), ?_⟩
  have ha : H a = some (.dK (dw (.int m) (.ref g) (.int t))) := ha
  refine ⟨.ref a, rfl, a, .int t, rfl, dget_of ha (dw_turn _ _ _), t, 1, rfl, rfl, .ref a, rfl, a, .ref g, rfl, dget_of ha (dw_great _ _ _), (by decide : 2 ≤ sizeLine), fun T hT => ?_⟩
  have aT : a ≠ T := fun z => by rw [← z, ha] at hT; cases hT
  have gT : g ≠ T := fun z => by rw [← z, hgr] at hT; cases hT
  have ha1 : (upd H T (.tup [.int (t + 1), .ref g])) a = some (.dK (dw (.int m) (.ref g) (.int t))) := by rw [upd_ne aT]; exact ha
  refine ⟨T, [.int (t + 1), .ref g], rfl, .inl (.inl upd_same), rfl, _, _, rfl, .ref a, rfl, a, _, rfl, .inl ⟨_, .inr "turn", ha1, rfl, (by decide : 3 < sizeLine), rfl⟩, _, _, rfl, rfl, ?_⟩
  rw [dw_put_turn]
  generalize hH2 : upd (upd H T (.tup [.int (t + 1), .ref g])) a (.dK (dw (.int m) (.ref g) (.int (t + 1)))) = H2
  have ha2 : H2 a = some (.dK (dw (.int m) (.ref g) (.int (t + 1)))) := by rw [← hH2, upd_same]
  have hg2 : H2 g = some (.lst (ns.map V.int)) := by rw [← hH2, upd_ne agne.symm, upd_ne gT]; exact hgr
  have k2 : ∀ b o, b ≠ a → H b = some o → H2 b = some o := fun b o nb e => by
    rw [← hH2, upd_ne nb, upd_ne (fun z => by rw [z, hT] at e; cases e)]
    exact e
  have lpos : (0 : Int) < (if ((ns.map V.int).length : Int) > 1 then ((ns.map V.int).length : Int) else 1) := by split <;> omega
  refine ⟨.ref a, rfl, a, .int (t + 1), rfl, dget_of ha2 (dw_turn _ _ _), .inl ⟨_, rfl, .ref g, rfl, g, _, rfl, .inl (.of hg2), 1, _, rfl, _, _, rfl, rfl, lpos, ?_⟩⟩
  generalize hat : (t + 1) % (if ((ns.map V.int).length : Int) > 1 then ((ns.map V.int).length : Int) else 1) = at_
  have at0 : 0 ≤ at_ := by rw [← hat]; exact Int.emod_nonneg _ (Int.ne_of_gt lpos)
  have at1 : at_ < (if ((ns.map V.int).length : Int) > 1 then ((ns.map V.int).length : Int) else 1) := by rw [← hat]; exact Int.emod_lt_of_pos _ lpos
  refine ⟨.ref g, rfl, Nat.zero_le _, fun e he => ?_⟩
  have ea : a ≠ e := fun z => by rw [← z, ha2] at he; cases he
  have eg : g ≠ e := fun z => by rw [← z, hg2] at he; cases he
  have ha3 : (upd H2 e (.lst [])) a = some (.dK (dw (.int m) (.ref g) (.int (t + 1)))) := by rw [upd_ne ea]; exact ha2
  have hg3 : (upd H2 e (.lst [])) g = some (.lst (ns.map V.int)) := by rw [upd_ne eg]; exact hg2
  have k3 : ∀ b o, b ≠ a → H b = some o → (upd H2 e (.lst [])) b = some o := fun b o nb x => by
    have := k2 b o nb x
    rw [upd_ne (fun z => by rw [z, he] at this; cases this)]
    exact this
  have he3 : (upd H2 e (.lst [])) e = some (.lst []) := upd_same
  generalize upd H2 e (.lst []) = H3 at ha3 hg3 k3 he3 ⊢
  refine ⟨.list (ns.map PyData.int), .list [], .lst (.of hg3) (dp_ints ns), ?shp, shaped_ints ns, by decide, _, rfl, ite2 (fun h1 => ?good) fun _ => iteF ?fall⟩
  case shp => exact .lst (.of he3) .nil
  case good =>
    have hne : ns ≠ [] := fun z => by subst z; exact absurd h1 (by decide)
    have lp : 0 < ns.length := List.length_pos_iff.mpr hne
    have at2 : at_.toNat < ns.length := by
      rw [List.length_map] at at1
      split at at1 <;> omega
    have hv : ns[at_.toNat]? = some (ns[at_.toNat]) := List.getElem?_eq_getElem at2
    have hx : atI (ns.map V.int) at_ = some (.int (ns[at_.toNat])) := by
      have := atI_nat (xs := ns.map V.int) (j := at_.toNat) (v := .int (ns[at_.toNat])) (by rw [List.getElem?_map, hv]; rfl)
      rwa [Int.toNat_of_nonneg at0] at this
    refine ⟨.ref g, rfl, _, rfl, g, _, _, _, rfl, rfl, .of hg3, (by rw [hat]; exact hx), _, _, rfl, rfl, _, rfl, ite2 (fun h2 => ?good2) fun _ => ?fall2⟩
    case good2 =>
      -- a great cell gives its last digit
      refine ⟨.ref g, rfl, _, rfl, g, _, _, _, rfl, rfl, .of hg3, (by rw [hat]; exact hx), .inl ⟨_, rfl, .int b, rfl, _, _, rfl, rfl, b0, ?_⟩⟩
      refine ⟨.ref g, rfl, _, rfl, g, _, _, _, rfl, rfl, .of hg3, (by rw [hat]; exact hx), .int b, rfl, _, _, rfl, rfl, ⟨b0, b1⟩, .ref g, rfl, _, rfl, g, _, _, at_.toNat, rfl, rfl, hg3, ?_, _, rfl, ?_⟩
      · rw [hat]
        have := ixN_nat (n := (ns.map V.int).length) (j := at_.toNat) (by rw [List.length_map]; exact at2)
        rwa [Int.toNat_of_nonneg at0] at this
      · refine q _ _ (Int.emod_nonneg _ (Int.ne_of_gt b0)) (Int.emod_lt_of_pos _ b0) (step_of (fun c o c1 c2 x => ?_) ⟨agne, m, t + 1, ns.set at_.toNat (ns[at_.toNat] / b), ?_, ⟨m0, m1⟩, by omega, ?_, by rw [List.length_set]; exact hl⟩)
        · rw [upd_ne c2]; exact k3 c o c1 x
        · rw [upd_ne agne]; exact ha3
        · rw [upd_same, List.map_set]
    case fall2 =>
      refine ⟨.ref a, rfl, a, .int m, rfl, dget_of ha3 (dw_mixed _ _ _), m, _, rfl, rfl, .inr ⟨by decide, by decide⟩, .ref a, rfl, a, .int (t + 1), rfl, dget_of ha3 (dw_turn _ _ _), _, t + 1, rfl, rfl, .inl ⟨by decide, by decide⟩, _, _, rfl, rfl, _, _, rfl, rfl, .inl ⟨_, rfl, ?_⟩⟩
      refine ⟨_, rfl, .inl ⟨_, rfl, _, _, rfl, rfl, (by show (0 : Int) < 2305843009213693951; decide), .ref a, rfl, a, _, rfl, .inl ⟨_, .inr "mixed", ha3, rfl, (by decide : 3 < sizeLine), rfl⟩, ?_⟩⟩
      rw [dw_put_mixed]
      have n0 : 0 ≤ (m * 6364136223846793 + 1442695040888963 * (t + 1) + 13) % bigM := Int.emod_nonneg _ (by decide)
      have n1 : (m * 6364136223846793 + 1442695040888963 * (t + 1) + 13) % bigM < bigM := Int.emod_lt_of_pos _ (by decide)
      refine ⟨.ref a, rfl, a, _, rfl, dget_of upd_same (dw_mixed _ _ _), _, _, rfl, rfl, ⟨by decide, by decide⟩, .inl ⟨_, rfl, .int b, rfl, _, _, rfl, rfl, b0, ?_⟩⟩
      refine q _ _ (Int.emod_nonneg _ (Int.ne_of_gt b0)) (Int.emod_lt_of_pos _ b0) (step_of (fun c o c1 c2 x => ?_) ⟨agne, _, t + 1, ns, upd_same, ⟨n0, n1⟩, by omega, ?_, hl⟩)
      · rw [upd_ne c1]; exact k3 c o c1 x
      · rw [upd_ne agne.symm]; exact hg3
  case fall =>
    refine ⟨.ref a, rfl, a, .int m, rfl, dget_of ha3 (dw_mixed _ _ _), m, _, rfl, rfl, .inr ⟨by decide, by decide⟩, .ref a, rfl, a, .int (t + 1), rfl, dget_of ha3 (dw_turn _ _ _), _, t + 1, rfl, rfl, .inl ⟨by decide, by decide⟩, _, _, rfl, rfl, _, _, rfl, rfl, .inl ⟨_, rfl, ?_⟩⟩
    refine ⟨_, rfl, .inl ⟨_, rfl, _, _, rfl, rfl, (by show (0 : Int) < 2305843009213693951; decide), .ref a, rfl, a, _, rfl, .inl ⟨_, .inr "mixed", ha3, rfl, (by decide : 3 < sizeLine), rfl⟩, ?_⟩⟩
    rw [dw_put_mixed]
    have n0 : 0 ≤ (m * 6364136223846793 + 1442695040888963 * (t + 1) + 13) % bigM := Int.emod_nonneg _ (by decide)
    have n1 : (m * 6364136223846793 + 1442695040888963 * (t + 1) + 13) % bigM < bigM := Int.emod_lt_of_pos _ (by decide)
    refine ⟨.ref a, rfl, a, _, rfl, dget_of upd_same (dw_mixed _ _ _), _, _, rfl, rfl, ⟨by decide, by decide⟩, .inl ⟨_, rfl, .int b, rfl, _, _, rfl, rfl, b0, ?_⟩⟩
    refine q _ _ (Int.emod_nonneg _ (Int.ne_of_gt b0)) (Int.emod_lt_of_pos _ b0) (step_of (fun c o c1 c2 x => ?_) ⟨agne, _, t + 1, ns, upd_same, ⟨n0, n1⟩, by omega, ?_, hl⟩)
    · rw [upd_ne c1]; exact k3 c o c1 x
    · rw [upd_ne agne.symm]; exact hg3

variable (B : Bl mg) (W : Df K mg) (CL : ErrC P K mg) (TOH : ∃ S1 S2, ToldB K mg okN S1 S2) (LMH : Lm K mg base)
include B W CL TOH LMH
theorem ok_law_next : HasF P w K mg base "_law_next" 1 ["_law_draw", "_law_below"] w_next := hasF_next W.d_law_next rfl fun f fd F => ok_next0 F B.b_len B.b_max B.b_int
theorem ok_is_whole : HasF P w K mg base "is_whole" 1 ["thing", "least", "most"] w_is_whole := by
  refine hasF_of (k := 0) W.d_is_whole sc_is_whole fun f cdv A outer s H E hgd hr => ?_
  have hu := hu65 hr
  exact dss_cons (ds_if (DW.dt (dw_or (dt_not (dt_val (de_isi kit_int (by rfl) (by exact B.b_isinstance) (by rfl) (by exact B.b_int) (by decide +kernel) (de_var 0)))) (dw_or1 (dt_val (de_isi kit_bool (by rfl) (by exact B.b_isinstance) (by rfl) (by exact B.b_bool) (by decide +kernel) (de_var 0)))))) (dss_one (ds_ret (de_bl))) (dss_nil))
    (dss_one (ds_ret (de_and (de_or (de_c (cm_is) (de_var 1) (de_non)) (de_one (de_c (cm_ge2 (by exact hu)) (de_var 0) (de_var 1)))) (de_one (de_or (de_c (cm_is) (de_var 2) (de_non)) (de_one (de_c (cm_le2 (by exact hu)) (de_var 0) (de_var 2))))))))
theorem ok_are_ascending : HasF P w K mg base "are_ascending" 1 ["items"] w_are_ascending := by
  refine hasF_of (k := 0) W.d_are_ascending sc_are_ascending fun f cdv A outer s H E hgd hr => ?_
  have hu := hu65 hr
  exact dss_one (ds_ret (de_all (by rfl) (by rfl) (by exact B.b_all) (da_cons ((dn_lc (own := [("one", 1), ("other", 2)]) rfl sc_are_ascending.nd (di_zip (by rfl) (by exact B.b_zip) (da_cons (de_var 0) (da_cons (de_sl (de_var 0) (do_some (de_int)) (do_none)) (da_nil)))) (blkOk_by (N := N_are_ascending) (sc := defScope s_are_ascending) (by decide +kernel)) (by decide) (fun _ _ _ _ _ => dg_tup rfl (dgs_cons (dg_name 1 sc_are_ascending.nd) (dgs_cons (dg_name 2 sc_are_ascending.nd) (dgs_nil))) rfl rfl (fun ds η Q h => ((gl_cons (gx_n 1) (gl_cons (gx_n 2) gl_nil)) ds η Q h).1)) (fun _ _ _ _ _ => dts_nil) (fun _ _ _ _ _ => de_c (cm_lt (by exact hu)) (de_var 1) (de_var 2))).de) (da_nil))))
theorem ok_is_lot_of : HasF P w K mg base "is_lot_of" 2 ["wide", "thing"] w_is_lot_of := by
  have F_is_whole := ok_is_whole (P := P) (w := w) (base := base) B W CL TOH LMH
  have F_are_ascending := ok_are_ascending (P := P) (w := w) (base := base) B W CL TOH LMH
  refine hasF_of (k := 1) W.d_is_lot_of sc_is_lot_of fun f cdv A outer s H E hgd hr => ?_
  have hu := hu65 hr
  exact dss_cons (ds_if (DW.dt (dw_or (dt_not (dt_val (de_isi kit_tuple (by rfl) (by exact B.b_isinstance) (by rfl) (by exact B.b_tuple) (by decide +kernel) (de_var 1)))) (dw_or1 (dt_not (dt_val (de_all (by rfl) (by rfl) (by exact B.b_all) (da_cons ((dn_lc (own := [("column", 2)]) rfl sc_is_lot_of.nd (di_seq (de_var 1)) (blkOk_by (N := N_is_lot_of) (sc := defScope s_is_lot_of) (by decide +kernel)) (by decide) (fun _ _ _ _ _ => dg_name 2 sc_is_lot_of.nd) (fun _ _ _ _ _ => dts_nil) (fun _ _ _ _ _ => de_f F_is_whole hgd hr (dc_cons (de_var 2) (dc_cons (de_int) (dc_cons (de_sub (de_var 0) (de_int)) (dc_nil)))))).de) (da_nil)))))))) (dss_one (ds_ret (de_bl))) (dss_nil))
    (dss_one (ds_ret (de_f F_are_ascending hgd hr (dc_cons (de_var 1) (dc_nil)))))
theorem ok_is_rule : HasF P w K mg base "is_rule" 3 ["wide", "thing"] w_is_rule := by
  have F_is_lot_of := ok_is_lot_of (P := P) (w := w) (base := base) B W CL TOH LMH
  refine hasF_of (k := 2) W.d_is_rule sc_is_rule fun f cdv A outer s H E hgd hr => ?_
  have hu := hu65 hr
  exact dss_one (ds_ret (de_and (de_isi kit_tuple (by rfl) (by exact B.b_isinstance) (by rfl) (by exact B.b_tuple) (by decide +kernel) (de_var 1)) (de_and (de_c (cm_eq (by exact hu)) (de_len (by rfl) (by exact B.b_len) (da_cons (de_var 1) (da_nil))) (de_int)) (de_one (de_all (by rfl) (by rfl) (by exact B.b_all) (da_cons ((dn_lc (own := [("lot", 2)]) rfl sc_is_rule.nd (di_seq (de_var 1)) (blkOk_by (N := N_is_rule) (sc := defScope s_is_rule) (by decide +kernel)) (by decide) (fun _ _ _ _ _ => dg_name 2 sc_is_rule.nd) (fun _ _ _ _ _ => dts_nil) (fun _ _ _ _ _ => de_f F_is_lot_of hgd hr (dc_cons (de_var 0) (dc_cons (de_var 2) (dc_nil))))).de) (da_nil)))))))
theorem ok_schema_fault : HasF P w K mg base "schema_fault" 4 ["thing"] w_schema_fault := by
  have F_is_whole := ok_is_whole (P := P) (w := w) (base := base) B W CL TOH LMH
  have F_is_rule := ok_is_rule (P := P) (w := w) (base := base) B W CL TOH LMH
  refine hasF_of (k := 3) W.d_schema_fault sc_schema_fault fun f cdv A outer s H E hgd hr => ?_
  have hu := hu65 hr
  exact dss_cons (ds_if (DW.dt (dw_or (dt_not (dt_val (de_isi kit_tuple (by rfl) (by exact B.b_isinstance) (by rfl) (by exact B.b_tuple) (by decide +kernel) (de_var 0)))) (dw_or1 (dt_c (cm_ne (by exact hu)) (de_len (by rfl) (by exact B.b_len) (da_cons (de_var 0) (da_nil))) (de_int))))) (dss_one (ds_ret (de_tup (da_nil)))) (dss_nil))
    (dss_cons (ds_if (dt_not (dt_val (de_f F_is_whole hgd hr (dc_cons (de_ix (de_var 0) (de_int)) (dc_cons (de_int) (dc_cons (de_globI (by rfl) (by exact B.c_MOST_WIDE)) (dc_nil))))))) (dss_one (ds_ret (de_tup (da_cons (de_str) (da_nil))))) (dss_nil))
    (dss_cons (ds_if (DW.dt (dw_or (dt_not (dt_val (de_isi kit_tuple (by rfl) (by exact B.b_isinstance) (by rfl) (by exact B.b_tuple) (by decide +kernel) (de_ix (de_var 0) (de_int))))) (dw_or1 (dt_c (cm_gt2 (by exact hu)) (de_len (by rfl) (by exact B.b_len) (da_cons (de_ix (de_var 0) (de_int)) (da_nil))) (de_globI (by rfl) (by exact B.c_MOST_RULES)))))) (dss_one (ds_ret (de_tup (da_cons (de_str) (da_nil))))) (dss_nil))
    (dss_cons (ds_for PassesOwn.never rfl (di_enum (by rfl) (by exact B.b_enumerate) (de_ix (de_var 0) (de_int))) (dg_tup rfl (dgs_cons (dg_name 1 sc_schema_fault.nd) (dgs_cons (dg_name 2 sc_schema_fault.nd) (dgs_nil))) rfl rfl (fun ds η Q h => ((gl_cons (gx_n 1) (gl_cons (gx_n 2) gl_nil)) ds η Q h).1)) (dss_one (ds_if (DW.dt (dw_or (dt_not (dt_val (de_f F_is_rule hgd hr (dc_cons (de_ix (de_var 0) (de_int)) (dc_cons (de_var 2) (dc_nil)))))) (dw_or1 (DW.dt (dw_and (dt_c (cm_gt2 (by exact hu)) (de_var 1) (de_int)) (dw_and1 (dt_c (cm_ge2 (by exact hu)) (de_ix (de_ix (de_var 0) (de_int)) (de_sub (de_var 1) (de_int))) (de_var 2)))))))) (dss_one (ds_ret (de_tup (da_cons (de_str) (da_cons (de_var 1) (da_nil)))))) (dss_nil))))
    (dss_one (ds_ret (de_non))))))
theorem ok_need_schema : HasE P w K mg base "need_schema" 5 ["thing"] w_need_schema := by
  have F_schema_fault := ok_schema_fault (P := P) (w := w) (base := base) B W CL TOH LMH
  refine hasE_of (k := 4) W.d_need_schema sc_need_schema fun f cdv A outer s H E hgd hr hpo => ?_
  have hu := hu65 hr
  exact dss_cons (ds_set 1 sc_need_schema.nd (de_f F_schema_fault hgd hr (dc_cons (de_var 0) (dc_nil))))
    (dss_cons (ds_if (dt_c (cm_isnot) (de_var 1) (de_non)) (dss_one (ds_raiseC CL.c_BadSchema rfl (hr.mono (by decide)) rfl (de_var 1))) (dss_nil))
    (dss_one (ds_ret (de_var 0))))
theorem ok_is_lot : HasE P w K mg base "is_lot" 6 ["schema", "thing"] w_is_lot := by
  have F_is_lot_of := ok_is_lot_of (P := P) (w := w) (base := base) B W CL TOH LMH
  have F_need_schema := ok_need_schema (P := P) (w := w) (base := base) B W CL TOH LMH
  refine hasE_of (k := 5) W.d_is_lot sc_is_lot fun f cdv A outer s H E hgd hr hpo => ?_
  have hu := hu65 hr
  exact dss_one (ds_ret (de_f F_is_lot_of hgd hr (dc_cons (de_ix (de_e F_need_schema hgd hr (dc_cons (de_var 0) (dc_nil))) (de_int)) (dc_cons (de_var 1) (dc_nil)))))
theorem ok_law_among : HasF P w K mg base "_law_among" 2 ["_law_draw", "_law_some"] w_law_among := by
  have F_law_next := ok_law_next (P := P) (w := w) (base := base) B W CL TOH LMH
  refine hasF_of (k := 1) W.d_law_among sc_law_among fun f cdv A outer s H E hgd hr => ?_
  have hu := hu65 hr
  exact dss_one (ds_ret (de_ix (de_var 1) (de_f F_law_next hgd hr (dc_drw 0 (dc_cons (de_len (by rfl) (by exact B.b_len) (da_cons (de_var 1) (da_nil))) (dc_nil))))))
theorem ok_law_lots : HasF P w K mg base "_law_lots" 1 ["_law_columns"] w_law_lots := by
  refine hasF_of (k := 0) W.d_law_lots sc_law_lots fun f cdv A outer s H E hgd hr => ?_
  have hu := hu65 hr
  exact dss_cons (ds_set 1 sc_law_lots.nd ((dn_lst (da_cons (de_tup (da_nil)) (da_nil))).de))
    (dss_cons (ds_for PassesOwn.never rfl (di_seq (de_var 0)) (dg_name 2 sc_law_lots.nd) (dss_one (ds_set 1 sc_law_lots.nd (de_add (de_var 1) ((dn_lc (own := [("_law_one", 3)]) rfl sc_law_lots.nd (di_seq (de_var 1)) (blkOk_by (N := N_law_lots) (sc := defScope s_law_lots) (by decide +kernel)) (by decide) (fun _ _ _ _ _ => dg_name 3 sc_law_lots.nd) (fun _ _ _ _ _ => dts_nil) (fun _ _ _ _ _ => de_add (de_var 3) (de_tup (da_cons (de_var 2) (da_nil))))).de)))))
    (dss_one (ds_ret ((dn_sorted (by exact hu) (by rfl) (by exact B.b_sorted) (da_cons (de_var 1) (da_nil))).de))))
theorem ok_law_lot : HasF P w K mg base "_law_lot" 2 ["_law_draw", "_law_wide", "_law_odds"] w_law_lot := by
  have F_law_next := ok_law_next (P := P) (w := w) (base := base) B W CL TOH LMH
  refine hasF_of (k := 1) W.d_law_lot sc_law_lot fun f cdv A outer s H E hgd hr => ?_
  have hu := hu65 hr
  exact dss_one (ds_ret (de_tuple (by rfl) (by exact B.b_tuple) (da_cons ((dn_lc (own := [("_law_column", 3)]) rfl sc_law_lot.nd (di_range1 (by rfl) (by exact B.b_range) (da_cons (de_var 1) (da_nil))) (blkOk_by (N := N_law_lot) (sc := defScope s_law_lot) (by decide +kernel)) (by decide) (fun _ _ _ _ _ => dg_name 3 sc_law_lot.nd) (fun _ _ _ _ _ => dts_one (dt_c (cm_eq (by exact hu)) (de_f F_law_next hgd hr (dc_drw 0 (dc_cons (de_var 2) (dc_nil)))) (de_int))) (fun _ _ _ _ _ => de_var 3)).de) (da_nil))))
theorem ok_law_schema : HasF P w K mg base "_law_schema" 3 ["_law_draw", "_law_wide", "_law_most"] w_law_schema := by
  have F_law_next := ok_law_next (P := P) (w := w) (base := base) B W CL TOH LMH
  have F_law_lot := ok_law_lot (P := P) (w := w) (base := base) B W CL TOH LMH
  have F_law_among := ok_law_among (P := P) (w := w) (base := base) B W CL TOH LMH
  refine hasF_of (k := 2) W.d_law_schema sc_law_schema fun f cdv A outer s H E hgd hr => ?_
  have hu := hu65 hr
  exact dss_cons (ds_own 3 sc_law_schema.nd (dn_lst (da_nil)))
    (dss_cons (ds_for PassesOwn.never rfl (di_range1 (by rfl) (by exact B.b_range) (da_cons (de_f F_law_next hgd hr (dc_drw 0 (dc_cons (de_add (de_var 2) (de_int)) (dc_nil)))) (da_nil))) (dg_name 4 sc_law_schema.nd) (dss_one (ds_app 3 (de_tup (da_cons (de_f F_law_lot hgd hr (dc_drw 0 (dc_cons (de_var 1) (dc_cons (de_f F_law_among hgd hr (dc_drw 0 (dc_cons ((dn_lst (da_cons (de_int) (da_cons (de_int) (da_cons (de_int) (da_nil))))).de) (dc_nil)))) (dc_nil))))) (da_cons (de_f F_law_lot hgd hr (dc_drw 0 (dc_cons (de_var 1) (dc_cons (de_int) (dc_nil))))) (da_nil)))))))
    (dss_one (ds_ret (de_tup (da_cons (de_var 1) (da_cons (de_tuple (by rfl) (by exact B.b_tuple) (da_cons ((dn_sortSet (by rfl) (by exact hu) (by rfl) (by exact B.b_sorted) (by rfl) (by exact B.b_set) (de_var 3)).de) (da_nil))) (da_nil)))))))
theorem ok_law_refusal {k : Nat} : ∀ (a dx C : Addr) (nm : Str), ToldN K mg nm C → ∀ (f : Addr) (cdv : Value) (A : Around) (outer : List Env) (s : Shared) (H : Hp) (E : XK) (oe : Obj) (pn : List (Addr × Obj)), A.guards = some [] → Room k (A.deeper (envOfC "_law_refusal" (defScope s_law_refusal) s.heap.objs.size f cdv)) →
    Zc (.ref C) (some dx) oe → (∃ vs, oe.data = .fields vs) → DSs ((cxOf CX0 P w K mg base N_law_refusal "_law_refusal" (defScope s_law_refusal) f cdv A outer s H E).nox.tr ((a, oe) :: pn) (cxOf CX0 P w K mg base N_law_refusal "_law_refusal" (defScope s_law_refusal) f cdv A outer s H E).nox.xe) (defBody s_law_refusal) (t_law_refusal a dx nm) := by
  intro a dx C nm T f cdv A outer s H E oe pn hgd hr hz hv
  have PX : PinX ((cxOf CX0 P w K mg base N_law_refusal "_law_refusal" (defScope s_law_refusal) f cdv A outer s H E).nox.tr ((a, oe) :: pn) (cxOf CX0 P w K mg base N_law_refusal "_law_refusal" (defScope s_law_refusal) f cdv A outer s H E).nox.xe) a dx C := ⟨oe, List.mem_cons_self, hz, hv⟩
  have hu := hu65 hr
  exact dss_cons (ds_set 1 sc_law_refusal.nd ((dn_lst (da_cons (de_tup (da_cons (de_str) (da_cons (de_isT PX T (by rfl) (by exact B.b_isinstance) (by rfl)) (da_nil)))) (da_cons (de_tup (da_cons (de_str) (da_cons (de_isT PX T (by rfl) (by exact B.b_isinstance) (by rfl)) (da_nil)))) (da_nil)))).de))
    (dss_cons (ds_set 1 sc_law_refusal.nd (de_add (de_var 1) ((dn_lst (da_cons (de_tup (da_cons (de_str) (da_cons (de_isT PX T (by rfl) (by exact B.b_isinstance) (by rfl)) (da_nil)))) (da_cons (de_tup (da_cons (de_str) (da_cons (de_isT PX T (by rfl) (by exact B.b_isinstance) (by rfl)) (da_nil)))) (da_nil)))).de)))
    (dss_cons (ds_set 1 sc_law_refusal.nd (de_add (de_var 1) ((dn_lst (da_cons (de_tup (da_cons (de_str) (da_cons (de_isT PX T (by rfl) (by exact B.b_isinstance) (by rfl)) (da_nil)))) (da_cons (de_tup (da_cons (de_str) (da_cons (de_isT PX T (by rfl) (by exact B.b_isinstance) (by rfl)) (da_nil)))) (da_nil)))).de)))
    (dss_cons (ds_set 1 sc_law_refusal.nd (de_add (de_var 1) ((dn_lst (da_cons (de_tup (da_cons (de_str) (da_cons (de_isT PX T (by rfl) (by exact B.b_isinstance) (by rfl)) (da_nil)))) (da_cons (de_tup (da_cons (de_str) (da_cons (de_isT PX T (by rfl) (by exact B.b_isinstance) (by rfl)) (da_nil)))) (da_nil)))).de)))
    (dss_cons (new_read 2 (ps_lc (own := [("_law_word", 3), ("_law_holds", 4)]) 2 rfl sc_law_refusal.nd rfl rfl rfl (di_seq (de_var 1)) (blkOk_by (N := N_law_refusal) (sc := defScope s_law_refusal) (by decide +kernel)) (fun _ _ _ _ _ => dg_tup rfl (dgs_cons (dg_name 3 sc_law_refusal.nd) (dgs_cons (dg_name 4 sc_law_refusal.nd) (dgs_nil))) rfl rfl (fun ds η Q h => ((gl_cons (gx_n 3) (gl_cons (gx_n 4) gl_nil)) ds η Q h).1)) (fun _ _ _ _ _ => dts_one (dt_val (de_var 4))) (fun _ _ _ _ _ => de_var 3)) (lc_lift (by decide)))
    (dss_cons (ds_if (dt_c (cm_ne (by exact hu)) (de_len (by rfl) (by exact B.b_len) (da_cons (de_var 2) (da_nil))) (de_int)) (dss_one (ds_ret (de_tup (da_cons (de_str) (da_nil))))) (dss_nil))
    (dss_cons (ds_if (dt_c (cm_in (by exact hu)) (de_ix (de_var 2) (de_int)) (de_tup (da_cons (de_str) (da_cons (de_str) (da_nil))))) (dss_one (ds_ret (de_tup (da_cons (de_ix (de_var 2) (de_int)) (da_cons (de_fldE PX T.toToldK (by decide)) (da_nil)))))) (dss_nil))
    (dss_cons (ds_if (dt_c (cm_in (by exact hu)) (de_ix (de_var 2) (de_int)) (de_tup (da_cons (de_str) (da_cons (de_str) (da_cons (de_str) (da_cons (de_str) (da_nil))))))) (dss_one (ds_ret (de_tup (da_cons (de_ix (de_var 2) (de_int)) (da_cons (de_fldE PX T.toToldK (by decide)) (da_nil)))))) (dss_nil))
    (dss_one (ds_ret (de_tup (da_cons (de_ix (de_var 2) (de_int)) (da_cons (de_if (dt_c (cm_eq (by exact hu)) (de_ix (de_var 2) (de_int)) (de_str)) (de_fldE PX T.toToldK (by decide)) (de_fldE PX T.toToldK (by decide))) (da_nil)))))))))))))
theorem told_F {k : Nat} : ToldF P w K mg base (k + 1) t_law_refusal 4 okN := by
  have toh := TOH
  obtain ⟨S1, S2, hB⟩ := toh
  refine ⟨s_law_told, W.d_law_told, sc_law_told, .inl rfl, fun g cdg A outer s H hgd hr tl f c' q act => ?_⟩
  have hf1 : DSs (cxOf CX0 P w K mg base N_told "_law_told" (defScope s_law_told) g cdg A outer s H E0).nox ((defBody s_law_told).drop 2) (sRet (dIf (bVal (dOp (oIs false) (dV 2) (dK .none))) (dNew (nLst (aCons (dV 1) aNil))) (fun _ _ _ => False))) :=
    dss_one (ds_ret (de_if (dt_c cm_is (de_var 2) de_non) ((dn_lst (da_cons (de_var 1) da_nil)).de) de_false))
  exact told_pss (Z := (cxOf CX0 P w K mg base N_told "_law_told" (defScope s_law_told) g cdg A outer s H E0).nox) (k := k) rfl rfl rfl rfl hgd hr hB W.d_law_refusal sc_law_refusal rfl (fun a dx C nm T f cdv A outer s H E oe pn h1 h2 h3 h4 => ok_law_refusal B W CL TOH LMH a dx C nm T f cdv A outer s H E oe pn h1 h2 h3 h4)
    (fun W' pn xe E tk hW => act _ _ W' pn xe E tk hW) (ds_asg (de_tup (da_cons de_non (da_cons de_non da_nil))) (dg_tup rfl (dgs_cons (dg_name 1 sc_law_told.nd) (dgs_cons (dg_name 2 sc_law_told.nd) dgs_nil)) rfl rfl (fun ds η Q h => (gl_cons (gx_n 1) (gl_cons (gx_n 2) gl_nil) ds η Q h).1))) (fun _ h => ⟨by rw [sizeLine_eq]; decide, h⟩) rfl rfl rfl (by rfl) (by rfl) (by rfl) rfl rfl rfl rfl hf1 rfl

theorem ok_law_is_whole : HasF P w K mg base "_law_is_whole" 1 ["_law_thing", "_law_least", "_law_most"] w_law_is_whole := by
  refine hasF_of (k := 0) W.d_law_is_whole sc_law_is_whole fun f cdv A outer s H E hgd hr => ?_
  have hu := hu65 hr
  exact dss_one (ds_ret (de_and (de_isi kit_int (by rfl) (by exact B.b_isinstance) (by rfl) (by exact B.b_int) (by decide +kernel) (de_var 0)) (de_and (de_not (de_isi kit_bool (by rfl) (by exact B.b_isinstance) (by rfl) (by exact B.b_bool) (by decide +kernel) (de_var 0))) (de_one (de_chain (cm_le2 (by exact hu)) (cm_le2 (by exact hu)) (de_var 1) (de_var 0) (de_var 2))))))
theorem ok_law_is_lot_so : HasF P w K mg base "_law_is_lot_so" 2 ["_law_thing", "_law_wide"] w_law_is_lot_so := by
  have F_law_is_whole := ok_law_is_whole (P := P) (w := w) (base := base) B W CL TOH LMH
  refine hasF_of (k := 1) W.d_law_is_lot_so sc_law_is_lot_so fun f cdv A outer s H E hgd hr => ?_
  have hu := hu65 hr
  exact dss_cons (ds_if (DW.dt (dw_or (dt_not (dt_val (de_isi kit_tuple (by rfl) (by exact B.b_isinstance) (by rfl) (by exact B.b_tuple) (by decide +kernel) (de_var 0)))) (dw_or1 (dt_c (cm_neL0 (by exact hu)) ((dn_lc (own := [("_law_one", 2)]) rfl sc_law_is_lot_so.nd (di_seq (de_var 0)) (blkOk_by (N := N_law_is_lot_so) (sc := defScope s_law_is_lot_so) (by decide +kernel)) (by decide) (fun _ _ _ _ _ => dg_name 2 sc_law_is_lot_so.nd) (fun _ _ _ _ _ => dts_one (dt_not (dt_val (de_f F_law_is_whole hgd hr (dc_cons (de_var 2) (dc_cons (de_int) (dc_cons (de_sub (de_var 1) (de_int)) (dc_nil)))))))) (fun _ _ _ _ _ => de_var 2)).de) ((dn_lst (da_nil)).de))))) (dss_one (ds_ret (de_bl))) (dss_nil))
    (dss_one (ds_ret (de_c (cm_eq (by exact hu)) ((dn_lc (own := [("_law_one", 2), ("_law_far", 3)]) rfl sc_law_is_lot_so.nd (di_zip (by rfl) (by exact B.b_zip) (da_cons (de_var 0) (da_cons (de_sl (de_var 0) (do_some (de_int)) (do_none)) (da_nil)))) (blkOk_by (N := N_law_is_lot_so) (sc := defScope s_law_is_lot_so) (by decide +kernel)) (by decide) (fun _ _ _ _ _ => dg_tup rfl (dgs_cons (dg_name 2 sc_law_is_lot_so.nd) (dgs_cons (dg_name 3 sc_law_is_lot_so.nd) (dgs_nil))) rfl rfl (fun ds η Q h => ((gl_cons (gx_n 2) (gl_cons (gx_n 3) gl_nil)) ds η Q h).1)) (fun _ _ _ _ _ => dts_one (dt_c (cm_ge2 (by exact hu)) (de_var 2) (de_var 3))) (fun _ _ _ _ _ => de_int)).de) ((dn_lst (da_nil)).de))))
theorem ok_law_is_rule : HasF P w K mg base "_law_is_rule" 3 ["_law_thing", "_law_wide"] w_law_is_rule := by
  have F_law_is_lot_so := ok_law_is_lot_so (P := P) (w := w) (base := base) B W CL TOH LMH
  refine hasF_of (k := 2) W.d_law_is_rule sc_law_is_rule fun f cdv A outer s H E hgd hr => ?_
  have hu := hu65 hr
  exact dss_cons (ds_if (DW.dt (dw_or (dt_not (dt_val (de_isi kit_tuple (by rfl) (by exact B.b_isinstance) (by rfl) (by exact B.b_tuple) (by decide +kernel) (de_var 0)))) (dw_or1 (dt_c (cm_ne (by exact hu)) (de_len (by rfl) (by exact B.b_len) (da_cons (de_var 0) (da_nil))) (de_int))))) (dss_one (ds_ret (de_bl))) (dss_nil))
    (dss_one (ds_ret (de_and (de_f F_law_is_lot_so hgd hr (dc_cons (de_ix (de_var 0) (de_int)) (dc_cons (de_var 1) (dc_nil)))) (de_one (de_f F_law_is_lot_so hgd hr (dc_cons (de_ix (de_var 0) (de_int)) (dc_cons (de_var 1) (dc_nil))))))))
theorem ok_law_wrong : HasF P w K mg base "_law_wrong" 4 ["_law_thing"] w_law_wrong := by
  have F_law_is_whole := ok_law_is_whole (P := P) (w := w) (base := base) B W CL TOH LMH
  have F_law_is_rule := ok_law_is_rule (P := P) (w := w) (base := base) B W CL TOH LMH
  refine hasF_of (k := 3) W.d_law_wrong sc_law_wrong fun f cdv A outer s H E hgd hr => ?_
  have hu := hu65 hr
  exact dss_cons (ds_if (DW.dt (dw_or (dt_not (dt_val (de_isi kit_tuple (by rfl) (by exact B.b_isinstance) (by rfl) (by exact B.b_tuple) (by decide +kernel) (de_var 0)))) (dw_or1 (dt_c (cm_ne (by exact hu)) (de_len (by rfl) (by exact B.b_len) (da_cons (de_var 0) (da_nil))) (de_int))))) (dss_one (ds_ret ((dn_lst (da_cons (de_tup (da_nil)) (da_nil))).de))) (dss_nil))
    (dss_cons (ds_if (dt_not (dt_val (de_f F_law_is_whole hgd hr (dc_cons (de_ix (de_var 0) (de_int)) (dc_cons (de_int) (dc_cons (de_int) (dc_nil))))))) (dss_one (ds_ret ((dn_lst (da_cons (de_tup (da_cons (de_str) (da_nil))) (da_nil))).de))) (dss_nil))
    (dss_cons (ds_if (DW.dt (dw_or (dt_not (dt_val (de_isi kit_tuple (by rfl) (by exact B.b_isinstance) (by rfl) (by exact B.b_tuple) (by decide +kernel) (de_ix (de_var 0) (de_int))))) (dw_or1 (dt_c (cm_gt2 (by exact hu)) (de_len (by rfl) (by exact B.b_len) (da_cons (de_ix (de_var 0) (de_int)) (da_nil))) (de_int))))) (dss_one (ds_ret ((dn_lst (da_cons (de_tup (da_cons (de_str) (da_nil))) (da_nil))).de))) (dss_nil))
    (dss_cons (ds_for PassesOwn.never rfl (di_enum (by rfl) (by exact B.b_enumerate) (de_ix (de_var 0) (de_int))) (dg_tup rfl (dgs_cons (dg_name 1 sc_law_wrong.nd) (dgs_cons (dg_name 2 sc_law_wrong.nd) (dgs_nil))) rfl rfl (fun ds η Q h => ((gl_cons (gx_n 1) (gl_cons (gx_n 2) gl_nil)) ds η Q h).1)) (dss_one (ds_if (DW.dt (dw_or (dt_not (dt_val (de_f F_law_is_rule hgd hr (dc_cons (de_var 2) (dc_cons (de_ix (de_var 0) (de_int)) (dc_nil)))))) (dw_or1 (DW.dt (dw_and (dt_c (cm_gt2 (by exact hu)) (de_var 1) (de_int)) (dw_and1 (dt_c (cm_le2 (by exact hu)) (de_var 2) (de_ix (de_ix (de_var 0) (de_int)) (de_sub (de_var 1) (de_int)))))))))) (dss_one (ds_ret ((dn_lst (da_cons (de_tup (da_cons (de_str) (da_cons (de_var 1) (da_nil)))) (da_nil))).de))) (dss_nil))))
    (dss_one (ds_ret ((dn_lst (da_nil)).de))))))
theorem okR_law_bent (n : Nat) : HasF P w K mg base "_law_bent" (3 + n) ["_law_draw", "_law_thing"] (wR_law_bent n) := by
  have F_law_next := ok_law_next (P := P) (w := w) (base := base) B W CL TOH LMH
  have F_law_among := ok_law_among (P := P) (w := w) (base := base) B W CL TOH LMH
  induction n with
  | zero => exact hasF_none W.d_law_bent
  | succ n ih =>
  have F_law_bent := ih
  refine hasF_of (k := 3 + n) W.d_law_bent sc_law_bent fun f cdv A outer s H E hgd hrN => ?_
  have hr := hrN.mono (show 3 ≤ 3 + n by omega)
  have hu := hu65 hr
  exact dss_cons (ds_if (DW.dt (dw_or (dt_not (dt_val (de_isi kit_tuple (by rfl) (by exact B.b_isinstance) (by rfl) (by exact B.b_tuple) (by decide +kernel) (de_var 1)))) (dw_or (dt_c (cm_eqT0 (by exact hu)) (de_var 1) (de_tup (da_nil))) (dw_or1 (dt_c (cm_eq (by exact hu)) (de_f F_law_next hgd hr (dc_drw 0 (dc_cons (de_int) (dc_nil)))) (de_int)))))) (dss_cons (ds_set 2 sc_law_bent.nd ((dn_lst (da_cons (de_non) (da_cons (de_bl) (da_cons (de_bl) (da_cons (de_int) (da_cons (de_int) (da_cons (de_int) (da_cons (de_int) (da_cons (de_int) (da_cons (de_int) (da_cons (de_neg (de_int)) (da_cons (de_str) (da_cons (de_str) (da_cons (de_tup (da_nil)) (da_cons (de_tup (da_cons (de_int) (da_nil))) (da_cons (de_tup (da_cons (de_int) (da_cons (de_int) (da_nil)))) (da_cons (de_tup (da_cons (de_int) (da_cons (de_int) (da_nil)))) (da_cons ((dn_lst (da_cons (de_int) (da_nil))).de) (da_cons (de_dict0) (da_cons (de_tup (da_cons (de_tup (da_nil)) (da_cons (de_tup (da_nil)) (da_nil)))) (da_cons (de_pow (de_int) (de_int)) (da_nil)))))))))))))))))))))).de))
    (dss_one (ds_ret (de_f F_law_among hgd hr (dc_drw 0 (dc_cons (de_var 2) (dc_nil))))))) (dss_nil))
    (dss_cons (ds_par 3 4 rfl sc_law_bent.nd (de_f F_law_next hgd hr (dc_drw 0 (dc_cons (de_len (by rfl) (by exact B.b_len) (da_cons (de_var 1) (da_nil))) (dc_nil)))) (de_f F_law_next hgd hr (dc_drw 0 (dc_cons (de_int) (dc_nil)))))
    (dss_cons (ds_if (dt_c (cm_eq (by exact hu)) (de_var 4) (de_int)) (dss_one (ds_ret (de_add (de_sl (de_var 1) (do_none) (do_some (de_var 3))) (de_sl (de_var 1) (do_some (de_add (de_var 3) (de_int))) (do_none))))) (dss_nil))
    (dss_cons (ds_if (dt_c (cm_eq (by exact hu)) (de_var 4) (de_int)) (dss_one (ds_ret (de_add (de_add (de_sl (de_var 1) (do_none) (do_some (de_var 3))) (de_sl (de_var 1) (do_some (de_var 3)) (do_some (de_add (de_var 3) (de_int))))) (de_sl (de_var 1) (do_some (de_var 3)) (do_none))))) (dss_nil))
    (dss_cons (ds_if (dt_c (cm_eq (by exact hu)) (de_var 4) (de_int)) (dss_one (ds_ret ((dn_list (by rfl) (by exact B.b_list) (da_cons (de_var 1) (da_nil))).de))) (dss_nil))
    (dss_cons (ds_if (dt_c (cm_eq (by exact hu)) (de_var 4) (de_int)) (dss_one (ds_ret (de_rev (de_var 1)))) (dss_nil))
    (dss_one (ds_ret (de_add (de_add (de_sl (de_var 1) (do_none) (do_some (de_var 3))) (de_tup (da_cons (de_f F_law_bent hgd hrN (hj := Nat.le_refl _) (dc_drw 0 (dc_cons (de_ix (de_var 1) (de_var 3)) (dc_nil)))) (da_nil)))) (de_sl (de_var 1) (do_some (de_add (de_var 3) (de_int))) (do_none))))))))))
theorem ok_law_bent : HasF P w K mg base "_law_bent" 11 ["_law_draw", "_law_thing"] w_law_bent := okR_law_bent B W CL TOH LMH 8
set_option maxHeartbeats 4000000 in
theorem ok_law_is_read : HasF P w K mg base "_law_is_read" 8 ["_law_thing"] w_law_is_read := by
  have F_law_wrong := ok_law_wrong (P := P) (w := w) (base := base) B W CL TOH LMH
  have F_need_schema := ok_need_schema (P := P) (w := w) (base := base) B W CL TOH LMH
  obtain ⟨lc, lP, La⟩ := LMH.l_law_is_read
  refine hasF_ofL (k := 7) La W.d_law_is_read sc_law_is_read fun f A outer s H E hgd hr => ?_
  have hu := hu65 hr
  exact dss_cons (ds_par 1 2 rfl sc_law_is_read.nd (de_reprD (by exact hgd) (by exact hu) (by rfl) (by exact B.b_repr) (da_cons (de_var 0) (da_nil))) (de_f F_law_wrong hgd hr (dc_cons (de_var 0) (dc_nil))))
    (dss_cons (ds_set 3 sc_law_is_read.nd (de_if (dt_c (cm_eq (by exact hu)) (de_var 2) ((dn_lst (da_nil)).de)) ((dn_lst (da_cons (de_var 0) (da_nil))).de) (de_tup (da_cons (de_str) (da_cons (de_ix (de_var 2) (de_int)) (da_nil))))))
    (dss_cons (ds_set 4 sc_law_is_read.nd ((dn_lst (da_cons (de_told (told_F B W CL TOH LMH (k := 5)) La.tab rfl (q0 := "_law_is_read" ++ ".<locals>.") rfl La.mem La.uni hgd hr (by decide) (by rfl) (LamX.lamS_by (by rfl)) (fun f c' A outer s H E hgd hr => by
    have hu := hu65 hr
    exact de_e F_need_schema hgd hr (dc_cons (de_var 0) (dc_nil)))) (da_cons (de_toldD (told_F B W CL TOH LMH (k := 5)) La.tab rfl (q0 := "_law_is_read" ++ ".<locals>.") rfl La.mem La.uni hgd hr (by decide) (by rfl) (y := "_law_a") (lamD_by (by rfl)) (fun f c' A outer s H E hgd hr => by
    have hu := hu65 hr
    exact de_e F_need_schema hgd hr (dc_cons (de_var 0) (dc_nil))) (n := 0) rfl rfl rfl (fun _ _ _ _ _ _ _ => ⟨_, rfl, fun _ => rfl⟩)) (da_nil)))).de))
    (dss_one (ds_ret (de_and (de_c (cm_eq (by exact hu)) (de_reprD (by exact hgd) (by exact hu) (by rfl) (by exact B.b_repr) (da_cons (de_var 4) (da_nil))) (de_reprD (by exact hgd) (by exact hu) (by rfl) (by exact B.b_repr) (da_cons ((dn_lst (da_cons (de_var 3) (da_cons (de_var 3) (da_nil)))).de) (da_nil)))) (de_one (de_c (cm_eq (by exact hu)) (de_reprD (by exact hgd) (by exact hu) (by rfl) (by exact B.b_repr) (da_cons (de_var 0) (da_nil))) (de_var 1))))))))
set_option maxHeartbeats 4000000 in
theorem ok_law_lots_right : HasF P w K mg base "_law_lots_right" 14 ["_law_draw", "_law_plan", "_law_odd"] w_law_lots_right := by
  have F_law_lots := ok_law_lots (P := P) (w := w) (base := base) B W CL TOH LMH
  have F_law_bent := ok_law_bent (P := P) (w := w) (base := base) B W CL TOH LMH
  have F_law_lot := ok_law_lot (P := P) (w := w) (base := base) B W CL TOH LMH
  have F_law_is_lot_so := ok_law_is_lot_so (P := P) (w := w) (base := base) B W CL TOH LMH
  have F_is_lot := ok_is_lot (P := P) (w := w) (base := base) B W CL TOH LMH
  have F_law_wrong := ok_law_wrong (P := P) (w := w) (base := base) B W CL TOH LMH
  obtain ⟨lc, lP, La⟩ := LMH.l_law_lots_right
  refine hasF_ofL (k := 13) La W.d_law_lots_right sc_law_lots_right fun f A outer s H E hgd hr => ?_
  have hu := hu65 hr
  exact dss_cons (ds_set 3 sc_law_lots_right.nd (de_add (de_sl (de_f F_law_lots hgd hr (dc_cons ((dn_listRg (by rfl) (by rfl) (by exact B.b_list) (rr_1 (by rfl) (by exact B.b_range) (de_ix (de_var 1) (de_int)))).de) (dc_nil))) (do_none) (do_some (de_int))) ((dn_lc (own := [("_law_turn", 4)]) rfl sc_law_lots_right.nd (di_range1 (by rfl) (by exact B.b_range) (da_cons (de_int) (da_nil))) (blkOk_by (N := N_law_lots_right) (sc := defScope s_law_lots_right) (by decide +kernel)) (by decide) (fun _ _ _ _ _ => dg_name 4 sc_law_lots_right.nd) (fun _ _ _ _ _ => dts_nil) (fun _ _ _ _ _ => de_f F_law_bent hgd hr (dc_drw 0 (dc_cons (de_f F_law_lot hgd hr (dc_drw 0 (dc_cons (de_ix (de_var 1) (de_int)) (dc_cons (de_int) (dc_nil))))) (dc_nil))))).de)))
    (dss_cons (ds_for PassesOwn.never rfl (di_seq (de_add (de_var 3) ((dn_lst (da_cons (de_non) (da_cons ((dn_lst (da_nil)).de) (da_cons (de_tup (da_cons (de_bl) (da_nil))) (da_cons (de_tup (da_cons (de_str) (da_nil))) (da_cons (de_tup (da_cons (de_non) (da_nil))) (da_cons (de_tup (da_cons (de_int) (da_cons (de_ix (de_var 1) (de_int)) (da_nil)))) (da_cons (de_tup (da_cons (de_ix (de_var 1) (de_int)) (da_nil))) (da_cons (de_tup (da_cons (de_neg (de_int)) (da_nil))) (da_cons (de_tup (da_cons ((dn_lst (da_nil)).de) (da_nil))) (da_cons (de_dict0) (da_cons (de_int) (da_cons (de_str) (da_nil)))))))))))))).de))) (dg_name 5 sc_law_lots_right.nd) (dss_cons (ds_par 6 7 rfl sc_law_lots_right.nd (de_reprD (by exact hgd) (by exact hu) (by rfl) (by exact B.b_repr) (da_cons (de_var 5) (da_nil))) (de_f F_law_is_lot_so hgd hr (dc_cons (de_var 5) (dc_cons (de_ix (de_var 1) (de_int)) (dc_nil)))))
    (dss_cons (ds_if (DW.dt (dw_or (dt_c (cm_ne (by exact hu)) (de_reprD (by exact hgd) (by exact hu) (by rfl) (by exact B.b_repr) (da_cons ((dn_lst (da_cons (de_e F_is_lot hgd hr (dc_cons (de_var 1) (dc_cons (de_var 5) (dc_nil)))) (da_cons (de_e F_is_lot hgd hr (dc_cons (de_var 1) (dc_cons (de_var 5) (dc_nil)))) (da_nil)))).de) (da_nil))) (de_reprD (by exact hgd) (by exact hu) (by rfl) (by exact B.b_repr) (da_cons ((dn_lst (da_cons (de_var 7) (da_cons (de_var 7) (da_nil)))).de) (da_nil)))) (dw_or1 (dt_c (cm_ne (by exact hu)) (de_reprD (by exact hgd) (by exact hu) (by rfl) (by exact B.b_repr) (da_cons (de_var 5) (da_nil))) (de_var 6))))) (dss_one (ds_ret (de_bl))) (dss_nil))
    (dss_cons (ds_set 8 sc_law_lots_right.nd (de_f F_law_wrong hgd hr (dc_cons (de_var 2) (dc_nil))))
    (dss_one (ds_if (DW.dt (dw_and (dt_c (cm_ne (by exact hu)) (de_var 8) ((dn_lst (da_nil)).de)) (dw_and1 (dt_c (cm_ne (by exact hu)) (de_told (told_F B W CL TOH LMH (k := 11)) La.tab rfl (q0 := "_law_lots_right" ++ ".<locals>.") rfl La.mem La.uni hgd hr (by decide) (by rfl) (LamX.lamS_by (by rfl)) (fun f c' A outer s H E hgd hr => by
    have hu := hu65 hr
    exact de_e F_is_lot hgd hr (dc_cons (de_var 2) (dc_cons (de_var 5) (dc_nil))))) (de_tup (da_cons (de_str) (da_cons (de_ix (de_var 8) (de_int)) (da_nil)))))))) (dss_one (ds_ret (de_bl))) (dss_nil)))))))
    (dss_one (ds_ret (de_bl))))
set_option maxHeartbeats 4000000 in
theorem ok_law_by_hand_right : HasF P w K mg base "_law_by_hand_right" 11 [] w_law_by_hand_right := by
  have F_law_lots := ok_law_lots (P := P) (w := w) (base := base) B W CL TOH LMH
  have F_law_is_read := ok_law_is_read (P := P) (w := w) (base := base) B W CL TOH LMH
  have F_need_schema := ok_need_schema (P := P) (w := w) (base := base) B W CL TOH LMH
  have F_is_lot := ok_is_lot (P := P) (w := w) (base := base) B W CL TOH LMH
  obtain ⟨lc, lP, La⟩ := LMH.l_law_by_hand_right
  refine hasF_ofL (k := 10) La W.d_law_by_hand_right sc_law_by_hand_right fun f A outer s H E hgd hr => ?_
  have hu := hu65 hr
  exact dss_cons (ds_set 0 sc_law_by_hand_right.nd (de_f F_law_lots hgd hr (dc_cons ((dn_listRg (by rfl) (by rfl) (by exact B.b_list) (rr_1 (by rfl) (by exact B.b_range) (de_int))).de) (dc_nil))))
    (dss_cons (ds_set 1 sc_law_by_hand_right.nd (de_tuple (by rfl) (by exact B.b_tuple) (da_cons ((dn_lc (own := [("_law_one", 2)]) rfl sc_law_by_hand_right.nd (di_seq (de_sl (de_var 0) (do_none) (do_some (de_int)))) (blkOk_by (N := N_law_by_hand_right) (sc := defScope s_law_by_hand_right) (by decide +kernel)) (by decide) (fun _ _ _ _ _ => dg_name 2 sc_law_by_hand_right.nd) (fun _ _ _ _ _ => dts_nil) (fun _ _ _ _ _ => de_tup (da_cons (de_var 2) (da_cons (de_tupRg (by rfl) (by rfl) (by exact B.b_tuple) (rr_1 (by rfl) (by exact B.b_range) (de_int))) (da_nil))))).de) (da_nil))))
    (dss_cons (ds_set 3 sc_law_by_hand_right.nd (de_tuple (by rfl) (by exact B.b_tuple) (da_cons ((dn_lc (own := [("_law_one", 2)]) rfl sc_law_by_hand_right.nd (di_seq (de_sl (de_var 0) (do_none) (do_some (de_int)))) (blkOk_by (N := N_law_by_hand_right) (sc := defScope s_law_by_hand_right) (by decide +kernel)) (by decide) (fun _ _ _ _ _ => dg_name 2 sc_law_by_hand_right.nd) (fun _ _ _ _ _ => dts_nil) (fun _ _ _ _ _ => de_tup (da_cons (de_var 2) (da_cons (de_tup (da_nil)) (da_nil))))).de) (da_nil))))
    (dss_cons (ds_set 4 sc_law_by_hand_right.nd ((dn_lst (da_cons (de_tup (da_cons (de_int) (da_cons (de_var 1) (da_nil)))) (da_cons (de_tup (da_cons (de_int) (da_cons (de_tup (da_nil)) (da_nil)))) (da_cons (de_tup (da_cons (de_int) (da_cons (de_tup (da_cons (de_tup (da_cons (de_tup (da_nil)) (da_cons (de_tup (da_nil)) (da_nil)))) (da_nil))) (da_nil)))) (da_cons (de_tup (da_cons (de_int) (da_cons (de_var 3) (da_nil)))) (da_cons (de_tup (da_cons (de_int) (da_cons (de_rev (de_var 1)) (da_nil)))) (da_cons (de_tup (da_cons (de_int) (da_cons (de_add (de_sl (de_var 1) (do_none) (do_some (de_int))) (de_sl (de_var 1) (do_some (de_int)) (do_some (de_int)))) (da_nil)))) (da_cons (de_tup (da_cons (de_int) (da_cons (de_tup (da_nil)) (da_nil)))) (da_cons (de_tup (da_cons (de_int) (da_cons (de_tup (da_nil)) (da_nil)))) (da_nil)))))))))).de))
    (dss_cons (ds_set 4 sc_law_by_hand_right.nd (de_add (de_var 4) ((dn_lst (da_cons (de_tup (da_cons (de_bl) (da_cons (de_tup (da_nil)) (da_nil)))) (da_cons (de_tup (da_cons (de_int) (da_cons ((dn_list (by rfl) (by exact B.b_list) (da_cons (de_var 1) (da_nil))).de) (da_nil)))) (da_cons (de_tup (da_cons (de_int) (da_cons (de_tup (da_cons (de_tup (da_cons (de_tup (da_cons (de_int) (da_nil))) (da_cons (de_tup (da_cons (de_int) (da_nil))) (da_nil)))) (da_nil))) (da_nil)))) (da_cons (de_tup (da_cons (de_int) (da_cons (de_tup (da_cons (de_tup (da_cons (de_tup (da_cons (de_int) (da_cons (de_int) (da_nil)))) (da_cons (de_tup (da_cons (de_int) (da_cons (de_int) (da_nil)))) (da_nil)))) (da_nil))) (da_nil)))) (da_cons (de_tup (da_cons (de_int) (da_cons (de_tup (da_cons (de_tup (da_cons (de_int) (da_nil))) (da_cons (de_tup (da_cons (de_int) (da_nil))) (da_nil)))) (da_nil)))) (da_cons ((dn_lst (da_cons (de_int) (da_cons (de_tup (da_nil)) (da_nil)))).de) (da_nil)))))))).de)))
    (dss_cons (ds_set 4 sc_law_by_hand_right.nd (de_add (de_var 4) ((dn_lst (da_cons (de_tup (da_cons (de_int) (da_cons (de_tup (da_cons (de_tup (da_cons (de_tup (da_cons (de_int) (da_nil))) (da_cons (de_tup (da_cons (de_int) (da_nil))) (da_nil)))) (da_cons (de_tup (da_cons (de_tup (da_cons (de_int) (da_nil))) (da_cons (de_tup (da_cons (de_int) (da_nil))) (da_nil)))) (da_nil)))) (da_nil)))) (da_cons (de_tup (da_cons (de_int) (da_cons (de_tup (da_cons (de_tup (da_cons (de_tup (da_cons (de_int) (da_nil))) (da_cons (de_tup (da_nil)) (da_nil)))) (da_cons (de_non) (da_nil)))) (da_nil)))) (da_cons (de_tup (da_cons (de_int) (da_cons (de_tup (da_cons (de_tup (da_cons (de_tup (da_cons ((dn_lst (da_cons (de_int) (da_nil))).de) (da_nil))) (da_cons (de_tup (da_nil)) (da_nil)))) (da_nil))) (da_nil)))) (da_cons (de_tup (da_cons (de_int) (da_cons (de_tup (da_nil)) (da_nil)))) (da_cons (de_non) (da_cons (de_tup (da_nil)) (da_cons (de_str) (da_nil))))))))).de)))
    (dss_cons (ds_if (DW.dt (dw_or (dt_c (cm_ne (by exact hu)) ((dn_lc (own := [("_law_thing", 5)]) rfl sc_law_by_hand_right.nd (di_seq (de_var 4)) (blkOk_by (N := N_law_by_hand_right) (sc := defScope s_law_by_hand_right) (by decide +kernel)) (by decide) (fun _ _ _ _ _ => dg_name 5 sc_law_by_hand_right.nd) (fun _ _ _ _ _ => dts_one (dt_not (dt_val (de_f F_law_is_read hgd hr (dc_cons (de_var 5) (dc_nil)))))) (fun _ _ _ _ _ => de_var 5)).de) ((dn_lst (da_nil)).de)) (dw_or1 (dt_c (cm_ne (by exact hu)) (de_e F_need_schema hgd hr (dc_cons (de_tup (da_cons (de_int) (da_cons (de_var 1) (da_nil)))) (dc_nil))) (de_tup (da_cons (de_int) (da_cons (de_var 1) (da_nil)))))))) (dss_one (ds_ret (de_bl))) (dss_nil))
    (dss_cons (ds_set 6 sc_law_by_hand_right.nd ((dn_lst (da_cons (de_told (told_F B W CL TOH LMH (k := 8)) La.tab rfl (q0 := "_law_by_hand_right" ++ ".<locals>.") rfl La.mem La.uni hgd hr (by decide) (by rfl) (LamX.lamS_by (by rfl)) (fun f c' A outer s H E hgd hr => by
    have hu := hu65 hr
    exact de_e F_need_schema hgd hr (dc_cons (de_tup (da_cons (de_int) (da_cons (de_var 3) (da_nil)))) (dc_nil)))) (da_cons (de_toldD (told_F B W CL TOH LMH (k := 8)) La.tab rfl (q0 := "_law_by_hand_right" ++ ".<locals>.") rfl La.mem La.uni hgd hr (by decide) (by rfl) (y := "_law_a") (lamD_by (by rfl)) (fun f c' A outer s H E hgd hr => by
    have hu := hu65 hr
    exact de_e F_need_schema hgd hr (dc_cons (de_tup (da_cons (de_bl) (da_cons (de_non) (da_nil)))) (dc_nil))) (n := 0) rfl rfl rfl (fun _ _ _ _ _ _ _ => ⟨_, rfl, fun _ => rfl⟩)) (da_nil)))).de))
    (dss_one (ds_ret (de_and (de_c (cm_eq (by exact hu)) (de_var 6) ((dn_lst (da_cons (de_tup (da_cons (de_str) (da_cons (de_tup (da_cons (de_str) (da_nil))) (da_nil)))) (da_cons (de_tup (da_cons (de_str) (da_cons (de_tup (da_cons (de_str) (da_nil))) (da_nil)))) (da_nil)))).de)) (de_one (de_c (cm_isB) (de_e F_is_lot hgd hr (dc_cons (de_tup (da_cons (de_int) (da_cons (de_tup (da_nil)) (da_nil)))) (dc_cons (de_tupRg (by rfl) (by rfl) (by exact B.b_tuple) (rr_1 (by rfl) (by exact B.b_range) (de_int))) (dc_nil)))) (de_bl)))))))))))))
theorem ok_law {f : Addr} {fd : FuncData} (F : Fun K "law" "law" s_law f fd) (pl : ∀ ns : List Int, ns.length ≤ 63 → t_law never zLaw (lawEnv 5 ns)) : FnG P w K mg base CX0 15 f fd ["_law_script"] (spLaw K) := by
  have F_law_schema := ok_law_schema (P := P) (w := w) (base := base) B W CL TOH LMH
  have F_law_among := ok_law_among (P := P) (w := w) (base := base) B W CL TOH LMH
  have F_law_next := ok_law_next (P := P) (w := w) (base := base) B W CL TOH LMH
  have F_law_bent := ok_law_bent (P := P) (w := w) (base := base) B W CL TOH LMH
  have F_law_is_read := ok_law_is_read (P := P) (w := w) (base := base) B W CL TOH LMH
  have F_law_lots_right := ok_law_lots_right (P := P) (w := w) (base := base) B W CL TOH LMH
  have F_law_by_hand_right := ok_law_by_hand_right (P := P) (w := w) (base := base) B W CL TOH LMH
  obtain ⟨fb, fdb, Fb, hmb, hbb⟩ := W.d_law_begun.ex
  have Gb := ok_law_begun (P := P) (w := w) (mg := mg) (base := base) (k := 0) Fb B.b_len B.b_enumerate B.b_int
  refine fnG_of (k := 14) F sc_law (fun vs H Q E h => spLaw_len h) fun cdv A outer s H vs Q E hgd hr h => ?_
  have hu := hu65 hr
  have body : DSs (cxOf CX0 P w K mg base N_law "law" (defScope s_law) f cdv A outer s H E).nox ((defBody s_law).drop 1) t_law := dss_cons (ds_for PassesOwn.never rfl (di_range1 (by rfl) (by exact B.b_range) (da_cons (de_add (de_int) (de_div (de_min2 (by rfl) (by rfl) (by exact B.b_min) (da_cons (de_int) (da_cons (de_lenScr 0 (by rfl) (by exact B.b_len)) (da_nil)))) (de_int))) (da_nil))) (dg_name 2 sc_law.nd) (dss_cons (ds_set 3 sc_law.nd (de_f F_law_schema hgd hr (dc_drw 1 (dc_cons (de_add (de_int) (de_f F_law_next hgd hr (dc_drw 1 (dc_cons (de_int) (dc_nil))))) (dc_cons (de_f F_law_among hgd hr (dc_drw 1 (dc_cons ((dn_lst (da_cons (de_int) (da_cons (de_int) (da_nil)))).de) (dc_nil)))) (dc_nil))))))
    (dss_cons (ds_set 4 sc_law.nd (de_add ((dn_lst (da_cons (de_var 3) (da_nil))).de) ((dn_lc (own := [("_law_k", 5)]) rfl sc_law.nd (di_range1 (by rfl) (by exact B.b_range) (da_cons (de_int) (da_nil))) (blkOk_by (N := N_law) (sc := defScope s_law) (by decide +kernel)) (by decide) (fun _ _ _ _ _ => dg_name 5 sc_law.nd) (fun _ _ _ _ _ => dts_nil) (fun _ _ _ _ _ => de_f F_law_bent hgd hr (dc_drw 1 (dc_cons (de_var 3) (dc_nil))))).de)))
    (dss_cons (ds_set 4 sc_law.nd (de_add (de_var 4) ((dn_lc (own := [("_law_k", 5)]) rfl sc_law.nd (di_range1 (by rfl) (by exact B.b_range) (da_cons (de_int) (da_nil))) (blkOk_by (N := N_law) (sc := defScope s_law) (by decide +kernel)) (by decide) (fun _ _ _ _ _ => dg_name 5 sc_law.nd) (fun _ _ _ _ _ => dts_nil) (fun _ _ _ _ _ => de_f F_law_bent hgd hr (dc_drw 1 (dc_cons (de_ix (de_var 4) (de_add (de_int) (de_var 5))) (dc_nil))))).de)))
    (dss_cons (ds_if (dt_c (cm_ne (by exact hu)) ((dn_lc (own := [("_law_thing", 6)]) rfl sc_law.nd (di_seq (de_var 4)) (blkOk_by (N := N_law) (sc := defScope s_law) (by decide +kernel)) (by decide) (fun _ _ _ _ _ => dg_name 6 sc_law.nd) (fun _ _ _ _ _ => dts_one (dt_not (dt_val (de_f F_law_is_read hgd hr (dc_cons (de_var 6) (dc_nil)))))) (fun _ _ _ _ _ => de_var 6)).de) ((dn_lst (da_nil)).de)) (dss_one (ds_ret (de_bl))) (dss_nil))
    (dss_one (ds_if (dt_not (dt_val (de_f F_law_lots_right hgd hr (dc_drw 1 (dc_cons (de_var 3) (dc_cons (de_f F_law_bent hgd hr (dc_drw 1 (dc_cons (de_var 3) (dc_nil)))) (dc_nil))))))) (dss_one (ds_ret (de_bl))) (dss_nil))))))))
    (dss_one (ds_ret (de_f0 F_law_by_hand_right hgd hr)))
  exact ⟨_, PSs.nox (pss_cons (ps_set (i := 1) sc_law.nd rfl (.inr rfl) (pe_callG Gb hgd (hr.mono (by decide)) rfl hmb Fb.kp hbb pass0 (pa_cons (pv 0) pa_nil))) body.pss), law_go (X := (cxOf CX0 P w K mg base N_law "law" (defScope s_law) f cdv A outer s H E).nox) rfl h pl⟩
end
def t_all_lots : SD := t_law_lots
def w_all_lots : FT := bodyD 1 4 t_all_lots
end Lw

/-! PL1: schemas. -/
namespace Lw
open PySem DL PL
open Lean.Parser.Tactic in
local macro_rules | `(tactic| simp_arith only [$xs,*] $[$l:location]?) => `(tactic| simp -implicitDefEqProofs only [x_sSeq, x_sNext, x_sSet, x_sSetL, x_sOwn, x_sOwnL, x_sNew, x_sPar, x_sParN, x_sRet, x_sRetN, x_sIf, x_sDrop, x_sFor, x_sWhile, x_sNever, x_sFrz, x_sApp, x_sAppL, x_sExtL, x_sExtS, x_onSeqEL, x_onSeqET, x_sAug, x_sAsg, x_sBreak, x_sCont, x_onDat, x_onSeqL, x_onSeqT, x_on1I, x_on2I, x_on2L, x_on2T, x_onScr, x_ifB, x_onS, x_onOwn, x_onList, x_onInt, x_onCInt, x_isDrw, x_lenScr, x_dV, x_dK, x_dOp, x_dTup, x_dNew, x_nLst, x_nCall, x_nComp, x_nRg, x_dTupRg, x_gRg1, x_gRg2, x_dCall, x_dCallF, x_dSl, x_oNone, x_oSome, x_dAnd, x_dOr, x_dNot, x_oNeg, x_bVal, x_bAnd, x_bOr, x_bNot, x_dIf, x_dChain, x_aNil, x_aCons, x_cNil, x_cCons, x_cDrw, x_iSeq, x_iRange1, x_iRange2, x_iZip2, x_iEnum1, x_iEnumZ, x_on2TT, x_nSortSet, x_onTupO, x_nSortSetI, x_nSortSetE, x_fMinL, x_fSumL, x_dDict0, x_sIns, x_sPut, x_sRaise, x_dCallE, x_sTry1, x_gN, x_gT, x_gCons, x_gNil, x_bYes, x_fLenL, x_fLenT, x_fLenS, x_fTupleL, x_fTupleT, x_fListL, x_fListT, x_fSorted, x_fAll, x_fAny, x_fSum, x_fIntI, x_fIntB, x_fMin2, x_fMax2, x_fRepr, x_dIsi, x_lend, x_lendD, x_lendO, x_lendR, x_lendU, x_lendS, x_wipe0, x_wipe1, x_addI, x_addS, x_addL, x_addT, x_sub, x_mod, x_div, x_pow, x_mulI, x_mulL, x_eq, x_ne, x_inL, x_inT, x_mul2T, x_sM2, x_sM3, x_on2C, x_on3C, x_mNil, x_mD, x_mN, x_aStar, x_fSortedT, x_isB, x_isN, x_isN0, x_isNI, x_isNT, x_isNL, x_isNS, x_isNB, x_lt, x_ltT, x_ord, x_ordT, x_ixL, x_ixT, x_ixS, x_fListD, x_fListDL, x_fReprD, x_dRev, x_nCat2, x_sOwnCat, x_onSeqRL, x_onSeqRT, x_onCat, x_eqT0, x_neL0, x_fSortedD, x_dDc, oGe2, oLe2, oGt2, List.getElem?_cons_zero, List.getElem?_cons_succ, List.getElem?_nil, List.set_cons_zero, List.set_cons_succ, List.map_cons, List.map_nil, List.length_cons, List.length_nil, List.replicate, List.cons_append, List.nil_append, Nat.reduceSub, Nat.reduceAdd, Nat.zero_add, if_true, Bool.false_eq_true, if_false, bne_self_eq_false, Bool.true_bne, Bool.false_bne, Bool.not_true, Bool.not_false, true_and, and_true, Bool.bne_false, Bool.bne_true, $xs,*] $[$l:location]?)
theorem sp_is_whole (d : D) (lo hi : Int) {Q : D → Prop} (q : ∀ b : Bool, (b = true ↔ ∃ i, d = .int i ∧ lo ≤ i ∧ i ≤ hi) → Q (.bool b)) : w_is_whole never [.dat d, .dat (.int lo), .dat (.int hi)] Q := by
  refine body_in rfl ?_
  unfold t_is_whole
  simp_arith only []
  cases d with
  | int i =>
    simp_arith only [isiD, isiN, tyOf]
    by_cases h : lo ≤ i
    · simp_arith only [decide_eq_true h]
      refine q _ ?_
      simp [h]
    · simp_arith only [decide_eq_false h]
      refine q _ ?_
      simp [h]
  | _ =>
    refine q false ?_
    simp
theorem pair_asc : ∀ l : List Int, ((l.zip (l.drop 1)).all fun p => decide (p.1 < p.2)) = true ↔ Asc l
  | [] => by simp
  | [a] => by simp
  | a :: b :: l => by
    have ih := pair_asc (b :: l)
    simp only [List.drop_succ_cons, List.drop_zero, List.zip_cons_cons, List.all_cons, Bool.and_eq_true, decide_eq_true_eq] at ih ⊢
    rw [ih]
    constructor
    · rintro ⟨h1, h2⟩
      refine List.pairwise_cons.mpr ⟨fun x hx => ?_, h2⟩
      rcases List.mem_cons.mp hx with e | hx
      · omega
      · have := (List.pairwise_cons.mp h2).1 x hx
        omega
    · intro h
      obtain ⟨h1, h2⟩ := List.pairwise_cons.mp h
      exact ⟨h1 b List.mem_cons_self, h2⟩
theorem all_bools {α : Type} (f : α → Bool) : ∀ xs : List α, (xs.map fun a => PyData.bool (f a)).all isB = true
  | [] => rfl
  | a :: xs => by rw [List.map_cons, List.all_cons, all_bools f xs]; rfl
theorem all_of {α : Type} (f : α → Bool) : ∀ xs : List α, ((xs.map fun a => PyData.bool (f a)).map bOf).all id = xs.all f
  | [] => rfl
  | a :: xs => by rw [List.map_cons, List.map_cons, List.all_cons, all_of f xs]; rfl
theorem any_of {α : Type} (f : α → Bool) : ∀ xs : List α, ((xs.map fun a => PyData.bool (f a)).map bOf).any id = xs.any f
  | [] => rfl
  | a :: xs => by rw [List.map_cons, List.map_cons, List.any_cons, any_of f xs]; rfl
theorem sp_are_ascending (l : List Int) (hl : l.length ≤ sizeLine) {Q : D → Prop} (q : ∀ b : Bool, (b = true ↔ Asc l) → Q (.bool b)) : w_are_ascending never [.dat (T l)] Q := by
  refine body_in rfl ?_
  unfold t_are_ascending T
  simp_arith only []
  rw [cut1, ← List.map_drop]
  have e : pairsD (l.map PyData.int) ((l.drop 1).map PyData.int) = (l.zip (l.drop 1)).map fun p => .tuple [.int p.1, .int p.2] := by
    unfold pairsD
    rw [List.zip_map, List.map_map]
    rfl
  rw [e]
  refine compD_mp _ (fun p => .bool (decide (p.1 < p.2))) (fun p _ R1 R0 r => ?_) ?_ ?_
  · simp_arith only []
    exact r
  · rw [List.length_zip]
    simp
    omega
  · rw [List.nil_append, all_of]
    exact ⟨all_bools _ _, q _ (pair_asc l)⟩
theorem sp_is_lot_of {n : Nat} {l : List Int} (hn : n ≤ 64) (h : InL n l) {Q : D → Prop} (q : Q (.bool true)) : w_is_lot_of never [.dat (.int n), .dat (T l)] Q := by
  refine body_in rfl ?_
  unfold t_is_lot_of
  have e : T l = .tuple (l.map .int) := rfl
  rw [e]
  simp_arith only [isiD, isiN, tyOf]
  refine compD_mp _ (fun _ => .bool true) (fun i hi R1 R0 r => ?_) (by have := h.small hn; simpa using this) ?_
  · simp_arith only []
    refine sp_is_whole _ _ _ fun b hb => ?_
    have : b = true := hb.mpr ⟨i, rfl, by have := h.rng i hi; omega⟩
    rw [this]
    exact r
  · rw [List.nil_append, all_of]
    refine ⟨all_bools _ _, ?_⟩
    rw [show (l.all fun _ => true) = true by simp]
    simp_arith only []
    refine sp_are_ascending l (h.small hn) fun b hb => ?_
    rw [hb.mpr h.asc]
    exact q
/-- a schema -/
structure Val (n : Nat) (rs : List (List Int × List Int)) : Prop where
  n1 : 1 ≤ n
  n6 : n ≤ 6
  few : rs.length ≤ 10
  lots : ∀ r ∈ rs, InL n r.1 ∧ InL n r.2
  asc : rs.Pairwise fun a b => PySem.W.dataLt (ruleD a) (ruleD b) = true
theorem sp_is_rule {n : Nat} {r : List Int × List Int} (hn : n ≤ 64) (h : InL n r.1 ∧ InL n r.2) {Q : D → Prop} (q : Q (.bool true)) : w_is_rule never [.dat (.int n), .dat (ruleD r)] Q := by
  refine body_in rfl ?_
  unfold t_is_rule ruleD
  simp_arith only [isiD, isiN, tyOf]
  refine ⟨rfl, ?_⟩
  simp_arith only [eqv_int]
  have e : [T r.1, T r.2] = [r.1, r.2].map T := rfl
  rw [e]
  refine compD_mp _ (fun _ => .bool true) (fun l hl R1 R0 k => ?_) (by simp [sizeLine_eq]) ?_
  · simp_arith only []
    refine sp_is_lot_of hn ?_ k
    simp only [List.mem_cons, List.not_mem_nil, or_false] at hl
    rcases hl with rfl | rfl
    · exact h.1
    · exact h.2
  · rw [List.nil_append, all_of]
    exact ⟨all_bools _ _, by simpa using q⟩
theorem at0 {α : Type} (a : α) (l : List α) : L2.atI (a :: l) 0 = some a := L2.atI_nat (j := 0) rfl
theorem at1 {α : Type} (a b : α) (l : List α) : L2.atI (a :: b :: l) 1 = some b := L2.atI_nat (j := 1) rfl
theorem mem_enum {xs : List D} {d : D} (h : d ∈ pairsD (rangeD 0 xs.length) xs) : ∃ (i : Nat) (x : D), xs[i]? = some x ∧ d = .tuple [.int i, x] := by
  unfold pairsD at h
  obtain ⟨p, hp, rfl⟩ := List.mem_map.mp h
  obtain ⟨i, hi⟩ := List.mem_iff_getElem?.mp hp
  obtain ⟨h1, h2⟩ := List.getElem?_zip_eq_some.mp hi
  unfold rangeD at h1
  rw [List.getElem?_map] at h1
  obtain ⟨j, hj, e⟩ := Option.map_eq_some_iff.mp h1
  have : j = i := by
    obtain ⟨hl, e⟩ := List.getElem?_eq_some_iff.mp hj
    rw [← e, List.getElem_range]
  subst this
  refine ⟨j, p.2, h2, ?_⟩
  rw [← e]
  simp
theorem alike_ints : ∀ l m : List Int, PySem.W.alikeAll (l.map .int) (m.map .int) = true
  | [], m => by cases m <;> rfl
  | _ :: _, [] => rfl
  | a :: l, b :: m => by
    rw [List.map_cons, List.map_cons, PySem.W.alikeAll, alike_ints l m]
    rfl
theorem alike_T (l m : List Int) : PySem.W.alike (T l) (T m) = true := by
  unfold T
  rw [PySem.W.alike]
  exact alike_ints l m
theorem alike_rule (r s : List Int × List Int) : PySem.W.alike (ruleD r) (ruleD s) = true := by
  unfold ruleD
  rw [PySem.W.alike, PySem.W.alikeAll, PySem.W.alikeAll, alike_T, alike_T]
  rfl
theorem depth_ints : ∀ l : List Int, PyData.depthAll (l.map .int) = 0
  | [] => rfl
  | a :: l => by rw [List.map_cons, PyData.depthAll, depth_ints l]; rfl
theorem depth_T (l : List Int) : (T l).depth = 1 := by
  unfold T
  rw [PyData.depth, depth_ints]
theorem depth_rule (r : List Int × List Int) : (ruleD r).depth = 2 := by
  unfold ruleD
  rw [PyData.depth, PyData.depthAll, PyData.depthAll, depth_T, depth_T]
  rfl
theorem sp_schema_fault {n : Nat} {rs : List (List Int × List Int)} (h : Val n rs) {Q : D → Prop} (q : Q .none) : w_schema_fault never [.dat (schD n rs)] Q := by
  refine body_in rfl ?_
  have n1 := h.n1
  have n6 := h.n6
  have few := h.few
  unfold t_schema_fault schD
  simp_arith only [isiD, isiN, tyOf, at0, at1]
  refine ⟨rfl, ?_⟩
  simp_arith only [eqv_int]
  refine sp_is_whole _ _ _ fun b hb => ?_
  have : b = true := hb.mpr ⟨n, rfl, by omega⟩
  subst this
  simp_arith only [isiD, isiN, tyOf, at0, at1]
  rw [show decide ((10 : Int) < ((rs.map ruleD).length : Nat)) = false by rw [List.length_map]; exact decide_eq_false (by omega)]
  simp_arith only []
  refine forD_inv (fun ds η => (∀ d ∈ ds, ∃ (i : Nat) (r : List Int × List Int), rs[i]? = some r ∧ d = .tuple [.int i, ruleD r]) ∧ ∃ x1 x2, η = [.dat (.tuple [.int n, .tuple (rs.map ruleD)]), x1, x2]) ?_ ?_ ⟨fun d hd => ?_, _, _, rfl⟩
  · rintro d ds η ⟨hd, x1, x2, rfl⟩ nx hn
    obtain ⟨i, r, hi, rfl⟩ := hd d List.mem_cons_self
    have hr := h.lots r (List.mem_of_getElem? hi)
    simp_arith only [at0, at1]
    refine sp_is_rule (by omega) hr ?_
    simp_arith only []
    by_cases i0 : (0 : Int) < (i : Nat)
    · simp_arith only [decide_eq_true i0]
      have hi1 : i - 1 < rs.length := by
        have := (List.getElem?_eq_some_iff.mp hi).1
        omega
      have e : L2.atI (rs.map ruleD) ((i : Int) - 1) = some (ruleD rs[i - 1]) := by
        have := L2.atI_nat (xs := rs.map ruleD) (j := i - 1) (v := ruleD rs[i - 1]) (by rw [List.getElem?_map, List.getElem?_eq_getElem hi1]; rfl)
        rwa [show ((i - 1 : Nat) : Int) = (i : Int) - 1 by omega] at this
      simp_arith only [e]
      have lt : PySem.W.dataLt (ruleD rs[i - 1]) (ruleD r) = true := by
        obtain ⟨hl, e2⟩ := List.getElem?_eq_some_iff.mp hi
        have := List.pairwise_iff_getElem.mp h.asc (i - 1) i hi1 hl (by omega)
        rwa [e2] at this
      have al := alike_rule rs[i - 1] r
      have dp : (ruleD rs[i - 1]).depth ≤ 64 := by rw [depth_rule]; decide
      have nd1 : (ruleD rs[i - 1]).hasDict = false := nd_alike _ (alike_rule _ _)
      have nd2 : (ruleD r).hasDict = false := nd_alike _ (alike_rule _ _)
      unfold ruleD at lt al dp nd1 nd2 ⊢
      refine ⟨⟨al, dp, nd1, nd2⟩, ?_⟩
      simp_arith only [lt]
      exact hn _ ⟨fun d hd' => hd d (List.mem_cons_of_mem _ hd'), _, _, rfl⟩
    · simp_arith only [decide_eq_false i0]
      exact hn _ ⟨fun d hd' => hd d (List.mem_cons_of_mem _ hd'), _, _, rfl⟩
  · rintro η ⟨_, x1, x2, rfl⟩
    exact q
  · obtain ⟨i, x, hx, rfl⟩ := mem_enum hd
    rw [List.getElem?_map] at hx
    obtain ⟨r, hr, rfl⟩ := Option.map_eq_some_iff.mp hx
    exact ⟨i, r, hr, rfl⟩
theorem sp_need_schema {E : XP} {n : Nat} {rs : List (List Int × List Int)} (h : Val n rs) {Q : D → Prop} (q : Q (schD n rs)) : w_need_schema E [.dat (schD n rs)] Q := by
  refine body_in rfl ?_
  unfold t_need_schema
  simp_arith only []
  refine sp_schema_fault h ?_
  simp_arith only []
  exact q
theorem rp_col {x : Int} {n : Nat} (hn : n ≤ 64) (h : 0 ≤ x ∧ x < n) : Rp 0 41 (.int x) := rp_int (by omega)
theorem rp_T {l : List Int} (n : Nat) (hl : l.length ≤ n) (h : ∀ x ∈ l, x.natAbs < 10 ^ 12) : Rp 1 (n * 42) (T l) := rp_tup n (fun d hd => by
  obtain ⟨x, hx, rfl⟩ := List.mem_map.mp hd
  exact rp_int (h x hx)) (by rw [List.length_map]; exact hl)
end Lw

/-! PL2: lots, what is settled. -/
namespace Lw
open PySem DL PL
open Lean.Parser.Tactic in
local macro_rules | `(tactic| simp_arith only [$xs,*] $[$l:location]?) => `(tactic| simp -implicitDefEqProofs only [x_sSeq, x_sNext, x_sSet, x_sSetL, x_sOwn, x_sOwnL, x_sNew, x_sPar, x_sParN, x_sRet, x_sRetN, x_sIf, x_sDrop, x_sFor, x_sWhile, x_sNever, x_sFrz, x_sApp, x_sAppL, x_sExtL, x_sExtS, x_onSeqEL, x_onSeqET, x_sAug, x_sAsg, x_sBreak, x_sCont, x_onDat, x_onSeqL, x_onSeqT, x_on1I, x_on2I, x_on2L, x_on2T, x_onScr, x_ifB, x_onS, x_onOwn, x_onList, x_onInt, x_onCInt, x_isDrw, x_lenScr, x_dV, x_dK, x_dOp, x_dTup, x_dNew, x_nLst, x_nCall, x_nComp, x_nRg, x_dTupRg, x_gRg1, x_gRg2, x_dCall, x_dCallF, x_dSl, x_oNone, x_oSome, x_dAnd, x_dOr, x_dNot, x_oNeg, x_bVal, x_bAnd, x_bOr, x_bNot, x_dIf, x_dChain, x_aNil, x_aCons, x_cNil, x_cCons, x_cDrw, x_iSeq, x_iRange1, x_iRange2, x_iZip2, x_iEnum1, x_iEnumZ, x_on2TT, x_nSortSet, x_onTupO, x_nSortSetI, x_nSortSetE, x_fMinL, x_fSumL, x_dDict0, x_sIns, x_sPut, x_sRaise, x_dCallE, x_sTry1, x_gN, x_gT, x_gCons, x_gNil, x_bYes, x_fLenL, x_fLenT, x_fLenS, x_fTupleL, x_fTupleT, x_fListL, x_fListT, x_fSorted, x_fAll, x_fAny, x_fSum, x_fIntI, x_fIntB, x_fMin2, x_fMax2, x_fRepr, x_dIsi, x_lend, x_lendD, x_lendO, x_lendR, x_lendU, x_lendS, x_wipe0, x_wipe1, x_addI, x_addS, x_addL, x_addT, x_sub, x_mod, x_div, x_pow, x_mulI, x_mulL, x_eq, x_ne, x_inL, x_inT, x_mul2T, x_sM2, x_sM3, x_on2C, x_on3C, x_mNil, x_mD, x_mN, x_aStar, x_fSortedT, x_isB, x_isN, x_isN0, x_isNI, x_isNT, x_isNL, x_isNS, x_isNB, x_lt, x_ltT, x_ord, x_ordT, x_ixL, x_ixT, x_ixS, x_fListD, x_fListDL, x_fReprD, x_dRev, x_nCat2, x_sOwnCat, x_onSeqRL, x_onSeqRT, x_onCat, x_eqT0, x_neL0, x_fSortedD, x_dDc, oGe2, oLe2, oGt2, List.getElem?_cons_zero, List.getElem?_cons_succ, List.getElem?_nil, List.set_cons_zero, List.set_cons_succ, List.map_cons, List.map_nil, List.length_cons, List.length_nil, List.replicate, List.cons_append, List.nil_append, Nat.reduceSub, Nat.reduceAdd, Nat.zero_add, if_true, Bool.false_eq_true, if_false, bne_self_eq_false, Bool.true_bne, Bool.false_bne, Bool.not_true, Bool.not_false, true_and, and_true, Bool.bne_false, Bool.bne_true, $xs,*] $[$l:location]?)
theorem ds_tup (l : List Int) (c : Int) : (T (l ++ [c])) = .tuple (l.map .int ++ [.int c]) := by
  unfold T
  rw [List.map_append]
  rfl
theorem pow_small {n : Nat} (h : n ≤ 12) : 2 ^ n ≤ 4096 := Nat.le_trans (Nat.pow_le_pow_right (by decide) h) (by decide)
/-- a row of ints, as a tuple or a list -/
def seqD (k : Bool) (l : List Int) : D := if k then T l else .list (l.map .int)
theorem srt_lots {cs : List Int} (h : Asc cs) : SrtOk ((rawLots cs).map T) := by
  obtain ⟨_, _, _, h4⟩ := rawLots_all cs.length cs rfl h.nodup
  refine ⟨fun d hd d' hd' => ?_, .inr ⟨fun d hd => ?_, ?_⟩, fun d hd => ?_⟩
  · obtain ⟨l, _, rfl⟩ := List.mem_map.mp hd
    obtain ⟨m, _, rfl⟩ := List.mem_map.mp hd'
    exact alike_T l m
  · obtain ⟨l, _, rfl⟩ := List.mem_map.mp hd
    exact ⟨_, rfl⟩
  · rw [List.getElem?_map]
    rw [List.head?_eq_getElem?] at h4
    rw [h4]
    rfl
  · obtain ⟨l, _, rfl⟩ := List.mem_map.mp hd
    rw [depth_T]
    decide
theorem sp_all_lots (k : Bool) {cs : List Int} (h : Asc cs) (hl : cs.length ≤ 12) {Q : D → Prop} (q : Q (.list ((lexLots cs).map T))) : w_all_lots never [.dat (seqD k cs)] Q := by
  refine body_in rfl ?_
  unfold t_all_lots
  simp_arith only []
  refine ⟨by rw [sizeLine_eq]; decide, by rw [sizeLine_eq]; decide, ?_⟩
  have fin : ∀ z : EndsD, (∀ x2 x3, z.nx [.dat (seqD k cs), .dat (.list ((rawLots cs).map T)), x2, x3]) →
      forD (gN 2) (sSet 1 (dOp oAdd (dV 1) (dNew (nComp [3] (iSeq (dV 1)) (gN 3) bYes (dOp oAdd (dV 3) (dTup (aCons (dV 2) aNil))))))) never z (cs.map .int) [.dat (seqD k cs), .dat (.list [.tuple []]), .un, .un] := by
    intro z hz
    refine forD_inv (fun ds η => ∃ done rest x2 x3, cs = done ++ rest ∧ ds = rest.map .int ∧ η = [.dat (seqD k cs), .dat (.list ((rawLots done).map T)), x2, x3]) ?_ ?_ ⟨[], cs, .un, .un, rfl, rfl, rfl⟩
    · rintro d ds η ⟨done, rest, x2, x3, e, e2, rfl⟩ nx hn
      cases rest with
      | nil => cases e2
      | cons c rest =>
        simp only [List.map_cons, List.cons.injEq] at e2
        obtain ⟨rfl, rfl⟩ := e2
        have hd : (rawLots done).length = 2 ^ done.length ∧ ∀ l, l ∈ rawLots done ↔ l.Sublist done := by
          have ha : Asc done := h.sublist (by rw [e]; exact List.sublist_append_left _ _)
          obtain ⟨_, h2, h3, _⟩ := rawLots_all done.length done rfl ha.nodup
          exact ⟨h3, h2⟩
        have dl : done.length ≤ 12 := by
          have := congrArg List.length e
          rw [List.length_append] at this
          omega
        have dp := pow_small dl
        simp_arith only []
        refine compD_mp T (fun l => T (l ++ [c])) (fun l hl R1 R0 r => ?_) (by rw [sizeLine_eq]; simp; omega) ?_
        · have ll : l.length ≤ 12 := Nat.le_trans ((hd.2 l).mp hl).length_le dl
          rw [ds_tup] at r
          unfold T
          simp_arith only []
          refine ⟨by rw [sizeLine_eq]; decide, ?_⟩
          simp_arith only [List.length_map]
          refine ⟨by rw [sizeLine_eq]; omega, r⟩
        · simp_arith only []
          refine ⟨?_, ?_⟩
          · simp only [List.length_map]
            rw [sizeLine_eq]
            omega
          · refine hn _ ⟨done ++ [c], rest, .dat (.int c), x3, by rw [e]; simp, rfl, ?_⟩
            rw [rawLots_snoc, List.map_append, List.map_map]
            rfl
    · rintro η ⟨done, rest, x2, x3, e, e2, rfl⟩
      have : rest = [] := by cases rest with
        | nil => rfl
        | cons c r => cases e2
      subst this
      rw [List.append_nil] at e
      subst e
      exact hz _ _
  have out : SrtOk ((rawLots cs).map T) ∧ Q (.list (sortD ((rawLots cs).map T))) := ⟨srt_lots h, by rw [sort_lots h]; exact q⟩
  cases k with
  | true => exact fin _ fun x2 x3 => out
  | false => exact fin _ fun x2 x3 => out
theorem flat_ints (l : List Int) : flatAll (l.map .int) = true := by
  induction l with
  | nil => rfl
  | cons a l ih => rw [List.map_cons, flatAll, ih]; rfl
/-- while it grows -/
structure Grow (n : Nat) (rs : Rules) (l F : List Int) : Prop where
  rng : ∀ x ∈ F, 0 ≤ x ∧ x < n
  nd : F.Nodup
  has : ∀ x ∈ l, x ∈ F
  min : ∀ m, InL n m → Cl rs m → (∀ x ∈ l, x ∈ m) → ∀ x ∈ F, x ∈ m
theorem Grow.len {n : Nat} {rs : Rules} {l F : List Int} (g : Grow n rs l F) : F.length ≤ n := by
  have p : ((cols n).filter fun x => decide (x ∈ F)).Perm F := (List.perm_ext_iff_of_nodup (Asc.nodup ((cols_asc n).sublist List.filter_sublist)) g.nd).mpr fun x => by
    rw [List.mem_filter, mem_cols, decide_eq_true_eq]
    exact ⟨fun h => h.2, fun h => ⟨g.rng x h, h⟩⟩
  rw [← p.length_eq]
  have := (List.filter_sublist (p := fun x => decide (x ∈ F)) (l := cols n)).length_le
  rwa [cols_len] at this
theorem Grow.more {n : Nat} {rs : Rules} {l F : List Int} {r : List Int × List Int} (g : Grow n rs l F) (hr : r ∈ rs) (h2 : InL n r.2) (h : ∀ x ∈ r.1, x ∈ F) : Grow n rs l (F ++ r.2.filter fun x => decide (x ∉ F)) where
  rng := fun x hx => by
    rcases List.mem_append.mp hx with hx | hx
    · exact g.rng x hx
    · exact h2.rng x (List.mem_filter.mp hx).1
  nd := List.nodup_append.mpr ⟨g.nd, Asc.nodup (h2.asc.sublist List.filter_sublist), fun a ha b hb e => by
    have := (List.mem_filter.mp hb).2
    rw [decide_eq_true_eq] at this
    exact this (e ▸ ha)⟩
  has := fun x hx => List.mem_append_left _ (g.has x hx)
  min := fun m h1 h3 h4 x hx => by
    rcases List.mem_append.mp hx with hx | hx
    · exact g.min m h1 h3 h4 x hx
    · exact h3 r hr (fun y hy => g.min m h1 h3 h4 y (h y hy)) x (List.mem_filter.mp hx).1
end Lw

/-! PL6: two rows. -/
namespace Lw
open PySem DL PL
end Lw

/-! PL7: rows, stores of two rows, steps. -/
namespace Lw
open PySem DL PL L2
variable {n : Nat} {rs : Rules} {l : List Int} {Q : D → Prop}
structure RowOk (n : Nat) (a : List Int) : Prop where
  len : a.length = n
  rng : ∀ x ∈ a, 0 ≤ x ∧ x ≤ 1000000000
theorem all_true {α : Type} (xs : List α) : (xs.all fun _ => true) = true := by simp
theorem small_sub {l : List Int} (h : InL n l) (hn : n ≤ 64) : ∀ x ∈ l, x.natAbs < 10 ^ 12 := fun x hx => by have := h.rng x hx; omega
theorem agr_in {a b : List Int} (h : a.length = n) : InL n (agr a b) := by
  subst h
  exact .of_sub List.filter_sublist
/-- a store -/
structure Sto (n : Nat) (rs : Rules) (As : List (List Int)) : Prop where
  l1 : 1 ≤ As.length
  l4 : As.length ≤ 400
  rows : ∀ a ∈ As, RowOk n a
  asc : As.Pairwise fun a b => ltL a b = true
  ok : As.Pairwise fun a b => Cl rs (agr a b)
theorem itupI : ∀ l : List Int, itupAll (l.map .int) = true
  | [] => rfl
  | a :: l => by rw [List.map_cons, itupAll, itupI l]; rfl
theorem srt2 {a b : List Int} (ha : a ≠ []) (hb : b ≠ []) : SrtT [T a, T b] := by
  cases a with
  | nil => exact absurd rfl ha
  | cons x a =>
    cases b with
    | nil => exact absurd rfl hb
    | cons y b =>
      refine ⟨?_, fun d hd d' hd' => ?_, .inl fun d hd => ?_, fun d hd => ?_⟩
      · simp [T, itup, itupAll, itupI]
      all_goals simp only [List.mem_cons, List.not_mem_nil, or_false] at hd
      · simp only [List.mem_cons, List.not_mem_nil, or_false] at hd'
        rcases hd with rfl | rfl <;> rcases hd' with rfl | rfl <;> exact alikeT _ _
      · rcases hd with rfl | rfl <;> exact ⟨_, _, rfl⟩
      · rcases hd with rfl | rfl <;> (rw [depT]; decide)
theorem sort2 {a b : List Int} (h : ltL a b = true) : sortD [T a, T b] = [T a, T b] := by
  refine sortD_eq (List.Perm.refl _) (List.pairwise_cons.mpr ⟨fun d hd => ?_, List.pairwise_cons.mpr ⟨fun d hd => (nomatch hd), List.Pairwise.nil⟩⟩)
  rw [List.mem_singleton] at hd
  subst hd
  rw [dataLt_T, h]
end Lw

/-! PL8: steps by rules. -/
namespace Lw
open PySem DL PL L2
variable {n : Nat} {rs : Rules} {l : List Int} {Q : D → Prop}
/-- numbers as ints -/
def nI (ks : List Nat) : List Int := ks.map fun (k : Nat) => (k : Int)
structure Walk (n : Nat) (rs : Rules) (l F : List Int) (ks : List Nat) : Prop where
  g : Grow n rs l F
  lead : leadB rs l ks = true
  same : ∀ x, x ∈ F ↔ x ∈ leadF rs l ks
  few : l.length + ks.length ≤ F.length
theorem subB_congr {l F G : List Int} (h : ∀ x, x ∈ F ↔ x ∈ G) : subB l F = subB l G := by
  rw [Bool.eq_iff_iff, subB_iff, subB_iff]
  exact forall_congr' fun x => imp_congr_right fun _ => h x
theorem Walk.more {F : List Int} {ks : List Nat} {k : Nat} {r : List Int × List Int} (w : Walk n rs l F ks) (hk : rs[k]? = some r) (h2 : InL n r.2) (h1 : subB r.1 F = true) (hn : subB r.2 F = false) : Walk n rs l (F ++ r.2.filter fun x => decide (x ∉ F)) (ks ++ [k]) where
  g := w.g.more (List.mem_of_getElem? hk) h2 (subB_iff.mp h1)
  lead := leadB_snoc hk w.lead (by rw [← subB_congr w.same]; exact h1)
  same := fun x => by
    rw [leadF_snoc, List.mem_append, List.mem_append, ← w.same x, List.mem_filter, decide_eq_true_eq]
    have e : rs.getD k ([], []) = r := by simp [List.getD, hk]
    rw [e]
    constructor
    · rintro (z | ⟨z, _⟩)
      · exact .inl z
      · exact .inr z
    · rintro (z | z)
      · exact .inl z
      · by_cases hx : x ∈ F
        · exact .inl hx
        · exact .inr ⟨z, hx⟩
  few := by
    have h := w.few
    have : 0 < (r.2.filter fun x => decide (x ∉ F)).length := by
      rw [List.length_pos_iff]
      intro e
      have : subB r.2 F = true := subB_iff.mpr fun x hx => by
        by_cases hF : x ∈ F
        · exact hF
        · have : x ∈ r.2.filter fun x => decide (x ∉ F) := List.mem_filter.mpr ⟨hx, decide_eq_true hF⟩
          rw [e] at this
          cases this
      rw [this] at hn
      cases hn
    rw [List.length_append, List.length_append, List.length_singleton]
    omega
theorem sub_settle {F g : List Int} (h : Val n rs) (hl : InL n l) (w : Grow n rs l F) (hs : subB g F = true) : subB g (settle n rs l) = true :=
  subB_iff.mpr fun x hx => w.min _ (settle_in n rs l) (settle_cl h.lots) (fun y hy => settle_has hl hy) x (subB_iff.mp hs x hx)
theorem sub_closed {F g : List Int} (w : Grow n rs l F) (hc : Cl rs F) : subB g F = subB g (settle n rs l) :=
  subB_congr fun x => (settle_grown w.rng w.nd w.has w.min hc).mem_iff.symm
/-- numbers that lead from l to all of g -/
structure Lead (n : Nat) (rs : Rules) (l g : List Int) (ks : List Nat) : Prop where
  lead : leadB rs l ks = true
  goal : subB g (leadF rs l ks) = true
  few : ks.length ≤ n
end Lw

/-! PL3: keys, closed lots; the law's own defs. -/
namespace Lw
open PySem DL PL
variable {n : Nat} {rs : Rules} {l : List Int} {Q : D → Prop}
theorem T_eq (l : List Int) : T l = .tuple (l.map .int) := rfl
theorem InL.cols (n : Nat) : InL n (cols n) := .of_sub (List.Sublist.refl _)
theorem in_T {c : Int} {m : List Int} {neg : Bool} (hc : InL n m) (hn : n ≤ 64) (h : c.natAbs < 10 ^ 12) (q : Q (.bool (decide (c ∈ m) != neg))) : oIn neg (.int c) (T m) Q := by
  have r := (hc.rp hn).shaped (by decide)
  rw [T_eq] at r ⊢
  refine ⟨(rp_int h).shaped (by decide), r, ?_⟩
  rw [any_int]
  exact q
theorem eq_T {m : List Int} (h1 : InL n l) (h2 : InL n m) (hn : n ≤ 64) (q : Q (.bool (decide (l = m)))) : oEq (T l) (T m) Q := by
  refine ⟨eqOk_rp (h1.rp hn) (h2.rp hn), ?_⟩
  rwa [eqv_T]
theorem ne_T {m : List Int} (h1 : InL n l) (h2 : InL n m) (hn : n ≤ 64) (q : Q (.bool (!decide (l = m)))) : oNe (T l) (T m) Q := by
  refine ⟨eqOk_rp (h1.rp hn) (h2.rp hn), ?_⟩
  rwa [eqv_T]
def closedL (n : Nat) (rs : Rules) : List (List Int) := (lexLots (cols n)).filter (clB rs)
theorem mem_closedL {m : List Int} : m ∈ closedL n rs ↔ InL n m ∧ Cl rs m := by
  unfold closedL
  rw [List.mem_filter, mem_lots, clB_iff]
theorem lots_len (h : n ≤ 6) : (lexLots (cols n)).length ≤ 64 := by
  obtain ⟨_, _, h3, _⟩ := rawLots_all n (cols n) (cols_len n) (cols_asc n).nodup
  rw [(lots_perm (cols_asc n)).length_eq, h3]
  exact Nat.le_trans (Nat.pow_le_pow_right (by decide) h) (by decide)
theorem closedL_len (h : n ≤ 6) : (closedL n rs).length ≤ 64 := Nat.le_trans (List.filter_sublist).length_le (lots_len h)
theorem settle_clB (h : Val n rs) (hl : InL n l) : decide (settle n rs l = l) = clB rs l := by
  rw [Bool.eq_iff_iff, decide_eq_true_eq, clB_iff, settle_self h.lots hl]
def keysL (n : Nat) (rs : Rules) : List (List Int) := (lexLots (cols n)).filter fun l => decide (settle n rs l = cols n)
def leastL (n : Nat) (rs : Rules) : List (List Int) := (keysL n rs).filter fun l => !((keysL n rs).any fun m => decide (m ≠ l) && subB m l)
theorem mem_keysL {m : List Int} (h : m ∈ keysL n rs) : InL n m := mem_lots.mp (List.mem_filter.mp h).1
theorem keysL_len (h : n ≤ 6) : (keysL n rs).length ≤ 64 := Nat.le_trans (List.filter_sublist).length_le (lots_len h)
theorem leastL_len (h : n ≤ 6) : (leastL n rs).length ≤ 64 := Nat.le_trans (List.filter_sublist).length_le (keysL_len h)
/-! the law's own -/
theorem eqv_nil (xs : List D) : PyData.eqv (.list xs) (.list []) = xs.isEmpty := by
  cases xs with
  | nil => rfl
  | cons x xs => simp [PyData.eqv, PyData.eqvAll]
theorem filter_none {α : Type} (p : α → Bool) (xs : List α) : (xs.filter p).isEmpty = xs.all fun x => !p x := by
  induction xs with
  | nil => rfl
  | cons x xs ih =>
    cases e : p x with
    | true => rw [List.filter_cons_of_pos e]; simp [e]
    | false => rw [List.filter_cons_of_neg (by rw [e]; decide), List.all_cons, e, ih]; rfl
end Lw

/-! PL9: papers on what is settled. -/
namespace Lw
open PySem DL PL L2
variable {n : Nat} {rs : Rules} {l : List Int} {Q : D → Prop}
theorem rep_flat (n : Nat) : (List.replicate n [PyData.int 0]).flatten = (rowO n).map .int := by
  induction n with
  | zero => rfl
  | succ n ih =>
    rw [List.replicate_succ, List.flatten_cons, ih]
    rfl
theorem rowO_ok : RowOk n (rowO n) := ⟨rowO_len n, fun x hx => by
  have := List.eq_of_mem_replicate hx
  omega⟩
theorem rowI_ok (m : List Int) : RowOk n (rowI n m) := ⟨rowI_len n m, fun x hx => by
  obtain ⟨c, _, rfl⟩ := List.mem_map.mp hx
  split <;> omega⟩
theorem ltL_zero : ∀ {m : List Int}, (∀ x ∈ m, 0 ≤ x) → (∃ x ∈ m, x ≠ 0) → ltL (rowO m.length) m = true
  | [], _, ⟨_, h, _⟩ => by cases h
  | a :: m, h, ⟨x, hx, hn⟩ => by
    have h0 := h a List.mem_cons_self
    show ltL (0 :: rowO m.length) (a :: m) = true
    unfold ltL
    by_cases e : 0 = a
    · rw [if_pos e]
      refine ltL_zero (fun y hy => h y (List.mem_cons_of_mem _ hy)) ⟨x, ?_, hn⟩
      rcases List.mem_cons.mp hx with z | z
      · omega
      · exact z
    · rw [if_neg e, decide_eq_true (by omega)]
theorem lt_apart {m : List Int} {c : Int} (hc : 0 ≤ c ∧ c < n) (h : c ∉ m) : ltL (rowO n) (rowI n m) = true := by
  have := ltL_zero (m := rowI n m) (fun x hx => (rowI_ok m).rng x hx |>.1) ⟨1, ?_, by decide⟩
  · rwa [rowI_len] at this
  · refine List.mem_map.mpr ⟨c, mem_cols.mpr hc, ?_⟩
    rw [if_neg h]
/-- a paper -/
inductive Pap (n : Nat) (rs : Rules) (l : List Int) (c : Int) : D → Prop
  | steps (ks : List Nat) : c ∈ settle n rs l → Lead n rs l [c] ks → Pap n rs l c (.tuple [.str "steps", T (nI ks)])
  | rows : c ∉ settle n rs l → Pap n rs l c (.tuple [.str "rows", T (rowO n), T (rowI n (settle n rs l))])
theorem sub_one {c : Int} {m : List Int} : subB [c] m = decide (c ∈ m) := by simp [subB]
theorem inl_one {c : Int} (h : 0 ≤ c ∧ c < n) : InL n [c] := ⟨by simp, fun x hx => by rw [List.mem_singleton] at hx; subst hx; exact h⟩
theorem T_one (c : Int) : PyData.tuple [.int c] = T [c] := rfl
theorem lead_at {done rest : List Nat} {k : Nat} : ∀ {F : List Int}, leadB rs F (done ++ k :: rest) = true → ∃ r, rs[k]? = some r ∧ subB r.1 (leadF rs F done) = true ∧ leadF rs F (done ++ [k]) = leadF rs F done ++ r.2 := by
  induction done with
  | nil =>
    intro F h
    simp only [List.nil_append, leadB] at h
    cases e : rs[k]? with
    | none => rw [e] at h; cases h
    | some r =>
      rw [e] at h
      simp only [Bool.and_eq_true] at h
      refine ⟨r, rfl, h.1, ?_⟩
      simp [leadF, List.getD, e]
  | cons j done ih =>
    intro F h
    simp only [List.cons_append, leadB] at h
    cases e : rs[j]? with
    | none => rw [e] at h; cases h
    | some r =>
      rw [e] at h
      simp only [Bool.and_eq_true] at h
      have e2 : rs.getD j ([], []) = r := by simp [List.getD, e]
      simpa only [leadF, List.cons_append, e2] using ih h.2
theorem lead_rng (h : Val n rs) : ∀ {ks : List Nat} {F : List Int}, leadB rs F ks = true → (∀ x ∈ F, 0 ≤ x ∧ x < n) → (∀ x ∈ leadF rs F ks, 0 ≤ x ∧ x < n) ∧ (leadF rs F ks).length ≤ F.length + n * ks.length
  | [], F, _, hF => ⟨hF, by simp [leadF]⟩
  | k :: ks, F, hb, hF => by
    obtain ⟨r, hr, _, e⟩ := lead_at (done := []) hb
    have hlr := h.lots r (List.mem_of_getElem? hr)
    have e2 : rs.getD k ([], []) = r := by simp [List.getD, hr]
    simp only [leadB, hr, Bool.and_eq_true] at hb
    obtain ⟨h1, h2⟩ := lead_rng h hb.2 (fun x hx => by
      rcases List.mem_append.mp hx with z | z
      · exact hF x z
      · exact hlr.2.rng x z)
    simp only [leadF, e2]
    refine ⟨h1, ?_⟩
    have := hlr.2.len
    rw [List.length_append] at h2
    rw [List.length_cons, Nat.mul_add]
    omega
theorem lead_pre {done rest : List Nat} : ∀ {F : List Int}, leadB rs F (done ++ rest) = true → leadB rs F done = true := by
  induction done with
  | nil => intro F _; rfl
  | cons j done ih =>
    intro F h
    simp only [List.cons_append, leadB] at h ⊢
    cases e : rs[j]? with
    | none => rw [e] at h; cases h
    | some r =>
      rw [e] at h
      simp only [Bool.and_eq_true] at h ⊢
      exact ⟨h.1, ih h.2⟩
theorem lead_small (h : Val n rs) (hl : InL n l) {done rest : List Nat} (hb : leadB rs l (done ++ rest) = true) (few : (done ++ rest).length ≤ n) : (∀ x ∈ leadF rs l done, 0 ≤ x ∧ x < n) ∧ (leadF rs l done).length ≤ 42 := by
  obtain ⟨h1, h2⟩ := lead_rng h (lead_pre hb) hl.rng
  refine ⟨h1, ?_⟩
  have n6 := h.n6
  have := hl.len
  rw [List.length_append] at few
  have : n * done.length ≤ 6 * 6 := Nat.mul_le_mul n6 (by omega)
  omega
theorem len_nI (ks : List Nat) : (nI ks).length = ks.length := by simp [nI]
/-! the law's own -/
theorem all_none {α : Type} {xs : List α} {p : α → Bool} (h : ∀ x ∈ xs, p x = false) : (xs.filter p).isEmpty = true := by
  rw [filter_none, List.all_eq_true]
  intro x hx
  rw [h x hx]
  rfl
theorem rp_row {a : List Int} (h : RowOk n a) (hn : n ≤ 6) : Rp 1 252 (T a) := rp_T 6 (by have := h.len; omega) fun x hx => by have := h.rng x hx; omega
theorem pap_rp (h : Val n rs) {c : Int} {d : D} (P : Pap n rs l c d) : reprOk d ∧ d.hasDict = false := by
  have n6 := h.n6
  have st : ∀ x : Str, x = "steps" ∨ x = "rows" → Rp 1 252 (.str x) := by
    rintro x (rfl | rfl) <;> exact ⟨by decide +kernel, by decide +kernel, by decide +kernel, by decide +kernel, by decide +kernel⟩
  have : Rp 2 (3 * 253) d := by
    cases P with
    | steps ks hs L =>
      refine rp_tup 3 (fun d hd => ?_) (by simp)
      simp only [List.mem_cons, List.not_mem_nil, or_false] at hd
      rcases hd with rfl | rfl
      · exact st _ (.inl rfl)
      · refine (rp_T 6 (by have := L.few; rw [len_nI]; omega) fun x hx => ?_).mono (Nat.le_refl _) (by decide)
        obtain ⟨k, hk, rfl⟩ := List.mem_map.mp hx
        obtain ⟨done, rest, e⟩ := List.append_of_mem hk
        have hb := L.lead
        rw [e] at hb
        obtain ⟨r, hr, _⟩ := lead_at hb
        have := (List.getElem?_eq_some_iff.mp hr).1
        have := h.few
        omega
    | rows hs =>
      refine rp_tup 3 (fun d hd => ?_) (by simp)
      simp only [List.mem_cons, List.not_mem_nil, or_false] at hd
      rcases hd with rfl | rfl | rfl
      · exact st _ (.inr rfl)
      · exact rp_row rowO_ok n6
      · exact rp_row (rowI_ok _) n6
  exact this.repr (by decide) (by decide)
end Lw

/-! PL4: the law's keys, draws, schemas. -/
namespace Lw
open PySem DL PL
open Lean.Parser.Tactic in
local macro_rules | `(tactic| simp_arith only [$xs,*] $[$l:location]?) => `(tactic| simp -implicitDefEqProofs only [x_sSeq, x_sNext, x_sSet, x_sSetL, x_sOwn, x_sOwnL, x_sNew, x_sPar, x_sParN, x_sRet, x_sRetN, x_sIf, x_sDrop, x_sFor, x_sWhile, x_sNever, x_sFrz, x_sApp, x_sAppL, x_sExtL, x_sExtS, x_onSeqEL, x_onSeqET, x_sAug, x_sAsg, x_sBreak, x_sCont, x_onDat, x_onSeqL, x_onSeqT, x_on1I, x_on2I, x_on2L, x_on2T, x_onScr, x_ifB, x_onS, x_onOwn, x_onList, x_onInt, x_onCInt, x_isDrw, x_lenScr, x_dV, x_dK, x_dOp, x_dTup, x_dNew, x_nLst, x_nCall, x_nComp, x_nRg, x_dTupRg, x_gRg1, x_gRg2, x_dCall, x_dCallF, x_dSl, x_oNone, x_oSome, x_dAnd, x_dOr, x_dNot, x_oNeg, x_bVal, x_bAnd, x_bOr, x_bNot, x_dIf, x_dChain, x_aNil, x_aCons, x_cNil, x_cCons, x_cDrw, x_iSeq, x_iRange1, x_iRange2, x_iZip2, x_iEnum1, x_iEnumZ, x_on2TT, x_nSortSet, x_onTupO, x_nSortSetI, x_nSortSetE, x_fMinL, x_fSumL, x_dDict0, x_sIns, x_sPut, x_sRaise, x_dCallE, x_sTry1, x_gN, x_gT, x_gCons, x_gNil, x_bYes, x_fLenL, x_fLenT, x_fLenS, x_fTupleL, x_fTupleT, x_fListL, x_fListT, x_fSorted, x_fAll, x_fAny, x_fSum, x_fIntI, x_fIntB, x_fMin2, x_fMax2, x_fRepr, x_dIsi, x_lend, x_lendD, x_lendO, x_lendR, x_lendU, x_lendS, x_wipe0, x_wipe1, x_addI, x_addS, x_addL, x_addT, x_sub, x_mod, x_div, x_pow, x_mulI, x_mulL, x_eq, x_ne, x_inL, x_inT, x_mul2T, x_sM2, x_sM3, x_on2C, x_on3C, x_mNil, x_mD, x_mN, x_aStar, x_fSortedT, x_isB, x_isN, x_isN0, x_isNI, x_isNT, x_isNL, x_isNS, x_isNB, x_lt, x_ltT, x_ord, x_ordT, x_ixL, x_ixT, x_ixS, x_fListD, x_fListDL, x_fReprD, x_dRev, x_nCat2, x_sOwnCat, x_onSeqRL, x_onSeqRT, x_onCat, x_eqT0, x_neL0, x_fSortedD, x_dDc, oGe2, oLe2, oGt2, List.getElem?_cons_zero, List.getElem?_cons_succ, List.getElem?_nil, List.set_cons_zero, List.set_cons_succ, List.map_cons, List.map_nil, List.length_cons, List.length_nil, List.replicate, List.cons_append, List.nil_append, Nat.reduceSub, Nat.reduceAdd, Nat.zero_add, if_true, Bool.false_eq_true, if_false, bne_self_eq_false, Bool.true_bne, Bool.false_bne, Bool.not_true, Bool.not_false, true_and, and_true, Bool.bne_false, Bool.bne_true, $xs,*] $[$l:location]?)
variable {n : Nat} {rs : Rules} {l : List Int} {Q : D → Prop}
theorem rp_nil : Rp 1 0 (.list []) := rp_lst 0 (k := 0) (w := 0) (ds := []) (fun d hd => by cases hd) (Nat.le_refl _)
theorem rp_lots {Ls : List (List Int)} (h : ∀ l ∈ Ls, InL n l) (hn : n ≤ 64) (hl : Ls.length ≤ 64) : Rp 2 172096 (.list (Ls.map T)) := rp_lst 64 (k := 1) (w := 2688) (fun d hd => by
  obtain ⟨l, hl, rfl⟩ := List.mem_map.mp hd
  exact (h l hl).rp hn) (by rw [List.length_map]; exact hl)
theorem rp_lotsT {Ls : List (List Int)} (h : ∀ l ∈ Ls, InL n l) (hn : n ≤ 64) (hl : Ls.length ≤ 64) : Rp 2 172096 (.tuple (Ls.map T)) := rp_tup 64 (k := 1) (w := 2688) (fun d hd => by
  obtain ⟨l, hl, rfl⟩ := List.mem_map.mp hd
  exact (h l hl).rp hn) (by rw [List.length_map]; exact hl)
/-- the same data are shown alike -/
theorem rp_bools {α : Type} (f : α → Bool) (xs : List α) (h : xs.length ≤ 64) : Rp 1 64 (.list (xs.map fun a => .bool (f a))) := rp_lst 64 (k := 0) (w := 0) (fun d hd => by
  obtain ⟨a, _, rfl⟩ := List.mem_map.mp hd
  exact rp_bool _) (by rw [List.length_map]; exact h)
/-! draws -/
theorem sp_next {b : Int} (h0 : 0 < b) (h1 : b < 1073741824) (q : ∀ r, 0 ≤ r → r < b → Q (.int r)) : w_next never [.drw, .dat (.int b)] Q := ⟨⟨h0, h1⟩, q⟩
theorem sp_law_among {xs : List D} (h0 : xs ≠ []) (h1 : xs.length ≤ 1000) (q : ∀ x ∈ xs, Q x) : w_law_among never [.drw, .dat (.list xs)] Q := by
  refine body_in rfl ?_
  have : 0 < xs.length := List.length_pos_iff.mpr h0
  unfold t_law_among
  simp_arith only []
  refine sp_next (by omega) (by omega) fun r r0 r1 => ?_
  have hr : r.toNat < xs.length := by omega
  have e : L2.atI xs r = some xs[r.toNat] := by
    have := L2.atI_nat (xs := xs) (j := r.toNat) (v := xs[r.toNat]) (List.getElem?_eq_getElem hr)
    rwa [Int.toNat_of_nonneg r0] at this
  simp_arith only [e]
  exact q _ (List.getElem_mem hr)
theorem sp_law_lot {odds : Int} (hn : n ≤ 64) (h0 : 0 < odds) (h1 : odds < 1000) (q : ∀ l, InL n l → Q (T l)) : w_law_lot never [.drw, .dat (.int n), .dat (.int odds)] Q := by
  refine body_in rfl ?_
  unfold t_law_lot
  simp_arith only []
  refine ⟨⟨by omega, by omega⟩, ?_⟩
  rw [Int.toNat_natCast, cols_range]
  refine compD_sub (fun d hd R1 R0 r1 r0 => ?_) (by rw [sizeLine_eq, List.length_map, cols_len]; simp; omega) fun out ho => ?_
  · obtain ⟨c, _, rfl⟩ := List.mem_map.mp hd
    simp_arith only []
    refine sp_next (by omega) (by omega) fun r k0 k1 => ?_
    refine ⟨eqOk_rp (rp_int (by omega)) (rp_int (by decide)), ?_⟩
    simp only [eqv_int]
    by_cases e : r = 0
    · rw [if_pos (decide_eq_true e)]
      exact r1
    · rw [if_neg (by rw [decide_eq_false e]; decide)]
      exact r0
  · rw [List.nil_append]
    obtain ⟨l, hl, rfl⟩ := List.sublist_map_iff.mp ho
    exact q l (.of_sub hl)
theorem nodup_len {α : Type} : ∀ {l m : List α}, l.Nodup → (∀ x ∈ l, x ∈ m) → l.length ≤ m.length
  | [], m, _, _ => Nat.zero_le _
  | x :: l, m, hn, h => by
    classical
    obtain ⟨h1, h2⟩ := List.nodup_cons.mp hn
    obtain ⟨a, b, rfl⟩ := List.append_of_mem (h x List.mem_cons_self)
    have := nodup_len (m := a ++ b) h2 fun y hy => by
      have := h y (List.mem_cons_of_mem _ hy)
      simp only [List.mem_append, List.mem_cons] at this ⊢
      rcases this with z | z | z
      · exact .inl z
      · subst z; exact absurd hy h1
      · exact .inr z
    simp only [List.length_append, List.length_cons] at this ⊢
    omega
theorem back_rules {F : Rules} : ∀ {ys : List D}, (∀ y ∈ ys, y ∈ F.map ruleD) → ∃ rs : Rules, ys = rs.map ruleD ∧ ∀ r ∈ rs, r ∈ F
  | [], _ => ⟨[], rfl, fun r hr => by cases hr⟩
  | y :: ys, h => by
    obtain ⟨r, hr, e⟩ := List.mem_map.mp (h y List.mem_cons_self)
    obtain ⟨rs, e2, h2⟩ := back_rules fun z hz => h z (List.mem_cons_of_mem _ hz)
    refine ⟨r :: rs, by rw [List.map_cons, e, e2], fun x hx => ?_⟩
    rcases List.mem_cons.mp hx with z | z
    · rw [z]; exact hr
    · exact h2 x z
theorem itup_ints : ∀ l : List Int, itupAll (l.map .int) = true
  | [] => rfl
  | a :: l => by rw [List.map_cons, itupAll, itup_ints l]; rfl
theorem itup_rule (r : List Int × List Int) : itup (ruleD r) = true := by
  unfold ruleD T
  simp [itup, itupAll, itup_ints]
theorem lt_irrefl (d : D) : PySem.W.dataLt d d = false := PyProof.Rows.lex_irrefl _
theorem sp_law_schema {most : Int} (h1 : 1 ≤ n) (h6 : n ≤ 6) (m0 : 0 ≤ most) (m1 : most ≤ 10) (q : ∀ rs, Val n rs → Q (schD n rs)) : w_law_schema never [.drw, .dat (.int n), .dat (.int most)] Q := by
  refine body_in rfl ?_
  unfold t_law_schema
  simp_arith only []
  refine ⟨by rw [sizeLine_eq]; decide, ?_⟩
  refine sp_next (by omega) (by omega) fun k k0 k1 => ?_
  simp_arith only []
  refine ⟨⟨by omega, by omega⟩, ?_⟩
  refine forD_inv (fun ds η => ∃ (F : Rules) (x4 : Cell), η = [.drw, .dat (.int n), .dat (.int most), .own (F.map ruleD), x4] ∧ F.length + ds.length ≤ 10 ∧ ∀ r ∈ F, InL n r.1 ∧ InL n r.2) ?_ ?_ ⟨[], .un, rfl, by rw [rangeD_len]; simp; omega, fun r hr => by cases hr⟩
  · rintro d ds η ⟨F, x4, rfl, hl, hF⟩ nx hn
    rw [List.length_cons] at hl
    simp_arith only []
    refine ⟨by rw [sizeLine_eq]; decide, ?_⟩
    refine sp_law_among (by simp) (by simp) fun o ho => ?_
    obtain ⟨i, rfl, i0, i1⟩ : ∃ i : Int, o = .int i ∧ 0 < i ∧ i < 1000 := by
      simp only [List.mem_cons, List.not_mem_nil, or_false] at ho
      rcases ho with rfl | rfl | rfl
      · exact ⟨2, rfl, by decide, by decide⟩
      · exact ⟨3, rfl, by decide, by decide⟩
      · exact ⟨3, rfl, by decide, by decide⟩
    refine sp_law_lot (by omega) i0 i1 fun a ha => ?_
    refine sp_law_lot (by omega) (by decide) (by decide) fun b hb => ?_
    refine ⟨by rw [sizeLine_eq]; decide, by rw [sizeLine_eq, List.length_map]; omega, ?_⟩
    refine hn _ ⟨F ++ [(a, b)], .dat d, ?_, by rw [List.length_append, List.length_singleton]; omega, fun r hr => ?_⟩
    · rw [List.map_append]
      rfl
    · rcases List.mem_append.mp hr with z | z
      · exact hF r z
      · rw [List.mem_singleton] at z
        subst z
        exact ⟨ha, hb⟩
  · rintro η ⟨F, x4, rfl, hl, hF⟩
    simp_arith only []
    have hl' : F.length ≤ 10 := by simpa using hl
    refine ⟨⟨by rw [List.length_map]; omega, ?_, fun d hd d' hd' => ?_, fun d hd => ?_, fun d hd => ?_⟩, fun ys hp hm => ?_⟩
    · rw [List.all_eq_true]
      intro d hd
      obtain ⟨r, _, rfl⟩ := List.mem_map.mp hd
      exact itup_rule r
    · obtain ⟨r, _, rfl⟩ := List.mem_map.mp hd
      obtain ⟨r', _, rfl⟩ := List.mem_map.mp hd'
      exact alike_rule r r'
    · obtain ⟨r, _, rfl⟩ := List.mem_map.mp hd
      exact ⟨_, _, rfl⟩
    · obtain ⟨r, _, rfl⟩ := List.mem_map.mp hd
      rw [depth_rule]
      decide
    · obtain ⟨rs, rfl, hr⟩ := back_rules fun y hy => (hm y).mp hy
      refine ⟨by rw [sizeLine_eq]; decide, ?_⟩
      refine q rs ⟨h1, h6, ?_, fun r hr' => hF r (hr r hr'), List.pairwise_map.mp hp⟩
      have nd : (rs.map ruleD).Nodup := hp.imp fun {a b} hab e => by
        subst e
        rw [lt_irrefl] at hab
        cases hab
      have := nodup_len nd fun y hy => (hm y).mp hy
      rw [List.length_map, List.length_map] at this
      omega
end Lw

/-! PL5: schemas shown, by hand. -/
namespace Lw
open PySem DL PL
theorem rp_rule {n : Nat} {r : List Int × List Int} (h : InL n r.1 ∧ InL n r.2) (hn : n ≤ 64) : Rp 2 5378 (ruleD r) := rp_tup 2 (k := 1) (w := 2688) (fun d hd => by
  simp only [List.mem_cons, List.not_mem_nil, or_false] at hd
  rcases hd with rfl | rfl
  · exact h.1.rp hn
  · exact h.2.rp hn) (Nat.le_refl _)
theorem Val.rp {n : Nat} {rs : Rules} (h : Val n rs) : Rp 4 107582 (schD n rs) := by
  have n6 := h.n6
  have r1 : Rp 3 53790 (.tuple (rs.map ruleD)) := rp_tup 10 (k := 2) (w := 5378) (fun d hd => by
    obtain ⟨r, hr, rfl⟩ := List.mem_map.mp hd
    exact rp_rule (h.lots r hr) (by omega)) (by rw [List.length_map]; exact h.few)
  refine rp_tup 2 (k := 3) (w := 53790) (fun d hd => ?_) (Nat.le_refl _)
  simp only [List.mem_cons, List.not_mem_nil, or_false] at hd
  rcases hd with rfl | rfl
  · exact (rp_int (by omega)).mono (by decide) (by decide)
  · exact r1
theorem rp_two {k w : Nat} {d : D} (h : Rp k w d) : Rp (k + 1) (2 * (w + 1)) (.list [d, d]) := rp_lst 2 (fun x hx => by
  simp only [List.mem_cons, List.not_mem_nil, or_false] at hx
  rcases hx with rfl | rfl <;> exact h) (Nat.le_refl _)
/-! by hand -/
def inlB (n : Nat) (l : List Int) : Bool := decide (Asc l) && l.all fun x => decide (0 ≤ x) && decide (x < n)
theorem inl_of {n : Nat} {l : List Int} (h : inlB n l = true) : InL n l := by
  unfold inlB at h
  simp only [Bool.and_eq_true, decide_eq_true_eq, List.all_eq_true] at h
  exact ⟨h.1, h.2⟩
theorem val_of {n : Nat} {rs : Rules} (h : (decide (1 ≤ n) && decide (n ≤ 6) && decide (rs.length ≤ 10) && (rs.all fun r => inlB n r.1 && inlB n r.2) && decide (rs.Pairwise fun a b => PySem.W.dataLt (ruleD a) (ruleD b) = true)) = true) : Val n rs := by
  simp only [Bool.and_eq_true, decide_eq_true_eq, List.all_eq_true] at h
  obtain ⟨⟨⟨⟨h1, h2⟩, h3⟩, h4⟩, h5⟩ := h
  exact ⟨h1, h2, h3, fun r hr => ⟨inl_of (h4 r hr).1, inl_of (h4 r hr).2⟩, h5⟩
def settleC (n : Nat) (Cs : List (List Int)) (l : List Int) : List Int := (cols n).filter fun c => Cs.all fun m => !(subB l m) || decide (c ∈ m)
theorem settle_C (n : Nat) (rs : Rules) (l : List Int) : settle n rs l = settleC n (closedL n rs) l := by
  unfold settleC
  refine asc_ext (settle_in n rs l).asc ((cols_asc n).sublist List.filter_sublist) fun x => ?_
  rw [List.mem_filter, mem_cols, mem_settle, List.all_eq_true]
  refine and_congr_right fun _ => ⟨fun h m hm => ?_, fun h m h1 h2 h3 => ?_⟩
  · obtain ⟨h1, h2⟩ := mem_closedL.mp hm
    cases e : subB l m with
    | true => rw [decide_eq_true (h m h1 h2 (subB_iff.mp e))]; rfl
    | false => rfl
  · have := h m (mem_closedL.mpr ⟨h1, h2⟩)
    rw [subB_iff.mpr h3] at this
    simpa using this
def keysC (n : Nat) (Cs : List (List Int)) : List (List Int) := (lexLots (cols n)).filter fun l => decide (settleC n Cs l = cols n)
theorem keys_C (n : Nat) (rs : Rules) : keysL n rs = keysC n (closedL n rs) := by
  unfold keysL keysC
  refine List.filter_congr fun l _ => ?_
  rw [settle_C]
def leastC (K : List (List Int)) : List (List Int) := K.filter fun l => !(K.any fun m => decide (m ≠ l) && subB m l)
theorem least_C (n : Nat) (rs : Rules) : leastL n rs = leastC (keysC n (closedL n rs)) := by
  unfold leastL leastC
  rw [keys_C]
end Lw

/-! PL16a: data that may be laid, whole numbers and rows on any data. -/
namespace Lw
open PySem DL PL L2
open Lean.Parser.Tactic in
local macro_rules | `(tactic| simp_arith! only [$xs,*] $[$l:location]?) => `(tactic| simp -implicitDefEqProofs only [x_sSeq, x_sNext, x_sSet, x_sSetL, x_sOwn, x_sOwnL, x_sNew, x_sPar, x_sParN, x_sRet, x_sRetN, x_sIf, x_sDrop, x_sFor, x_sWhile, x_sNever, x_sFrz, x_sApp, x_sAppL, x_sExtL, x_sExtS, x_onSeqEL, x_onSeqET, x_sAug, x_sAsg, x_sBreak, x_sCont, x_onDat, x_onSeqL, x_onSeqT, x_on1I, x_on2I, x_on2L, x_on2T, x_onScr, x_ifB, x_onS, x_onOwn, x_onList, x_onInt, x_onCInt, x_isDrw, x_lenScr, x_dV, x_dK, x_dOp, x_dTup, x_dNew, x_nLst, x_nCall, x_nComp, x_nRg, x_dTupRg, x_gRg1, x_gRg2, x_dCall, x_dCallF, x_dSl, x_oNone, x_oSome, x_dAnd, x_dOr, x_dNot, x_oNeg, x_bVal, x_bAnd, x_bOr, x_bNot, x_dIf, x_dChain, x_aNil, x_aCons, x_cNil, x_cCons, x_cDrw, x_iSeq, x_iRange1, x_iRange2, x_iZip2, x_iEnum1, x_iEnumZ, x_on2TT, x_nSortSet, x_onTupO, x_nSortSetI, x_nSortSetE, x_fMinL, x_fSumL, x_dDict0, x_sIns, x_sPut, x_sRaise, x_dCallE, x_sTry1, x_gN, x_gT, x_gCons, x_gNil, x_bYes, x_fLenL, x_fLenT, x_fLenS, x_fTupleL, x_fTupleT, x_fListL, x_fListT, x_fSorted, x_fAll, x_fAny, x_fSum, x_fIntI, x_fIntB, x_fMin2, x_fMax2, x_fRepr, x_dIsi, x_lend, x_lendD, x_lendO, x_lendR, x_lendU, x_lendS, x_wipe0, x_wipe1, x_addI, x_addS, x_addL, x_addT, x_sub, x_mod, x_div, x_pow, x_mulI, x_mulL, x_mul2T, x_sM2, x_sM3, x_on2C, x_on3C, x_mNil, x_mD, x_mN, x_aStar, x_fSortedT, x_isB, x_isN, x_isN0, x_isNI, x_isNT, x_isNL, x_isNS, x_isNB, x_lt, x_ltT, x_ord, x_ordT, x_ixL, x_ixT, x_ixS, x_fListD, x_fListDL, x_fReprD, x_dRev, x_nCat2, x_sOwnCat, x_onSeqRL, x_onSeqRT, x_onCat, x_eqT0, x_neL0, x_fSortedD, x_dDc, oGe2, oLe2, oGt2, List.getElem?_cons_zero, List.getElem?_cons_succ, List.getElem?_nil, List.set_cons_zero, List.set_cons_succ, List.map_cons, List.map_nil, List.length_cons, List.length_nil, List.replicate, List.cons_append, List.nil_append, Nat.reduceSub, Nat.reduceAdd, Nat.zero_add, if_true, Bool.false_eq_true, if_false, bne_self_eq_false, Bool.true_bne, Bool.false_bne, Bool.not_true, Bool.not_false, true_and, and_true, Bool.bne_false, Bool.bne_true, k_eqI, k_neI, k_eqS, k_neS, k_eqT, k_neT, k_eqLL, k_neLL, k_eqTT, k_neTT, k_inLI, k_inLT, k_inTTT, k_inT, k_in23, k_eqLn, k_neLn, k_eqTn, k_neTn, k_eqTn', k_neTn', k_onSeq, k_onTupO, k_onSeqE, k_lenT, k_tupL, k_tupT, k_listT, k_addT, k_addT1, k_ixT, ixN_map, onS_map, k_isiT, k_isiTi, k_isiTb, k_isiTs, k_isiTl, k_isi, k_isil, k_isii, k_isiib, k_isis, k_isNT, k_flatT, k_flatI, k_flatLs, k_flatTLs, k_gT, k_on2T, k_ordT, k_ltT, k_gR, k_ixR0, k_ixR1, k_ixS0, k_ixS1, List.length_map, eq_self, Int.cast_ofNat_Int, Int.reduceEq, Int.reduceLE, Int.reduceLT, Int.reduceAdd, Int.reduceSub, Int.reduceNeg, decide_true, decide_false, or_true, true_or, or_false, false_or, k_ofS, String.reduceEq, sizeLine_eq, Nat.reduceLeDiff, k_at0, k_at1, k_at2, k_at3, $xs,*] $[$l:location]?)
variable {n : Nat} {rs : Rules} {l p : List Int} {Q : D → Prop}
/-! ### data that may be laid -/
structure Ly (k : Nat) (d : D) : Prop where
  lay : d.canLay0 = true
  dep : d.depth ≤ k
theorem Ly.mono {k k' : Nat} {d : D} (h : Ly k d) (hk : k ≤ k') : Ly k' d := ⟨h.lay, Nat.le_trans h.dep hk⟩
theorem Ly.of (d : D) [h : Shd d] : Ly 30 d := ⟨h.lay, h.dep⟩
theorem ly_all {k : Nat} : ∀ {ds : List D}, (∀ d ∈ ds, Ly k d) → PyData.canLayAll0 ds = true ∧ PyData.depthAll ds ≤ k
  | [], _ => ⟨rfl, Nat.zero_le _⟩
  | d :: ds, h => by
    have r := h d List.mem_cons_self
    have ih := ly_all (k := k) fun x hx => h x (List.mem_cons_of_mem _ hx)
    refine ⟨by rw [PyData.canLayAll0, r.lay, ih.1]; rfl, by rw [PyData.depthAll]; exact Nat.max_le.mpr ⟨r.dep, ih.2⟩⟩
theorem ly_tup {k : Nat} {ds : List D} (h : ∀ d ∈ ds, Ly k d) : Ly (k + 1) (.tuple ds) :=
  ⟨by rw [PyData.canLay0]; exact (ly_all h).1, by rw [PyData.depth]; exact Nat.succ_le_succ (ly_all h).2⟩
theorem ly_lst {k : Nat} {ds : List D} (h : ∀ d ∈ ds, Ly k d) : Ly (k + 1) (.list ds) :=
  ⟨by rw [PyData.canLay0]; exact (ly_all h).1, by rw [PyData.depth]; exact Nat.succ_le_succ (ly_all h).2⟩
theorem ly_mem {k : Nat} {d : D} : ∀ {ds : List D}, PyData.canLayAll0 ds = true → PyData.depthAll ds ≤ k → d ∈ ds → Ly k d
  | [], _, _, h => by cases h
  | x :: ds, h1, h2, h => by
    rw [PyData.canLayAll0, Bool.and_eq_true] at h1
    rw [PyData.depthAll] at h2
    rcases List.mem_cons.mp h with e | e
    · subst e
      exact ⟨h1.1, Nat.le_trans (Nat.le_max_left _ _) h2⟩
    · exact ly_mem h1.2 (Nat.le_trans (Nat.le_max_right _ _) h2) e
theorem Ly.item {k : Nat} {d : D} {ds : List D} (h : Ly k (.tuple ds)) (hd : d ∈ ds) : Ly k d := by
  have h1 := h.lay
  have h2 := h.dep
  rw [PyData.canLay0] at h1
  rw [PyData.depth] at h2
  exact ly_mem h1 (by omega) hd
theorem Ly.itemL {k : Nat} {d : D} {ds : List D} (h : Ly k (.list ds)) (hd : d ∈ ds) : Ly k d := by
  have h1 := h.lay
  have h2 := h.dep
  rw [PyData.canLay0] at h1
  rw [PyData.depth] at h2
  exact ly_mem h1 (by omega) hd
theorem Ly.shaped {k : Nat} {d : D} (h : Ly k d) (hk : k ≤ 64 := by decide) : SeqAt.shaped d = true := by
  unfold SeqAt.shaped
  rw [h.lay, decide_eq_true (Nat.le_trans h.dep hk)]
  rfl
theorem Ly.eqOk {k k' : Nat} {x y : D} (h : Ly k x) (h' : Ly k' y) (hk : k ≤ 64 := by decide) (hk' : k' ≤ 64 := by decide) : eqOk x y = true := by
  unfold DL.eqOk
  split
  · rfl
  · rw [h.shaped hk, h'.shaped hk']
    rfl
theorem ly_nilL : Ly 1 (.list []) := ⟨rfl, by decide⟩
theorem ly_nilT : Ly 1 (.tuple []) := ⟨rfl, by decide⟩
/-- `[.. for x in xs if ..] == []` -/
theorem comp_nil {α : Type} (h k : α → D) (p : α → Bool) {g : GT} {tt : BT} {te : ET} {η0 : EnvD} {xs : List α} {j : Nat} (hj : j ≤ 60)
    (each : ∀ a ∈ xs, ∀ (R1 : D → Prop) (R0 : Prop), (p a = true → R1 (k a)) → (p a = false → R0) → g (h a) η0 fun η1 => tt never η1 fun b => if b = true then te never η1 R1 else R0)
    (hl : xs.length ≤ sizeLine) (ly : ∀ a ∈ xs, Ly j (k a)) (q : Q (.bool (xs.all fun x => !p x))) : compD g tt te η0 (xs.map h) [] fun ds => oEq (.list ds) (.list []) Q := by
  refine compD_fl h k p each (by simpa using hl) ?_
  rw [List.nil_append, x_eq]
  refine ⟨(ly_lst (k := j) fun d hd => ?_).eqOk ly_nilL (by omega), ?_⟩
  · obtain ⟨a, ha, rfl⟩ := List.mem_map.mp hd
    exact ly a (List.mem_filter.mp ha).1
  · rw [eqv_nil, List.isEmpty_map, filter_none]
    exact q
theorem comp_nilN {α : Type} (h k : α → D) (p : α → Bool) {g : GT} {tt : BT} {te : ET} {η0 : EnvD} {xs : List α} {j : Nat} (hj : j ≤ 60)
    (each : ∀ a ∈ xs, ∀ (R1 : D → Prop) (R0 : Prop), (p a = true → R1 (k a)) → (p a = false → R0) → g (h a) η0 fun η1 => tt never η1 fun b => if b = true then te never η1 R1 else R0)
    (hl : xs.length ≤ sizeLine) (ly : ∀ a ∈ xs, Ly j (k a)) (q : Q (.bool (!xs.all fun x => !p x))) : compD g tt te η0 (xs.map h) [] fun ds => oNe (.list ds) (.list []) Q := by
  refine compD_fl h k p each (by simpa using hl) ?_
  rw [List.nil_append, x_ne]
  refine ⟨(ly_lst (k := j) fun d hd => ?_).eqOk ly_nilL (by omega), ?_⟩
  · obtain ⟨a, ha, rfl⟩ := List.mem_map.mp hd
    exact ly a (List.mem_filter.mp ha).1
  · rw [eqv_nil, List.isEmpty_map, filter_none]
    exact q
/-! ### whole numbers, rows -/
def wholeB (lo hi : Int) : D → Bool
  | .int i => decide (lo ≤ i) && decide (i ≤ hi)
  | _ => false
theorem wholeB_i {lo hi i : Int} : wholeB lo hi (.int i) = (decide (lo ≤ i) && decide (i ≤ hi)) := rfl
theorem wholeB_iff {lo hi : Int} {d : D} : wholeB lo hi d = true ↔ ∃ i, d = .int i ∧ lo ≤ i ∧ i ≤ hi := by
  cases d <;> simp [wholeB]
theorem sp_wholeB (d : D) (lo hi : Int) (q : Q (.bool (wholeB lo hi d))) : w_is_whole never [.dat d, .dat (.int lo), .dat (.int hi)] Q := by
  refine sp_is_whole d lo hi fun b hb => ?_
  have : b = wholeB lo hi d := by rw [Bool.eq_iff_iff, hb, wholeB_iff]
  rwa [this]
theorem sp_law_is_wholeB (d : D) (lo hi : Int) (q : Q (.bool (wholeB lo hi d))) : w_law_is_whole never [.dat d, .dat (.int lo), .dat (.int hi)] Q := by
  refine body_in rfl ?_
  unfold t_law_is_whole
  cases d with
  | int i =>
    simp_arith! only [isiD, isiN, tyOf, x_ord]
    rw [wholeB_i] at q
    by_cases h : lo ≤ i
    · rw [decide_eq_true h] at q ⊢
      simp_arith! only [x_ord]
      exact q
    · rw [decide_eq_false h] at q ⊢
      simp_arith! only [x_ord]
      exact q
  | _ => first | exact q | (simp_arith! only [isiD, isiN, tyOf]; exact q)
def rowB (n : Nat) : D → Bool
  | .tuple ds => decide (ds.length = n) && ds.all (wholeB 0 1000000000)
  | _ => false
theorem rowB_t {ds : List D} : rowB n (.tuple ds) = (decide (ds.length = n) && ds.all (wholeB 0 1000000000)) := rfl
def intsOf : D → List Int
  | .tuple ds => ds.map iOf
  | _ => []
theorem ints_whole {lo hi : Int} : ∀ {ds : List D}, ds.all (wholeB lo hi) = true → ds = (ds.map iOf).map .int ∧ ∀ x ∈ ds.map iOf, lo ≤ x ∧ x ≤ hi
  | [], _ => ⟨rfl, fun x hx => by cases hx⟩
  | d :: ds, h => by
    rw [List.all_cons, Bool.and_eq_true] at h
    obtain ⟨i, rfl, h1⟩ := wholeB_iff.mp h.1
    obtain ⟨e, h2⟩ := ints_whole h.2
    refine ⟨by rw [List.map_cons, List.map_cons, ← e]; rfl, fun x hx => ?_⟩
    rcases List.mem_cons.mp hx with z | z
    · subst z; exact h1
    · exact h2 x z
theorem row_of {d : D} (h : rowB n d = true) : d = T (intsOf d) ∧ RowOk n (intsOf d) := by
  cases d with
  | tuple ds =>
    unfold rowB at h
    rw [Bool.and_eq_true, decide_eq_true_eq] at h
    obtain ⟨e, h2⟩ := ints_whole h.2
    refine ⟨?_, by unfold intsOf; rw [List.length_map]; exact h.1, h2⟩
    unfold intsOf T
    rw [← e]
  | _ => cases h
theorem rowB_T {a : List Int} (h : RowOk n a) : rowB n (T a) = true := by
  unfold rowB T
  simp only
  rw [List.length_map, decide_eq_true h.len, Bool.true_and, List.all_eq_true]
  intro d hd
  obtain ⟨x, hx, rfl⟩ := List.mem_map.mp hd
  exact wholeB_iff.mpr ⟨x, rfl, h.rng x hx⟩
theorem intsOf_T {a : List Int} : intsOf (T a) = a := by
  show (a.map PyData.int).map iOf = a
  rw [List.map_map]
  exact List.map_id _
theorem map_idD (ds : List D) : ds = ds.map id := (List.map_id ds).symm
theorem agr_at {a : List Int} (la : a.length = n) {c : Int} (hc : c ∈ cols n) : atI a c = some (a.getD c.toNat 0) := by
  obtain ⟨h0, h1⟩ := mem_cols.mp hc
  have := atI_some (xs := a) (k := c.toNat) (a := a.getD c.toNat 0) (by
    have hk : c.toNat < a.length := by omega
    simp [List.getD, hk])
  rwa [show ((c.toNat : Nat) : Int) = c by omega] at this
theorem agr_filter {a b : List Int} (la : a.length = n) : (cols n).filter (fun c => decide (a.getD c.toNat 0 = b.getD c.toNat 0)) = agr a b := by
  unfold agr
  rw [la]
end Lw

/-! PL44: schemas judged, on any data. -/
namespace Lw
open PySem DL PL L2
open Lean.Parser.Tactic in
local macro_rules | `(tactic| simp_arith! only [$xs,*] $[$l:location]?) => `(tactic| simp -implicitDefEqProofs only [x_sSeq, x_sNext, x_sSet, x_sSetL, x_sOwn, x_sOwnL, x_sNew, x_sPar, x_sParN, x_sRet, x_sRetN, x_sIf, x_sDrop, x_sFor, x_sWhile, x_sNever, x_sFrz, x_sApp, x_sAppL, x_sExtL, x_sExtS, x_onSeqEL, x_onSeqET, x_sAug, x_sAsg, x_sBreak, x_sCont, x_onDat, x_onSeqL, x_onSeqT, x_on1I, x_on2I, x_on2L, x_on2T, x_onScr, x_ifB, x_onS, x_onOwn, x_onList, x_onInt, x_onCInt, x_isDrw, x_lenScr, x_dV, x_dK, x_dOp, x_dTup, x_dNew, x_nLst, x_nCall, x_nComp, x_nRg, x_dTupRg, x_gRg1, x_gRg2, x_dCall, x_dCallF, x_dSl, x_oNone, x_oSome, x_dAnd, x_dOr, x_dNot, x_oNeg, x_bVal, x_bAnd, x_bOr, x_bNot, x_dIf, x_dChain, x_aNil, x_aCons, x_cNil, x_cCons, x_cDrw, x_iSeq, x_iRange1, x_iRange2, x_iZip2, x_iEnum1, x_iEnumZ, x_on2TT, x_nSortSet, x_onTupO, x_nSortSetI, x_nSortSetE, x_fMinL, x_fSumL, x_dDict0, x_sIns, x_sPut, x_sRaise, x_dCallE, x_sTry1, x_gN, x_gT, x_gCons, x_gNil, x_bYes, x_fLenL, x_fLenT, x_fLenS, x_fTupleL, x_fTupleT, x_fListL, x_fListT, x_fSorted, x_fAll, x_fAny, x_fSum, x_fIntI, x_fIntB, x_fMin2, x_fMax2, x_fRepr, x_dIsi, x_lend, x_lendD, x_lendO, x_lendR, x_lendU, x_lendS, x_wipe0, x_wipe1, x_addI, x_addS, x_addL, x_addT, x_sub, x_mod, x_div, x_pow, x_mulI, x_mulL, x_mul2T, x_sM2, x_sM3, x_on2C, x_on3C, x_mNil, x_mD, x_mN, x_aStar, x_fSortedT, x_isB, x_isN, x_isN0, x_isNI, x_isNT, x_isNL, x_isNS, x_isNB, x_lt, x_ltT, x_ord, x_ordT, x_ixL, x_ixT, x_ixS, x_fListD, x_fListDL, x_fReprD, x_dRev, x_nCat2, x_sOwnCat, x_onSeqRL, x_onSeqRT, x_onCat, x_eqT0, x_neL0, x_fSortedD, x_dDc, oGe2, oLe2, oGt2, List.getElem?_cons_zero, List.getElem?_cons_succ, List.getElem?_nil, List.set_cons_zero, List.set_cons_succ, List.map_cons, List.map_nil, List.length_cons, List.length_nil, List.replicate, List.cons_append, List.nil_append, Nat.reduceSub, Nat.reduceAdd, Nat.zero_add, if_true, Bool.false_eq_true, if_false, bne_self_eq_false, Bool.true_bne, Bool.false_bne, Bool.not_true, Bool.not_false, true_and, and_true, Bool.bne_false, Bool.bne_true, k_eqI, k_neI, k_eqS, k_neS, k_eqT, k_neT, k_eqLL, k_neLL, k_eqTT, k_neTT, k_inLI, k_inLT, k_inTTT, k_inT, k_in23, k_eqLn, k_neLn, k_eqTn, k_neTn, k_eqTn', k_neTn', k_onSeq, k_onTupO, k_onSeqE, k_lenT, k_tupL, k_tupT, k_listT, k_addT, k_addT1, k_ixT, ixN_map, onS_map, k_isiT, k_isiTi, k_isiTb, k_isiTs, k_isiTl, k_isi, k_isil, k_isii, k_isiib, k_isis, k_isNT, k_flatT, k_flatI, k_flatLs, k_flatTLs, k_gT, k_on2T, k_ordT, k_ltT, k_gR, k_ixR0, k_ixR1, k_ixS0, k_ixS1, List.length_map, eq_self, Int.cast_ofNat_Int, Int.reduceEq, Int.reduceLE, Int.reduceLT, Int.reduceAdd, Int.reduceSub, Int.reduceNeg, decide_true, decide_false, or_true, true_or, or_false, false_or, k_ofS, String.reduceEq, sizeLine_eq, Nat.reduceLeDiff, k_at0, k_at1, k_at2, k_at3, $xs,*] $[$l:location]?)
variable {Q : D → Prop}
theorem compD_id {g : GT} {tt : BT} {te : ET} {η0 : EnvD} {ds acc : List D} {K : List D → Prop} : compD g tt te η0 ds acc K = compD g tt te η0 (ds.map id) acc K := by rw [List.map_id]
theorem forD_enum {xs : List D} {g : GT} {tb : SD} {E : XP} {z : EndsD} (J : List D → EnvD → Prop)
    (h : ∀ done a rest η, xs = done ++ a :: rest → J done η → ∀ nx : EnvD → Prop, (∀ η', J (done ++ [a]) η' → nx η') → g (.tuple [.int (done.length : Nat), a]) η fun η1 => tb E { nx := nx, rt := z.rt, bk := z.nx, ct := nx } η1)
    (h0 : ∀ η, J xs η → z.nx η) {η : EnvD} (j : J [] η) : forD g tb E z (pairsD (rangeD 0 xs.length) xs) η := by
  have e := enum_map' id xs
  rw [List.map_id] at e
  rw [e]
  refine forD_inv (fun ds η => ∃ done rest, xs = done ++ rest ∧ ds = (rest.zipIdx done.length).map (fun p => .tuple [.int (p.2 : Nat), id p.1]) ∧ J done η) ?_ ?_ ⟨[], xs, rfl, rfl, j⟩
  · rintro d ds η ⟨done, rest, e, e2, hj⟩ nx hn
    cases rest with
    | nil => cases e2
    | cons a rest =>
      simp only [List.zipIdx_cons, List.map_cons, List.cons.injEq] at e2
      obtain ⟨rfl, rfl⟩ := e2
      exact h done a rest η e hj nx fun η' j' => hn η' ⟨done ++ [a], rest, by rw [e]; simp, by simp, j'⟩
  · rintro η ⟨done, rest, e, e2, hj⟩
    have : rest = [] := by cases rest with
      | nil => rfl
      | cons c r => cases e2
    subst this
    rw [List.append_nil] at e
    subst e
    exact h0 η hj
theorem wt_len : ∀ {ds : List D}, ds.length ≤ PyData.weightAll ds
  | [] => Nat.zero_le _
  | d :: ds => by rw [PyData.weightAll, List.length_cons]; have := wt_len (ds := ds); omega
theorem wt_mem : ∀ {ds : List D} {x : D}, x ∈ ds → x.weight + 1 ≤ PyData.weightAll ds
  | d :: ds, x, h => by
    rw [PyData.weightAll]
    rcases List.mem_cons.mp h with rfl | z
    · omega
    · have := wt_mem z; omega
theorem wt_t {ds : List D} : (PyData.tuple ds).weight = PyData.weightAll ds := by rw [PyData.weight]
def ascB (l : List Int) : Bool := (l.zip (l.drop 1)).all fun p => decide (p.1 < p.2)
def lotB (n : Int) : D → Bool
  | .tuple ds => ds.all (wholeB 0 (n - 1)) && ascB (ds.map iOf)
  | _ => false
theorem lotB_t {n : Int} {ds : List D} : lotB n (.tuple ds) = (ds.all (wholeB 0 (n - 1)) && ascB (ds.map iOf)) := rfl
theorem sp_is_lot_ofA {n : Int} (d : D) (hd : d.weight ≤ sizeLine) (q : Q (.bool (lotB n d))) : w_is_lot_of never [.dat (.int n), .dat d] Q := by
  refine body_in rfl ?_
  unfold t_is_lot_of
  cases d with
  | tuple ds =>
    have hl : ds.length ≤ sizeLine := Nat.le_trans wt_len (by rwa [wt_t] at hd)
    simp_arith! only []
    rw [compD_id]
    refine compD_mp id (fun d => .bool (wholeB 0 (n - 1) d)) (fun d hd R1 R0 r => ?_) (by simpa using hl) ?_
    · simp_arith! only [id]
      exact sp_wholeB _ _ _ r
    · rw [List.nil_append]
      refine ⟨all_bools _ _, ?_⟩
      rw [all_of]
      cases e : ds.all (wholeB 0 (n - 1)) with
      | false => simp_arith! only []; rw [lotB_t, e] at q; exact q
      | true =>
        simp_arith! only []
        rw [lotB_t, e, Bool.true_and] at q
        obtain ⟨e1, e2⟩ := ints_whole e
        rw [e1]
        refine sp_are_ascending (ds.map iOf) (by simpa using hl) fun b hb => ?_
        have : b = ascB (ds.map iOf) := by rw [Bool.eq_iff_iff, hb]; exact (pair_asc _).symm
        rwa [this]
  | _ => simp_arith! only [isiD, isiN, tyOf]; exact q
theorem pairs_zip (l : List Int) : pairsD (l.map PyData.int) ((l.drop 1).map PyData.int) = (l.zip (l.drop 1)).map fun p => .tuple [.int p.1, .int p.2] := by
  unfold pairsD
  rw [List.zip_map, List.map_map]
  rfl
theorem sp_law_is_lot_soA {n : Int} (d : D) (hd : d.weight ≤ sizeLine) (q : Q (.bool (lotB n d))) : w_law_is_lot_so never [.dat d, .dat (.int n)] Q := by
  refine body_in rfl ?_
  unfold t_law_is_lot_so
  cases d with
  | tuple ds =>
    have hl : ds.length ≤ sizeLine := Nat.le_trans wt_len (by rwa [wt_t] at hd)
    simp_arith! only []
    rw [compD_id]
    refine compD_fl id id (fun d => !wholeB 0 (n - 1) d) (fun d hd R1 R0 r1 r0 => ?_) (by simpa using hl) ?_
    · simp_arith! only [id]
      refine sp_law_is_wholeB _ _ _ ?_
      cases e : wholeB 0 (n - 1) d with
      | true => simp_arith! only []; exact r0 (by rw [e]; rfl)
      | false => simp_arith! only []; exact r1 (by rw [e]; rfl)
    · rw [List.nil_append, List.map_id]
      (try simp_arith! only [])
      have ea : (ds.filter fun d => !wholeB 0 (n - 1) d).isEmpty = ds.all (wholeB 0 (n - 1)) := by
        rw [filter_none]
        simp
      rw [ea]
      cases e : ds.all (wholeB 0 (n - 1)) with
      | false => simp_arith! only []; rw [lotB_t, e] at q; exact q
      | true =>
        simp_arith! only []
        rw [lotB_t, e, Bool.true_and] at q
        obtain ⟨e1, e2⟩ := ints_whole e
        generalize ds.map iOf = l at *
        subst e1
        rw [cut1, ← List.map_drop, pairs_zip]
        refine comp_nil (j := 0) (fun p : Int × Int => .tuple [.int p.1, .int p.2]) (fun _ => .int 1) (fun p => decide (p.2 ≤ p.1)) (by decide) (fun p _ R1 R0 r1 r0 => ?_) ?_ (fun _ _ => ⟨rfl, by decide⟩) ?_
        · simp_arith! only []
          cases e : decide (p.2 ≤ p.1) with
          | true => simp_arith! only []; exact r1 e
          | false => simp_arith! only []; exact r0 e
        · rw [List.length_zip]
          simp at hl ⊢
          omega
        · have : ((l.zip (l.drop 1)).all fun p => !decide (p.2 ≤ p.1)) = ascB l := by
            unfold ascB
            congr 1
            funext p
            rw [Bool.eq_iff_iff]
            simp
          rw [this]
          exact q
  | _ => simp_arith! only [isiD, isiN, tyOf]; exact q
def ruleB (n : Int) : D → Bool
  | .tuple [x, y] => lotB n x && lotB n y
  | _ => false
theorem ruleB_2 {n : Int} {x y : D} : ruleB n (.tuple [x, y]) = (lotB n x && lotB n y) := rfl
theorem ruleB_ne {n : Int} {ds : List D} (h : ds.length ≠ 2) : ruleB n (.tuple ds) = false := by
  match ds, h with
  | [], _ => rfl
  | [_], _ => rfl
  | [_, _], h => exact absurd rfl h
  | _ :: _ :: _ :: _, _ => rfl
theorem len2 {ds : List D} (h : ds.length = 2) : ∃ x y, ds = [x, y] := by
  match ds, h with
  | [x, y], _ => exact ⟨x, y, rfl⟩
theorem sp_is_ruleA {n : Int} (d : D) (hd : d.weight ≤ sizeLine) (q : Q (.bool (ruleB n d))) : w_is_rule never [.dat (.int n), .dat d] Q := by
  refine body_in rfl ?_
  unfold t_is_rule
  cases d with
  | tuple ds =>
    simp_arith! only []
    by_cases h2 : ds.length = 2
    · obtain ⟨x, y, rfl⟩ := len2 h2
      rw [wt_t] at hd
      have hm := fun z (hz : z ∈ [x, y]) => Nat.le_trans (Nat.le_of_succ_le (wt_mem hz)) hd
      simp_arith! only []
      rw [compD_id]
      refine compD_mp id (fun d => .bool (lotB n d)) (fun d hd R1 R0 r => ?_) (by rw [sizeLine_eq]; simp) ?_
      · simp_arith! only [id]
        exact sp_is_lot_ofA _ (hm d hd) r
      · rw [List.nil_append]
        refine ⟨all_bools _ _, ?_⟩
        rw [all_of]
        simpa [ruleB_2] using q
    · rw [decide_eq_false (by omega)]
      rw [ruleB_ne h2] at q
      simp_arith! only []
      exact q
  | _ => simp_arith! only [isiD, isiN, tyOf]; exact q
theorem sp_law_is_ruleA {n : Int} (d : D) (hd : d.weight ≤ sizeLine) (q : Q (.bool (ruleB n d))) : w_law_is_rule never [.dat d, .dat (.int n)] Q := by
  refine body_in rfl ?_
  unfold t_law_is_rule
  cases d with
  | tuple ds =>
    simp_arith! only []
    by_cases h2 : ds.length = 2
    · obtain ⟨x, y, rfl⟩ := len2 h2
      rw [wt_t] at hd
      have hm := fun z (hz : z ∈ [x, y]) => Nat.le_trans (Nat.le_of_succ_le (wt_mem hz)) hd
      simp_arith! only []
      rw [ruleB_2] at q
      refine sp_law_is_lot_soA _ (hm x (by simp)) ?_
      cases e : lotB n x with
      | false => simp_arith! only []; rw [e] at q; exact q
      | true =>
        simp_arith! only []
        rw [e, Bool.true_and] at q
        exact sp_law_is_lot_soA _ (hm y (by simp)) q
    · rw [decide_eq_false (by omega)]
      rw [ruleB_ne h2] at q
      simp_arith! only []
      exact q
  | _ => simp_arith! only [isiD, isiN, tyOf]; exact q
end Lw

/-! PL45: the first place that cannot stand. -/
namespace Lw
open PySem DL PL L2
open Lean.Parser.Tactic in
local macro_rules | `(tactic| simp_arith! only [$xs,*] $[$l:location]?) => `(tactic| simp -implicitDefEqProofs only [x_sSeq, x_sNext, x_sSet, x_sSetL, x_sOwn, x_sOwnL, x_sNew, x_sPar, x_sParN, x_sRet, x_sRetN, x_sIf, x_sDrop, x_sFor, x_sWhile, x_sNever, x_sFrz, x_sApp, x_sAppL, x_sExtL, x_sExtS, x_onSeqEL, x_onSeqET, x_sAug, x_sAsg, x_sBreak, x_sCont, x_onDat, x_onSeqL, x_onSeqT, x_on1I, x_on2I, x_on2L, x_on2T, x_onScr, x_ifB, x_onS, x_onOwn, x_onList, x_onInt, x_onCInt, x_isDrw, x_lenScr, x_dV, x_dK, x_dOp, x_dTup, x_dNew, x_nLst, x_nCall, x_nComp, x_nRg, x_dTupRg, x_gRg1, x_gRg2, x_dCall, x_dCallF, x_dSl, x_oNone, x_oSome, x_dAnd, x_dOr, x_dNot, x_oNeg, x_bVal, x_bAnd, x_bOr, x_bNot, x_dIf, x_dChain, x_aNil, x_aCons, x_cNil, x_cCons, x_cDrw, x_iSeq, x_iRange1, x_iRange2, x_iZip2, x_iEnum1, x_iEnumZ, x_on2TT, x_nSortSet, x_onTupO, x_nSortSetI, x_nSortSetE, x_fMinL, x_fSumL, x_dDict0, x_sIns, x_sPut, x_sRaise, x_dCallE, x_sTry1, x_gN, x_gT, x_gCons, x_gNil, x_bYes, x_fLenL, x_fLenT, x_fLenS, x_fTupleL, x_fTupleT, x_fListL, x_fListT, x_fSorted, x_fAll, x_fAny, x_fSum, x_fIntI, x_fIntB, x_fMin2, x_fMax2, x_fRepr, x_dIsi, x_lend, x_lendD, x_lendO, x_lendR, x_lendU, x_lendS, x_wipe0, x_wipe1, x_addI, x_addS, x_addL, x_addT, x_sub, x_mod, x_div, x_pow, x_mulI, x_mulL, x_mul2T, x_sM2, x_sM3, x_on2C, x_on3C, x_mNil, x_mD, x_mN, x_aStar, x_fSortedT, x_isB, x_isN, x_isN0, x_isNI, x_isNT, x_isNL, x_isNS, x_isNB, x_lt, x_ltT, x_ord, x_ordT, x_ixL, x_ixT, x_ixS, x_fListD, x_fListDL, x_fReprD, x_dRev, x_nCat2, x_sOwnCat, x_onSeqRL, x_onSeqRT, x_onCat, x_eqT0, x_neL0, x_fSortedD, x_dDc, oGe2, oLe2, oGt2, List.getElem?_cons_zero, List.getElem?_cons_succ, List.getElem?_nil, List.set_cons_zero, List.set_cons_succ, List.map_cons, List.map_nil, List.length_cons, List.length_nil, List.replicate, List.cons_append, List.nil_append, Nat.reduceSub, Nat.reduceAdd, Nat.zero_add, if_true, Bool.false_eq_true, if_false, bne_self_eq_false, Bool.true_bne, Bool.false_bne, Bool.not_true, Bool.not_false, true_and, and_true, Bool.bne_false, Bool.bne_true, k_eqI, k_neI, k_eqS, k_neS, k_eqT, k_neT, k_eqLL, k_neLL, k_eqTT, k_neTT, k_inLI, k_inLT, k_inTTT, k_inT, k_in23, k_eqLn, k_neLn, k_eqTn, k_neTn, k_eqTn', k_neTn', k_onSeq, k_onTupO, k_onSeqE, k_lenT, k_tupL, k_tupT, k_listT, k_addT, k_addT1, k_ixT, ixN_map, onS_map, k_isiT, k_isiTi, k_isiTb, k_isiTs, k_isiTl, k_isi, k_isil, k_isii, k_isiib, k_isis, k_isNT, k_flatT, k_flatI, k_flatLs, k_flatTLs, k_gT, k_on2T, k_ordT, k_ltT, k_gR, k_ixR0, k_ixR1, k_ixS0, k_ixS1, List.length_map, eq_self, Int.cast_ofNat_Int, Int.reduceEq, Int.reduceLE, Int.reduceLT, Int.reduceAdd, Int.reduceSub, Int.reduceNeg, decide_true, decide_false, or_true, true_or, or_false, false_or, k_ofS, String.reduceEq, sizeLine_eq, Nat.reduceLeDiff, k_at0, k_at1, k_at2, k_at3, $xs,*] $[$l:location]?)
variable {Q : D → Prop}
def badB (n : Int) (p : Option D) (d : D) : Bool := !ruleB n d || (match p with
  | none => false
  | some p => !PySem.W.dataLt p d)
def rulesF (n : Int) : Nat → Option D → List D → Option Nat
  | _, _, [] => none
  | i, p, d :: ds => if badB n p d = true then some i else rulesF n (i + 1) (some d) ds
def plc (ss : List D) : D := .tuple ss
def faultR (n : Int) : D → Option D
  | .tuple ds => if ds.length ≤ 10 then (rulesF n 0 none ds).map fun i => .tuple [.str (Str.ofString "rule"), .int (i : Nat)] else some (.tuple [.str (Str.ofString "rules")])
  | _ => some (.tuple [.str (Str.ofString "rules")])
def fault2 (x y : D) : Option D := if wholeB 1 6 x = true then faultR (iOf x) y else some (.tuple [.str (Str.ofString "wide")])
def faultK : D → Option D
  | .tuple [x, y] => fault2 x y
  | _ => some (.tuple [])
def optD : Option D → D
  | none => .none
  | some d => d
theorem faultK_ne {ds : List D} (h : ds.length ≠ 2) : faultK (.tuple ds) = some (.tuple []) := by
  match ds, h with
  | [], _ => rfl
  | [_], _ => rfl
  | [_, _], h => exact absurd rfl h
  | _ :: _ :: _ :: _, _ => rfl
theorem faultK_2 {x y : D} : faultK (.tuple [x, y]) = fault2 x y := rfl
theorem faultK_w {x y : D} (h : wholeB 1 6 x = false) : faultK (.tuple [x, y]) = some (.tuple [.str (Str.ofString "wide")]) := by
  rw [faultK_2]; unfold fault2
  rw [h]; rfl
theorem faultK_r {x : D} {ds : List D} (h : wholeB 1 6 x = true) (h2 : 10 < ds.length) : faultK (.tuple [x, .tuple ds]) = some (.tuple [.str (Str.ofString "rules")]) := by
  rw [faultK_2]; unfold fault2 faultR
  rw [h, if_pos rfl]
  simp only
  rw [if_neg (by omega)]
theorem faultK_t {x : D} {ds : List D} (h : wholeB 1 6 x = true) (h2 : ds.length ≤ 10) : faultK (.tuple [x, .tuple ds]) = (rulesF (iOf x) 0 none ds).map fun i => .tuple [.str (Str.ofString "rule"), .int (i : Nat)] := by
  rw [faultK_2]; unfold fault2 faultR
  rw [h, if_pos rfl]
  simp only
  rw [if_pos h2]
theorem faultK_o {x y : D} (h : wholeB 1 6 x = true) (hy : ∀ ds, y ≠ .tuple ds) : faultK (.tuple [x, y]) = some (.tuple [.str (Str.ofString "rules")]) := by
  rw [faultK_2]; unfold fault2
  rw [h, if_pos rfl]
  cases y <;> first | rfl | exact absurd rfl (hy _)
theorem faultK_tup {d p : D} (h : faultK d = some p) : ∃ ds, p = .tuple ds := by
  unfold faultK at h
  split at h
  · unfold fault2 at h
    split at h
    · unfold faultR at h
      split at h
      · split at h
        · obtain ⟨i, _, rfl⟩ := Option.map_eq_some_iff.mp h
          exact ⟨_, rfl⟩
        · cases h; exact ⟨_, rfl⟩
      · cases h; exact ⟨_, rfl⟩
    · cases h; exact ⟨_, rfl⟩
  · cases h; exact ⟨_, rfl⟩
theorem lot_of {n : Int} {d : D} (h : lotB n d = true) : ∃ l : List Int, d = T l := by
  cases d with
  | tuple ds =>
    rw [lotB_t, Bool.and_eq_true] at h
    obtain ⟨e, _⟩ := ints_whole h.1
    exact ⟨ds.map iOf, by unfold T; rw [← e]⟩
  | _ => cases h
theorem rule_of {n : Int} {d : D} (h : ruleB n d = true) : ∃ r : List Int × List Int, d = ruleD r := by
  cases d with
  | tuple ds =>
    by_cases h2 : ds.length = 2
    · obtain ⟨x, y, rfl⟩ := len2 h2
      rw [ruleB_2, Bool.and_eq_true] at h
      obtain ⟨l, rfl⟩ := lot_of h.1
      obtain ⟨m, rfl⟩ := lot_of h.2
      exact ⟨(l, m), rfl⟩
    · rw [ruleB_ne h2] at h; cases h
  | _ => cases h
theorem ge_rule (r s : List Int × List Int) (q : Q (.bool (!PySem.W.dataLt (ruleD r) (ruleD s)))) : oGe2 (ruleD r) (ruleD s) Q := by
  have al := alike_rule r s
  have dp : (ruleD r).depth ≤ 64 := by rw [depth_rule]; decide
  have nd1 : (ruleD r).hasDict = false := nd_alike _ (alike_rule _ _)
  have nd2 : (ruleD s).hasDict = false := nd_alike _ (alike_rule _ _)
  unfold ruleD at al dp nd1 nd2 q ⊢
  exact ⟨⟨al, dp, nd1, nd2⟩, q⟩
theorem le_rule (r s : List Int × List Int) (q : Q (.bool (!PySem.W.dataLt (ruleD s) (ruleD r)))) : oLe2 (ruleD r) (ruleD s) Q := by
  have al := alike_rule r s
  have dp : (ruleD r).depth ≤ 64 := by rw [depth_rule]; decide
  have nd1 : (ruleD r).hasDict = false := nd_alike _ (alike_rule _ _)
  have nd2 : (ruleD s).hasDict = false := nd_alike _ (alike_rule _ _)
  unfold ruleD at al dp nd1 nd2 q ⊢
  exact ⟨⟨al, dp, nd1, nd2⟩, q⟩
/-- the loop's state: what stands in front is rules, and what is to come is as from there -/
structure Inr (n : Int) (ds done : List D) : Prop where
  rul : ∀ d ∈ done, ruleB n d = true
  same : ∀ rest, ds = done ++ rest → rulesF n 0 none ds = rulesF n done.length done.getLast? rest
theorem Inr.nil {n : Int} {ds : List D} : Inr n ds [] := ⟨fun d h => (nomatch h), fun rest e => by rw [List.nil_append] at e; rw [e]; rfl⟩
theorem Inr.at_ {n : Int} {ds done rest : List D} {d : D} (I : Inr n ds done) (e : ds = done ++ d :: rest) : rulesF n 0 none ds = if badB n done.getLast? d = true then some done.length else rulesF n (done.length + 1) (some d) rest := by
  rw [I.same _ e]; rfl
theorem Inr.step {n : Int} {ds done rest : List D} {d : D} (I : Inr n ds done) (e : ds = done ++ d :: rest) (h : badB n done.getLast? d = false) : Inr n ds (done ++ [d]) := by
  refine ⟨fun x hx => ?_, fun r e' => ?_⟩
  · rcases List.mem_append.mp hx with z | z
    · exact I.rul x z
    · rw [List.mem_singleton.mp z]
      unfold badB at h
      rw [Bool.or_eq_false_iff] at h
      simpa using h.1
  · have : r = rest := by
      rw [e, List.append_assoc] at e'
      have := List.append_cancel_left e'
      simpa using this.symm
    subst this
    rw [I.at_ e, h, if_neg (by decide), List.length_append, List.length_singleton, List.getLast?_append]
    rfl
theorem last_at {done rest : List D} {d p : D} (h : done.getLast? = some p) : atI (done ++ d :: rest) ((done.length : Nat) - 1 : Int) = some p := by
  have h0 : done ≠ [] := fun z => by subst z; cases h
  have hl : 0 < done.length := List.length_pos_iff.mpr h0
  have := L2.atI_nat (xs := done ++ d :: rest) (j := done.length - 1) (v := p) (by rw [List.getElem?_append_left (by omega), ← List.getLast?_eq_getElem?]; exact h)
  rwa [show ((done.length - 1 : Nat) : Int) = (done.length : Int) - 1 by omega] at this
theorem sp_schema_faultA (d : D) (hd : d.weight ≤ sizeLine) (q : Q (optD (faultK d))) : w_schema_fault never [.dat d] Q := by
  refine body_in rfl ?_
  unfold t_schema_fault
  cases d with
  | tuple ds =>
    simp_arith! only []
    by_cases h2 : ds.length = 2
    · obtain ⟨x, y, rfl⟩ := len2 h2
      rw [wt_t] at hd
      have hm := fun z (hz : z ∈ [x, y]) => Nat.le_trans (Nat.le_of_succ_le (wt_mem hz)) hd
      simp_arith! only []
      refine sp_wholeB _ _ _ ?_
      cases ex : wholeB 1 6 x with
      | false =>
        rw [faultK_w ex] at q
        simp_arith! only []
        exact q
      | true =>
        obtain ⟨n, rfl, n1, n6⟩ := wholeB_iff.mp ex
        simp_arith! only []
        cases y with
        | tuple rs =>
          have hr := hm (.tuple rs) (by simp)
          rw [wt_t] at hr
          simp_arith! only []
          by_cases h10 : 10 < rs.length
          · rw [decide_eq_true (by omega)]
            rw [faultK_r ex h10] at q
            simp_arith! only []
            exact q
          · rw [decide_eq_false (by omega)]
            rw [faultK_t ex (by omega)] at q
            simp_arith! only []
            refine forD_enum (fun done η => Inr n rs done ∧ ∃ x1 x2, η = [.dat (.tuple [.int n, .tuple rs]), x1, x2]) ?_ ?_ ⟨.nil, _, _, rfl⟩
            · rintro done a rest η e ⟨I, x1, x2, rfl⟩ nx hn
              have ha : a ∈ rs := by rw [e]; simp
              have ea := I.at_ e
              simp_arith! only []
              refine sp_is_ruleA _ (Nat.le_trans (Nat.le_of_succ_le (wt_mem ha)) hr) ?_
              cases eb : ruleB n a with
              | false =>
                rw [show badB n done.getLast? a = true by unfold badB; rw [eb]; rfl, if_pos rfl] at ea
                rw [show iOf (.int n) = n from rfl, ea] at q
                simp_arith! only []
                exact q
              | true =>
                simp_arith! only []
                cases el : done.getLast? with
                | none =>
                  have : done = [] := List.getLast?_eq_none_iff.mp el
                  subst this
                  rw [decide_eq_false (by decide)]
                  simp_arith! only []
                  exact hn _ ⟨I.step e (by unfold badB; rw [eb]; rfl), _, _, rfl⟩
                | some p =>
                  have hpm : p ∈ done := List.mem_of_getLast? el
                  have h0 : 0 < done.length := List.length_pos_of_mem hpm
                  obtain ⟨r1, rfl⟩ := rule_of (I.rul p hpm)
                  obtain ⟨r2, rfl⟩ := rule_of eb
                  have hat := last_at (rest := rest) (d := ruleD r2) el
                  rw [← e] at hat
                  rw [decide_eq_true (by omega)]
                  simp_arith! only [hat]
                  refine ge_rule _ _ ?_
                  rw [el] at ea
                  have bd : badB n (some (ruleD r1)) (ruleD r2) = !PySem.W.dataLt (ruleD r1) (ruleD r2) := by unfold badB; rw [eb]; rfl
                  cases c : PySem.W.dataLt (ruleD r1) (ruleD r2) with
                  | true =>
                    simp_arith! only []
                    exact hn _ ⟨I.step e (by rw [el, bd, c]; rfl), _, _, rfl⟩
                  | false =>
                    rw [bd, c, Bool.not_false, if_pos rfl] at ea
                    rw [show iOf (.int n) = n from rfl, ea] at q
                    simp_arith! only []
                    exact q
            · rintro η ⟨I, x1, x2, rfl⟩
              have := I.same [] (by simp)
              rw [show iOf (.int n) = n from rfl, this] at q
              exact q
        | _ =>
          rw [faultK_o ex (fun ds z => by cases z)] at q
          simp_arith! only [isiD, isiN, tyOf]
          exact q
    · rw [faultK_ne h2] at q
      rw [decide_eq_false (by omega)]
      simp_arith! only []
      exact q
  | _ => simp_arith! only [isiD, isiN, tyOf]; exact q
theorem sp_law_wrongA (d : D) (hd : d.weight ≤ sizeLine) (q : Q (.list (faultK d).toList)) : w_law_wrong never [.dat d] Q := by
  refine body_in rfl ?_
  unfold t_law_wrong
  cases d with
  | tuple ds =>
    simp_arith! only []
    by_cases h2 : ds.length = 2
    · obtain ⟨x, y, rfl⟩ := len2 h2
      rw [wt_t] at hd
      have hm := fun z (hz : z ∈ [x, y]) => Nat.le_trans (Nat.le_of_succ_le (wt_mem hz)) hd
      simp_arith! only []
      refine sp_law_is_wholeB _ _ _ ?_
      cases ex : wholeB 1 6 x with
      | false =>
        rw [faultK_w ex] at q
        simp_arith! only []
        exact q
      | true =>
        obtain ⟨n, rfl, n1, n6⟩ := wholeB_iff.mp ex
        simp_arith! only []
        cases y with
        | tuple rs =>
          have hr := hm (.tuple rs) (by simp)
          rw [wt_t] at hr
          simp_arith! only []
          by_cases h10 : 10 < rs.length
          · rw [decide_eq_true (by omega)]
            rw [faultK_r ex h10] at q
            simp_arith! only []
            exact q
          · rw [decide_eq_false (by omega)]
            rw [faultK_t ex (by omega)] at q
            simp_arith! only []
            refine forD_enum (fun done η => Inr n rs done ∧ ∃ x1 x2, η = [.dat (.tuple [.int n, .tuple rs]), x1, x2]) ?_ ?_ ⟨.nil, _, _, rfl⟩
            · rintro done a rest η e ⟨I, x1, x2, rfl⟩ nx hn
              have ha : a ∈ rs := by rw [e]; simp
              have ea := I.at_ e
              simp_arith! only []
              refine sp_law_is_ruleA _ (Nat.le_trans (Nat.le_of_succ_le (wt_mem ha)) hr) ?_
              cases eb : ruleB n a with
              | false =>
                rw [show badB n done.getLast? a = true by unfold badB; rw [eb]; rfl, if_pos rfl] at ea
                rw [show iOf (.int n) = n from rfl, ea] at q
                simp_arith! only []
                exact q
              | true =>
                simp_arith! only []
                cases el : done.getLast? with
                | none =>
                  have : done = [] := List.getLast?_eq_none_iff.mp el
                  subst this
                  rw [decide_eq_false (by decide)]
                  simp_arith! only []
                  exact hn _ ⟨I.step e (by unfold badB; rw [eb]; rfl), _, _, rfl⟩
                | some p =>
                  have hpm : p ∈ done := List.mem_of_getLast? el
                  have h0 : 0 < done.length := List.length_pos_of_mem hpm
                  obtain ⟨r1, rfl⟩ := rule_of (I.rul p hpm)
                  obtain ⟨r2, rfl⟩ := rule_of eb
                  have hat := last_at (rest := rest) (d := ruleD r2) el
                  rw [← e] at hat
                  rw [decide_eq_true (by omega)]
                  simp_arith! only [hat]
                  refine le_rule _ _ ?_
                  rw [el] at ea
                  have bd : badB n (some (ruleD r1)) (ruleD r2) = !PySem.W.dataLt (ruleD r1) (ruleD r2) := by unfold badB; rw [eb]; rfl
                  cases c : PySem.W.dataLt (ruleD r1) (ruleD r2) with
                  | true =>
                    simp_arith! only []
                    exact hn _ ⟨I.step e (by rw [el, bd, c]; rfl), _, _, rfl⟩
                  | false =>
                    rw [bd, c, Bool.not_false, if_pos rfl] at ea
                    rw [show iOf (.int n) = n from rfl, ea] at q
                    simp_arith! only []
                    exact q
            · rintro η ⟨I, x1, x2, rfl⟩
              have := I.same [] (by simp)
              rw [show iOf (.int n) = n from rfl, this] at q
              (try simp_arith! only [])
              exact q
        | _ =>
          rw [faultK_o ex (fun ds z => by cases z)] at q
          simp_arith! only [isiD, isiN, tyOf]
          exact q
    · rw [faultK_ne h2] at q
      rw [decide_eq_false (by omega)]
      simp_arith! only []
      exact q
  | _ => simp_arith! only [isiD, isiN, tyOf]; exact q
end Lw

/-! PL46: a thing is read, or refused; what may be shown. -/
namespace Lw
open PySem DL PL L2
open Lean.Parser.Tactic in
local macro_rules | `(tactic| simp_arith! only [$xs,*] $[$l:location]?) => `(tactic| simp -implicitDefEqProofs only [x_sSeq, x_sNext, x_sSet, x_sSetL, x_sOwn, x_sOwnL, x_sNew, x_sPar, x_sParN, x_sRet, x_sRetN, x_sIf, x_sDrop, x_sFor, x_sWhile, x_sNever, x_sFrz, x_sApp, x_sAppL, x_sExtL, x_sExtS, x_onSeqEL, x_onSeqET, x_sAug, x_sAsg, x_sBreak, x_sCont, x_onDat, x_onSeqL, x_onSeqT, x_on1I, x_on2I, x_on2L, x_on2T, x_onScr, x_ifB, x_onS, x_onOwn, x_onList, x_onInt, x_onCInt, x_isDrw, x_lenScr, x_dV, x_dK, x_dOp, x_dTup, x_dNew, x_nLst, x_nCall, x_nComp, x_nRg, x_dTupRg, x_gRg1, x_gRg2, x_dCall, x_dCallF, x_dSl, x_oNone, x_oSome, x_dAnd, x_dOr, x_dNot, x_oNeg, x_bVal, x_bAnd, x_bOr, x_bNot, x_dIf, x_dChain, x_aNil, x_aCons, x_cNil, x_cCons, x_cDrw, x_iSeq, x_iRange1, x_iRange2, x_iZip2, x_iEnum1, x_iEnumZ, x_on2TT, x_nSortSet, x_onTupO, x_nSortSetI, x_nSortSetE, x_fMinL, x_fSumL, x_dDict0, x_sIns, x_sPut, x_sRaise, x_dCallE, x_sTry1, x_gN, x_gT, x_gCons, x_gNil, x_bYes, x_fLenL, x_fLenT, x_fLenS, x_fTupleL, x_fTupleT, x_fListL, x_fListT, x_fSorted, x_fAll, x_fAny, x_fSum, x_fIntI, x_fIntB, x_fMin2, x_fMax2, x_fRepr, x_dIsi, x_lend, x_lendD, x_lendO, x_lendR, x_lendU, x_lendS, x_wipe0, x_wipe1, x_addI, x_addS, x_addL, x_addT, x_sub, x_mod, x_div, x_pow, x_mulI, x_mulL, x_mul2T, x_sM2, x_sM3, x_on2C, x_on3C, x_mNil, x_mD, x_mN, x_aStar, x_fSortedT, x_isB, x_isN, x_isN0, x_isNI, x_isNT, x_isNL, x_isNS, x_isNB, x_lt, x_ltT, x_ord, x_ordT, x_ixL, x_ixT, x_ixS, x_fListD, x_fListDL, x_fReprD, x_dRev, x_nCat2, x_sOwnCat, x_onSeqRL, x_onSeqRT, x_onCat, x_eqT0, x_neL0, x_fSortedD, x_dDc, oGe2, oLe2, oGt2, List.getElem?_cons_zero, List.getElem?_cons_succ, List.getElem?_nil, List.set_cons_zero, List.set_cons_succ, List.map_cons, List.map_nil, List.length_cons, List.length_nil, List.replicate, List.cons_append, List.nil_append, Nat.reduceSub, Nat.reduceAdd, Nat.zero_add, if_true, Bool.false_eq_true, if_false, bne_self_eq_false, Bool.true_bne, Bool.false_bne, Bool.not_true, Bool.not_false, true_and, and_true, Bool.bne_false, Bool.bne_true, k_eqI, k_neI, k_eqS, k_neS, k_eqT, k_neT, k_eqLL, k_neLL, k_eqTT, k_neTT, k_inLI, k_inLT, k_inTTT, k_inT, k_in23, k_eqLn, k_neLn, k_eqTn, k_neTn, k_eqTn', k_neTn', k_onSeq, k_onTupO, k_onSeqE, k_lenT, k_tupL, k_tupT, k_listT, k_addT, k_addT1, k_ixT, ixN_map, onS_map, k_isiT, k_isiTi, k_isiTb, k_isiTs, k_isiTl, k_isi, k_isil, k_isii, k_isiib, k_isis, k_isNT, k_flatT, k_flatI, k_flatLs, k_flatTLs, k_gT, k_on2T, k_ordT, k_ltT, k_gR, k_ixR0, k_ixR1, k_ixS0, k_ixS1, List.length_map, eq_self, Int.cast_ofNat_Int, Int.reduceEq, Int.reduceLE, Int.reduceLT, Int.reduceAdd, Int.reduceSub, Int.reduceNeg, decide_true, decide_false, or_true, true_or, or_false, false_or, k_ofS, String.reduceEq, sizeLine_eq, Nat.reduceLeDiff, k_at0, k_at1, k_at2, k_at3, $xs,*] $[$l:location]?)
variable {n : Nat} {rs : Rules} {Q : D → Prop}
theorem sp_need_schemaA {E : XP} (d : D) (hd : d.weight ≤ sizeLine) (q : faultK d = none → Q d) (e : ∀ p, faultK d = some p → E "BadSchema" [("place", p)]) : w_need_schema E [.dat d] Q := by
  refine body_in rfl ?_
  unfold t_need_schema
  simp_arith! only []
  refine sp_schema_faultA d hd ?_
  cases c : faultK d with
  | none =>
    simp_arith! only [optD]
    exact q c
  | some p =>
    obtain ⟨ds, rfl⟩ := faultK_tup c
    simp_arith! only [optD]
    exact e _ c
theorem sp_is_lotA {E : XP} (h : Val n rs) (d : D) (hd : d.weight ≤ sizeLine) (q : Q (.bool (lotB n d))) : w_is_lot E [.dat (schD n rs), .dat d] Q := by
  refine body_in rfl ?_
  unfold t_is_lot
  simp_arith! only []
  refine sp_need_schema h ?_
  simp_arith! only []
  exact sp_is_lot_ofA d hd q
theorem sp_is_lotF {E : XP} {o : D} (d : D) (ho : o.weight ≤ sizeLine) {p : D} (hf : faultK o = some p) (e : E "BadSchema" [("place", p)]) : w_is_lot E [.dat o, .dat d] Q := by
  refine body_in rfl ?_
  unfold t_is_lot
  simp_arith! only []
  refine sp_need_schemaA o ho (fun z => by rw [hf] at z; cases z) fun p' hp => ?_
  rw [hf] at hp
  cases hp
  exact e
/-! ### a refusal told -/
theorem sp_refusal_schema {a dx : Addr} {d : D} (q : Q (.tuple [.str (Str.ofString "schema"), d])) : t_law_refusal a dx "BadSchema" never { nx := fun _ => Q .none, rt := Q } (.obj a (some (dx, "place", d)) :: List.replicate 4 .un) := by
  unfold t_law_refusal
  simp_arith! only [x_dIsE, x_dFldE]
  refine ⟨⟨_, _, rfl⟩, ⟨_, _, rfl⟩, ⟨_, _, rfl⟩, ⟨_, _, rfl⟩, ⟨_, _, rfl⟩, ⟨_, _, rfl⟩, ⟨_, _, rfl⟩, ⟨_, _, rfl⟩, ?_⟩
  rw [show (Str.ofString "BadSchema" == Str.ofString "BadSchema") = true by decide +kernel, show (Str.ofString "BadStore" == Str.ofString "BadSchema") = false by decide +kernel, show (Str.ofString "BadLot" == Str.ofString "BadSchema") = false by decide +kernel, show (Str.ofString "BadColumn" == Str.ofString "BadSchema") = false by decide +kernel,
    show (Str.ofString "BadCell" == Str.ofString "BadSchema") = false by decide +kernel, show (Str.ofString "BadNumber" == Str.ofString "BadSchema") = false by decide +kernel, show (Str.ofString "BadPaper" == Str.ofString "BadSchema") = false by decide +kernel, show (Str.ofString "TooMany" == Str.ofString "BadSchema") = false by decide +kernel]
  refine compD_fl (xs := [("schema", true), ("store", false), ("lot", false), ("column", false), ("cell", false), ("number", false), ("paper", false), ("many", false)]) (fun q : String × Bool => .tuple [.str (Str.ofString q.1), .bool q.2]) (fun q => .str (Str.ofString q.1)) (fun q => q.2) (fun q hq R1 R0 r1 r0 => ?_) (by (try simp only [sizeLine_eq, List.length_map, List.length_append, List.length_cons, List.length_nil]); first | omega | (simp; done) | (simp; omega)) ?_
  · simp_arith! only []
    cases e : q.2 with
    | true => exact r1 e
    | false => exact r0 e
  · show _
    simp_arith! only [List.filter_cons, List.filter_nil]
    rw [x_inT]
    refine ⟨by decide +kernel, by decide +kernel, ?_⟩
    simp_arith! only [List.any_cons, List.any_nil, eqv_strs, k_ofS]
    exact ⟨_, rfl, q⟩
theorem x_dTold {rF : Addr → Addr → Str → SD} {m : Nat} {ok : Str → Prop} {tb : ET} {E : XP} {η : EnvD} : dTold' rF m ok tb E η Q = tb (fun nm fs => ∃ f d, fs = [(f, d)] ∧ ok nm ∧ ∀ a dx, rF a dx nm never { nx := fun _ => Q .none, rt := Q } (.obj a (some (dx, f, d)) :: List.replicate m .un)) (drop η) fun d => Q (.list [d]) := id rfl
theorem x_drop0 : drop [] = [] := id rfl
theorem x_drop1 {x : Cell} {η : EnvD} : drop (x :: η) = dropC x :: drop η := id rfl
theorem x_dropD {d : D} : dropC (.dat d) = .dat d := id rfl
theorem x_dropO {ds : List D} : dropC (.own ds) = .un := id rfl
theorem x_dropU : dropC .un = .un := id rfl
theorem x_dropR : dropC .drw = .drw := id rfl
def dueK (d : D) : D := match faultK d with
  | none => .list [d]
  | some p => .tuple [.str (Str.ofString "schema"), p]
theorem sp_toldK (d : D) (hd : d.weight ≤ sizeLine) (q : Q (dueK d)) :
    w_need_schema (fun nm fs => ∃ f d, fs = [(f, d)] ∧ okN nm ∧ ∀ a dx, t_law_refusal a dx nm never { nx := fun _ => Q .none, rt := Q } (.obj a (some (dx, f, d)) :: List.replicate 4 .un)) [.dat d] fun d => Q (.list [d]) := by
  refine sp_need_schemaA d hd (fun c => ?_) fun p c => ?_
  · unfold dueK at q
    rw [c] at q
    exact q
  · unfold dueK at q
    rw [c] at q
    exact ⟨_, _, rfl, (by decide +kernel : Str.ofString "BadSchema" ∈ toldNames), fun a dx => sp_refusal_schema q⟩
/-! ### what may be shown (whole numbers of 30 digits, dicts) -/
structure Sx (k w : Nat) (d : D) : Prop where
  dep : d.depth ≤ k
  wei : d.weight ≤ w
  can : d.showable = true
  lea : d.leavesShort 31 = true
theorem Sx.mono {k w k' w' : Nat} {d : D} (h : Sx k w d) (hk : k ≤ k') (hw : w ≤ w') : Sx k' w' d := ⟨Nat.le_trans h.dep hk, Nat.le_trans h.wei hw, h.can, h.lea⟩
theorem Sx.line {k w : Nat} {d : D} (h : Sx k w d) (hw : w ≤ 400000) : d.weight ≤ sizeLine := by
  have := h.wei
  rw [sizeLine_eq]
  omega
theorem Sx.repr {k w : Nat} {d : D} (h : Sx k w d) (hk : k ≤ 60) (hw : w ≤ 400000) : reprOk d := ⟨h.can, by
  have := PyData.shown_le 31 (by decide) d h.lea
  have := h.wei
  rw [sizeLine_eq]
  omega, Nat.le_trans h.dep hk⟩
theorem sx_all {k W : Nat} : ∀ {ds : List D}, (∀ d ∈ ds, Sx k W d) → PyData.depthAll ds ≤ k ∧ PyData.showableAll ds = true ∧ PyData.leavesShortAll 31 ds = true
  | [], _ => ⟨Nat.zero_le _, rfl, rfl⟩
  | d :: ds, h => by
    have r := h d List.mem_cons_self
    obtain ⟨i1, i3, i4⟩ := sx_all (ds := ds) (fun x hx => h x (List.mem_cons_of_mem _ hx))
    exact ⟨by rw [PyData.depthAll]; exact Nat.max_le.mpr ⟨r.dep, i1⟩, by rw [PyData.showableAll, r.can, i3]; rfl, by rw [PyData.leavesShortAll, r.lea, i4]; rfl⟩
theorem sx_tup {k w W : Nat} {ds : List D} (h : ∀ d ∈ ds, Sx k W d) (hw : PyData.weightAll ds ≤ w) : Sx (k + 1) w (.tuple ds) := by
  obtain ⟨i1, i3, i4⟩ := sx_all h
  exact ⟨by rw [PyData.depth]; exact Nat.succ_le_succ i1, by rw [PyData.weight]; exact hw, by rw [PyData.showable]; exact i3, by rw [PyData.leavesShort]; exact i4⟩
theorem sx_lst {k w W : Nat} {ds : List D} (h : ∀ d ∈ ds, Sx k W d) (hw : PyData.weightAll ds ≤ w) : Sx (k + 1) w (.list ds) := by
  obtain ⟨i1, i3, i4⟩ := sx_all h
  exact ⟨by rw [PyData.depth]; exact Nat.succ_le_succ i1, by rw [PyData.weight]; exact hw, by rw [PyData.showable]; exact i3, by rw [PyData.leavesShort]; exact i4⟩
theorem wt_le {w : Nat} : ∀ {ds : List D} (m : Nat), (∀ d ∈ ds, d.weight ≤ w) → ds.length ≤ m → PyData.weightAll ds ≤ m * (w + 1)
  | [], m, _, _ => Nat.zero_le _
  | d :: ds, m, h, hm => by
    have i2 := wt_le (ds := ds) ds.length (fun x hx => h x (List.mem_cons_of_mem _ hx)) (Nat.le_refl _)
    rw [PyData.weightAll]
    have h1 := h d List.mem_cons_self
    have h3 : (ds.length + 1) * (w + 1) ≤ m * (w + 1) := Nat.mul_le_mul_right _ (by simpa using hm)
    rw [Nat.add_mul, Nat.one_mul] at h3
    omega
theorem sx_tupM {k w : Nat} {ds : List D} (m : Nat) (h : ∀ d ∈ ds, Sx k w d) (hm : ds.length ≤ m) : Sx (k + 1) (m * (w + 1)) (.tuple ds) := sx_tup h (wt_le m (fun d hd => (h d hd).wei) hm)
theorem sx_lstM {k w : Nat} {ds : List D} (m : Nat) (h : ∀ d ∈ ds, Sx k w d) (hm : ds.length ≤ m) : Sx (k + 1) (m * (w + 1)) (.list ds) := sx_lst h (wt_le m (fun d hd => (h d hd).wei) hm)
theorem sx_of : ∀ {ds : List D} {k : Nat}, PyData.depthAll ds ≤ k → PyData.showableAll ds = true → PyData.leavesShortAll 31 ds = true → ∀ x ∈ ds, Sx k (PyData.weightAll ds) x
  | d :: ds, k, h1, h2, h3, x, hx => by
    rw [PyData.depthAll] at h1
    have h1 := Nat.max_le.mp h1
    rw [PyData.showableAll, Bool.and_eq_true] at h2
    rw [PyData.leavesShortAll, Bool.and_eq_true] at h3
    rcases List.mem_cons.mp hx with rfl | z
    · exact ⟨h1.1, by rw [PyData.weightAll]; omega, h2.1, h3.1⟩
    · exact (sx_of h1.2 h2.2 h3.2 x z).mono (Nat.le_refl _) (by rw [PyData.weightAll]; omega)
theorem Sx.tup {k w : Nat} {ds : List D} (h : Sx k w (.tuple ds)) : ∃ j, k = j + 1 ∧ (∀ x ∈ ds, Sx j w x) ∧ PyData.weightAll ds ≤ w := by
  obtain ⟨h1, h2, h3, h4⟩ := h
  rw [PyData.depth] at h1
  rw [PyData.weight] at h2
  rw [PyData.showable] at h3
  rw [PyData.leavesShort] at h4
  obtain ⟨j, rfl⟩ := Nat.exists_eq_add_of_le' (Nat.le_trans (Nat.succ_le_succ (Nat.zero_le _)) h1)
  exact ⟨j, rfl, fun x hx => (sx_of (k := j) (by omega) h3 h4 x hx).mono (Nat.le_refl _) h2, h2⟩
def sxB (k w : Nat) (d : D) : Bool := decide (d.depth ≤ k) && decide (d.weight ≤ w) && d.showable && d.leavesShort 31
theorem sx_by {k w : Nat} {d : D} (h : sxB k w d = true) : Sx k w d := by
  unfold sxB at h
  simp only [Bool.and_eq_true, decide_eq_true_eq] at h
  exact ⟨h.1.1.1, h.1.1.2, h.1.2, h.2⟩
mutual
theorem leaves_mono : ∀ (d : D), d.leavesShort 13 = true → d.leavesShort 31 = true
  | .none, _ => rfl
  | .bool _, _ => rfl
  | .int i, h => by
    rw [PyData.leavesShort, decide_eq_true_eq] at h ⊢
    omega
  | .str x, h => by rw [PyData.leavesShort] at h ⊢; exact h
  | .list xs, h => by rw [PyData.leavesShort] at h ⊢; exact leavesAll_mono xs h
  | .tuple xs, h => by rw [PyData.leavesShort] at h ⊢; exact leavesAll_mono xs h
  | .dict kvs, h => by rw [PyData.leavesShort] at h ⊢; exact leavesKv_mono kvs h
theorem leavesAll_mono : ∀ (ds : List D), PyData.leavesShortAll 13 ds = true → PyData.leavesShortAll 31 ds = true
  | [], _ => rfl
  | d :: ds, h => by
    rw [PyData.leavesShortAll, Bool.and_eq_true] at h ⊢
    exact ⟨leaves_mono d h.1, leavesAll_mono ds h.2⟩
theorem leavesKv_mono : ∀ (ds : List (D × D)), PyData.leavesShortKv 13 ds = true → PyData.leavesShortKv 31 ds = true
  | [], _ => rfl
  | (k, v) :: ds, h => by
    rw [PyData.leavesShortKv, Bool.and_eq_true, Bool.and_eq_true] at h ⊢
    exact ⟨⟨leaves_mono k h.1.1, leaves_mono v h.1.2⟩, leavesKv_mono ds h.2⟩
end
theorem sx_ofRp {k w : Nat} {d : D} (h : Rp k w d) : Sx k w d := ⟨h.dep, h.wei, h.can, leaves_mono d (PyData.leavesShort_of_canLay0 13 d h.lay h.sho)⟩
end Lw

/-! PL47: read alike; bent things. -/
namespace Lw
open PySem DL PL L2
open Lean.Parser.Tactic in
local macro_rules | `(tactic| simp_arith! only [$xs,*] $[$l:location]?) => `(tactic| simp -implicitDefEqProofs only [x_sSeq, x_sNext, x_sSet, x_sSetL, x_sOwn, x_sOwnL, x_sNew, x_sPar, x_sParN, x_sRet, x_sRetN, x_sIf, x_sDrop, x_sFor, x_sWhile, x_sNever, x_sFrz, x_sApp, x_sAppL, x_sExtL, x_sExtS, x_onSeqEL, x_onSeqET, x_sAug, x_sAsg, x_sBreak, x_sCont, x_onDat, x_onSeqL, x_onSeqT, x_on1I, x_on2I, x_on2L, x_on2T, x_onScr, x_ifB, x_onS, x_onOwn, x_onList, x_onInt, x_onCInt, x_isDrw, x_lenScr, x_dV, x_dK, x_dOp, x_dTup, x_dNew, x_nLst, x_nCall, x_nComp, x_nRg, x_dTupRg, x_gRg1, x_gRg2, x_dCall, x_dCallF, x_dSl, x_oNone, x_oSome, x_dAnd, x_dOr, x_dNot, x_oNeg, x_bVal, x_bAnd, x_bOr, x_bNot, x_dIf, x_dChain, x_aNil, x_aCons, x_cNil, x_cCons, x_cDrw, x_iSeq, x_iRange1, x_iRange2, x_iZip2, x_iEnum1, x_iEnumZ, x_on2TT, x_nSortSet, x_onTupO, x_nSortSetI, x_nSortSetE, x_fMinL, x_fSumL, x_dDict0, x_sIns, x_sPut, x_sRaise, x_dCallE, x_sTry1, x_gN, x_gT, x_gCons, x_gNil, x_bYes, x_fLenL, x_fLenT, x_fLenS, x_fTupleL, x_fTupleT, x_fListL, x_fListT, x_fSorted, x_fAll, x_fAny, x_fSum, x_fIntI, x_fIntB, x_fMin2, x_fMax2, x_fRepr, x_dIsi, x_lend, x_lendD, x_lendO, x_lendR, x_lendU, x_lendS, x_wipe0, x_wipe1, x_addI, x_addS, x_addL, x_addT, x_sub, x_mod, x_div, x_pow, x_mulI, x_mulL, x_mul2T, x_sM2, x_sM3, x_on2C, x_on3C, x_mNil, x_mD, x_mN, x_aStar, x_fSortedT, x_isB, x_isN, x_isN0, x_isNI, x_isNT, x_isNL, x_isNS, x_isNB, x_lt, x_ltT, x_ord, x_ordT, x_ixL, x_ixT, x_ixS, x_fListD, x_fListDL, x_fReprD, x_dRev, x_nCat2, x_sOwnCat, x_onSeqRL, x_onSeqRT, x_onCat, x_eqT0, x_neL0, x_fSortedD, x_dDc, oGe2, oLe2, oGt2, List.getElem?_cons_zero, List.getElem?_cons_succ, List.getElem?_nil, List.set_cons_zero, List.set_cons_succ, List.map_cons, List.map_nil, List.length_cons, List.length_nil, List.replicate, List.cons_append, List.nil_append, Nat.reduceSub, Nat.reduceAdd, Nat.zero_add, if_true, Bool.false_eq_true, if_false, bne_self_eq_false, Bool.true_bne, Bool.false_bne, Bool.not_true, Bool.not_false, true_and, and_true, Bool.bne_false, Bool.bne_true, k_eqI, k_neI, k_eqS, k_neS, k_eqT, k_neT, k_eqLL, k_neLL, k_eqTT, k_neTT, k_inLI, k_inLT, k_inTTT, k_inT, k_in23, k_eqLn, k_neLn, k_eqTn, k_neTn, k_eqTn', k_neTn', k_onSeq, k_onTupO, k_onSeqE, k_lenT, k_tupL, k_tupT, k_listT, k_addT, k_addT1, k_ixT, ixN_map, onS_map, k_isiT, k_isiTi, k_isiTb, k_isiTs, k_isiTl, k_isi, k_isil, k_isii, k_isiib, k_isis, k_isNT, k_flatT, k_flatI, k_flatLs, k_flatTLs, k_gT, k_on2T, k_ordT, k_ltT, k_gR, k_ixR0, k_ixR1, k_ixS0, k_ixS1, List.length_map, eq_self, Int.cast_ofNat_Int, Int.reduceEq, Int.reduceLE, Int.reduceLT, Int.reduceAdd, Int.reduceSub, Int.reduceNeg, decide_true, decide_false, or_true, true_or, or_false, false_or, k_ofS, String.reduceEq, sizeLine_eq, Nat.reduceLeDiff, k_at0, k_at1, k_at2, k_at3, $xs,*] $[$l:location]?)
variable {n : Nat} {rs : Rules} {Q : D → Prop}
theorem rulesF_lt {n : Int} : ∀ {ds : List D} {i : Nat} {p : Option D} {j : Nat}, rulesF n i p ds = some j → j < i + ds.length
  | [], i, p, j, h => by cases h
  | d :: ds, i, p, j, h => by
    rw [rulesF] at h
    split at h
    · cases h; simp
    · have := rulesF_lt h
      rw [List.length_cons]; omega
def plcs : List D := [.tuple [], .tuple [.str (Str.ofString "wide")], .tuple [.str (Str.ofString "rules")]] ++ (List.range 10).map fun i => .tuple [.str (Str.ofString "rule"), .int (i : Nat)]
theorem faultK_mem {d p : D} (h : faultK d = some p) : p ∈ plcs := by
  unfold faultK at h
  split at h
  · unfold fault2 at h
    split at h
    · unfold faultR at h
      split at h
      · split at h
        · obtain ⟨i, hi, rfl⟩ := Option.map_eq_some_iff.mp h
          have := rulesF_lt hi
          exact List.mem_append_right _ (List.mem_map.mpr ⟨i, List.mem_range.mpr (by omega), rfl⟩)
        · cases h; simp [plcs]
      · cases h; simp [plcs]
    · cases h; simp [plcs]
  · cases h; simp [plcs]
def schW (p : D) : D := .tuple [.str (Str.ofString "schema"), p]
def plcB (p : D) : Bool := sxB 1 60 p && eqOk (schW p) (schW p) && PyData.eqv (schW p) (schW p) && eqOk (.list [p]) (.list []) && !PyData.eqv (.list [p]) (.list [])
theorem plcs_ok : plcs.all plcB = true := by decide +kernel
theorem plc_ok {d p : D} (h : faultK d = some p) : Sx 1 60 p ∧ eqOk (schW p) (schW p) = true ∧ PyData.eqv (schW p) (schW p) = true ∧ eqOk (.list [p]) (.list []) = true ∧ PyData.eqv (.list [p]) (.list []) = false := by
  have := List.all_eq_true.mp plcs_ok p (faultK_mem h)
  unfold plcB at this
  simp only [Bool.and_eq_true, Bool.not_eq_true'] at this
  exact ⟨sx_by this.1.1.1.1, this.1.1.1.2, this.1.1.2, this.1.2, this.2⟩
theorem sx_word : Sx 0 60 (.str (Str.ofString "schema")) := sx_by (by decide +kernel)
theorem dueK_sx {k w : Nat} {d : D} (h : Sx k w d) : Sx (k + 2) (w + 130) (dueK d) := by
  unfold dueK
  split
  · exact (sx_lstM 1 (fun x hx => by rw [List.mem_singleton.mp hx]; exact h) (Nat.le_refl _)).mono (by omega) (by omega)
  · rename_i p hp
    refine (sx_tupM 2 (k := 1) (w := 60) (fun x hx => ?_) (Nat.le_refl _)).mono (by omega) (by omega)
    simp only [List.mem_cons, List.not_mem_nil, or_false] at hx
    rcases hx with rfl | rfl
    · exact sx_word.mono (by decide) (Nat.le_refl _)
    · exact (plc_ok hp).1
theorem sp_law_is_read {k w : Nat} {d : D} (hs : Sx k w d) (hk : k ≤ 50) (hw : w ≤ 100000) (q : Q (.bool true)) : w_law_is_read never [.dat d] Q := by
  refine body_in rfl ?_
  unfold t_law_is_read
  have hr := hs.repr (by omega) (by omega)
  have hl := hs.line (by omega)
  have hd := (sx_lstM 2 (ds := [dueK d, dueK d]) (fun x hx => by
    simp only [List.mem_cons, List.not_mem_nil, or_false, or_self] at hx
    rw [hx]; exact dueK_sx hs) (Nat.le_refl _)).repr (by omega) (by omega)
  simp_arith! only []
  refine ⟨hr, ?_⟩
  refine sp_law_wrongA d hl ?_
  have dr : ∀ x1 x2 x3 x4 : Cell, drop [.dat d, x1, x2, x3, x4] = [.dat d, dropC x1, dropC x2, dropC x3, dropC x4] := fun _ _ _ _ => rfl
  have fin : ∀ (Q1 : D → Prop), Q1 (.bool true) → (reprOk (.list [dueK d, dueK d]) ∧ reprOk (.list [dueK d, dueK d]) ∧ Q1 (.bool true)) := fun Q1 h => ⟨hd, hd, h⟩
  cases c : faultK d with
  | none =>
    have e : dueK d = .list [d] := by unfold dueK; rw [c]
    simp_arith! only [Option.toList_none]
    rw [x_eq]
    refine ⟨by decide +kernel, ?_⟩
    rw [show PyData.eqv (.list []) (.list []) = true from by decide +kernel]
    simp_arith! only []
    rw [x_dTold, dr]
    simp_arith! only []
    refine sp_toldK d hl ?_
    rw [x_dTold, dr]
    simp_arith! only []
    refine sp_toldK d hl ?_
    rw [← e]
    (try simp_arith! only [])
    refine ⟨hd, hd, ?_⟩
    exact ⟨hr, q⟩
  | some p =>
    have e : dueK d = .tuple [.str (Str.ofString "schema"), p] := by unfold dueK; rw [c]
    obtain ⟨_, _, _, o4, o5⟩ := plc_ok c
    simp_arith! only [Option.toList_some]
    rw [x_eq]
    refine ⟨o4, ?_⟩
    rw [o5]
    simp_arith! only []
    rw [x_dTold, dr]
    simp_arith! only []
    refine sp_toldK d hl ?_
    rw [x_dTold, dr]
    simp_arith! only []
    refine sp_toldK d hl ?_
    rw [← e]
    (try simp_arith! only [])
    refine ⟨hd, hd, ?_⟩
    exact ⟨hr, q⟩
/-! ### bent things -/
theorem wt_app : ∀ {a b : List D}, PyData.weightAll (a ++ b) = PyData.weightAll a + PyData.weightAll b
  | [], b => by rw [List.nil_append, PyData.weightAll]; omega
  | x :: a, b => by rw [List.cons_append, PyData.weightAll, PyData.weightAll, wt_app]; omega
theorem wt_split (ds : List D) (k : Nat) : PyData.weightAll ds = PyData.weightAll (ds.take k) + PyData.weightAll (ds.drop k) := by rw [← wt_app, List.take_append_drop]
theorem wt_rev : ∀ {a : List D}, PyData.weightAll a.reverse = PyData.weightAll a
  | [] => rfl
  | x :: a => by rw [List.reverse_cons, wt_app, wt_rev, PyData.weightAll, PyData.weightAll, PyData.weightAll]; omega
theorem wt_take {ds : List D} (k : Nat) : PyData.weightAll (ds.take k) ≤ PyData.weightAll ds := by have := wt_split ds k; omega
theorem wt_drop {ds : List D} (k : Nat) : PyData.weightAll (ds.drop k) ≤ PyData.weightAll ds := by have := wt_split ds k; omega
theorem wt_cut {ds : List D} {a b : Option Int} : PyData.weightAll (cutD ds a b) ≤ PyData.weightAll ds := by
  unfold cutD
  exact Nat.le_trans (wt_take _) (wt_drop _)
theorem mem_cut {ds : List D} {a b : Option Int} : ∀ x ∈ cutD ds a b, x ∈ ds := fun x hx => List.mem_of_mem_drop (List.mem_of_mem_take hx)
theorem len_cut {ds : List D} {a b : Option Int} : (cutD ds a b).length ≤ ds.length := by
  unfold cutD
  rw [List.length_take, List.length_drop]; omega
theorem cut_lo {ds : List D} {r : Int} (h0 : 0 ≤ r) (h1 : r < ds.length) : cutD ds none (some r) = ds.take r.toNat := by
  unfold cutD
  simp only [HT.sIx]
  rw [if_neg (by omega), Nat.min_eq_left (by omega)]
  simp
theorem cut_hi {ds : List D} {r : Int} (h0 : 0 ≤ r) (h1 : r ≤ ds.length) : cutD ds (some r) none = ds.drop r.toNat := by
  unfold cutD
  simp only [HT.sIx]
  rw [if_neg (by omega), Nat.min_eq_left (by omega)]
  rw [List.take_of_length_le (by rw [List.length_drop]; omega)]
def oddsK : List D := [.none, .bool true, .bool false, .int 0, .int 1, .int 2, .int 5, .int 6, .int 7, .int (-1), .str (Str.ofString "0"), .str (Str.ofString ""), .tuple [], .tuple [.int 0], .tuple [.int 1, .int 0], .tuple [.int 0, .int 0], .list [.int 0], .dict [], .tuple [.tuple [], .tuple []], .int (10 ^ (29 : Int).toNat)]
theorem oddsK_b : oddsK.all (sxB 2 100) = true := by decide +kernel
theorem oddsK_sx : ∀ d ∈ oddsK, Sx 2 100 d := fun d hd => sx_by (List.all_eq_true.mp oddsK_b d hd)
theorem sp_law_bentX : ∀ (j k w : Nat) (d : D), k < j → w ≤ 100000 → Sx k w d → ∀ Q : D → Prop, (∀ r, Sx (k + 2) (2 * w + 100) r → Q r) → wR_law_bent j never [.drw, .dat d] Q := by
  intro j
  induction j with
  | zero => intro k w d h; omega
  | succ j ih =>
    intro k w d hk hw ht Q q
    refine body_in rfl ?_
    unfold tR_law_bent
    have qT : ∀ d ∈ oddsK, Q d := fun d hd => q d ((oddsK_sx d hd).mono (by omega) (by omega))
    cases d with
    | tuple ds =>
      obtain ⟨k, rfl, hx, hwt⟩ := ht.tup
      have hlen : ds.length ≤ w := Nat.le_trans wt_len hwt
      simp_arith! only []
      cases ds with
      | nil =>
        simp_arith! only [List.isEmpty_nil]
        exact ⟨⟨by decide, by decide, by decide⟩, sp_law_among (by simp) (by simp) fun x hx => qT x hx⟩
      | cons x0 ds0 =>
        generalize hds : x0 :: ds0 = ds at *
        have l0 : 0 < ds.length := by rw [← hds]; simp
        rw [show ds.isEmpty = false by rw [← hds]; rfl]
        simp_arith! only []
        refine sp_next (b := 6) (by decide) (by decide) fun r9 _ _ => ?_
        simp_arith! only []
        by_cases e9 : r9 = 0
        · simp_arith! only [decide_eq_true e9]
          exact ⟨⟨by decide, by decide, by decide⟩, sp_law_among (by simp) (by simp) fun x hx => qT x hx⟩
        simp_arith! only [decide_eq_false e9]
        refine sp_next (b := ds.length) (by omega) (by omega) fun r r0 r1 => ?_
        simp_arith! only []
        refine sp_next (b := 9) (by decide) (by decide) fun v _ _ => ?_
        simp_arith! only []
        have lo := cut_lo r0 r1
        have hi := cut_hi (ds := ds) (r := r + 1) (by omega) (by omega)
        have hi0 := cut_hi (ds := ds) (r := r) (by omega) (by omega)
        have mem : ∀ x ∈ ds, Sx (k + 2) w x := fun x h => (hx x h).mono (by omega) (Nat.le_refl _)
        have up : ∀ {ys : List D} {W : Nat}, (∀ x ∈ ys, Sx (k + 2) W x) → PyData.weightAll ys ≤ 2 * w + 100 → Q (.tuple ys) := fun h h2 => q _ (sx_tup h h2)
        rw [lo, hi]
        have w1 := wt_take (ds := ds) r.toNat
        have w2 := wt_drop (ds := ds) (r + 1).toNat
        have w3 := wt_drop (ds := ds) r.toNat
        have w4 := wt_split ds r.toNat
        by_cases e0 : v = 0
        · simp_arith! only [decide_eq_true e0]
          refine ⟨(by (try simp only [sizeLine_eq, List.length_map, List.length_append, List.length_cons, List.length_nil]); first | omega | (simp; done) | (simp; omega)), up (W := w) (fun x h => ?_) (by rw [wt_app]; omega)⟩
          rcases List.mem_append.mp h with z | z
          · exact mem x (List.mem_of_mem_take z)
          · exact mem x (List.mem_of_mem_drop z)
        simp_arith! only [decide_eq_false e0]
        by_cases e1 : v = 1
        · simp_arith! only [decide_eq_true e1, lo, hi0]
          have h1 := len_cut (ds := ds) (a := some r) (b := some (r + 1))
          have h2 := wt_cut (ds := ds) (a := some r) (b := some (r + 1))
          refine ⟨(by (try simp only [sizeLine_eq, List.length_map, List.length_append, List.length_cons, List.length_nil]); first | omega | (simp; done) | (simp; omega)), (by (try simp only [sizeLine_eq, List.length_map, List.length_append, List.length_cons, List.length_nil]); first | omega | (simp; done) | (simp; omega)), up (W := w) (fun x h => ?_) (by rw [wt_app, wt_app]; omega)⟩
          rcases List.mem_append.mp h with z | z
          · rcases List.mem_append.mp z with z | z
            · exact mem x (List.mem_of_mem_take z)
            · exact mem x (mem_cut x z)
          · exact mem x (List.mem_of_mem_drop z)
        simp_arith! only [decide_eq_false e1]
        by_cases e2 : v = 2
        · simp_arith! only [decide_eq_true e2]
          exact q _ (sx_lst mem (by omega))
        simp_arith! only [decide_eq_false e2]
        by_cases e3 : v = 3
        · simp_arith! only [decide_eq_true e3]
          exact up (fun x h => mem x (List.mem_reverse.mp h)) (by rw [wt_rev]; omega)
        simp_arith! only [decide_eq_false e3]
        have hr : r.toNat < ds.length := by omega
        have ea : atI ds r = some ds[r.toNat] := by
          have := atI_some (xs := ds) (k := r.toNat) (a := ds[r.toNat]) (List.getElem?_eq_getElem hr)
          rwa [show ((r.toNat : Nat) : Int) = r by omega] at this
        have w5 : PyData.weightAll (ds.drop r.toNat) = ds[r.toNat].weight + 1 + PyData.weightAll (ds.drop (r + 1).toNat) := by
          rw [show (r + 1).toNat = r.toNat + 1 by omega, List.drop_eq_getElem_cons hr, PyData.weightAll]
        have hxr := hx _ (List.getElem_mem hr)
        simp_arith! only [ea, lo, hi]
        refine ih k ds[r.toNat].weight _ (by omega) (by have := hxr.wei; omega) ⟨hxr.dep, Nat.le_refl _, hxr.can, hxr.lea⟩ _ fun y hy => ?_
        have hyw := hy.wei
        have h6 := hxr.wei
        refine ⟨(by (try simp only [sizeLine_eq, List.length_map, List.length_append, List.length_cons, List.length_nil]); first | omega | (simp; done) | (simp; omega)), (by (try simp only [sizeLine_eq, List.length_map, List.length_append, List.length_cons, List.length_nil]); first | omega | (simp; done) | (simp; omega)), up (W := 2 * w + 100) (fun x h => ?_) (by rw [wt_app, wt_app, PyData.weightAll, PyData.weightAll]; omega)⟩
        rcases List.mem_append.mp h with z | z
        · rcases List.mem_append.mp z with z | z
          · exact (mem x (List.mem_of_mem_take z)).mono (Nat.le_refl _) (by omega)
          · rw [List.mem_singleton.mp z]
            exact hy.mono (by omega) (by omega)
        · exact (mem x (List.mem_of_mem_drop z)).mono (Nat.le_refl _) (by omega)
    | _ =>
      simp_arith! only [isiD, isiN, tyOf]
      exact ⟨⟨by decide, by decide, by decide⟩, sp_law_among (by simp) (by simp) fun x hx => qT x hx⟩
theorem sp_law_bentK {k w : Nat} {d : D} (hk : k < 8) (hw : w ≤ 100000) (h : Sx k w d) (q : ∀ r, Sx (k + 2) (2 * w + 100) r → Q r) : w_law_bent never [.drw, .dat d] Q := sp_law_bentX 8 k w d hk hw h Q q
end Lw

/-! PL48: things in the place of lots. -/
namespace Lw
open PySem DL PL L2
open Lean.Parser.Tactic in
local macro_rules | `(tactic| simp_arith! only [$xs,*] $[$l:location]?) => `(tactic| simp -implicitDefEqProofs only [x_sSeq, x_sNext, x_sSet, x_sSetL, x_sOwn, x_sOwnL, x_sNew, x_sPar, x_sParN, x_sRet, x_sRetN, x_sIf, x_sDrop, x_sFor, x_sWhile, x_sNever, x_sFrz, x_sApp, x_sAppL, x_sExtL, x_sExtS, x_onSeqEL, x_onSeqET, x_sAug, x_sAsg, x_sBreak, x_sCont, x_onDat, x_onSeqL, x_onSeqT, x_on1I, x_on2I, x_on2L, x_on2T, x_onScr, x_ifB, x_onS, x_onOwn, x_onList, x_onInt, x_onCInt, x_isDrw, x_lenScr, x_dV, x_dK, x_dOp, x_dTup, x_dNew, x_nLst, x_nCall, x_nComp, x_nRg, x_dTupRg, x_gRg1, x_gRg2, x_dCall, x_dCallF, x_dSl, x_oNone, x_oSome, x_dAnd, x_dOr, x_dNot, x_oNeg, x_bVal, x_bAnd, x_bOr, x_bNot, x_dIf, x_dChain, x_aNil, x_aCons, x_cNil, x_cCons, x_cDrw, x_iSeq, x_iRange1, x_iRange2, x_iZip2, x_iEnum1, x_iEnumZ, x_on2TT, x_nSortSet, x_onTupO, x_nSortSetI, x_nSortSetE, x_fMinL, x_fSumL, x_dDict0, x_sIns, x_sPut, x_sRaise, x_dCallE, x_sTry1, x_gN, x_gT, x_gCons, x_gNil, x_bYes, x_fLenL, x_fLenT, x_fLenS, x_fTupleL, x_fTupleT, x_fListL, x_fListT, x_fSorted, x_fAll, x_fAny, x_fSum, x_fIntI, x_fIntB, x_fMin2, x_fMax2, x_fRepr, x_dIsi, x_lend, x_lendD, x_lendO, x_lendR, x_lendU, x_lendS, x_wipe0, x_wipe1, x_addI, x_addS, x_addL, x_addT, x_sub, x_mod, x_div, x_pow, x_mulI, x_mulL, x_mul2T, x_sM2, x_sM3, x_on2C, x_on3C, x_mNil, x_mD, x_mN, x_aStar, x_fSortedT, x_isB, x_isN, x_isN0, x_isNI, x_isNT, x_isNL, x_isNS, x_isNB, x_lt, x_ltT, x_ord, x_ordT, x_ixL, x_ixT, x_ixS, x_fListD, x_fListDL, x_fReprD, x_dRev, x_nCat2, x_sOwnCat, x_onSeqRL, x_onSeqRT, x_onCat, x_eqT0, x_neL0, x_fSortedD, x_dDc, oGe2, oLe2, oGt2, List.getElem?_cons_zero, List.getElem?_cons_succ, List.getElem?_nil, List.set_cons_zero, List.set_cons_succ, List.map_cons, List.map_nil, List.length_cons, List.length_nil, List.replicate, List.cons_append, List.nil_append, Nat.reduceSub, Nat.reduceAdd, Nat.zero_add, if_true, Bool.false_eq_true, if_false, bne_self_eq_false, Bool.true_bne, Bool.false_bne, Bool.not_true, Bool.not_false, true_and, and_true, Bool.bne_false, Bool.bne_true, k_eqI, k_neI, k_eqS, k_neS, k_eqT, k_neT, k_eqLL, k_neLL, k_eqTT, k_neTT, k_inLI, k_inLT, k_inTTT, k_inT, k_in23, k_eqLn, k_neLn, k_eqTn, k_neTn, k_eqTn', k_neTn', k_onSeq, k_onTupO, k_onSeqE, k_lenT, k_tupL, k_tupT, k_listT, k_addT, k_addT1, k_ixT, ixN_map, onS_map, k_isiT, k_isiTi, k_isiTb, k_isiTs, k_isiTl, k_isi, k_isil, k_isii, k_isiib, k_isis, k_isNT, k_flatT, k_flatI, k_flatLs, k_flatTLs, k_gT, k_on2T, k_ordT, k_ltT, k_gR, k_ixR0, k_ixR1, k_ixS0, k_ixS1, List.length_map, eq_self, Int.cast_ofNat_Int, Int.reduceEq, Int.reduceLE, Int.reduceLT, Int.reduceAdd, Int.reduceSub, Int.reduceNeg, decide_true, decide_false, or_true, true_or, or_false, false_or, k_ofS, String.reduceEq, sizeLine_eq, Nat.reduceLeDiff, k_at0, k_at1, k_at2, k_at3, $xs,*] $[$l:location]?)
variable {n : Nat} {rs : Rules} {Q : D → Prop}
theorem compD_drw {g : GT} {tt : BT} {te : ET} {η0 : EnvD} (P : D → Prop) : ∀ {ds acc : List D} {K : List D → Prop},
    (∀ d ∈ ds, ∀ (R1 : D → Prop) (R0 : Prop), (∀ y, P y → R1 y) → g d η0 fun η1 => tt never η1 fun b => if b = true then te never η1 R1 else R0) → acc.length + ds.length ≤ sizeLine → (∀ y ∈ acc, P y) →
    (∀ ys : List D, (∀ y ∈ ys, P y) → ys.length = acc.length + ds.length → K ys) → compD g tt te η0 ds acc K
  | [], acc, K, _, _, ha, q => q acc ha (by simp)
  | d :: ds, acc, K, h, hl, ha, q => by
    rw [List.length_cons] at hl
    refine h d List.mem_cons_self _ _ fun y hy => ⟨by omega, ?_⟩
    refine compD_drw P (fun x hx => h x (List.mem_cons_of_mem _ hx)) (by rw [List.length_append, List.length_singleton]; omega) (fun z hz => ?_) fun ys h1 h2 => q ys h1 (by rw [h2, List.length_append, List.length_singleton, List.length_cons]; omega)
    rcases List.mem_append.mp hz with w | w
    · exact ha z w
    · rw [List.mem_singleton.mp w]; exact hy
theorem sx_lot {l : List Int} (hl : InL n l) (n6 : n ≤ 6) : Sx 1 252 (T l) := by
  have := hl.len
  exact sx_ofRp (rp_T 6 (by omega) fun x hx => by have := hl.rng x hx; omega)
theorem sx_sch (h : Val n rs) : Sx 4 5200 (schD n rs) := by
  have n6 := h.n6
  have few := h.few
  have r1 : Sx 3 5070 (.tuple (rs.map ruleD)) := (sx_tupM 10 (k := 2) (w := 506) (fun d hd => by
    obtain ⟨r, hr, rfl⟩ := List.mem_map.mp hd
    have hl := h.lots r hr
    refine (sx_tupM 2 (k := 1) (w := 252) (fun x hx => ?_) (Nat.le_refl _)).mono (by decide) (by decide)
    simp only [List.mem_cons, List.not_mem_nil, or_false] at hx
    rcases hx with rfl | rfl
    · exact sx_lot hl.1 n6
    · exact sx_lot hl.2 n6) (by rw [List.length_map]; exact few)).mono (by decide) (by decide)
  have r0 : Sx 3 41 (.int n) := (sx_ofRp (rp_int (i := (n : Int)) (by omega))).mono (by decide) (by decide)
  unfold schD
  refine sx_tup (W := 5070) (k := 3) (fun x hx => ?_) ?_
  · simp only [List.mem_cons, List.not_mem_nil, or_false] at hx
    rcases hx with rfl | rfl
    · exact r0.mono (by decide) (by decide)
    · exact r1
  · have := r0.wei
    have := r1.wei
    rw [PyData.weightAll, PyData.weightAll, PyData.weightAll]
    omega
def fixK (n : Nat) : List D := [.none, .list [], .tuple [.bool true], .tuple [.str (Str.ofString "0")], .tuple [.none], .tuple [.int 0, .int n], .tuple [.int n], .tuple [.int (-1)], .tuple [.list []], .dict [], .int 0, .str (Str.ofString "01")]
theorem fixK_sx (n1 : 1 ≤ n) (n6 : n ≤ 6) : ∀ d ∈ fixK n, Sx 3 700 d := by
  have : (fixK n).all (sxB 3 700) = true := by
    rcases (by omega : n = 1 ∨ n = 2 ∨ n = 3 ∨ n = 4 ∨ n = 5 ∨ n = 6) with rfl | rfl | rfl | rfl | rfl | rfl <;> decide +kernel
  exact fun d hd => sx_by (List.all_eq_true.mp this d hd)
theorem sp_lots (n6 : n ≤ 6) (q : Q (.list ((lexLots (cols n)).map T))) : w_law_lots never [.dat (.list (rangeD 0 n))] Q := by
  have := sp_all_lots false (cols_asc n) (by rw [cols_len]; omega) q
  rw [show seqD false (cols n) = .list (rangeD 0 n) from by rw [cols_range]; rfl] at this
  exact this
theorem bb_ok (b : Bool) : reprOk (.list [.bool b, .bool b]) := (sx_by (k := 1) (w := 10) (by cases b <;> decide +kernel) : Sx 1 10 _).repr (by decide) (by decide)
theorem sp_law_lots_right (h : Val n rs) {k w : Nat} {o : D} (ho : Sx k w o) (hk : k ≤ 50) (hw : w ≤ 100000) (q : Q (.bool true)) : w_law_lots_right never [.drw, .dat (schD n rs), .dat o] Q := by
  refine body_in rfl ?_
  have n1 := h.n1
  have n6 := h.n6
  have ol := ho.line (by omega)
  unfold t_law_lots_right
  simp_arith! only []
  refine ⟨⟨by omega, by omega⟩, ?_⟩
  rw [show ((n : Int) - 0).toNat = n by omega]
  refine sp_lots n6 ?_
  simp_arith! only []
  refine ⟨⟨by decide, by decide⟩, ?_⟩
  refine compD_drw (Sx 3 700) (fun d hd R1 R0 r => ?_) (by rw [sizeLine_eq, rangeD_len]; decide) (fun y hy => (nomatch hy)) fun ys hy hyl => ?_
  · simp_arith! only []
    refine sp_law_lot (by omega) (by decide) (by decide) fun l hl => ?_
    refine sp_law_bentK (by decide) (by decide) (sx_lot hl n6) fun y hy => ?_
    exact r y (hy.mono (by decide) (by decide))
  · rw [rangeD_len] at hyl
    (try simp_arith! only [])
    have hcl : (cutD ((lexLots (cols n)).map T) none (some 20)).length ≤ 64 := Nat.le_trans len_cut (by rw [List.length_map]; exact lots_len n6)
    have hyl' : ys.length = 12 := by rw [hyl]; rfl
    refine ⟨by omega, by rw [List.length_append]; omega, ?_⟩
    refine forD_inv (fun ds η => (∀ d ∈ ds, Sx 3 700 d) ∧ ∃ x3 x5 x6 x7 x8, η = [.drw, .dat (schD n rs), .dat o, x3, .un, x5, x6, x7, x8]) ?_ ?_ ⟨?_, _, _, _, _, _, rfl⟩
    · rintro d ds η ⟨hd, x3, x5, x6, x7, x8, rfl⟩ nx hn
      have sd := hd d List.mem_cons_self
      have rd := sd.repr (by decide) (by decide)
      have ld := sd.line (by decide)
      (try simp_arith! only [])
      refine ⟨rd, ?_⟩
      refine sp_law_is_lot_soA _ ld ?_
      (try simp_arith! only [])
      refine sp_is_lotA h d ld ?_
      refine sp_is_lotA h d ld ?_
      refine ⟨bb_ok _, bb_ok _, ?_⟩
      (try simp_arith! only [])
      refine ⟨rd, ?_⟩
      (try simp_arith! only [])
      refine sp_law_wrongA _ ol ?_
      have hn' := fun x3 x5 x6 x7 x8 => hn [.drw, .dat (schD n rs), .dat o, x3, .un, x5, x6, x7, x8] ⟨fun z hz => hd z (List.mem_cons_of_mem _ hz), _, _, _, _, _, rfl⟩
      cases c : faultK o with
      | none =>
        simp_arith! only [Option.toList_none]
        rw [x_ne]
        refine ⟨by decide +kernel, ?_⟩
        rw [show PyData.eqv (.list []) (.list []) = true from by decide +kernel]
        (try simp_arith! only [])
        exact hn' _ _ _ _ _
      | some p =>
        obtain ⟨_, o2, o3, o4, o5⟩ := plc_ok c
        unfold schW at o2 o3
        simp_arith! only [Option.toList_some]
        rw [x_ne]
        refine ⟨o4, ?_⟩
        rw [o5]
        (try simp_arith! only [])
        rw [x_dTold]
        have dr : ∀ x3 x4 x5 x6 x7 x8 : Cell, drop [.drw, .dat (schD n rs), .dat o, x3, x4, x5, x6, x7, x8] = [.drw, .dat (schD n rs), .dat o, dropC x3, dropC x4, dropC x5, dropC x6, dropC x7, dropC x8] := fun _ _ _ _ _ _ => rfl
        rw [dr]
        simp_arith! only [x_dropD]
        refine sp_is_lotF d ol c ?_
        refine ⟨_, _, rfl, (by decide +kernel : Str.ofString "BadSchema" ∈ toldNames), fun a dx => sp_refusal_schema ?_⟩
        (try simp_arith! only [])
        rw [x_ne]
        refine ⟨o2, ?_⟩
        rw [o3]
        (try simp_arith! only [])
        exact hn' _ _ _ _ _
    · rintro η ⟨_, x3, x5, x6, x7, x8, rfl⟩
      simp_arith! only []
      exact q
    · intro d hd
      rcases List.mem_append.mp hd with z | z
      · rcases List.mem_append.mp z with z | z
        · obtain ⟨l, hl, rfl⟩ := List.mem_map.mp (mem_cut d z)
          exact (sx_lot (mem_lots.mp hl) n6).mono (by decide) (by decide)
        · exact hy d z
      · exact fixK_sx n1 n6 d z
end Lw

/-! PL49: k01 by hand. -/
namespace Lw
open PySem DL PL L2
open Lean.Parser.Tactic in
local macro_rules | `(tactic| simp_arith! only [$xs,*] $[$l:location]?) => `(tactic| simp -implicitDefEqProofs only [x_sSeq, x_sNext, x_sSet, x_sSetL, x_sOwn, x_sOwnL, x_sNew, x_sPar, x_sParN, x_sRet, x_sRetN, x_sIf, x_sDrop, x_sFor, x_sWhile, x_sNever, x_sFrz, x_sApp, x_sAppL, x_sExtL, x_sExtS, x_onSeqEL, x_onSeqET, x_sAug, x_sAsg, x_sBreak, x_sCont, x_onDat, x_onSeqL, x_onSeqT, x_on1I, x_on2I, x_on2L, x_on2T, x_onScr, x_ifB, x_onS, x_onOwn, x_onList, x_onInt, x_onCInt, x_isDrw, x_lenScr, x_dV, x_dK, x_dOp, x_dTup, x_dNew, x_nLst, x_nCall, x_nComp, x_nRg, x_dTupRg, x_gRg1, x_gRg2, x_dCall, x_dCallF, x_dSl, x_oNone, x_oSome, x_dAnd, x_dOr, x_dNot, x_oNeg, x_bVal, x_bAnd, x_bOr, x_bNot, x_dIf, x_dChain, x_aNil, x_aCons, x_cNil, x_cCons, x_cDrw, x_iSeq, x_iRange1, x_iRange2, x_iZip2, x_iEnum1, x_iEnumZ, x_on2TT, x_nSortSet, x_onTupO, x_nSortSetI, x_nSortSetE, x_fMinL, x_fSumL, x_dDict0, x_sIns, x_sPut, x_sRaise, x_dCallE, x_sTry1, x_gN, x_gT, x_gCons, x_gNil, x_bYes, x_fLenL, x_fLenT, x_fLenS, x_fTupleL, x_fTupleT, x_fListL, x_fListT, x_fSorted, x_fAll, x_fAny, x_fSum, x_fIntI, x_fIntB, x_fMin2, x_fMax2, x_fRepr, x_dIsi, x_lend, x_lendD, x_lendO, x_lendR, x_lendU, x_lendS, x_wipe0, x_wipe1, x_addI, x_addS, x_addL, x_addT, x_sub, x_mod, x_div, x_pow, x_mulI, x_mulL, x_mul2T, x_sM2, x_sM3, x_on2C, x_on3C, x_mNil, x_mD, x_mN, x_aStar, x_fSortedT, x_isB, x_isN, x_isN0, x_isNI, x_isNT, x_isNL, x_isNS, x_isNB, x_lt, x_ltT, x_ord, x_ordT, x_ixL, x_ixT, x_ixS, x_fListD, x_fListDL, x_fReprD, x_dRev, x_nCat2, x_sOwnCat, x_onSeqRL, x_onSeqRT, x_onCat, x_eqT0, x_neL0, x_fSortedD, x_dDc, oGe2, oLe2, oGt2, List.getElem?_cons_zero, List.getElem?_cons_succ, List.getElem?_nil, List.set_cons_zero, List.set_cons_succ, List.map_cons, List.map_nil, List.length_cons, List.length_nil, List.replicate, List.cons_append, List.nil_append, Nat.reduceSub, Nat.reduceAdd, Nat.zero_add, if_true, Bool.false_eq_true, if_false, bne_self_eq_false, Bool.true_bne, Bool.false_bne, Bool.not_true, Bool.not_false, true_and, and_true, Bool.bne_false, Bool.bne_true, k_eqI, k_neI, k_eqS, k_neS, k_eqT, k_neT, k_eqLL, k_neLL, k_eqTT, k_neTT, k_inLI, k_inLT, k_inTTT, k_inT, k_in23, k_eqLn, k_neLn, k_eqTn, k_neTn, k_eqTn', k_neTn', k_onSeq, k_onTupO, k_onSeqE, k_lenT, k_tupL, k_tupT, k_listT, k_addT, k_addT1, k_ixT, ixN_map, onS_map, k_isiT, k_isiTi, k_isiTb, k_isiTs, k_isiTl, k_isi, k_isil, k_isii, k_isiib, k_isis, k_isNT, k_flatT, k_flatI, k_flatLs, k_flatTLs, k_gT, k_on2T, k_ordT, k_ltT, k_gR, k_ixR0, k_ixR1, k_ixS0, k_ixS1, List.length_map, eq_self, Int.cast_ofNat_Int, Int.reduceEq, Int.reduceLE, Int.reduceLT, Int.reduceAdd, Int.reduceSub, Int.reduceNeg, decide_true, decide_false, or_true, true_or, or_false, false_or, k_ofS, String.reduceEq, sizeLine_eq, Nat.reduceLeDiff, k_at0, k_at1, k_at2, k_at3, $xs,*] $[$l:location]?)
variable {n : Nat} {rs : Rules} {Q : D → Prop}
theorem ne_nil (q : Q (.bool false)) : oNe (.list []) (.list []) Q := by
  rw [x_ne]
  exact ⟨by decide +kernel, by rw [show PyData.eqv (.list []) (.list []) = true by decide +kernel]; exact q⟩
def lots10 : List (List Int) := (lexLots (cols 6)).take 10
def lots11 : List (List Int) := (lexLots (cols 6)).take 11
def tenD : D := .tuple (lots10.map fun l => .tuple [T l, T (cols 6)])
def elvD : D := .tuple (lots11.map fun l => .tuple [T l, .tuple []])
theorem cut_T {xs : List (List Int)} {k : Nat} : cutD (xs.map T) none (some (k : Int)) = (xs.take k).map T := by
  unfold cutD
  simp only [HT.sIx]
  rw [if_neg (by omega)]
  simp only [Nat.sub_zero, List.drop_zero, List.length_map, Int.toNat_natCast, List.map_take]
  rw [List.take_eq_take_iff]
  simp
theorem ten_none : (faultK (.tuple [.int 6, tenD])).isNone = true := by decide +kernel
theorem sch0_val : Val 6 [] := val_of (by decide +kernel)
def heK : D := .list [schW (.tuple [.str (Str.ofString "rules")]), schW (.tuple [.str (Str.ofString "wide")])]
theorem due_elv : dueK (.tuple [.int 6, elvD]) = schW (.tuple [.str (Str.ofString "rules")]) := by
  have : faultK (.tuple [.int 6, elvD]) = some (.tuple [.str (Str.ofString "rules")]) := faultK_r (by decide +kernel) (by decide +kernel)
  unfold dueK
  rw [this]; rfl
theorem due_tru : dueK (.tuple [.bool true, .none]) = schW (.tuple [.str (Str.ofString "wide")]) := by
  have : faultK (.tuple [.bool true, .none]) = some (.tuple [.str (Str.ofString "wide")]) := faultK_w (by decide +kernel)
  unfold dueK
  rw [this]; rfl
theorem filter_no {α : Type} (xs : List α) : (xs.filter fun _ => false) = [] := by simp
theorem sp_law_by_hand_right (q : Q (.bool true)) : w_law_by_hand_right never [] Q := by
  refine body_in rfl ?_
  unfold t_law_by_hand_right
  simp_arith! only []
  refine ⟨⟨by omega, by omega⟩, ?_⟩
  refine sp_lots (n := 6) (by decide) ?_
  (try simp_arith! only [])
  rw [show (10 : Int) = ((10 : Nat) : Int) from rfl, cut_T]
  refine compD_mp T (fun l => .tuple [T l, T (cols 6)]) (fun l hl R1 R0 r => ?_) (by rw [sizeLine_eq]; simp; omega) ?_
  · (try simp_arith! only [])
    exact ⟨⟨by omega, by omega⟩, r⟩
  · rw [List.nil_append]
    (try simp_arith! only [])
    rw [show (11 : Int) = ((11 : Nat) : Int) from rfl, cut_T]
    refine compD_mp T (fun l => .tuple [T l, .tuple []]) (fun l hl R1 R0 r => ?_) (by rw [sizeLine_eq]; simp; omega) ?_
    · (try simp_arith! only [])
      exact r
    · rw [List.nil_append]
      (try simp_arith! only [])
      refine ⟨Nat.le_trans (Nat.add_le_add len_cut len_cut) (by simp; omega), ?_⟩
      rw [compD_id]
      refine compD_fl id id (fun _ => false) (fun x hx R1 R0 r1 r0 => ?_) (by rw [sizeLine_eq]; simp) ?_
      · have sx : Sx 8 21100 x := by
          simp only [List.mem_cons, List.not_mem_nil, or_false] at hx
          rcases hx with rfl | rfl | rfl | rfl | rfl | rfl | rfl | rfl | rfl | rfl | rfl | rfl | rfl | rfl | rfl | rfl | rfl | rfl | rfl | rfl | rfl <;> exact sx_by (by decide +kernel)
        simp_arith! only [id]
        refine sp_law_is_read sx (by decide) (by decide) ?_
        (try simp_arith! only [])
        exact r0 rfl
      · rw [List.nil_append, filter_no, List.map_nil]
        refine ne_nil ?_
        (try simp_arith! only [])
        refine sp_need_schemaA _ (by rw [sizeLine_eq]; decide +kernel) (fun _ => ?_) (fun p hp => ?_)
        · rw [x_ne]
          refine ⟨by decide +kernel, ?_⟩
          have e6 : PyData.eqv (.tuple [.int 6, tenD]) (.tuple [.int 6, tenD]) = true := by decide +kernel
          unfold tenD lots10 at e6
          rw [e6]
          (try simp_arith! only [])
          rw [x_dTold]
          simp_arith! only [x_drop0, x_drop1, x_dropD, x_dropO, x_dropU]
          refine sp_toldK (.tuple [.int 6, elvD]) (by rw [sizeLine_eq]; decide +kernel) ?_
          rw [due_elv]
          (try simp_arith! only [])
          rw [x_dTold]
          simp_arith! only [x_drop0, x_drop1, x_dropD, x_dropO, x_dropU]
          refine sp_toldK (.tuple [.bool true, .none]) (by decide) ?_
          rw [due_tru]
          (try simp_arith! only [])
          rw [x_eq]
          refine ⟨(by decide +kernel : eqOk heK heK = true), ?_⟩
          have eH : PyData.eqv heK heK = true := by decide +kernel
          unfold heK schW at eH
          unfold schW
          rw [eH]
          (try simp_arith! only [])
          refine ⟨⟨by omega, by omega⟩, ?_⟩
          refine sp_is_lotA sch0_val _ (by rw [sizeLine_eq]; decide +kernel) ?_
          have eL : lotB ((6 : Nat) : Int) (.tuple (rangeD 0 (Int.toNat 6))) = true := by decide +kernel
          rw [eL]
          simp_arith! only [x_isB]
          exact q
        · have := ten_none
          rw [show faultK (.tuple [.int 6, tenD]) = some p from hp] at this
          cases this
end Lw

/-! the law k01. -/
namespace Lw
open PySem DL PL L2
open Lean.Parser.Tactic in
local macro_rules | `(tactic| simp_arith! only [$xs,*] $[$l:location]?) => `(tactic| simp -implicitDefEqProofs only [x_sSeq, x_sNext, x_sSet, x_sSetL, x_sOwn, x_sOwnL, x_sNew, x_sPar, x_sParN, x_sRet, x_sRetN, x_sIf, x_sDrop, x_sFor, x_sWhile, x_sNever, x_sFrz, x_sApp, x_sAppL, x_sExtL, x_sExtS, x_onSeqEL, x_onSeqET, x_sAug, x_sAsg, x_sBreak, x_sCont, x_onDat, x_onSeqL, x_onSeqT, x_on1I, x_on2I, x_on2L, x_on2T, x_onScr, x_ifB, x_onS, x_onOwn, x_onList, x_onInt, x_onCInt, x_isDrw, x_lenScr, x_dV, x_dK, x_dOp, x_dTup, x_dNew, x_nLst, x_nCall, x_nComp, x_nRg, x_dTupRg, x_gRg1, x_gRg2, x_dCall, x_dCallF, x_dSl, x_oNone, x_oSome, x_dAnd, x_dOr, x_dNot, x_oNeg, x_bVal, x_bAnd, x_bOr, x_bNot, x_dIf, x_dChain, x_aNil, x_aCons, x_cNil, x_cCons, x_cDrw, x_iSeq, x_iRange1, x_iRange2, x_iZip2, x_iEnum1, x_iEnumZ, x_on2TT, x_nSortSet, x_onTupO, x_nSortSetI, x_nSortSetE, x_fMinL, x_fSumL, x_dDict0, x_sIns, x_sPut, x_sRaise, x_dCallE, x_sTry1, x_gN, x_gT, x_gCons, x_gNil, x_bYes, x_fLenL, x_fLenT, x_fLenS, x_fTupleL, x_fTupleT, x_fListL, x_fListT, x_fSorted, x_fAll, x_fAny, x_fSum, x_fIntI, x_fIntB, x_fMin2, x_fMax2, x_fRepr, x_dIsi, x_lend, x_lendD, x_lendO, x_lendR, x_lendU, x_lendS, x_wipe0, x_wipe1, x_addI, x_addS, x_addL, x_addT, x_sub, x_mod, x_div, x_pow, x_mulI, x_mulL, x_mul2T, x_sM2, x_sM3, x_on2C, x_on3C, x_mNil, x_mD, x_mN, x_aStar, x_fSortedT, x_isB, x_isN, x_isN0, x_isNI, x_isNT, x_isNL, x_isNS, x_isNB, x_lt, x_ltT, x_ord, x_ordT, x_ixL, x_ixT, x_ixS, x_fListD, x_fListDL, x_fReprD, x_dRev, x_nCat2, x_sOwnCat, x_onSeqRL, x_onSeqRT, x_onCat, x_eqT0, x_neL0, x_fSortedD, x_dDc, oGe2, oLe2, oGt2, List.getElem?_cons_zero, List.getElem?_cons_succ, List.getElem?_nil, List.set_cons_zero, List.set_cons_succ, List.map_cons, List.map_nil, List.length_cons, List.length_nil, List.replicate, List.cons_append, List.nil_append, Nat.reduceSub, Nat.reduceAdd, Nat.zero_add, if_true, Bool.false_eq_true, if_false, bne_self_eq_false, Bool.true_bne, Bool.false_bne, Bool.not_true, Bool.not_false, true_and, and_true, Bool.bne_false, Bool.bne_true, k_eqI, k_neI, k_eqS, k_neS, k_eqT, k_neT, k_eqLL, k_neLL, k_eqTT, k_neTT, k_inLI, k_inLT, k_inTTT, k_inT, k_in23, k_eqLn, k_neLn, k_eqTn, k_neTn, k_eqTn', k_neTn', k_onSeq, k_onTupO, k_onSeqE, k_lenT, k_tupL, k_tupT, k_listT, k_addT, k_addT1, k_ixT, ixN_map, onS_map, k_isiT, k_isiTi, k_isiTb, k_isiTs, k_isiTl, k_isi, k_isil, k_isii, k_isiib, k_isis, k_isNT, k_flatT, k_flatI, k_flatLs, k_flatTLs, k_gT, k_on2T, k_ordT, k_ltT, k_gR, k_ixR0, k_ixR1, k_ixS0, k_ixS1, List.length_map, eq_self, Int.cast_ofNat_Int, Int.reduceEq, Int.reduceLE, Int.reduceLT, Int.reduceAdd, Int.reduceSub, Int.reduceNeg, decide_true, decide_false, or_true, true_or, or_false, false_or, k_ofS, String.reduceEq, sizeLine_eq, Nat.reduceLeDiff, k_at0, k_at1, k_at2, k_at3, $xs,*] $[$l:location]?)
theorem plain : ∀ ns : List Int, ns.length ≤ 63 → t_law never zLaw (lawEnv 5 ns) := by
  intro ns hns
  unfold t_law lawEnv zLaw
  simp_arith! only []
  have m0 : (0 : Int) ≤ (if (ns.length : Int) < 60 then (ns.length : Int) else 60) := by split <;> omega
  have m1 : (if (ns.length : Int) < 60 then (ns.length : Int) else 60) ≤ 60 := by split <;> omega
  generalize (if (ns.length : Int) < 60 then (ns.length : Int) else 60) = mm at m0 m1 ⊢
  refine ⟨⟨by decide, by decide⟩, ⟨by omega, by omega⟩, ?_⟩
  refine forD_inv (fun ds η => ∃ c2 c3 c4 c5 c6, η = [.scr ns, .drw, c2, c3, c4, c5, c6]) ?turn ?last ⟨_, _, _, _, _, rfl⟩
  case turn =>
    rintro d ds η ⟨c2, c3, c4, c5, c6, rfl⟩ nx hn
    simp_arith! only []
    refine sp_next (by decide) (by decide) fun r r0 r1 => ?_
    refine sp_law_among (by simp) (by simp) fun o ho => ?_
    obtain ⟨most, rfl, o0, o1⟩ : ∃ i : Int, o = .int i ∧ 0 ≤ i ∧ i ≤ 10 := by
      simp only [List.mem_cons, List.not_mem_nil, or_false] at ho
      rcases ho with rfl | rfl
      · exact ⟨3, rfl, by decide, by decide⟩
      · exact ⟨10, rfl, by decide, by decide⟩
    obtain ⟨n, hn1, n1, n6⟩ : ∃ n : Nat, 1 + r = (n : Int) ∧ 1 ≤ n ∧ n ≤ 6 := ⟨(1 + r).toNat, by omega, by omega, by omega⟩
    rw [hn1]
    refine sp_law_schema n1 n6 o0 o1 fun rs V => ?_
    have s0 := sx_sch V
    have bent : ∀ Q : D → Prop, (∀ y, Sx 6 10500 y → Q y) → w_law_bent never [.drw, .dat (schD n rs)] Q := fun Q h => sp_law_bentK (by decide) (by decide) s0 fun y hy => h y (hy.mono (by decide) (by decide))
    (try simp_arith! only [])
    refine ⟨⟨by decide, by decide⟩, ?_⟩
    refine compD_drw (Sx 6 10500) (fun d hd R1 R0 r => ?_) (by rw [sizeLine_eq, rangeD_len]; decide) (fun y hy => (nomatch hy)) fun ys hy hyl => ?_
    · (try simp_arith! only [])
      exact bent _ r
    · rw [rangeD_len] at hyl
      have hyl' : ys.length = 30 := by rw [hyl]; rfl
      (try simp_arith! only [])
      refine ⟨by omega, ⟨by decide, by decide⟩, ?_⟩
      refine compD_drw (Sx 8 21100) (fun d hd R1 R0 r => ?_) (by rw [sizeLine_eq, rangeD_len]; decide) (fun y hy => (nomatch hy)) fun zs hz hzl => ?_
      · obtain ⟨i, hi, rfl⟩ := List.mem_map.mp hd
        have hi := List.mem_range.mp hi
        have hi : i < 8 := hi
        have hk : i < ys.length := by omega
        have ea : atI (schD n rs :: ys) (1 + (0 + (i : Nat))) = some ys[i] := by
          have := L2.atI_nat (xs := schD n rs :: ys) (j := i + 1) (v := ys[i]) (by rw [List.getElem?_cons_succ, List.getElem?_eq_getElem hk])
          rwa [show ((i + 1 : Nat) : Int) = 1 + (0 + (i : Nat)) by omega] at this
        simp_arith! only [ea]
        refine sp_law_bentK (k := 6) (w := 10500) (by decide) (by decide) (hy _ (List.getElem_mem hk)) fun y hy => ?_
        exact r y (hy.mono (by decide) (by decide))
      · rw [rangeD_len] at hzl
        have hzl' : zs.length = 8 := by rw [hzl]; rfl
        (try simp_arith! only [])
        refine ⟨by omega, ?_⟩
        rw [compD_id]
        refine compD_fl id id (fun _ => false) (fun x hx R1 R0 r1 r0 => ?_) (by rw [sizeLine_eq]; simp; omega) ?_
        · have sx : Sx 8 21100 x := by
            rcases List.mem_cons.mp hx with rfl | z
            · exact s0.mono (by decide) (by decide)
            rcases List.mem_append.mp z with z | z
            · exact (hy x z).mono (by decide) (by decide)
            · exact hz x z
          simp_arith! only [id]
          refine sp_law_is_read sx (by decide) (by decide) ?_
          (try simp_arith! only [])
          exact r0 rfl
        · rw [List.nil_append, filter_no, List.map_nil]
          refine ne_nil ?_
          (try simp_arith! only [])
          refine bent _ fun o ho => ?_
          refine sp_law_lots_right V ho (by decide) (by decide) ?_
          (try simp_arith! only [])
          exact hn _ ⟨_, _, _, _, _, rfl⟩
  case last =>
    rintro η ⟨c2, c3, c4, c5, c6, rfl⟩
    simp_arith! only []
    exact sp_law_by_hand_right rfl
end Lw

section
open PySem PySem.Spec PyProof.Rows L2 DL Lw
theorem Lw.all_mk {P : Program} {w : World} {K : PySem.W.Frag} {h : Heap} {mg : Str → Option Value} {fa : Addr} (X : K.In h) (G : h.Ns mainGlobals mg) (hmg : mg "law" = some (.ref fa)) (hsys : K.lookup sysModules = none) {cd_law_is_read cd_law_lots_right cd_law_by_hand_right : Addr}  (n_law_is_read : h.get? 322 = some (PySem.W.tabObj #[])) (r_law_is_read : PySem.W.codeHdIn K cd_law_is_read 322 = true) (t_law_is_read : PySem.W.tabIn K "_law_is_read" = some (cd_law_is_read, 322)) (o_law_is_read : K.lookup 322 = none) (n_law_lots_right : h.get? 329 = some (PySem.W.tabObj #[])) (r_law_lots_right : PySem.W.codeHdIn K cd_law_lots_right 329 = true) (t_law_lots_right : PySem.W.tabIn K "_law_lots_right" = some (cd_law_lots_right, 329)) (o_law_lots_right : K.lookup 329 = none) (n_law_by_hand_right : h.get? 334 = some (PySem.W.tabObj #[])) (r_law_by_hand_right : PySem.W.codeHdIn K cd_law_by_hand_right 334 = true) (t_law_by_hand_right : PySem.W.tabIn K "_law_by_hand_right" = some (cd_law_by_hand_right, 334)) (o_law_by_hand_right : K.lookup 334 = none) (k_told : ToldTop K toldNames) (a_law_begun : DefAt K "_law_begun" s_law_begun) (a_law_next : DefAt K "_law_next" s_law_next) (a_is_whole : DefAt K "is_whole" s_is_whole) (a_are_ascending : DefAt K "are_ascending" s_are_ascending) (a_is_lot_of : DefAt K "is_lot_of" s_is_lot_of) (a_is_rule : DefAt K "is_rule" s_is_rule) (a_schema_fault : DefAt K "schema_fault" s_schema_fault) (a_need_schema : DefAt K "need_schema" s_need_schema) (a_is_lot : DefAt K "is_lot" s_is_lot) (a_law_among : DefAt K "_law_among" s_law_among) (a_law_lots : DefAt K "_law_lots" s_law_lots) (a_law_lot : DefAt K "_law_lot" s_law_lot) (a_law_schema : DefAt K "_law_schema" s_law_schema) (a_law_told : DefAt K "_law_told" s_law_told) (a_law_refusal : DefAt K "_law_refusal" s_law_refusal) (a_law_is_whole : DefAt K "_law_is_whole" s_law_is_whole) (a_law_is_lot_so : DefAt K "_law_is_lot_so" s_law_is_lot_so) (a_law_is_rule : DefAt K "_law_is_rule" s_law_is_rule) (a_law_wrong : DefAt K "_law_wrong" s_law_wrong) (a_law_bent : DefAt K "_law_bent" s_law_bent) (a_law_is_read : DefAt K "_law_is_read" s_law_is_read) (a_law_lots_right : DefAt K "_law_lots_right" s_law_lots_right) (a_law_by_hand_right : DefAt K "_law_by_hand_right" s_law_by_hand_right) (a_law : DefAt K "law" s_law) (z_all : PySem.W.nsIn K mainGlobals "all" = some none) (z_bool : PySem.W.nsIn K mainGlobals "bool" = some none) (z_enumerate : PySem.W.nsIn K mainGlobals "enumerate" = some none) (z_int : PySem.W.nsIn K mainGlobals "int" = some none) (z_isinstance : PySem.W.nsIn K mainGlobals "isinstance" = some none) (z_len : PySem.W.nsIn K mainGlobals "len" = some none) (z_list : PySem.W.nsIn K mainGlobals "list" = some none) (z_max : PySem.W.nsIn K mainGlobals "max" = some none) (z_min : PySem.W.nsIn K mainGlobals "min" = some none) (z_range : PySem.W.nsIn K mainGlobals "range" = some none) (z_repr : PySem.W.nsIn K mainGlobals "repr" = some none) (z_set : PySem.W.nsIn K mainGlobals "set" = some none) (z_sorted : PySem.W.nsIn K mainGlobals "sorted" = some none) (z_tuple : PySem.W.nsIn K mainGlobals "tuple" = some none) (z_zip : PySem.W.nsIn K mainGlobals "zip" = some none) (c_MOST_RULES : ConI K "MOST_RULES" (10)) (c_MOST_WIDE : ConI K "MOST_WIDE" (6)) (k_BadSchema : ClsAt P K "BadSchema" "place") :
    ∃ (fd : FuncData) (cs : List (Addr × Addr)), TabsC K h cs ∧ (∀ (s : Shared) (u : Value), BindsTo s fd ⟨[u], []⟩ [("_law_script", u)]) ∧ ∀ base : Heap, K.In base → base.Ns mainGlobals mg → (∀ p ∈ cs, LamX.TabB base mg p.1 p.2) → FnG P w K mg base CX0 15 fa fd ["_law_script"] (spLaw K) := by
  have B : Bl mg := ⟨PySem.W.mg_none_of X G z_all, PySem.W.mg_none_of X G z_bool, PySem.W.mg_none_of X G z_enumerate, PySem.W.mg_none_of X G z_int, PySem.W.mg_none_of X G z_isinstance, PySem.W.mg_none_of X G z_len, PySem.W.mg_none_of X G z_list, PySem.W.mg_none_of X G z_max, PySem.W.mg_none_of X G z_min, PySem.W.mg_none_of X G z_range, PySem.W.mg_none_of X G z_repr, PySem.W.mg_none_of X G z_set, PySem.W.mg_none_of X G z_sorted, PySem.W.mg_none_of X G z_tuple, PySem.W.mg_none_of X G z_zip, c_MOST_RULES.imp fun _ e => PySem.W.mg_of X G e, c_MOST_WIDE.imp fun _ e => PySem.W.mg_of X G e⟩
  have W : Df K mg := ⟨defIn X G a_law_begun (fun _ _ _ _ _ _ us hl => match us, hl with | [_], _ => rfl), defIn X G a_law_next (fun _ _ _ _ _ _ us hl => match us, hl with | [_, _], _ => rfl), defIn X G a_is_whole (fun _ _ _ _ _ _ us hl => match us, hl with | [_, _, _], _ => rfl), defIn X G a_are_ascending (fun _ _ _ _ _ _ us hl => match us, hl with | [_], _ => rfl), defIn X G a_is_lot_of (fun _ _ _ _ _ _ us hl => match us, hl with | [_, _], _ => rfl), defIn X G a_is_rule (fun _ _ _ _ _ _ us hl => match us, hl with | [_, _], _ => rfl), defIn X G a_schema_fault (fun _ _ _ _ _ _ us hl => match us, hl with | [_], _ => rfl), defIn X G a_need_schema (fun _ _ _ _ _ _ us hl => match us, hl with | [_], _ => rfl), defIn X G a_is_lot (fun _ _ _ _ _ _ us hl => match us, hl with | [_, _], _ => rfl), defIn X G a_law_among (fun _ _ _ _ _ _ us hl => match us, hl with | [_, _], _ => rfl), defIn X G a_law_lots (fun _ _ _ _ _ _ us hl => match us, hl with | [_], _ => rfl), defIn X G a_law_lot (fun _ _ _ _ _ _ us hl => match us, hl with | [_, _, _], _ => rfl), defIn X G a_law_schema (fun _ _ _ _ _ _ us hl => match us, hl with | [_, _, _], _ => rfl), defIn X G a_law_told (fun _ _ _ _ _ _ us hl => match us, hl with | [_], _ => rfl), defIn X G a_law_refusal (fun _ _ _ _ _ _ us hl => match us, hl with | [_], _ => rfl), defIn X G a_law_is_whole (fun _ _ _ _ _ _ us hl => match us, hl with | [_, _, _], _ => rfl), defIn X G a_law_is_lot_so (fun _ _ _ _ _ _ us hl => match us, hl with | [_, _], _ => rfl), defIn X G a_law_is_rule (fun _ _ _ _ _ _ us hl => match us, hl with | [_, _], _ => rfl), defIn X G a_law_wrong (fun _ _ _ _ _ _ us hl => match us, hl with | [_], _ => rfl), defIn X G a_law_bent (fun _ _ _ _ _ _ us hl => match us, hl with | [_, _], _ => rfl), defIn X G a_law_is_read (fun _ _ _ _ _ _ us hl => match us, hl with | [_], _ => rfl), defIn X G a_law_lots_right (fun _ _ _ _ _ _ us hl => match us, hl with | [_, _, _], _ => rfl), defIn X G a_law_by_hand_right (fun _ _ _ _ _ _ us hl => match us, hl with | [], _ => rfl)⟩
  have CL : ErrC P K mg := ⟨clsIn_of X G k_BadSchema⟩
  have TC : TabsC K h [(cd_law_is_read, 322), (cd_law_lots_right, 329), (cd_law_by_hand_right, 334)] := tabsC_of X hsys [(("_law_is_read" : Str), cd_law_is_read, 322), (("_law_lots_right" : Str), cd_law_lots_right, 329), (("_law_by_hand_right" : Str), cd_law_by_hand_right, 334)] rfl fun p hp => by
    simp only [List.mem_cons, List.mem_nil_iff, or_false] at hp
    rcases hp with rfl | rfl | rfl
    · exact ⟨t_law_is_read, o_law_is_read, r_law_is_read, n_law_is_read⟩
    · exact ⟨t_law_lots_right, o_law_lots_right, r_law_lots_right, n_law_lots_right⟩
    · exact ⟨t_law_by_hand_right, o_law_by_hand_right, r_law_by_hand_right, n_law_by_hand_right⟩
  have TOH : ∃ S1 S2, ToldB K mg okN S1 S2 := toldB_of X G k_told
  exact with_tabs TC (law_finL X G hmg a_law (fun _ _ _ _ _ _ us hl => match us, hl with | [_], _ => rfl) fun base f fd _ _ tb F => ok_law B W CL TOH ⟨⟨cd_law_is_read, 322, lamAt_of X G t_law_is_read (tb (cd_law_is_read, 322) (by simp)) (by decide +kernel) (by decide +kernel)⟩, ⟨cd_law_lots_right, 329, lamAt_of X G t_law_lots_right (tb (cd_law_lots_right, 329) (by simp)) (by decide +kernel) (by decide +kernel)⟩, ⟨cd_law_by_hand_right, 334, lamAt_of X G t_law_by_hand_right (tb (cd_law_by_hand_right, 334) (by simp)) (by decide +kernel) (by decide +kernel)⟩⟩ F Lw.plain)
end
open PySem PySem.W PyProof.Rows
set_option maxHeartbeats 0 in
theorem PySem.Challenge.cw_restshares_k01_schemas_checked_holds : PySem.Challenge.rw_restshares_k01_schemas_checked.Holds := by
  w_on; o_law; k_head; (case hw => w_witness2)
  k_fill
  refine DL.walk_GL (l := PySem.Challenge.rw_restshares_k01_schemas_checked) (n := 63) (k := 15) (x := "_law_script") (sp := DL.spLaw) rfl (by decide) rfl ⟨rfl, by decide, by decide⟩ (by first | rfl | decide +kernel) (fun w h Y => PySem.W.km_in_of Y) ?F (fun K H a ns hl hO hS => ⟨a, ns, rfl, hl, hO, hS, fun _ => rfl⟩)
  case F =>
    intro w mg fa h Y KX G hmg
    refine' Lw.all_mk KX G hmg ?sy ?n_law_is_read ?r_law_is_read ?t_law_is_read ?o_law_is_read ?n_law_lots_right ?r_law_lots_right ?t_law_lots_right ?o_law_lots_right ?n_law_by_hand_right ?r_law_by_hand_right ?t_law_by_hand_right ?o_law_by_hand_right ?k_told ?a_law_begun ?a_law_next ?a_is_whole ?a_are_ascending ?a_is_lot_of ?a_is_rule ?a_schema_fault ?a_need_schema ?a_is_lot ?a_law_among ?a_law_lots ?a_law_lot ?a_law_schema ?a_law_told ?a_law_refusal ?a_law_is_whole ?a_law_is_lot_so ?a_law_is_rule ?a_law_wrong ?a_law_bent ?a_law_is_read ?a_law_lots_right ?a_law_by_hand_right ?a_law ?z_all ?z_bool ?z_enumerate ?z_int ?z_isinstance ?z_len ?z_list ?z_max ?z_min ?z_range ?z_repr ?z_set ?z_sorted ?z_tuple ?z_zip ?c_MOST_RULES ?c_MOST_WIDE ?k_BadSchema
    (case t_law_is_read => refine' DL.tabIn_of ?qa ?ql ?qc ?qd ?qv; (case qa => k_is); (case ql => k_is); (case qc => exact rfl); (case qd => k_is); (case qv => exact rfl))
    (case r_law_is_read => refine' DL.codeHdIn_of ?rl ?re; (case rl => k_is); (case re => first | rfl | decide +kernel))
    (case n_law_is_read => exact PySem.W.km_tabs_of Y _ (by decide +kernel))
    (case o_law_is_read => first | k_is | rfl | kernel_rfl)
    (case t_law_lots_right => refine' DL.tabIn_of ?qa ?ql ?qc ?qd ?qv; (case qa => k_is); (case ql => k_is); (case qc => exact rfl); (case qd => k_is); (case qv => exact rfl))
    (case r_law_lots_right => refine' DL.codeHdIn_of ?rl ?re; (case rl => k_is); (case re => first | rfl | decide +kernel))
    (case n_law_lots_right => exact PySem.W.km_tabs_of Y _ (by decide +kernel))
    (case o_law_lots_right => first | k_is | rfl | kernel_rfl)
    (case t_law_by_hand_right => refine' DL.tabIn_of ?qa ?ql ?qc ?qd ?qv; (case qa => k_is); (case ql => k_is); (case qc => exact rfl); (case qd => k_is); (case qv => exact rfl))
    (case r_law_by_hand_right => refine' DL.codeHdIn_of ?rl ?re; (case rl => k_is); (case re => first | rfl | decide +kernel))
    (case n_law_by_hand_right => exact PySem.W.km_tabs_of Y _ (by decide +kernel))
    (case o_law_by_hand_right => first | k_is | rfl | kernel_rfl)
    (case sy => first | k_is | rfl | kernel_rfl)
    (case k_told =>
      refine' DL.toldTop ?s1 ?s2 ?al; (case s1 => k_is); (case s2 => k_is)
      (case al =>
        refine' DL.told_cons ?u0 (DL.told_nil)
        (case u0 =>
          refine' DL.toldAt (b1 := true) (b2 := false) (b3 := false) (b4 := false) (b5 := false) (b6 := false) (b7 := false) (b8 := false) ?a ?i1 ?i2 ?i3 ?i4 ?i5 ?i6 ?i7 ?i8 ?j1 ?j2 ?j3 ?j4 ?j5 ?j6 ?j7 ?j8 ?eb ?ga ?gg ?exC ?hdC ?cl ?at_ ?gs ?tk ?ob ?n1 ?n2 ?n3 ?n4 ?em
          (case a => first | k_is | kernel_rfl | rfl)
          (case i1 => first | k_is | kernel_rfl | rfl)
          (case i2 => first | k_is | kernel_rfl | rfl)
          (case i3 => first | k_is | kernel_rfl | rfl)
          (case i4 => first | k_is | kernel_rfl | rfl)
          (case i5 => first | k_is | kernel_rfl | rfl)
          (case i6 => first | k_is | kernel_rfl | rfl)
          (case i7 => first | k_is | kernel_rfl | rfl)
          (case i8 => first | k_is | kernel_rfl | rfl)
          (case j1 => first | k_is | kernel_rfl | rfl)
          (case j2 => first | k_is | kernel_rfl | rfl)
          (case j3 => first | k_is | kernel_rfl | rfl)
          (case j4 => first | k_is | kernel_rfl | rfl)
          (case j5 => first | k_is | kernel_rfl | rfl)
          (case j6 => first | k_is | kernel_rfl | rfl)
          (case j7 => first | k_is | kernel_rfl | rfl)
          (case j8 => first | k_is | kernel_rfl | rfl)
          (case eb => first | rfl | decide +kernel)
          (case ga => first | k_is | kernel_rfl | rfl)
          (case gg => first | k_is | kernel_rfl | rfl)
          (case exC => first | k_is | kernel_rfl | rfl)
          (case hdC => first | k_is | kernel_rfl | rfl)
          (case cl => first | k_is | kernel_rfl | rfl)
          (case at_ => first | k_is | kernel_rfl | rfl)
          (case gs => first | k_is | kernel_rfl | rfl)
          (case tk => first | k_is | kernel_rfl | rfl)
          (case ob => first | k_is | kernel_rfl | rfl)
          (case n1 => first | k_is | kernel_rfl | rfl)
          (case n2 => first | k_is | kernel_rfl | rfl)
          (case n3 => first | k_is | kernel_rfl | rfl)
          (case n4 => first | k_is | kernel_rfl | rfl)
          (case em => first | k_is | kernel_rfl | rfl)
          )
      ))
    (case a_law_begun => refine' DL.defAt ?a ?l ?c ?k; (case a => k_is); (case l => k_is); (case c => k_is); (case k => k_is))
    (case a_law_next => refine' DL.defAt ?a ?l ?c ?k; (case a => k_is); (case l => k_is); (case c => k_is); (case k => k_is))
    (case a_is_whole => refine' DL.defAt ?a ?l ?c ?k; (case a => k_is); (case l => k_is); (case c => k_is); (case k => k_is))
    (case a_are_ascending => refine' DL.defAt ?a ?l ?c ?k; (case a => k_is); (case l => k_is); (case c => k_is); (case k => k_is))
    (case a_is_lot_of => refine' DL.defAt ?a ?l ?c ?k; (case a => k_is); (case l => k_is); (case c => k_is); (case k => k_is))
    (case a_is_rule => refine' DL.defAt ?a ?l ?c ?k; (case a => k_is); (case l => k_is); (case c => k_is); (case k => k_is))
    (case a_schema_fault => refine' DL.defAt ?a ?l ?c ?k; (case a => k_is); (case l => k_is); (case c => k_is); (case k => k_is))
    (case a_need_schema => refine' DL.defAt ?a ?l ?c ?k; (case a => k_is); (case l => k_is); (case c => k_is); (case k => k_is))
    (case a_is_lot => refine' DL.defAt ?a ?l ?c ?k; (case a => k_is); (case l => k_is); (case c => k_is); (case k => k_is))
    (case a_law_among => refine' DL.defAt ?a ?l ?c ?k; (case a => k_is); (case l => k_is); (case c => k_is); (case k => k_is))
    (case a_law_lots => refine' DL.defAt ?a ?l ?c ?k; (case a => k_is); (case l => k_is); (case c => k_is); (case k => k_is))
    (case a_law_lot => refine' DL.defAt ?a ?l ?c ?k; (case a => k_is); (case l => k_is); (case c => k_is); (case k => k_is))
    (case a_law_schema => refine' DL.defAt ?a ?l ?c ?k; (case a => k_is); (case l => k_is); (case c => k_is); (case k => k_is))
    (case a_law_told => refine' DL.defAt ?a ?l ?c ?k; (case a => k_is); (case l => k_is); (case c => k_is); (case k => k_is))
    (case a_law_refusal => refine' DL.defAt ?a ?l ?c ?k; (case a => k_is); (case l => k_is); (case c => k_is); (case k => k_is))
    (case a_law_is_whole => refine' DL.defAt ?a ?l ?c ?k; (case a => k_is); (case l => k_is); (case c => k_is); (case k => k_is))
    (case a_law_is_lot_so => refine' DL.defAt ?a ?l ?c ?k; (case a => k_is); (case l => k_is); (case c => k_is); (case k => k_is))
    (case a_law_is_rule => refine' DL.defAt ?a ?l ?c ?k; (case a => k_is); (case l => k_is); (case c => k_is); (case k => k_is))
    (case a_law_wrong => refine' DL.defAt ?a ?l ?c ?k; (case a => k_is); (case l => k_is); (case c => k_is); (case k => k_is))
    (case a_law_bent => refine' DL.defAt ?a ?l ?c ?k; (case a => k_is); (case l => k_is); (case c => k_is); (case k => k_is))
    (case a_law_is_read => refine' DL.defAt ?a ?l ?c ?k; (case a => k_is); (case l => k_is); (case c => k_is); (case k => k_is))
    (case a_law_lots_right => refine' DL.defAt ?a ?l ?c ?k; (case a => k_is); (case l => k_is); (case c => k_is); (case k => k_is))
    (case a_law_by_hand_right => refine' DL.defAt ?a ?l ?c ?k; (case a => k_is); (case l => k_is); (case c => k_is); (case k => k_is))
    (case a_law => refine' DL.defAt ?a ?l ?c ?k; (case a => k_is); (case l => k_is); (case c => k_is); (case k => k_is))
    (case z_all => k_is)
    (case z_bool => k_is)
    (case z_enumerate => k_is)
    (case z_int => k_is)
    (case z_isinstance => k_is)
    (case z_len => k_is)
    (case z_list => k_is)
    (case z_max => k_is)
    (case z_min => k_is)
    (case z_range => k_is)
    (case z_repr => k_is)
    (case z_set => k_is)
    (case z_sorted => k_is)
    (case z_tuple => k_is)
    (case z_zip => k_is)
    (case c_MOST_RULES => refine' DL.conI ?a; (case a => k_is))
    (case c_MOST_WIDE => refine' DL.conI ?a; (case a => k_is))
    (case k_BadSchema =>
      refine' DL.clsAt ?a ?lc ?i ?l ?lcode ?lcell ?lS ?fS ?hm ?hm2 ?co ?t ?c1 ?c2 ?c3 ?c5 ?c6 ?c7 ?c8 ?c9 ?c10 ?c11 ?c12 ?c14 ?c15 ?c16 ?c17 ?c18 ?hv ?hfile ?ns ?Sc ?h1 ?h2 ?h3 ?h4
      (case a => k_is)
      (case lc => k_is)
      (case i => k_is)
      (case l => k_is)
      (case lcode => k_is)
      (case lcell => k_is)
      (case hm => exact rfl)
      (case lS => k_is)
      (case hm2 => exact rfl)
      (case fS => k_is)
      (case co => k_is)
      (case t => k_is)
      (case c1 => first | rfl | decide +kernel)
      (case c2 => first | rfl | decide +kernel)
      (case c3 => k_is)
      (case c5 => k_is)
      (case c6 => k_is)
      (case c7 => k_is)
      (case c8 => k_is)
      (case c9 => k_is)
      (case c10 => k_is)
      (case c11 => k_is)
      (case c12 => k_is)
      (case c14 => k_is)
      (case c15 => k_is)
      (case c16 => k_is)
      (case c17 => k_is)
      (case c18 => k_is)
      (case hv => exact rfl)
      (case hfile => first | rfl | decide +kernel)
      (case ns => exact rfl)
      (case h3 => exact rfl)
      (case Sc => exact ⟨rfl, rfl, rfl, by decide +kernel, by decide +kernel, by decide +kernel, by decide +kernel, by decide +kernel, by decide +kernel, by decide +kernel⟩)
      (case h1 => intro env; exact ⟨_, rfl⟩)
      (case h2 => intro env; exact ⟨rfl, rfl⟩)
      (case h4 => intro us hl; exact match us, hl with | [_, _], _ => rfl))
