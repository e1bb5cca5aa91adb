import PyProof.Rows.All
import Wide.All
import OpenK.AllK
import Wide.FinOn
import HandS.Lambda
import HandS.ForMost
import HandS.Deep
import HandS.TupAny
import HandS.IsInst
import HandS.Flow
import HandS.Conv
import HandS.Walk
import HandS.Zip
import HandS.Defaults
import HandS.Exc
import KE.SortData
import PyProof.ReprRoads
import PyProof.ReprReads
import KE.KDictKeyed
import KE.KeyNested
import KE.KDictPairs
import KE.GoesEnum
import HandS.Small
import PyProof.EvalArms
import KE.DataCmp
import HandS.TupMul
import HandS.Style
import HandS.Star
import KE.KDictZip
import HandS.Zip0
import PyProof.ReprLen
import HandS.TupSets
import KE.KDictList
import KE.KDictCopyH
import KE.KDictWalk
import HandS.SetFor
import PyProof.MinMaxWalk
import PyProof.SumWalk
import KE.KExcSuper
import KE.KExcLine
import HandS.ExcInit
import HandS.ExcField
import HandS.ExcIs
import HandS.TryMany
import HandS.More
import PyProof.EqAt
import HandS.DictComp
import PyProof.NeKinds
import KE.KTryMore
import KE.KExcIs
import KE.KNestM
import KE.KDflt
import HandS.Wide
import HandS.TupLen
import PyProof.Rows.IntBool
import HandS.TryOnly
import HandS.Text
import HandS.RaiseMore
import KE.KUnpackStar
import HandS.Comp
import HandS.SetIn
import HandS.Property
import PySem.Challenge.RW_restshares_k05_alike
set_option Elab.async false
set_option linter.all false
set_option maxRecDepth 100000
set_option maxHeartbeats 2000000
/-! DLT: the tables of code objects that the law's lambdas are noted in (none here; mk.py prints another for a law with lambdas). -/
namespace DL
def lawTabs : List (PySem.Addr × PySem.Str) := [(360, ("_law_refused_right" : PySem.Str) ++ (".<locals>." : PySem.Str) ++ ("<lambda>" : PySem.Str))]
end DL

/-! DL0: data in the abstract heap, what a slot holds, judgements over data. -/
namespace DL
open PySem PySem.Spec PyProof.Rows L2

abbrev D := PyData

/-- a tuple that stands at a for good -/
def TupAt (K : PySem.W.Frag) (H : Hp) (a : Addr) (xs : List V) : Prop :=
  H a = some (.tup xs) ∨ ∃ (o : Obj) (its : Array Value) (n : Nat), K.lookup a = some o ∧ o.cls = .type "tuple" ∧ o.data = .seq its n ∧ its.size ≤ sizeLine ∧ Vals xs its.toList
theorem TupAt.sq {K : PySem.W.Frag} {H : Hp} {a : Addr} {xs : List V} (h : TupAt K H a xs) : SqT K H a xs := by
  rcases h with h | h
  · exact .inl (.inl h)
  · exact .inr h

/-! ### dicts: keys are tuples of ints and of such tuples -/
mutual
/-- ints, tuples of such .. -/
def itup : D → Bool
  | .int _ => true
  | .tuple xs => itupAll xs
  | _ => false
def itupAll : List D → Bool
  | [] => true
  | x :: xs => itup x && itupAll xs
end
mutual
def nk : D → NestedKey
  | .int i => .num i
  | .tuple xs => .tup (nks xs)
  | _ => .none
def nks : List D → List NestedKey
  | [] => []
  | x :: xs => nk x :: nks xs
end
mutual
def hashD : D → Int
  | .int i => hashInt i
  | .tuple xs => reduceHash (Builtin.Tuple.tupleHashOf (hashesD xs))
  | _ => 0
def hashesD : List D → List Int
  | [] => []
  | x :: xs => hashD x :: hashesD xs
end
def isTup : D → Bool
  | .tuple _ => true
  | _ => false
def keyOk (d : D) : Bool := isTup d && itup d && decide (d.depth ≤ 8)
/-- a dict's object, by its entries -/
def dictO (a : Addr) (es : Array DictEntry) (ep : Nat) : HO := .ext fun h => ∃ o, h.get? a = some o ∧ o.ExactDict ∧ o.data = .dict es ep
def entsOf : List (D × D) → List Value → List Value → List DictEntry
  | p :: kvs, u :: us, x :: xs => ⟨hashD p.1, u, x⟩ :: entsOf kvs us xs
  | _, _, _ => []
structure DictOk (es : Array DictEntry) (ks vs : List V) (kvs : List (D × D)) : Prop where
  ents : ∃ us xs, Vals ks us ∧ Vals vs xs ∧ es.toList = entsOf kvs us xs
  keys : ∀ p ∈ kvs, keyOk p.1 = true
  nd : (kvs.map (·.1)).Nodup
  few : kvs.length ≤ sizeLine
mutual
/-- the value v reads as the data d in H; no list of it stands at an address of O -/
inductive Rep (K : PySem.W.Frag) (O : Addr → Prop) (H : Hp) : V → D → Prop
  | non : Rep K O H .non .none
  | bl (b : Bool) : Rep K O H (.bl b) (.bool b)
  | int (i : Int) : Rep K O H (.int i) (.int i)
  | str (x : Str) : Rep K O H (.str x) (.str x)
  | lst {a : Addr} {xs : List V} {ds : List D} : ¬ O a → H a = some (.lst xs) → RepAll K O H xs ds → Rep K O H (.ref a) (.list ds)
  | tup {a : Addr} {xs : List V} {ds : List D} : TupAt K H a xs → RepAll K O H xs ds → Rep K O H (.ref a) (.tuple ds)
  | dct {a : Addr} {es : Array DictEntry} {ep : Nat} {ks vs : List V} {kvs : List (D × D)} : ¬ O a → H a = some (dictO a es ep) → (a == sysModules) = false → DictOk es ks vs kvs → RepAll K O H ks (kvs.map (·.1)) → RepAll K O H vs (kvs.map (·.2)) → Rep K O H (.ref a) (.dict kvs)
inductive RepAll (K : PySem.W.Frag) (O : Addr → Prop) (H : Hp) : List V → List D → Prop
  | nil : RepAll K O H [] []
  | cons {v : V} {vs : List V} {d : D} {ds : List D} : Rep K O H v d → RepAll K O H vs ds → RepAll K O H (v :: vs) (d :: ds)
end

section
variable {K : PySem.W.Frag} {O O' : Addr → Prop} {H H' : Hp}
mutual
theorem Rep.map (hl : ∀ a u, ¬ O a → H a = some u → ¬ O' a ∧ H' a = some u) (ht : ∀ a xs, H a = some (.tup xs) → H' a = some (.tup xs)) : ∀ {d : D} {v : V}, Rep K O H v d → Rep K O' H' v d
  | _, _, .non => .non
  | _, _, .bl b => .bl b
  | _, _, .int i => .int i
  | _, _, .str x => .str x
  | _, _, .lst o h r => .lst (hl _ _ o h).1 (hl _ _ o h).2 (RepAll.map hl ht r)
  | _, _, .tup h r => .tup (h.imp (ht _ _) id) (RepAll.map hl ht r)
  | _, _, .dct o h s d r1 r2 => .dct (hl _ _ o h).1 (hl _ _ o h).2 s d (RepAll.map hl ht r1) (RepAll.map hl ht r2)
theorem RepAll.map (hl : ∀ a u, ¬ O a → H a = some u → ¬ O' a ∧ H' a = some u) (ht : ∀ a xs, H a = some (.tup xs) → H' a = some (.tup xs)) : ∀ {ds : List D} {vs : List V}, RepAll K O H vs ds → RepAll K O' H' vs ds
  | _, _, .nil => .nil
  | _, _, .cons r t => .cons (Rep.map hl ht r) (RepAll.map hl ht t)
end
theorem Rep.weak (h : ∀ a, O' a → O a) {d : D} {v : V} (r : Rep K O H v d) : Rep K O' H v d := r.map (fun a _ o e => ⟨fun z => o (h a z), e⟩) (fun _ _ e => e)
theorem RepAll.weak (h : ∀ a, O' a → O a) {d : List D} {v : List V} (r : RepAll K O H v d) : RepAll K O' H v d := r.map (fun a _ o e => ⟨fun z => o (h a z), e⟩) (fun _ _ e => e)
theorem Rep.same (h : Same H H') {d : D} {v : V} (r : Rep K O H v d) : Rep K O H' v d := r.map (fun a _ o e => ⟨o, h _ _ e⟩) (fun _ _ e => h _ _ e)
theorem RepAll.same (h : Same H H') {d : List D} {v : List V} (r : RepAll K O H v d) : RepAll K O H' v d := r.map (fun a _ o e => ⟨o, h _ _ e⟩) (fun _ _ e => h _ _ e)
/-- a new owned address -/
theorem Rep.more {p : Addr} (h : H p = none) {d : D} {v : V} (r : Rep K O H v d) : Rep K (fun a => O a ∨ a = p) H v d :=
  r.map (fun a _ o e => ⟨fun z => z.elim o fun q => (by subst q; rw [h] at e; cases e), e⟩) (fun _ _ e => e)
theorem RepAll.more {p : Addr} (h : H p = none) {d : List D} {v : List V} (r : RepAll K O H v d) : RepAll K (fun a => O a ∨ a = p) H v d :=
  r.map (fun a _ o e => ⟨fun z => z.elim o fun q => (by subst q; rw [h] at e; cases e), e⟩) (fun _ _ e => e)
theorem RepAll.length : ∀ {vs : List V} {ds : List D}, RepAll K O H vs ds → vs.length = ds.length
  | _, _, .nil => rfl
  | _, _, .cons _ t => by rw [List.length_cons, List.length_cons, t.length]
theorem RepAll.append : ∀ {vs ws : List V} {ds es : List D}, RepAll K O H vs ds → RepAll K O H ws es → RepAll K O H (vs ++ ws) (ds ++ es)
  | _, _, _, _, .nil, s => s
  | _, _, _, _, .cons r t, s => .cons r (RepAll.append t s)
theorem RepAll.get : ∀ {vs : List V} {ds : List D} {i : Nat} {x : V}, RepAll K O H vs ds → vs[i]? = some x → ∃ d, ds[i]? = some d ∧ Rep K O H x d
  | _, _, _, _, .nil, e => by simp at e
  | _, _, 0, _, .cons r _, e => by simp at e; subst e; exact ⟨_, rfl, r⟩
  | _, _, i + 1, x, .cons _ t, e => by
    obtain ⟨u, h1, h2⟩ := RepAll.get (i := i) (x := x) t (by simpa using e)
    exact ⟨u, by simpa using h1, h2⟩
theorem RepAll.getD : ∀ {vs : List V} {ds : List D} {i : Nat} {d : D}, RepAll K O H vs ds → ds[i]? = some d → ∃ x, vs[i]? = some x ∧ Rep K O H x d
  | _, _, _, _, .nil, e => by simp at e
  | _, _, 0, _, .cons r _, e => by simp at e; subst e; exact ⟨_, rfl, r⟩
  | _, _, i + 1, x, .cons _ t, e => by
    obtain ⟨u, h1, h2⟩ := RepAll.getD (i := i) (d := x) t (by simpa using e)
    exact ⟨u, by simpa using h1, h2⟩
theorem RepAll.take : ∀ {vs : List V} {ds : List D} (n : Nat), RepAll K O H vs ds → RepAll K O H (vs.take n) (ds.take n)
  | _, _, 0, _ => .nil
  | _, _, _ + 1, .nil => .nil
  | _, _, n + 1, .cons r t => .cons r (RepAll.take n t)
theorem RepAll.drop : ∀ {vs : List V} {ds : List D} (n : Nat), RepAll K O H vs ds → RepAll K O H (vs.drop n) (ds.drop n)
  | _, _, 0, r => r
  | _, _, _ + 1, .nil => .nil
  | _, _, n + 1, .cons _ t => RepAll.drop n t
mutual
theorem Rep.dp : ∀ {d : D} {v : V}, d.hasDict = false → Rep K O H v d → Dp K H v d
  | _, _, _, .non => .non
  | _, _, _, .bl b => .bl b
  | _, _, _, .int i => .int i
  | _, _, _, .str x => .str x
  | _, _, n, .lst o h r => .lst (.of h) (RepAll.dp (by simpa [PyData.hasDict] using n) r)
  | _, _, n, .tup h r => .tup h.sq (RepAll.dp (by simpa [PyData.hasDict] using n) r)
  | _, _, n, .dct .. => absurd n (by simp [PyData.hasDict])
theorem RepAll.dp : ∀ {ds : List D} {vs : List V}, PyData.hasDictAll ds = false → RepAll K O H vs ds → DpAll K H vs ds
  | _, _, _, .nil => .nil
  | _, _, n, .cons r t => .cons (Rep.dp (by simp only [PyData.hasDictAll, Bool.or_eq_false_iff] at n; exact n.1) r) (RepAll.dp (by simp only [PyData.hasDictAll, Bool.or_eq_false_iff] at n; exact n.2) t)
end
mutual
/-- no list in it -/
def flat : D → Bool
  | .none => true
  | .bool _ => true
  | .int _ => true
  | .str _ => true
  | .list _ => false
  | .tuple xs => flatAll xs
  | .dict _ => false
def flatAll : List D → Bool
  | [] => true
  | x :: xs => flat x && flatAll xs
end
mutual
theorem Rep.flat : ∀ {d : D} {v : V}, Rep K O H v d → flat d = true → Rep K O' H v d
  | _, _, .non, _ => .non
  | _, _, .bl b, _ => .bl b
  | _, _, .int i, _ => .int i
  | _, _, .str x, _ => .str x
  | _, _, .lst o h r, f => by simp [DL.flat] at f
  | _, _, .tup h r, f => .tup h (RepAll.flat r (by simpa [DL.flat] using f))
  | _, _, .dct .., f => by simp [DL.flat] at f
theorem RepAll.flat : ∀ {ds : List D} {vs : List V}, RepAll K O H vs ds → flatAll ds = true → RepAll K O' H vs ds
  | _, _, .nil, _ => .nil
  | _, _, .cons r t, f => .cons (Rep.flat r (by simp [DL.flatAll] at f; exact f.1)) (RepAll.flat t (by simp [DL.flatAll] at f; exact f.2))
end
end

/-! ### the state of a def's body -/
/-- the law's draws: the dict's address, that of its list of great cells -/
def bigM : Int := 2305843009213693951
def DrawO : Option (Addr × Addr) → Hp → Prop
  | none, _ => True
  | some (a, g), H => a ≠ g ∧ ∃ (m t : Int) (ns : List Int), H a = some (.dK [(.inr "mixed", .int m), (.inr "great", .ref g), (.inr "turn", .int t)]) ∧ (0 ≤ m ∧ m < bigM) ∧ 0 ≤ t ∧
      H g = some (.lst (ns.map V.int)) ∧ ns.length ≤ 63
/-- the tables of code objects, too -/
structure TabM (H : Hp) : Prop where
  t : LamX.Tabs lawTabs H
  /-- the interpreter's own dict stays -/
  m : ∃ o, H sysModules = some (.frz o (.own 0))
def DrawOk (G : Option (Addr × Addr)) (H : Hp) : Prop := DrawO G H ∧ TabM H
/-- what a slot holds -/
inductive Cell where
  | un
  | dat (d : D)
  | own (ds : List D)
  | drw
  | scr (ns : List Int)
  | obj (a : Addr) (o : Option (Addr × Str × D))
  /-- a structure that is owned deep down: what it reads as, its addresses; p: it is the parameter -/
  | mtb (p : Bool) (d : D) (fp : List Addr)
  /-- an instance of a class of the program, its fields by name; read only -/
  | lin (nm : Str) (fs : List (Str × D))
  /-- an instance that is owned; fp: its addresses and those of its fields' structures -/
  | ist (p : Bool) (nm : Str) (fs : List (Str × D)) (fp : List Addr)
/-- B: what may not be reached from what is told; G: the draws; H0: the heap at the entry; fr: what stands around; mf: the addresses of the parameter that is written -/
structure Ctx where
  B : Addr → Prop
  G : Option (Addr × Addr)
  H0 : Hp
  fr : List (V × D)
  mf : List Addr
def Wr (G : Option (Addr × Addr)) (a : Addr) : Prop := (∃ p, G = some p ∧ (a = p.1 ∨ a = p.2)) ∨ ∃ q, (a, q) ∈ lawTabs
/-- such an object can be -/
def Real (a : Addr) (es : Array DictEntry) (ep : Nat) : Prop := ∃ (h : Heap) (o : Obj), h.get? a = some o ∧ o.ExactDict ∧ o.data = .dict es ep
/-- no list, no dict is in it -/
abbrev FRep (K : PySem.W.Frag) (H : Hp) (v : V) (d : D) : Prop := Rep K (fun _ => True) H v d
mutual
/-- the value v reads as d; its lists and dicts stand at the addresses fp -/
inductive Deep (K : PySem.W.Frag) (H : Hp) : V → D → List Addr → Prop
  | val {v : V} {d : D} : FRep K H v d → Deep K H v d []
  | lst {a : Addr} {xs : List V} {ds : List D} {fs : List Addr} : H a = some (.lst xs) → DeepAll K H xs ds fs → Deep K H (.ref a) (.list ds) (a :: fs)
  | dct {a : Addr} {es : Array DictEntry} {ep : Nat} {ks vs : List V} {kvs : List (D × D)} : H a = some (dictO a es ep) → (a == sysModules) = false → Real a es ep → DictOk es ks vs kvs → RepAll K (fun _ => True) H ks (kvs.map (·.1)) → RepAll K (fun _ => True) H vs (kvs.map (·.2)) → Deep K H (.ref a) (.dict kvs) [a]
inductive DeepAll (K : PySem.W.Frag) (H : Hp) : List V → List D → List Addr → Prop
  | nil : DeepAll K H [] [] []
  | cons {v : V} {vs : List V} {d : D} {ds : List D} {f fs : List Addr} : Deep K H v d f → DeepAll K H vs ds fs → DeepAll K H (v :: vs) (d :: ds) (f ++ fs)
end
section
variable {K : PySem.W.Frag} {O : Addr → Prop} {H H' : Hp}
mutual
theorem Deep.map (ht : ∀ a xs, H a = some (.tup xs) → H' a = some (.tup xs)) : ∀ {d : D} {v : V} {fp : List Addr}, (∀ a ∈ fp, H' a = H a) → Deep K H v d fp → Deep K H' v d fp
  | _, _, _, _, .val r => .val (r.map (fun _ _ o _ => absurd trivial o) ht)
  | _, _, _, h, .lst e r => .lst ((h _ List.mem_cons_self).trans e) (DeepAll.map ht (fun a ha => h a (List.mem_cons_of_mem _ ha)) r)
  | _, _, _, h, .dct e s rl d r1 r2 => .dct ((h _ List.mem_cons_self).trans e) s rl d (r1.map (fun _ _ o _ => absurd trivial o) ht) (r2.map (fun _ _ o _ => absurd trivial o) ht)
theorem DeepAll.map (ht : ∀ a xs, H a = some (.tup xs) → H' a = some (.tup xs)) : ∀ {ds : List D} {vs : List V} {fp : List Addr}, (∀ a ∈ fp, H' a = H a) → DeepAll K H vs ds fp → DeepAll K H' vs ds fp
  | _, _, _, _, .nil => .nil
  | _, _, _, h, .cons r t => .cons (Deep.map ht (fun a ha => h a (List.mem_append_left _ ha)) r) (DeepAll.map ht (fun a ha => h a (List.mem_append_right _ ha)) t)
end
mutual
/-- what is not owned is plain -/
theorem Deep.rep : ∀ {d : D} {v : V} {fp : List Addr}, (∀ a ∈ fp, ¬ O a) → Deep K H v d fp → Rep K O H v d
  | _, _, _, _, .val r => r.weak fun _ _ => trivial
  | _, _, _, h, .lst e r => .lst (h _ List.mem_cons_self) e (DeepAll.rep (fun a ha => h a (List.mem_cons_of_mem _ ha)) r)
  | _, _, _, h, .dct e s _ d r1 r2 => .dct (h _ List.mem_cons_self) e s d (r1.weak fun _ _ => trivial) (r2.weak fun _ _ => trivial)
theorem DeepAll.rep : ∀ {ds : List D} {vs : List V} {fp : List Addr}, (∀ a ∈ fp, ¬ O a) → DeepAll K H vs ds fp → RepAll K O H vs ds
  | _, _, _, _, .nil => .nil
  | _, _, _, h, .cons r t => .cons (Deep.rep (fun a ha => h a (List.mem_append_left _ ha)) r) (DeepAll.rep (fun a ha => h a (List.mem_append_right _ ha)) t)
end
mutual
theorem Deep.alive : ∀ {d : D} {v : V} {fp : List Addr}, Deep K H v d fp → ∀ a ∈ fp, (∃ xs, H a = some (.lst xs)) ∨ ∃ es ep, H a = some (dictO a es ep)
  | _, _, _, .val _ => fun a h => nomatch h
  | _, _, _, .lst e r => fun a h => (List.mem_cons.mp h).elim (fun z => .inl ⟨_, z ▸ e⟩) (DeepAll.alive r a)
  | _, _, _, .dct e _ _ _ _ _ => fun a h => .inr (by rw [List.mem_singleton.mp h]; exact ⟨_, _, e⟩)
theorem DeepAll.alive : ∀ {ds : List D} {vs : List V} {fp : List Addr}, DeepAll K H vs ds fp → ∀ a ∈ fp, (∃ xs, H a = some (.lst xs)) ∨ ∃ es ep, H a = some (dictO a es ep)
  | _, _, _, .nil => fun a h => nomatch h
  | _, _, _, .cons r t => fun a h => (List.mem_append.mp h).elim (Deep.alive r a) (DeepAll.alive t a)
end
theorem Deep.head {v : V} {d : D} {a : Addr} {fs : List Addr} (h : Deep K H v d (a :: fs)) : v = .ref a := by
  cases h <;> rfl
end
/-! ### instances of the program's classes -/
def ClsOf (K : PySem.W.Frag) (nm : Str) (C : Addr) : Prop := PySem.W.nsIn K mainGlobals nm = some (some (.ref C))
def InsAt (K : PySem.W.Frag) (O : Addr → Prop) (H : Hp) (x : V) (nm : Str) (fs : List (Str × D)) : Prop := ∃ (a C dx : Addr) (vs : List (Str × V)), x = .ref a ∧ ¬ O a ∧ H a = some (.ins C dx vs) ∧ ClsOf K nm C ∧ vs.map (·.1) = fs.map (·.1) ∧ RepAll K O H (vs.map (·.2)) (fs.map (·.2))
def InsDp (K : PySem.W.Frag) (H : Hp) (x : V) (nm : Str) (fs : List (Str × D)) (fp : List Addr) : Prop := ∃ (a C dx : Addr) (vs : List (Str × V)) (gs : List Addr), x = .ref a ∧ fp = a :: dx :: gs ∧ H a = some (.ins C dx vs) ∧ H dx = some (.own a) ∧ ClsOf K nm C ∧ vs.map (·.1) = fs.map (·.1) ∧ DeepAll K H (vs.map (·.2)) (fs.map (·.2)) gs
section
variable {K : PySem.W.Frag} {O O' : Addr → Prop} {H H' : Hp} {x : V} {nm : Str} {fs : List (Str × D)} {fp : List Addr}
theorem InsAt.map (hl : ∀ a u, ¬ O a → H a = some u → ¬ O' a ∧ H' a = some u) (ht : ∀ a xs, H a = some (.tup xs) → H' a = some (.tup xs)) (h : InsAt K O H x nm fs) : InsAt K O' H' x nm fs := by
  obtain ⟨a, C, dx, vs, e, no, ha, c, n, r⟩ := h
  exact ⟨a, C, dx, vs, e, (hl _ _ no ha).1, (hl _ _ no ha).2, c, n, r.map hl ht⟩
theorem InsDp.map (ht : ∀ a xs, H a = some (.tup xs) → H' a = some (.tup xs)) (k : ∀ a ∈ fp, H' a = H a) (h : InsDp K H x nm fs fp) : InsDp K H' x nm fs fp := by
  obtain ⟨a, C, dx, vs, gs, e, ef, ha, hd, c, n, r⟩ := h
  subst ef
  exact ⟨a, C, dx, vs, gs, e, rfl, (k _ List.mem_cons_self).trans ha, (k _ (List.mem_cons_of_mem _ List.mem_cons_self)).trans hd, c, n, r.map ht fun b hb => k b (List.mem_cons_of_mem _ (List.mem_cons_of_mem _ hb))⟩
theorem InsDp.lin (k : ∀ a ∈ fp, ¬ O a) (h : InsDp K H x nm fs fp) : InsAt K O H x nm fs := by
  obtain ⟨a, C, dx, vs, gs, e, ef, ha, hd, c, n, r⟩ := h
  subst ef
  exact ⟨a, C, dx, vs, e, k _ List.mem_cons_self, ha, c, n, r.rep fun b hb => k b (List.mem_cons_of_mem _ (List.mem_cons_of_mem _ hb))⟩
theorem InsDp.alive (h : InsDp K H x nm fs fp) : ∀ a ∈ fp, ∃ o, H a = some o ∧ (∀ xs, o ≠ .tup xs) ∧ (∀ q u, o ≠ .frz q u) ∧ ∀ u, o ≠ .xd u := by
  obtain ⟨a, C, dx, vs, gs, e, ef, ha, hd, c, n, r⟩ := h
  subst ef
  intro b hb
  rcases List.mem_cons.mp hb with z | hb
  · subst z; exact ⟨_, ha, (fun _ z => nomatch z), (fun _ _ z => nomatch z), fun _ z => nomatch z⟩
  rcases List.mem_cons.mp hb with z | hb
  · subst z; exact ⟨_, hd, (fun _ z => nomatch z), (fun _ _ z => nomatch z), fun _ z => nomatch z⟩
  rcases r.alive b hb with ⟨xs, e⟩ | ⟨es, ep, e⟩
  · exact ⟨_, e, (fun _ z => nomatch z), (fun _ _ z => nomatch z), fun _ z => nomatch z⟩
  · exact ⟨_, e, (fun _ z => nomatch z), (fun _ _ z => nomatch z), fun _ z => nomatch z⟩
end
/-- what a cell owns -/
def foot : Cell → Option V → Addr → Prop
  | .own _, v, b => v = some (.ref b)
  | .mtb _ _ fp, _, b => b ∈ fp
  | .ist _ _ _ fp, _, b => b ∈ fp
  | _, _, _ => False
/-- the law's script -/
def ScrAt (K : PySem.W.Frag) (H : Hp) (a : Addr) (ns : List Int) : Prop :=
  (∃ o, H a = some (.frz o (.lst (ns.map V.int)))) ∨ ∃ (o : Obj) (its : Array Value) (n : Nat), K.lookup a = some o ∧ o.cls = .type "list" ∧ o.dict = none ∧ o.data = .seq its n ∧ its.size ≤ sizeLine ∧ Vals (ns.map V.int) its.toList
theorem ScrAt.sq {K : PySem.W.Frag} {H : Hp} {a : Addr} {ns : List Int} (h : ScrAt K H a ns) : SqL K H a (ns.map V.int) := h.elim (fun ⟨o, e⟩ => .inl (.inr ⟨o, e⟩)) .inr
theorem ScrAt.map {K : PySem.W.Frag} {H H' : Hp} (k : ∀ a o u, H a = some (.frz o u) → H' a = some (.frz o u)) {a : Addr} {ns : List Int} (h : ScrAt K H a ns) : ScrAt K H' a ns := h.imp (fun ⟨o, e⟩ => ⟨o, k _ _ _ e⟩) id
def CellOk (K : PySem.W.Frag) (c : Ctx) (O : Addr → Prop) (H : Hp) (v : Option V) : Cell → Prop
  | .un => True
  | .dat d => ∃ x, v = some x ∧ Rep K O H x d
  | .own ds => ∃ a xs, v = some (.ref a) ∧ H a = some (.lst xs) ∧ O a ∧ ¬ c.B a ∧ c.H0 a = none ∧ RepAll K O H xs ds
  | .drw => ∃ a g, v = some (.ref a) ∧ c.G = some (a, g)
  | .scr ns => ∃ a, v = some (.ref a) ∧ ScrAt K H a ns
  | .obj a o => v = some (.ref a) ∧ ∀ p, o = some p → ∃ y, H p.1 = some (.xd [(p.2.1, y)]) ∧ Rep K O H y p.2.2
  | .mtb p d fp => ∃ x, v = some x ∧ Deep K H x d fp ∧ fp ≠ [] ∧ fp.Nodup ∧ (∀ b ∈ fp, O b ∧ ¬ c.B b ∧ c.H0 b = none) ∧ (p = true → c.mf = fp)
  | .lin nm fs => ∃ x, v = some x ∧ InsAt K O H x nm fs
  | .ist p nm fs fp => ∃ x, v = some x ∧ InsDp K H x nm fs fp ∧ fp ≠ [] ∧ fp.Nodup ∧ (∀ b ∈ fp, O b ∧ ¬ c.B b ∧ c.H0 b = none) ∧ (p = true → c.mf ≠ [] ∧ c.mf.head? = fp.head? ∧ ∀ b ∈ c.mf, b ∈ fp)
abbrev EnvD := List Cell
structure Good (K : PySem.W.Frag) (c : Ctx) (O : Addr → Prop) (η : EnvD) (σ : L2.St) (H : Hp) : Prop where
  len : η.length = σ.length
  hB : ∀ a, c.B a → O a
  hW : ∀ a, Wr c.G a → c.B a
  hT : ∀ a, O a → H a ≠ none
  keep : ∀ a o, ¬ Wr c.G a → c.H0 a = some o → H a = some o
  draw : DrawOk c.G H
  cell : ∀ (i : Nat) (x : Cell), η[i]? = some x → CellOk K c O H (σ[i]?.join) x
  dis : ∀ (i j : Nat) (x y : Cell) (b : Addr), η[i]? = some x → η[j]? = some y → foot x (σ[i]?.join) b → foot y (σ[j]?.join) b → i = j
  fr : ∀ p ∈ c.fr, Rep K O H p.1 p.2
/-- what an expression may do to the heap -/
structure Step (G : Option (Addr × Addr)) (H H' : Hp) : Prop where
  keep : ∀ a o, ¬ Wr G a → H a = some o → H' a = some o
  draw : DrawOk G H'
section
variable {K : PySem.W.Frag} {c : Ctx} {G : Option (Addr × Addr)} {O O' : Addr → Prop} {η : EnvD} {σ : L2.St} {H H1 H2 : Hp}
theorem DrawOk.tr (h : DrawOk G H) : ∀ a, Wr G a → H a ≠ none := by
  rintro a (⟨⟨p1, p2⟩, rfl, h1⟩ | ⟨q, hq⟩)
  · obtain ⟨_, m, t, ns, e1, _, _, e2, _⟩ := h.1
    rcases h1 with h1 | h1 <;> (have h1 := h1; simp only at h1; subst h1)
    · rw [e1]; intro z; cases z
    · rw [e2]; intro z; cases z
  · obtain ⟨ps, e, _⟩ := h.2.t _ hq
    have e : H a = some (.tbl ps) := e
    rw [e]; intro z; cases z
theorem DrawOk.tup (h : DrawOk G H) : ∀ a xs, H a = some (.tup xs) → ¬ Wr G a := by
  rintro a xs e (⟨⟨p1, p2⟩, rfl, h1⟩ | ⟨q, hq⟩)
  · obtain ⟨_, m, t, ns, e1, _, _, e2, _⟩ := h.1
    rcases h1 with h1 | h1 <;> (have h1 := h1; simp only at h1; subst h1)
    · rw [e1] at e; cases e
    · rw [e2] at e; cases e
  · obtain ⟨ps, e1, _⟩ := h.2.t _ hq
    have e1 : H a = some (.tbl ps) := e1
    rw [e1] at e; cases e
theorem DrawOk.frz (h : DrawOk G H) : ∀ a o u, H a = some (.frz o u) → ¬ Wr G a := by
  rintro a o u e (⟨⟨p1, p2⟩, rfl, h1⟩ | ⟨q, hq⟩)
  · obtain ⟨_, m, t, ns, e1, _, _, e2, _⟩ := h.1
    rcases h1 with h1 | h1 <;> (have h1 := h1; simp only at h1; subst h1)
    · rw [e1] at e; cases e
    · rw [e2] at e; cases e
  · obtain ⟨ps, e1, _⟩ := h.2.t _ hq
    have e1 : H a = some (.tbl ps) := e1
    rw [e1] at e; cases e
theorem DrawOk.xd (h : DrawOk G H) : ∀ a fs, H a = some (.xd fs) → ¬ Wr G a := by
  rintro a fs e (⟨⟨p1, p2⟩, rfl, h1⟩ | ⟨q, hq⟩)
  · obtain ⟨_, m, t, ns, e1, _, _, e2, _⟩ := h.1
    rcases h1 with h1 | h1 <;> (have h1 := h1; simp only at h1; subst h1)
    · rw [e1] at e; cases e
    · rw [e2] at e; cases e
  · obtain ⟨ps, e1, _⟩ := h.2.t _ hq
    have e1 : H a = some (.tbl ps) := e1
    rw [e1] at e; cases e
/-- a table stays where only other things change -/
theorem tab_stay {P : Addr} {q : Str} (t : LamX.TabS H P q) (k : ∀ b o, H b = some o → ((∃ ps, o = .tbl ps) ∨ (∃ f, o = .ext f) ∨ ∃ q u, o = .frz q u) → H1 b = some o) : LamX.TabS H1 P q := by
  obtain ⟨ps, h1, h2, h3⟩ := t
  refine ⟨ps, k _ _ h1 (.inl ⟨_, rfl⟩), h2, fun pos cv hc => ?_⟩
  obtain ⟨c, e1, e2⟩ := h3 pos cv hc
  exact ⟨c, e1, k _ _ e2 (.inr (.inl ⟨_, rfl⟩))⟩
theorem tabm_stay (t : TabM H) (k : ∀ b o, H b = some o → ((∃ ps, o = .tbl ps) ∨ (∃ f, o = .ext f) ∨ ∃ q u, o = .frz q u) → H1 b = some o) : TabM H1 := ⟨fun p hp => tab_stay (t.t p hp) k, let ⟨o, e⟩ := t.m; ⟨o, k _ _ e (.inr (.inr ⟨_, _, rfl⟩))⟩⟩
theorem TabM.ext (t : TabM H) (k : ∀ b o, H b = some o → H1 b = some o) : TabM H1 := tabm_stay t fun b o e _ => k b o e
theorem tabs_upd {a : Addr} {xs : List V} {o : HO} (t : TabM H) (ha : H a = some (.lst xs)) : TabM (upd H a o) := tabm_stay t fun b u e hu => by
  rw [upd_ne (fun z => ?_)]
  · exact e
  · rw [z, ha] at e
    cases e
    rcases hu with ⟨_, z⟩ | ⟨_, z⟩ | ⟨_, _, z⟩ <;> cases z
theorem Step.refl (h : DrawOk G H) : Step G H H := ⟨fun _ _ _ e => e, h⟩
theorem Step.trans (a : Step G H H1) (b : Step G H1 H2) : Step G H H2 := ⟨fun x o n e => b.keep x o n (a.keep x o n e), b.draw⟩
theorem Step.same (h : DrawOk G H) (s : Same H H1) : Step G H H1 := by
  refine ⟨fun a o _ e => s a o e, ?_, h.2.ext s⟩
  replace h := h.1
  cases G with
  | none => trivial
  | some p =>
    obtain ⟨p1, p2⟩ := p
    obtain ⟨n, m, t, ns, e1, x1, x2, e2, x3⟩ := h
    exact ⟨n, m, t, ns, s _ _ e1, x1, x2, s _ _ e2, x3⟩
theorem same_upd {p : Addr} {o : HO} (h : H p = none) : Same H (upd H p o) := fun b x e => by
  rw [upd_ne (ne_of_none e h)]
  exact e
theorem Step.alloc (h : DrawOk G H) {p : Addr} {o : HO} (hp : H p = none) : Step G H (upd H p o) := .same h (same_upd hp)
theorem Step.rep (st : Step G H H1) (dr : DrawOk G H) (hW : ∀ a, Wr G a → O a) {d : D} {v : V} (r : Rep K O H v d) : Rep K O H1 v d :=
  r.map (fun a _ o e => ⟨o, st.keep a _ (fun z => o (hW a z)) e⟩) fun a xs e => st.keep a _ (dr.tup a xs e) e
theorem Step.repAll (st : Step G H H1) (dr : DrawOk G H) (hW : ∀ a, Wr G a → O a) {d : List D} {v : List V} (r : RepAll K O H v d) : RepAll K O H1 v d :=
  r.map (fun a _ o e => ⟨o, st.keep a _ (fun z => o (hW a z)) e⟩) fun a xs e => st.keep a _ (dr.tup a xs e) e
theorem Good.inj (g : Good K c O η σ H) (i j : Nat) (ds es : List D) (a : Addr) (h1 : η[i]? = some (.own ds)) (h2 : η[j]? = some (.own es)) (h3 : σ[i]?.join = some (.ref a)) (h4 : σ[j]?.join = some (.ref a)) : i = j := g.dis i j _ _ a h1 h2 h3 h4
theorem dis_put {η : EnvD} {σ : L2.St} (g : ∀ (i j : Nat) (x y : Cell) (b : Addr), η[i]? = some x → η[j]? = some y → foot x (σ[i]?.join) b → foot y (σ[j]?.join) b → i = j) (i : Nat) {z : Cell} (hz : ∀ v b, ¬ foot z v b) (w : Option V) : ∀ (j k : Nat) (x y : Cell) (b : Addr), (η.set i z)[j]? = some x → (η.set i z)[k]? = some y → foot x ((σ.set i w)[j]?.join) b → foot y ((σ.set i w)[k]?.join) b → j = k := by
  intro j k x y b h1 h2 h3 h4
  have nj : ∀ {m : Nat} {u : Cell} {v : Option V}, (η.set i z)[m]? = some u → foot u v b → i ≠ m := fun {m u v} h f e => by
    subst e
    by_cases hl : i < η.length
    · rw [List.getElem?_set_self hl] at h; cases h; exact hz _ _ f
    · rw [List.getElem?_eq_none (by rw [List.length_set]; omega)] at h; cases h
  have e1 := nj h1 h3
  have e2 := nj h2 h4
  rw [List.getElem?_set_ne e1] at h1 h3
  rw [List.getElem?_set_ne e2] at h2 h4
  exact g j k _ _ b h1 h2 h3 h4
/-- a cell is put that owns what no other one owns -/
theorem dis_new {η : EnvD} {σ : L2.St} (hl : η.length = σ.length) (g : ∀ (i j : Nat) (x y : Cell) (b : Addr), η[i]? = some x → η[j]? = some y → foot x (σ[i]?.join) b → foot y (σ[j]?.join) b → i = j) (i : Nat) {z : Cell} {w : Option V} (hz : ∀ b, foot z w b → ∀ (j : Nat) (x : Cell), i ≠ j → η[j]? = some x → ¬ foot x (σ[j]?.join) b) : ∀ (j k : Nat) (x y : Cell) (b : Addr), (η.set i z)[j]? = some x → (η.set i z)[k]? = some y → foot x ((σ.set i w)[j]?.join) b → foot y ((σ.set i w)[k]?.join) b → j = k := by
  intro j k x y b h1 h2 h3 h4
  have out : ∀ {m : Nat} {u : Cell}, (η.set i z)[m]? = some u → m < η.length := fun {m u} q => by
    have := (List.getElem?_eq_some_iff.mp q).1
    rwa [List.length_set] at this
  have l1 := out h1
  have l2 := out h2
  have at_ : ∀ {u : Cell}, i < η.length → (η.set i z)[i]? = some u → foot u ((σ.set i w)[i]?.join) b → foot z w b := fun {u} l q f => by
    rw [List.getElem?_set_self l] at q
    cases q
    rw [List.getElem?_set_self (hl ▸ l)] at f
    exact f
  by_cases e1 : i = j
  · by_cases e2 : i = k
    · exact e1.symm.trans e2
    · subst e1
      rw [List.getElem?_set_ne e2] at h2 h4
      exact absurd h4 (hz b (at_ l1 h1 h3) k _ e2 h2)
  · by_cases e2 : i = k
    · subst e2
      rw [List.getElem?_set_ne e1] at h1 h3
      exact absurd h3 (hz b (at_ l2 h2 h4) j _ e1 h1)
    · rw [List.getElem?_set_ne e1] at h1 h3
      rw [List.getElem?_set_ne e2] at h2 h4
      exact g j k _ _ b h1 h2 h3 h4
theorem Good.wO (g : Good K c O η σ H) : ∀ a, Wr c.G a → O a := fun a h => g.hB a (g.hW a h)
theorem Good.step (g : Good K c O η σ H) (st : Step c.G H H1) : Good K c O η σ H1 where
  len := g.len
  hB := g.hB
  hW := g.hW
  hT := fun a h z => by
    by_cases w : Wr c.G a
    · exact st.draw.tr a w z
    · cases e : H a with
      | none => exact g.hT a h e
      | some o => rw [st.keep a o w e] at z; cases z
  keep := fun a o w e => st.keep a o w (g.keep a o w e)
  draw := st.draw
  cell := fun i x h => by
    have := g.cell i x h
    cases x with
    | un => trivial
    | dat d =>
      obtain ⟨v, e, r⟩ := this
      exact ⟨v, e, st.rep g.draw g.wO r⟩
    | own ds =>
      obtain ⟨a, xs, e, ha, oa, nb, h0, r⟩ := this
      exact ⟨a, xs, e, st.keep a _ (fun z => nb (g.hW a z)) ha, oa, nb, h0, st.repAll g.draw g.wO r⟩
    | drw => exact this
    | obj a o => exact ⟨this.1, fun p hp => (this.2 p hp).imp fun y q => ⟨st.keep _ _ (g.draw.xd _ _ q.1) q.1, st.rep g.draw g.wO q.2⟩⟩
    | scr ns =>
      obtain ⟨a, e, r⟩ := this
      exact ⟨a, e, r.map fun b o u x => st.keep b _ (g.draw.frz b o u x) x⟩
    | mtb p d fp =>
      obtain ⟨x, e, r, h1, h2, h3, h4⟩ := this
      refine ⟨x, e, r.map (fun a xs e => st.keep a _ (g.draw.tup a xs e) e) (fun a ha => ?_), h1, h2, h3, h4⟩
      have nw : ¬ Wr c.G a := fun z => (h3 a ha).2.1 (g.hW a z)
      rcases r.alive a ha with ⟨xs, e⟩ | ⟨es, ep, e⟩ <;> rw [e, st.keep a _ nw e]
    | lin nm fs =>
      obtain ⟨x, e, r⟩ := this
      exact ⟨x, e, r.map (fun a _ o e => ⟨o, st.keep a _ (fun z => o (g.wO a z)) e⟩) fun a xs e => st.keep a _ (g.draw.tup a xs e) e⟩
    | ist p nm fs fp =>
      obtain ⟨x, e, r, h1, h2, h3, h4⟩ := this
      refine ⟨x, e, r.map (fun a xs e => st.keep a _ (g.draw.tup a xs e) e) (fun a ha => ?_), h1, h2, h3, h4⟩
      have nw : ¬ Wr c.G a := fun z => (h3 a ha).2.1 (g.hW a z)
      obtain ⟨o, e, _⟩ := r.alive a ha
      rw [e, st.keep a _ nw e]
  dis := g.dis
  fr := fun p hp => st.rep g.draw g.wO (g.fr p hp)
end

/-! ### judgements -/
/-- what is wanted where an error leaves: the class's name, its fields -/
abbrev XP := Str → List (Str × D) → Prop
def never : XP := fun _ _ => False
abbrev ET := XP → EnvD → (D → Prop) → Prop
abbrev BT := XP → EnvD → (Bool → Prop) → Prop
abbrev AT := XP → EnvD → (List D → Prop) → Prop
/-- an exception of the class named nm whose dict holds the fields fs -/
def ErrG (K : PySem.W.Frag) (mg : Str → Option Value) (B : Addr → Prop) (G : Option (Addr × Addr)) (H0 : Hp) (E : XP) (cls : Value) (d : Option Addr) (H : Hp) : Prop := ∃ (nm : Str) (fs : List (Str × D)) (dx : Addr) (vs : List (Str × V)), E nm fs ∧ mg nm = some cls ∧ d = some dx ∧ H dx = some (.xd vs) ∧ vs.map (·.1) = fs.map (·.1) ∧
  RepAll K B H (vs.map (·.2)) (fs.map (·.2)) ∧ (∀ a o, ¬ Wr G a → H0 a = some o → H a = some o) ∧ DrawOk G H ∧ ∀ a, B a → H a ≠ none
def ErrAt (X : Cx) (c : Ctx) (E : XP) : WX := fun cls d _ H => ErrG X.K X.mg c.B c.G c.H0 E cls d H
/-- the wish about errors is taken -/
def EOk (X : Cx) (c : Ctx) (E : XP) : Prop := Takes X (ErrAt X c E)
theorem eok_never {X : Cx} {c : Ctx} : EOk X c never := fun _ _ ⟨_, _, _, _, _, _, _, _, _, _, _, _, _, _, _, _, _, _, _, _, z, _⟩ => z.elim
structure Gd (X : Cx) (c : Ctx) (E : XP) (O : Addr → Prop) (η : EnvD) (σ : L2.St) (H : Hp) : Prop extends Good X.K c O η σ H where
  er : EOk X c E
theorem Gd.step {X : Cx} {c : Ctx} {E : XP} {O : Addr → Prop} {η : EnvD} {σ : L2.St} {H H1 : Hp} (g : Gd X c E O η σ H) (st : Step c.G H H1) : Gd X c E O η σ H1 := { toGood := g.toGood.step st, er := g.er }
structure EndsD where
  nx : EnvD → Prop
  rt : D → Prop
  bk : EnvD → Prop := fun _ => False
  ct : EnvD → Prop := fun _ => False
abbrev SD := XP → EndsD → EnvD → Prop
/-- behind an expression -/
def DP (X : Cx) (c : Ctx) (O : Addr → Prop) (pins : List (Addr × Obj)) (σ : L2.St) (H : Hp) (Q : D → Prop) (u : Value) (s' : Shared) : Prop :=
  ∃ d v H', Inv X pins σ H' s' ∧ RelV v u ∧ Step c.G H H' ∧ Rep X.K O H' v d ∧ Q d
structure DE (X : Cx) (e : Expr) (t : ET) : Prop where
  run : ∀ (pins : List (Addr × Obj)) (s : Shared) (σ : L2.St) (H : Hp) (c : Ctx) (O : Addr → Prop) (η : EnvD) (E : XP) (Q : D → Prop), Inv X pins σ H s → Gd X c E O η σ H → t E η Q →
    wpAny (model X.prog X.w) X.A (eval e X.env) (DP X c O pins σ H Q) X.xe s
structure DT (X : Cx) (e : Expr) (t : BT) : Prop where
  run : ∀ (pins : List (Addr × Obj)) (s : Shared) (σ : L2.St) (H : Hp) (c : Ctx) (O : Addr → Prop) (η : EnvD) (E : XP) (Q : Bool → Prop), Inv X pins σ H s → Gd X c E O η σ H → t E η Q →
    wpAny (model X.prog X.w) X.A (isTrue e X.env (eval e X.env)) (fun b s' => ∃ H', Inv X pins σ H' s' ∧ Step c.G H H' ∧ Q b) X.xe s
structure DW (X : Cx) (e : Expr) (t : BT) : Prop where
  run : ∀ (whole : Sem Value) (pins : List (Addr × Obj)) (s : Shared) (σ : L2.St) (H : Hp) (c : Ctx) (O : Addr → Prop) (η : EnvD) (E : XP) (Q : Bool → Prop), Inv X pins σ H s → Gd X c E O η σ H → t E η Q →
    wpAny (model X.prog X.w) X.A (isTrue e X.env whole) (fun b s' => ∃ H', Inv X pins σ H' s' ∧ Step c.G H H' ∧ Q b) X.xe s
structure DA (X : Cx) (es : List Expr) (t : AT) : Prop where
  run : ∀ (pos : Pos) (pins : List (Addr × Obj)) (s : Shared) (σ : L2.St) (H : Hp) (c : Ctx) (O : Addr → Prop) (η : EnvD) (E : XP) (Q : List D → Prop), Inv X pins σ H s → Gd X c E O η σ H → t E η Q →
    wpAny (model X.prog X.w) X.A (spliced (backTo pos (starEach es X.env))) (fun us s' => ∃ ds vs H', Inv X pins σ H' s' ∧ Vals vs us ∧ Step c.G H H' ∧ RepAll X.K O H' vs ds ∧ Q ds) X.xe s
/-- the same as readings of the layer below -/
def liftE (X : Cx) (t : ET) : TE := fun σ H R => ∃ (c : Ctx) (O : Addr → Prop) (η : EnvD) (E : XP) (Q : D → Prop), Gd X c E O η σ H ∧ t E η Q ∧ ∀ d v H', Step c.G H H' → Rep X.K O H' v d → Q d → R v H'
def liftB (X : Cx) (t : BT) : TT := fun σ H R => ∃ (c : Ctx) (O : Addr → Prop) (η : EnvD) (E : XP) (Q : Bool → Prop), Gd X c E O η σ H ∧ t E η Q ∧ ∀ b H', Step c.G H H' → Q b → R b H'
def liftA (X : Cx) (t : AT) : TA := fun σ H R => ∃ (c : Ctx) (O : Addr → Prop) (η : EnvD) (E : XP) (Q : List D → Prop), Gd X c E O η σ H ∧ t E η Q ∧ ∀ ds vs H', Step c.G H H' → RepAll X.K O H' vs ds → Q ds → R vs H'
section
variable {X : Cx} {e : Expr} {es : List Expr}
theorem DE.pe {t : ET} (h : DE X e t) : PE X e (liftE X t) := ⟨fun pins s σ H R I ⟨c, O, η, E, Q, g, ht, k⟩ =>
  thn (h.run pins s σ H c O η E Q I g ht) fun u s' ⟨d, v, H', I', r, st, rp, q⟩ => ⟨v, H', I', r, k d v H' st rp q⟩⟩
theorem DE.of {t : ET} {T : TE} (h : PE X e T) (f : ∀ σ H c O η E Q, Gd X c E O η σ H → t E η Q → T σ H fun v H' => ∃ d, Step c.G H H' ∧ Rep X.K O H' v d ∧ Q d) : DE X e t :=
  ⟨fun pins s σ H c O η E Q I g ht => thn (h.run pins s σ H _ I (f σ H c O η E Q g ht)) fun u s' ⟨v, H', I', r, d, st, rp, q⟩ => ⟨d, v, H', I', r, st, rp, q⟩⟩
theorem DT.pt {t : BT} (h : DT X e t) : PT X e (liftB X t) := ⟨fun pins s σ H R I ⟨c, O, η, E, Q, g, ht, k⟩ =>
  thn (h.run pins s σ H c O η E Q I g ht) fun b s' ⟨H', I', st, q⟩ => ⟨H', I', k b H' st q⟩⟩
theorem DT.of {t : BT} {T : TT} (h : PT X e T) (f : ∀ σ H c O η E Q, Gd X c E O η σ H → t E η Q → T σ H fun b H' => Step c.G H H' ∧ Q b) : DT X e t :=
  ⟨fun pins s σ H c O η E Q I g ht => thn (h.run pins s σ H _ I (f σ H c O η E Q g ht)) fun b s' ⟨H', I', st, q⟩ => ⟨H', I', st, q⟩⟩
theorem DW.pw {t : BT} (h : DW X e t) : PW X e (liftB X t) := ⟨fun wh pins s σ H R I ⟨c, O, η, E, Q, g, ht, k⟩ =>
  thn (h.run wh pins s σ H c O η E Q I g ht) fun b s' ⟨H', I', st, q⟩ => ⟨H', I', k b H' st q⟩⟩
theorem DW.of {t : BT} {T : TT} (h : PW X e T) (f : ∀ σ H c O η E Q, Gd X c E O η σ H → t E η Q → T σ H fun b H' => Step c.G H H' ∧ Q b) : DW X e t :=
  ⟨fun wh pins s σ H c O η E Q I g ht => thn (h.run wh pins s σ H _ I (f σ H c O η E Q g ht)) fun b s' ⟨H', I', st, q⟩ => ⟨H', I', st, q⟩⟩
theorem DW.dt {t : BT} (h : DW X e t) : DT X e t := ⟨h.run _⟩
theorem DA.pa {t : AT} (h : DA X es t) : PA X es (liftA X t) := ⟨fun pos pins s σ H R I ⟨c, O, η, E, Q, g, ht, k⟩ =>
  thn (h.run pos pins s σ H c O η E Q I g ht) fun u s' ⟨d, v, H', I', r, st, rp, q⟩ => ⟨v, H', I', r, k d v H' st rp q⟩⟩
theorem DA.of {t : AT} {T : TA} (h : PA X es T) (f : ∀ σ H c O η E Q, Gd X c E O η σ H → t E η Q → T σ H fun vs H' => ∃ ds, Step c.G H H' ∧ RepAll X.K O H' vs ds ∧ Q ds) : DA X es t :=
  ⟨fun pos pins s σ H c O η E Q I g ht => thn (h.run pos pins s σ H _ I (f σ H c O η E Q g ht)) fun u s' ⟨v, H', I', r, d, st, rp, q⟩ => ⟨d, v, H', I', r, st, rp, q⟩⟩
end
/-- where no error may leave -/
def liftE0 (K : PySem.W.Frag) (t : ET) : TE := fun σ H R => ∃ (c : Ctx) (O : Addr → Prop) (η : EnvD) (Q : D → Prop), Good K c O η σ H ∧ t never η Q ∧ ∀ d v H', Step c.G H H' → Rep K O H' v d → Q d → R v H'
def liftB0 (K : PySem.W.Frag) (t : BT) : TT := fun σ H R => ∃ (c : Ctx) (O : Addr → Prop) (η : EnvD) (Q : Bool → Prop), Good K c O η σ H ∧ t never η Q ∧ ∀ b H', Step c.G H H' → Q b → R b H'
theorem DE.pe0 {X : Cx} {e : Expr} {t : ET} (h : DE X e t) : PE X e (liftE0 X.K t) := ⟨fun pins s σ H R I ⟨c, O, η, Q, g, ht, k⟩ => h.pe.run pins s σ H R I ⟨c, O, η, never, Q, ⟨g, eok_never⟩, ht, k⟩⟩
theorem DT.pt0 {X : Cx} {e : Expr} {t : BT} (h : DT X e t) : PT X e (liftB0 X.K t) := ⟨fun pins s σ H R I ⟨c, O, η, Q, g, ht, k⟩ => h.pt.run pins s σ H R I ⟨c, O, η, never, Q, ⟨g, eok_never⟩, ht, k⟩⟩
/-- told from a def that writes its parameter: the answer, and what the parameter is then -/
def pkM (d m : D) : D := .dict [(.none, d), (.none, m)]
/-- the parameter itself is told -/
def selfD : D := .dict [(.none, .none)]
/-- .. that writes an instance: the answer, the fields then -/
def pkI (d : D) (nm : Str) (fs : List (Str × D)) : D := .dict [(.none, d), (.str nm, .dict (fs.map fun q => (.str q.1, q.2)))]
def MRet (K : PySem.W.Frag) (c : Ctx) (H : Hp) (v : V) (p : D) : Prop := c.mf ≠ [] ∧ ((∃ d m v0, p = pkM d m ∧ (Rep K (fun b => c.B b ∨ b ∈ c.mf) H v d ∨ (d = selfD ∧ v = v0)) ∧ Deep K H v0 m c.mf) ∨
  ∃ d nm fs v0 fp, p = pkI d nm fs ∧ FRep K H v d ∧ InsDp K H v0 nm fs fp ∧ fp.Nodup ∧ c.mf.head? = fp.head? ∧ (∀ b ∈ c.mf, b ∈ fp) ∧ ∀ b ∈ fp, c.H0 b = none)
theorem no_mret {K : PySem.W.Frag} {c : Ctx} {H : Hp} {v : V} {d : D} (h : c.mf = []) (r : Rep K c.B H v d ∨ MRet K c H v d) : Rep K c.B H v d := r.elim id fun z => absurd h z.1
/-- behind a statement -/
def endsOf (X : Cx) (c : Ctx) (E : XP) (z : EndsD) : Ends where
  nx := fun σ H => ∃ O η, Gd X c E O η σ H ∧ z.nx η
  rt := fun v H => ∃ d, (∀ a o, ¬ Wr c.G a → c.H0 a = some o → H a = some o) ∧ DrawOk c.G H ∧ (Rep X.K c.B H v d ∨ MRet X.K c H v d) ∧ z.rt d
  bk := fun σ H => ∃ O η, Gd X c E O η σ H ∧ z.bk η
  ct := fun σ H => ∃ O η, Gd X c E O η σ H ∧ z.ct η
structure DS (X : Cx) (st : Stmt) (t : SD) : Prop where
  run : ∀ (pins : List (Addr × Obj)) (s : Shared) (σ : L2.St) (H : Hp) (c : Ctx) (O : Addr → Prop) (η : EnvD) (E : XP) (z : EndsD), Inv X pins σ H s → Gd X c E O η σ H → t E z η →
    wpAny (model X.prog X.w) X.A (exec st X.env) (SP X pins (endsOf X c E z)) X.xe s
structure DSs (X : Cx) (st : List Stmt) (t : SD) : Prop where
  run : ∀ (pins : List (Addr × Obj)) (s : Shared) (σ : L2.St) (H : Hp) (c : Ctx) (O : Addr → Prop) (η : EnvD) (E : XP) (z : EndsD), Inv X pins σ H s → Gd X c E O η σ H → t E z η →
    wpAny (model X.prog X.w) X.A (execs st X.env) (SP X pins (endsOf X c E z)) X.xe s
def liftS (X : Cx) (t : SD) : TS := fun D σ H => ∃ (c : Ctx) (O : Addr → Prop) (η : EnvD) (E : XP) (z : EndsD), Gd X c E O η σ H ∧ t E z η ∧
  (∀ σ' H', (endsOf X c E z).nx σ' H' → D.nx σ' H') ∧ (∀ v H', (endsOf X c E z).rt v H' → D.rt v H') ∧ (∀ σ' H', (endsOf X c E z).bk σ' H' → D.bk σ' H') ∧ ∀ σ' H', (endsOf X c E z).ct σ' H' → D.ct σ' H'
section
variable {X : Cx} {st : Stmt} {sts : List Stmt} {t : SD} {T : TS}
theorem sp_mono {pins : List (Addr × Obj)} {D D' : Ends} {f : Flow} {s : Shared} (h : SP X pins D f s) (h1 : ∀ σ' H', D.nx σ' H' → D'.nx σ' H') (h2 : ∀ v H', D.rt v H' → D'.rt v H') (h3 : ∀ σ' H', D.bk σ' H' → D'.bk σ' H') (h4 : ∀ σ' H', D.ct σ' H' → D'.ct σ' H') : SP X pins D' f s := by
  cases f with
  | next => obtain ⟨σ', H', I, q⟩ := h; exact ⟨σ', H', I, h1 _ _ q⟩
  | brk => obtain ⟨σ', H', I, q⟩ := h; exact ⟨σ', H', I, h3 _ _ q⟩
  | cont => obtain ⟨σ', H', I, q⟩ := h; exact ⟨σ', H', I, h4 _ _ q⟩
  | ret u => obtain ⟨v, σ', H', I, r, q⟩ := h; exact ⟨v, σ', H', I, r, h2 _ _ q⟩
theorem DS.ps (h : DS X st t) : PS X st (liftS X t) := ⟨fun pins s σ H D I ⟨c, O, η, E, z, g, ht, k1, k2, k3, k4⟩ =>
  thn (h.run pins s σ H c O η E z I g ht) fun f s' q => sp_mono q k1 k2 k3 k4⟩
theorem DSs.pss (h : DSs X sts t) : PSs X sts (liftS X t) := ⟨fun pins s σ H D I ⟨c, O, η, E, z, g, ht, k1, k2, k3, k4⟩ =>
  thn (h.run pins s σ H c O η E z I g ht) fun f s' q => sp_mono q k1 k2 k3 k4⟩
theorem DS.of (h : PS X st T) (f : ∀ σ H c O η E z, Gd X c E O η σ H → t E z η → T (endsOf X c E z) σ H) : DS X st t :=
  ⟨fun pins s σ H c O η E z I g ht => h.run pins s σ H _ I (f σ H c O η E z g ht)⟩
theorem DSs.of (h : PSs X sts T) (f : ∀ σ H c O η E z, Gd X c E O η σ H → t E z η → T (endsOf X c E z) σ H) : DSs X sts t :=
  ⟨fun pins s σ H c O η E z I g ht => h.run pins s σ H _ I (f σ H c O η E z g ht)⟩
/-! blocks -/
def sNext : SD := fun _ z η => z.nx η
def sSeq (t u : SD) : SD := fun E z η => t E { z with nx := u E z } η
variable {rest : List Stmt} {u : SD}
theorem dss_nil : DSs X [] sNext := .of pss_nil fun σ H c O η E z g h => ⟨O, η, g, h⟩
theorem dss_cons (h1 : DS X st t) (h2 : DSs X rest u) : DSs X (st :: rest) (sSeq t u) := .of (pss_cons h1.ps h2.pss) fun σ H c O η E z g h =>
  ⟨c, O, η, E, { z with nx := u E z }, g, h, fun σ' H' ⟨O', η', g', h'⟩ => ⟨c, O', η', E, z, g', h', fun _ _ q => q, fun _ _ q => q, fun _ _ q => q, fun _ _ q => q⟩, fun _ _ q => q, fun _ _ q => q, fun _ _ q => q⟩
theorem dss_one (h1 : DS X st t) : DSs X [st] t := .of (pss_one h1.ps) fun σ H c O η E z g h => ⟨c, O, η, E, z, g, h, fun _ _ q => q, fun _ _ q => q, fun _ _ q => q, fun _ _ q => q⟩
end
end DL

/-! DL1: expressions over data. -/
namespace DL
open PySem PySem.Spec PyProof.Rows L2
section
variable {X : Cx} {a b e : Expr} {es rest : List Expr} {pos : Pos} {ta tb tc t u : ET}

/-! ### names, constants -/
def dV (i : Nat) : ET := fun _ η Q => match η[i]? with | some (.dat d) => Q d | _ => False
def dK (d : D) : ET := fun _ _ Q => Q d
theorem de_var (i : Nat) {x : Str} (hN : X.N[i]? = some x := by rfl) (hv : Vis X.env.scope x := by first | exact Or.inl rfl | exact Or.inr (Or.inl rfl) | exact Or.inr (Or.inr rfl)) (hd : (x == ("__debug__" : Str)) = false := by decide)
    (hcd : (x == ("__classdict__" : Str)) = false := by decide) : DE X (.Name x pos) (dV i) := .of (pe_var hN hv hd hcd) fun σ H c O η E Q g h => by
  unfold dV at h
  split at h
  · rename_i d hd
    obtain ⟨v, e, r⟩ := g.cell i _ hd
    refine ⟨v, ?_, d, .refl g.draw, r, h⟩
    cases q : σ[i]? with
    | none => rw [q] at e; cases e
    | some w => rw [q] at e; exact congrArg some e
  · exact h.elim
theorem de_const {v : V} {d : D} (h : PE X e (tC v)) (r : ∀ K O H, Rep K O H v d) : DE X e (dK d) := .of h fun σ H c O η E Q g q => ⟨d, .refl g.draw, r _ _ _, q⟩
theorem de_int {i j} : DE X (.Constant (.int i) j pos) (dK (.int i)) := de_const pe_int fun _ _ _ => .int i
theorem de_bl {k j} : DE X (.Constant (.bool k) j pos) (dK (.bool k)) := de_const pe_bl fun _ _ _ => .bl k
theorem de_non {j} : DE X (.Constant .none j pos) (dK .none) := de_const pe_non fun _ _ _ => .non
theorem de_str {x j} : DE X (.Constant (.str x) j pos) (dK (.str x)) := de_const pe_str fun _ _ _ => .str x
theorem de_globI {x : Str} {i : Int} (hg : Gl X x) (hm : ∃ t, X.mg x = some (.int i t)) (hd : (x == ("__debug__" : Str)) = false := by decide) : DE X (.Name x pos) (dK (.int i)) := by
  obtain ⟨t, hm⟩ := hm
  exact de_const (pe_glob (v := .int i) hg hm ⟨t, rfl⟩ hd) fun _ _ _ => .int i
/-! ### two operands -/
/-- an operation upon data -/
abbrev OpD := D → D → (D → Prop) → Prop
def dOp (r : OpD) (ta tb : ET) : ET := fun E η Q => ta E η fun x => tb E η fun y => r x y Q
/-- what stands while an operation runs -/
structure Base (G : Option (Addr × Addr)) (O : Addr → Prop) (H : Hp) : Prop where
  draw : DrawOk G H
  wO : ∀ a, Wr G a → O a
  hT : ∀ a, O a → H a ≠ none
theorem Good.base {K : PySem.W.Frag} {c : Ctx} {O : Addr → Prop} {η : EnvD} {σ : L2.St} {H : Hp} (g : Good K c O η σ H) : Base c.G O H := ⟨g.draw, g.wO, g.hT⟩
/-- the ways on -/
abbrev Way (K : PySem.W.Frag) (G : Option (Addr × Addr)) (O : Addr → Prop) (H : Hp) (Q : D → Prop) (R : VK) : Prop := ∀ d v H', Step G H H' → Rep K O H' v d → Q d → R v H'
/-- what an operation's rule has to show -/
def OpOk (K : PySem.W.Frag) (T : R2) (r : OpD) : Prop := ∀ (G : Option (Addr × Addr)) (O : Addr → Prop) (H : Hp) (x y : V) (dx dy : D) (Q : D → Prop) (R : VK), Base G O H → Rep K O H x dx → Rep K O H y dy → r dx dy Q → Way K G O H Q R → T x y H R
theorem bin_lift {X : Cx} {T : R2} {r : OpD} (ok : OpOk X.K T r) {σ : L2.St} {H : Hp} {c : Ctx} {O : Addr → Prop} {η : EnvD} {E : XP} {Q : D → Prop} {R : VK} (g : Gd X c E O η σ H) (h : dOp r ta tb E η Q) (k : Way X.K c.G O H Q R) :
    tOp T (liftE X ta) (liftE X tb) σ H R := by
  refine ⟨c, O, η, E, _, g, h, fun dx x H1 s1 r1 h1 => ?_⟩
  have g1 := g.step s1
  refine ⟨c, O, η, E, _, g1, h1, fun dy y H2 s2 r2 h2 => ?_⟩
  have g2 := g1.step s2
  exact ok c.G O H2 x y dx dy Q R g2.base (s2.rep g1.draw g1.wO r1) r2 h2 fun d v H' s3 r3 q => k d v H' (s1.trans (s2.trans s3)) r3 q
theorem de_op {op : Operator} {T : R2} {r : OpD} (ho : OpR X (binaryOp op) T) (ok : OpOk X.K T r) (ha : DE X a ta) (hb : DE X b tb) : DE X (.BinOp a op b pos) (dOp r ta tb) :=
  .of (pe_op ho ha.pe hb.pe) fun σ H c O η E Q g h => bin_lift ok g h fun d v H' s r q => ⟨d, s, r, q⟩
theorem de_cmp {op : CmpOp} {T : R2} {r : OpD} (ho : OpR X (compareOp op) T) (ok : OpOk X.K T r) (hm : behindInMarks op b = false) (ha : DE X a ta) (hb : DE X b tb) : DE X (.Compare a [op] [b] pos) (dOp r ta tb) :=
  .of (pe_cmpR ho ha.pe hb.pe hm) fun σ H c O η E Q g h => bin_lift ok g h fun d v H' s r q => ⟨d, s, r, q⟩
/-- two rules for one operation -/
theorem OpR.or {f : Value → Value → Sem Value} {T T' : R2} (h : OpR X f T) (h' : OpR X f T') : OpR X f fun x y H Q => T x y H Q ∨ T' x y H Q := fun pins s σ H x y v u Q I rx ry q => q.elim (h pins s σ H x y v u Q I rx ry) (h' pins s σ H x y v u Q I rx ry)
theorem way_here {K : PySem.W.Frag} {G : Option (Addr × Addr)} {O : Addr → Prop} {H : Hp} {Q : D → Prop} {R : VK} (B : Base G O H) (k : Way K G O H Q R) {d : D} {v : V} (r : Rep K O H v d) (q : Q d) : R v H := k d v H (.refl B.draw) r q
theorem Base.not {G : Option (Addr × Addr)} {O : Addr → Prop} {H : Hp} (B : Base G O H) {p : Addr} (h : H p = none) : ¬ O p := fun z => B.hT p z h
theorem way_new {K : PySem.W.Frag} {G : Option (Addr × Addr)} {O : Addr → Prop} {H : Hp} {Q : D → Prop} {R : VK} (B : Base G O H) (k : Way K G O H Q R) {ds : List D} {vs : List V} (r : RepAll K O H vs ds) (q : Q (.list ds)) : ∀ p, H p = none → R (.ref p) (upd H p (.lst vs)) := fun p hp =>
  k _ _ _ (.alloc B.draw hp) (.lst (B.not hp) upd_same (r.same (same_upd hp))) q
theorem way_newT {K : PySem.W.Frag} {G : Option (Addr × Addr)} {O : Addr → Prop} {H : Hp} {Q : D → Prop} {R : VK} (B : Base G O H) (k : Way K G O H Q R) {ds : List D} {vs : List V} (r : RepAll K O H vs ds) (q : Q (.tuple ds)) : ∀ p, H p = none → R (.ref p) (upd H p (.tup vs)) := fun p hp =>
  k _ _ _ (.alloc B.draw hp) (.tup (.inl upd_same) (r.same (same_upd hp))) q

/-- + -/
def oAdd : OpD
  | .int i, .int j, Q => Q (.int (i + j))
  | .str i, .str j, Q => i.length + j.length ≤ sizeLine ∧ Q (.str (i ++ j))
  | .list xs, .list ys, Q => xs.length + ys.length ≤ sizeLine ∧ Q (.list (xs ++ ys))
  | .tuple xs, .tuple ys, Q => xs.length + ys.length ≤ sizeLine ∧ Q (.tuple (xs ++ ys))
  | _, _, _ => False
theorem de_add (ha : DE X a ta) (hb : DE X b tb) : DE X (.BinOp a .Add b pos) (dOp oAdd ta tb) := by
  refine de_op (OpR.or op_add (OpR.or op_add_str (OpR.or op_cat op_catA))) ?_ ha hb
  intro G O H x y dx dy Q R B rx ry h k
  cases rx with
  | int i =>
    cases ry with
    | int j => exact .inl ⟨i, j, rfl, rfl, way_here B k (.int _) h⟩
    | _ => exact h.elim
  | str i =>
    cases ry with
    | str j => exact .inr (.inl ⟨i, j, rfl, rfl, h.1, way_here B k (.str _) h.2⟩)
    | _ => exact h.elim
  | lst o1 h1 r1 =>
    cases ry with
    | lst o2 h2 r2 => exact .inr (.inr (.inl ⟨_, _, _, _, rfl, rfl, h1, h2, by rw [r1.length, r2.length]; exact h.1, way_new B k (r1.append r2) h.2⟩))
    | _ => exact h.elim
  | tup h1 r1 =>
    cases ry with
    | tup h2 r2 =>
      refine .inr (.inr (.inr ⟨_, _, _, _, rfl, rfl, h1.sq, h2.sq, by rw [r1.length, r2.length]; exact h.1, fun e => ?_, fun e e' => ?_, fun _ _ => way_newT B k (r1.append r2) h.2⟩))
      · subst e
        cases r1
        exact way_here B k (.tup h2 r2) h.2
      · subst e'
        cases r2
        refine way_here B k (.tup h1 r1) ?_
        have q := h.2
        rwa [List.append_nil] at q
    | _ => exact h.elim
  | _ => cases ry <;> exact h.elim

/-- two ints -/
def oI (C : Int → Int → Prop) (f : Int → Int → Int) : OpD
  | .int i, .int j, Q => C i j ∧ Q (.int (f i j))
  | _, _, _ => False
theorem okI {K : PySem.W.Frag} {C : Int → Int → Prop} {f : Int → Int → Int} : OpOk K (rI C fun i j => .int (f i j)) (oI C f) := by
  intro G O H x y dx dy Q R B rx ry h k
  cases rx with
  | int i =>
    cases ry with
    | int j => exact ⟨i, j, rfl, rfl, h.1, way_here B k (.int _) h.2⟩
    | _ => exact h.elim
  | _ => cases ry <;> exact h.elim
def oSub : OpD := oI (fun _ _ => True) fun i j => i - j
theorem op_sub' : OpR X (binaryOp .Sub) (rI (fun _ _ => True) fun i j => .int (i - j)) := fun pins s σ H x y v u Q I rx ry h => by
  obtain ⟨i, j, e1, e2, _, q⟩ := h
  exact op_sub pins s σ H x y v u Q I rx ry ⟨i, j, e1, e2, q⟩
theorem de_sub (ha : DE X a ta) (hb : DE X b tb) : DE X (.BinOp a .Sub b pos) (dOp oSub ta tb) := de_op op_sub' okI ha hb
def oMod : OpD := oI (fun _ j => 0 < j) fun i j => i % j
def oDiv : OpD := oI CDiv fun i j => i / j
theorem de_div (ha : DE X a ta) (hb : DE X b tb) : DE X (.BinOp a .FloorDiv b pos) (dOp oDiv ta tb) := de_op op_fdiv okI ha hb
def oPow : OpD := oI CPow fun i j => i ^ j.toNat
/-- * -/
def oMul : OpD
  | .int i, .int j, Q => CMul i j ∧ Q (.int (i * j))
  | .list xs, .int j, Q => (0 ≤ j ∧ j < 2 ^ 63 ∧ xs.length * j.toNat ≤ sizeLine) ∧ Q (.list (List.replicate j.toNat xs).flatten)
  | _, _, _ => False
theorem RepAll.rep {K : PySem.W.Frag} {O : Addr → Prop} {H : Hp} {vs : List V} {ds : List D} (r : RepAll K O H vs ds) : ∀ n : Nat, RepAll K O H (List.replicate n vs).flatten (List.replicate n ds).flatten
  | 0 => .nil
  | n + 1 => by
    rw [List.replicate_succ, List.replicate_succ, List.flatten_cons, List.flatten_cons]
    exact r.append (RepAll.rep r n)
theorem de_mul (ha : DE X a ta) (hb : DE X b tb) : DE X (.BinOp a .Mult b pos) (dOp oMul ta tb) := by
  refine de_op (OpR.or op_mul op_rep) ?_ ha hb
  intro G O H x y dx dy Q R B rx ry h k
  cases rx with
  | int i =>
    cases ry with
    | int j => exact .inl ⟨i, j, rfl, rfl, h.1, way_here B k (.int _) h.2⟩
    | _ => exact h.elim
  | lst o1 h1 r1 =>
    cases ry with
    | int j => exact .inr ⟨_, j, _, rfl, rfl, h1, by have := h.1.1; omega, h.1.2.1, by rw [r1.length]; exact h.1.2.2, way_new B k (r1.rep _) h.2⟩
    | _ => exact h.elim
  | _ => cases ry <;> exact h.elim

/-! ### comparisons -/
/-- a comparison's rule -/
def CmpR (X : Cx) (op : CmpOp) (r : OpD) : Prop := ∃ T, OpR X (compareOp op) T ∧ OpOk X.K T r
theorem de_c {op : CmpOp} {r : OpD} (h : CmpR X op r) (ha : DE X a ta) (hb : DE X b tb) (hm : behindInMarks op b = false := by first | exact nomark _ | rfl) : DE X (.Compare a [op] [b] pos) (dOp r ta tb) := by
  obtain ⟨T, h1, h2⟩ := h
  exact de_cmp h1 h2 hm ha hb
/-- the two may be asked for == -/
def eqOk : D → D → Bool
  | .str _, .str _ => true
  | x, y => SeqAt.shaped x && SeqAt.shaped y
def oEq : OpD := fun x y Q => eqOk x y = true ∧ Q (.bool (PyData.eqv x y))
def oNe : OpD := fun x y Q => eqOk x y = true ∧ Q (.bool (!PyData.eqv x y))
theorem eqOk_out {x y : D} (h : eqOk x y = true) : (∃ i j, x = .str i ∧ y = .str j) ∨ (SeqAt.shaped x = true ∧ SeqAt.shaped y = true) := by
  unfold eqOk at h
  split at h
  · exact .inl ⟨_, _, rfl, rfl⟩
  · exact .inr (by rwa [Bool.and_eq_true] at h)
theorem nd_shaped {d : D} (h : SeqAt.shaped d = true) : d.hasDict = false := PyData.hasDict_of_canLay d (SeqAt.canLay_of_shaped h)
theorem nd_list {ds : List D} (h : PyData.hasDict (.list ds) = false) : PyData.hasDictAll ds = false := by simpa [PyData.hasDict] using h
theorem nd_tuple {ds : List D} (h : PyData.hasDict (.tuple ds) = false) : PyData.hasDictAll ds = false := by simpa [PyData.hasDict] using h
theorem cm_eq (hu : X.A.units + 65 < cLine) : CmpR X .Eq oEq := by
  refine ⟨_, OpR.or (op_eqD (Nat.lt_of_succ_lt hu)) op_eq, fun G O H x y dx dy Q R B rx ry h k => ?_⟩
  rcases eqOk_out h.1 with ⟨i, j, rfl, rfl⟩ | ⟨h1, h2⟩
  · cases rx
    cases ry
    refine .inr ⟨rfl, ?_⟩
    have q := h.2
    rw [show PyData.eqv (.str i) (.str j) = (i == j) by simp [PyData.eqv], ← dec_str] at q
    exact way_here B k (.bl _) q
  · exact .inl ⟨dx, dy, rx.dp (nd_shaped h1), ry.dp (nd_shaped h2), h1, h2, way_here B k (.bl _) h.2⟩
theorem cm_ne (hu : X.A.units + 65 < cLine) : CmpR X .NotEq oNe := by
  refine ⟨_, OpR.or (op_neD (Nat.lt_of_succ_lt hu)) op_ne, fun G O H x y dx dy Q R B rx ry h k => ?_⟩
  rcases eqOk_out h.1 with ⟨i, j, rfl, rfl⟩ | ⟨h1, h2⟩
  · cases rx
    cases ry
    refine .inr ⟨rfl, ?_⟩
    have q := h.2
    rw [show PyData.eqv (.str i) (.str j) = (i == j) by simp [PyData.eqv], ← dec_str] at q
    exact way_here B k (.bl _) q
  · exact .inl ⟨dx, dy, rx.dp (nd_shaped h1), ry.dp (nd_shaped h2), h1, h2, way_here B k (.bl _) h.2⟩
/-- in -/
def oIn (neg : Bool) : OpD
  | x, .list ds, Q => SeqAt.shaped x = true ∧ SeqAt.shaped (.list ds) = true ∧ Q (.bool ((ds.any fun z => PyData.eqv z x) != neg))
  | x, .tuple ds, Q => SeqAt.shaped x = true ∧ SeqAt.shaped (.tuple ds) = true ∧ Q (.bool ((ds.any fun z => PyData.eqv z x) != neg))
  | .str i, .str j, Q => neg = false ∧ Q (.bool ((!(Builtin.Str.occurrences j i 0 j.length 1).isEmpty) != neg))
  | _, _, _ => False
def rInT (K : PySem.W.Frag) (neg : Bool) : R2 := fun x y H Q => ∃ d ds, Dp K H x d ∧ Dp K H y (.tuple ds) ∧ SeqAt.shaped d = true ∧ SeqAt.shaped (.tuple ds) = true ∧ Q (.bl ((ds.any fun z => PyData.eqv z d) != neg)) H
theorem lay_tuple {ds : List D} (h : SeqAt.shaped (.tuple ds) = true) : PyData.canLayAll0 ds = true := by
  have := SeqAt.canLay_of_shaped h
  simpa [PyData.canLay0] using this
theorem room_shaped {A : Around} {ds : List D} {d : D} (sd : SeqAt.shaped d = true) (hu : A.units + 65 < cLine) : A.units + 1 + min (PyData.depthAll ds) d.depth < cLine := by
  have h1 := SeqAt.depth_of_shaped sd
  have h2 : min (PyData.depthAll ds) d.depth ≤ d.depth := Nat.min_le_right _ _
  omega
theorem op_inT (hu : X.A.units + 65 < cLine) : OpR X (compareOp .In) (rInT X.K false) := by
  intro pins s σ H x y v u Q I rx ry h
  obtain ⟨d, ds, hd, hy, sd, se, q⟩ := h
  obtain ⟨as, r1⟩ := Dp.reads I d x v hd rx
  obtain ⟨bs, r2⟩ := Dp.reads I _ y u hy ry
  refine SeqAt.in_tuple_reads r2 r1 (lay_tuple se) (SeqAt.canLay_of_shaped sd) (room_shaped sd hu) ⟨.bl _, H, I, rfl, ?_⟩
  rwa [Bool.bne_false] at q
theorem op_notInT (hu : X.A.units + 65 < cLine) : OpR X (compareOp .NotIn) (rInT X.K true) := by
  intro pins s σ H x y v u Q I rx ry h
  obtain ⟨d, ds, hd, hy, sd, se, q⟩ := h
  obtain ⟨as, r1⟩ := Dp.reads I d x v hd rx
  obtain ⟨bs, r2⟩ := Dp.reads I _ y u hy ry
  refine SeqAt.notIn_tuple_reads r2 r1 (lay_tuple se) (SeqAt.canLay_of_shaped sd) (room_shaped sd hu) ⟨.bl _, H, I, rfl, ?_⟩
  rwa [Bool.bne_true] at q
theorem cm_in (hu : X.A.units + 65 < cLine) : CmpR X .In (oIn false) := by
  refine ⟨_, OpR.or (op_inD hu) (OpR.or (op_inT hu) op_in_str), ?_⟩
  intro G O H x y dx dy Q R B rx ry h k
  cases ry with
  | lst o1 h1 r1 => exact .inl ⟨_, _, rx.dp (nd_shaped h.1), Dp.lst (.of h1) (r1.dp (nd_list (nd_shaped h.2.1))), h.1, h.2.1, way_here B k (.bl _) (by have q := h.2.2; rwa [Bool.bne_false] at q)⟩
  | tup h1 r1 => exact .inr (.inl ⟨_, _, rx.dp (nd_shaped h.1), Dp.tup h1.sq (r1.dp (nd_tuple (nd_shaped h.2.1))), h.1, h.2.1, way_here B k (.bl _) h.2.2⟩)
  | str j =>
    cases rx with
    | str i => exact .inr (.inr ⟨i, j, rfl, rfl, way_here B k (.bl _) (by have q := h.2; rwa [Bool.bne_false] at q)⟩)
    | _ => exact h.elim
  | _ => cases rx <;> exact h.elim
theorem cm_notin (hu : X.A.units + 65 < cLine) : CmpR X .NotIn (oIn true) := by
  refine ⟨_, OpR.or (op_notInD hu) (op_notInT hu), ?_⟩
  intro G O H x y dx dy Q R B rx ry h k
  cases ry with
  | lst o1 h1 r1 => exact .inl ⟨_, _, rx.dp (nd_shaped h.1), Dp.lst (.of h1) (r1.dp (nd_list (nd_shaped h.2.1))), h.1, h.2.1, way_here B k (.bl _) (by have q := h.2.2; rwa [Bool.bne_true] at q)⟩
  | tup h1 r1 => exact .inr ⟨_, _, rx.dp (nd_shaped h.1), Dp.tup h1.sq (r1.dp (nd_tuple (nd_shaped h.2.1))), h.1, h.2.1, way_here B k (.bl _) h.2.2⟩
  | str j =>
    cases rx with
    | str i => exact absurd h.1 (by decide)
    | _ => exact h.elim
  | _ => cases rx <;> exact h.elim
/-- is None -/
def oIs (neg : Bool) : OpD
  | .none, .none, Q => Q (.bool (true != neg))
  | .bool _, .none, Q => Q (.bool (false != neg))
  | .int _, .none, Q => Q (.bool (false != neg))
  | .str _, .none, Q => Q (.bool (false != neg))
  | .list _, .none, Q => Q (.bool (false != neg))
  | .tuple _, .none, Q => Q (.bool (false != neg))
  | .dict _, .none, Q => Q (.bool (false != neg))
  | _, _, _ => False
theorem cm_is : CmpR X .Is (oIs false) := by
  refine ⟨_, op_isN, ?_⟩
  intro G O H x y dx dy Q R B rx ry h k
  cases rx <;> cases ry <;> first | exact ⟨rfl, way_here B k (.bl _) h⟩ | exact h.elim
theorem cm_isnot : CmpR X .IsNot (oIs true) := by
  refine ⟨_, op_notN, ?_⟩
  intro G O H x y dx dy Q R B rx ry h k
  cases rx <;> cases ry <;> first | exact ⟨rfl, way_here B k (.bl _) h⟩ | exact h.elim

/-! ### order -/
def oLt : OpD
  | .int i, .int j, Q => Q (.bool (decide (i < j)))
  | .tuple xs, .tuple ys, Q => (PySem.W.alike (.tuple xs) (.tuple ys) = true ∧ (PyData.tuple xs).depth ≤ 64 ∧ PyData.hasDict (.tuple xs) = false ∧ PyData.hasDict (.tuple ys) = false) ∧ Q (.bool (PySem.W.dataLt (.tuple xs) (.tuple ys)))
  | _, _, _ => False
def rLtD (K : PySem.W.Frag) : R2 := fun x y H Q => ∃ xs ys, Dp K H x (.tuple xs) ∧ Dp K H y (.tuple ys) ∧ PySem.W.alike (.tuple xs) (.tuple ys) = true ∧ (PyData.tuple xs).depth ≤ 64 ∧ Q (.bl (PySem.W.dataLt (.tuple xs) (.tuple ys))) H
theorem op_ltD (hu : X.A.units + 64 < cLine) : OpR X (compareOp .Lt) (rLtD X.K) := by
  intro pins s σ H x y v u Q I rx ry h
  obtain ⟨xs, ys, hx, hy, al, dp, q⟩ := h
  obtain ⟨as, r1⟩ := Dp.reads I _ x v hx rx
  obtain ⟨bs, r2⟩ := Dp.reads I _ y u hy ry
  exact PySem.W.rcLt_alike _ _ X.A s v u as bs r1 r2 al (fun z => nomatch z) (by have := Nat.min_le_left (PyData.tuple xs).depth (PyData.tuple ys).depth; omega) _ _ _ _ ⟨.bl _, H, I, rfl, q⟩
theorem cm_lt (hu : X.A.units + 65 < cLine) : CmpR X .Lt oLt := by
  refine ⟨_, OpR.or op_lt (op_ltD (Nat.lt_of_succ_lt hu)), ?_⟩
  intro G O H x y dx dy Q R B rx ry h k
  cases rx with
  | int i =>
    cases ry with
    | int j => exact .inl ⟨i, j, rfl, rfl, way_here B k (.bl _) h⟩
    | _ => exact h.elim
  | tup h1 r1 =>
    cases ry with
    | tup h2 r2 => exact .inr ⟨_, _, .tup h1.sq (r1.dp (nd_tuple h.1.2.2.1)), .tup h2.sq (r2.dp (nd_tuple h.1.2.2.2)), h.1.1, h.1.2.1, way_here B k (.bl _) h.2⟩
    | _ => exact h.elim
  | _ => cases ry <;> exact h.elim
def oLe : OpD
  | .int i, .int j, Q => Q (.bool (decide (i ≤ j)))
  | _, _, _ => False
def oGt : OpD
  | .int i, .int j, Q => Q (.bool (decide (j < i)))
  | _, _, _ => False
/-! ### and, or, not, if -/
def ifB (x : D) (f : Bool → Prop) : Prop := match x with | .bool c => f c | _ => False
def dAnd (ta tb : ET) : ET := fun E η Q => ta E η fun x => ifB x fun c => if c = true then tb E η Q else Q (.bool false)
def dOr (ta tb : ET) : ET := fun E η Q => ta E η fun x => ifB x fun c => if c = true then Q (.bool true) else tb E η Q
def dNot (ta : ET) : ET := fun E η Q => ta E η fun x => ifB x fun c => Q (.bool (!c))
theorem ifB_bl {K : PySem.W.Frag} {O : Addr → Prop} {H : Hp} {v : V} {d : D} {f : Bool → Prop} (r : Rep K O H v d) (h : ifB d f) : ∃ c, d = .bool c ∧ v = .bl c ∧ f c := by
  cases r <;> first | exact ⟨_, rfl, rfl, h⟩ | exact h.elim
theorem de_one {op} (h : DE X a ta) : DE X (.BoolOp op [a] pos) ta := .of (pe_one h.pe) fun σ H c O η E Q g q => ⟨c, O, η, E, Q, g, q, fun d v H' s r q => ⟨d, s, r, q⟩⟩
theorem de_and (ha : DE X a ta) (hb : DE X (.BoolOp .And (b :: rest) pos) tb) : DE X (.BoolOp .And (a :: b :: rest) pos) (dAnd ta tb) := .of (pe_and ha.pe hb.pe) fun σ H c O η E Q g h => by
  refine ⟨c, O, η, E, _, g, h, fun d v H1 s1 r1 q => ?_⟩
  obtain ⟨k, rfl, rfl, q⟩ := ifB_bl r1 q
  refine ⟨k, rfl, ?_⟩
  have g1 := g.step s1
  cases k with
  | true => exact ⟨c, O, η, E, Q, g1, q, fun d v H' s r q => ⟨d, s1.trans s, r, q⟩⟩
  | false => exact ⟨_, s1, .bl false, q⟩
theorem de_or (ha : DE X a ta) (hb : DE X (.BoolOp .Or (b :: rest) pos) tb) : DE X (.BoolOp .Or (a :: b :: rest) pos) (dOr ta tb) := .of (pe_or ha.pe hb.pe) fun σ H c O η E Q g h => by
  refine ⟨c, O, η, E, _, g, h, fun d v H1 s1 r1 q => ?_⟩
  obtain ⟨k, rfl, rfl, q⟩ := ifB_bl r1 q
  refine ⟨k, rfl, ?_⟩
  have g1 := g.step s1
  cases k with
  | false => exact ⟨c, O, η, E, Q, g1, q, fun d v H' s r q => ⟨d, s1.trans s, r, q⟩⟩
  | true => exact ⟨_, s1, .bl true, q⟩
def oNeg (ta : ET) : ET := fun E η Q => ta E η fun x => match x with | .int i => Q (.int (-i)) | _ => False
theorem de_neg (ha : DE X a ta) : DE X (.UnaryOp .USub a pos) (oNeg ta) := .of (pe_un un_neg ha.pe) fun σ H c O η E Q g h => by
  refine ⟨c, O, η, E, _, g, h, fun d v H1 s1 r1 q => ?_⟩
  cases r1 <;> first | exact ⟨_, rfl, _, s1, .int _, q⟩ | exact q.elim
/-! tests -/
def bVal (t : ET) : BT := fun E η Q => t E η fun x => ifB x Q
theorem dt_val (h : DE X e t) (he : ∀ whole, isTrue e X.env whole = (do let v ← whole; standAt e.pos; holding [v] (truthy v)) := by intro _; rfl) : DT X e (bVal t) := .of (pt_val h.pe he) fun σ H c O η E Q g h => by
  refine ⟨c, O, η, E, _, g, h, fun d v H1 s1 r1 q => ?_⟩
  obtain ⟨k, rfl, rfl, q⟩ := ifB_bl r1 q
  exact ⟨k, rfl, s1, q⟩
theorem dt_cmp {op : CmpOp} {T : R2} {r : OpD} (ho : OpR X (compareOp op) T) (ok : OpOk X.K T r) (hm : behindInMarks op b = false) (ha : DE X a ta) (hb : DE X b tb) : DT X (.Compare a [op] [b] pos) (bVal (dOp r ta tb)) :=
  .of (pt_cmpR ho ha.pe hb.pe hm) fun σ H c O η E Q g h => by
    refine bin_lift ok g h fun d v H' s r q => ?_
    obtain ⟨k, rfl, rfl, q⟩ := ifB_bl r q
    exact ⟨k, rfl, s, q⟩
theorem dt_c {op : CmpOp} {r : OpD} (h : CmpR X op r) (ha : DE X a ta) (hb : DE X b tb) (hm : behindInMarks op b = false := by first | exact nomark _ | rfl) : DT X (.Compare a [op] [b] pos) (bVal (dOp r ta tb)) := by
  obtain ⟨T, h1, h2⟩ := h
  exact dt_cmp h1 h2 hm ha hb
/-- a < b < c -/
def dChain (r r' : OpD) (ta tb tc : ET) : ET := fun E η Q => ta E η fun x => tb E η fun y => r x y fun z => ifB z fun k => if k = true then tc E η fun w => r' y w Q else Q (.bool false)
def bAnd (t u : BT) : BT := fun E η Q => t E η fun c => if c = true then u E η Q else Q false
def bOr (t u : BT) : BT := fun E η Q => t E η fun c => if c = true then Q true else u E η Q
def bNot (t : BT) : BT := fun E η Q => t E η fun c => Q (!c)
variable {tA tB : BT}
theorem dw_and1 (ha : DT X a tA) : DW X (.BoolOp .And [a] pos) tA := .of (pw_and1 ha.pt) fun σ H c O η E Q g h => ⟨c, O, η, E, Q, g, h, fun b H' s q => ⟨s, q⟩⟩
theorem dw_or1 (ha : DT X a tA) : DW X (.BoolOp .Or [a] pos) tA := .of (pw_or1 ha.pt) fun σ H c O η E Q g h => ⟨c, O, η, E, Q, g, h, fun b H' s q => ⟨s, q⟩⟩
theorem dw_and (ha : DT X a tA) (hb : DW X (.BoolOp .And (b :: rest) pos) tB) : DW X (.BoolOp .And (a :: b :: rest) pos) (bAnd tA tB) := .of (pw_and ha.pt hb.pw) fun σ H c O η E Q g h => by
  refine ⟨c, O, η, E, _, g, h, fun k H1 s1 q => ?_⟩
  cases k with
  | true => exact ⟨c, O, η, E, Q, g.step s1, q, fun b H' s q => ⟨s1.trans s, q⟩⟩
  | false => exact ⟨s1, q⟩
theorem dw_or (ha : DT X a tA) (hb : DW X (.BoolOp .Or (b :: rest) pos) tB) : DW X (.BoolOp .Or (a :: b :: rest) pos) (bOr tA tB) := .of (pw_or ha.pt hb.pw) fun σ H c O η E Q g h => by
  refine ⟨c, O, η, E, _, g, h, fun k H1 s1 q => ?_⟩
  cases k with
  | false => exact ⟨c, O, η, E, Q, g.step s1, q, fun b H' s q => ⟨s1.trans s, q⟩⟩
  | true => exact ⟨s1, q⟩
theorem dt_not (ha : DT X a tA) : DT X (.UnaryOp .Not a pos) (bNot tA) := .of (pt_not ha.pt) fun σ H c O η E Q g h => ⟨c, O, η, E, _, g, h, fun k H1 s1 q => ⟨s1, q⟩⟩
def dIf (t : BT) (ta tb : ET) : ET := fun E η Q => t E η fun c => if c = true then ta E η Q else tb E η Q
theorem de_if {cnd : Expr} (hc : DT X cnd tA) (ha : DE X a ta) (hb : DE X b tb) : DE X (.IfExp cnd a b pos) (dIf tA ta tb) := .of (pe_ifExp hc.pt ha.pe hb.pe) fun σ H c O η E Q g h => by
  refine ⟨c, O, η, E, _, g, h, fun k H1 s1 q => ?_⟩
  cases k with
  | true => exact ⟨c, O, η, E, Q, g.step s1, q, fun d v H' s r q => ⟨d, s1.trans s, r, q⟩⟩
  | false => exact ⟨c, O, η, E, Q, g.step s1, q, fun d v H' s r q => ⟨d, s1.trans s, r, q⟩⟩
end
end DL

/-! DL2: places, slices, displays, calls of built-ins. -/
namespace DL
open PySem PySem.Spec PyProof.Rows L2
section
variable {X : Cx} {a b e : Expr} {es rest : List Expr} {pos p : Pos} {ta tb tc t u : ET} {ts : AT}

theorem way_out {K : PySem.W.Frag} {G : Option (Addr × Addr)} {O : Addr → Prop} {H H1 : Hp} {Q : D → Prop} (s1 : Step G H H1) : Way K G O H1 Q fun v H' => ∃ d, Step G H H' ∧ Rep K O H' v d ∧ Q d := fun d v H' s r q => ⟨d, s1.trans s, r, q⟩
def onS {α : Type} (o : Option α) (k : α → Prop) : Prop := match o with | some x => k x | none => False
theorem onS_out {α : Type} {o : Option α} {k : α → Prop} (h : onS o k) : ∃ x, o = some x ∧ k x := by
  cases o with
  | none => exact h.elim
  | some x => exact ⟨x, rfl, h⟩
/-! ### arguments, displays -/
def aNil : AT := fun _ _ Q => Q []
def aCons (t : ET) (ts : AT) : AT := fun E η Q => t E η fun d => ts E η fun ds => Q (d :: ds)
theorem da_nil : DA X [] aNil := .of pa_nil fun σ H c O η E Q g h => ⟨[], .refl g.draw, .nil, h⟩
theorem da_cons (ha : DE X e t) (hr : DA X es ts) (hs : starEach (e :: es) X.env = (false, eval e X.env) :: starEach es X.env := by rfl) : DA X (e :: es) (aCons t ts) := .of (pa_cons ha.pe hr.pa hs) fun σ H c O η E Q g h => by
  refine ⟨c, O, η, E, _, g, h, fun d v H1 s1 r1 h1 => ?_⟩
  have g1 := g.step s1
  exact ⟨c, O, η, E, _, g1, h1, fun ds vs H2 s2 r2 q => ⟨d :: ds, s1.trans s2, .cons (s2.rep g1.draw g1.wO r1) r2, q⟩⟩
def dTup (ts : AT) : ET := fun E η Q => ts E η fun ds => ds.length ≤ sizeLine ∧ Q (.tuple ds)
theorem de_tup {k} (h : DA X es ts) : DE X (.Tuple es k pos) (dTup ts) := .of (pe_tup h.pa) fun σ H c O η E Q g h =>
  ⟨c, O, η, E, _, g, h, fun ds vs H1 s1 r1 q => ⟨by rw [r1.length]; exact q.1, way_newT (g.step s1).base (way_out s1) r1 q.2⟩⟩
/-! new lists -/
abbrev NT := XP → EnvD → (List D → Prop) → Prop
/-- a new list: where it stands, what it holds -/
def NewK (K : PySem.W.Frag) (c : Ctx) (O : Addr → Prop) (H : Hp) (Q : List D → Prop) : VK := fun v H' => ∃ ds a vs, v = .ref a ∧ Step c.G H H' ∧ H a = none ∧ H' a = some (.lst vs) ∧ RepAll K (fun b => O b ∨ b = a) H' vs ds ∧ Q ds
/-- the reading T tells a new list by t -/
def RdN (X : Cx) (T : TE) (t : NT) : Prop := ∀ (σ : L2.St) (H : Hp) (c : Ctx) (O : Addr → Prop) (η : EnvD) (E : XP) (Q : List D → Prop) (R : VK), Gd X c E O η σ H → t E η Q → (∀ v H', NewK X.K c O H Q v H' → R v H') → T σ H R
structure DN (X : Cx) (e : Expr) (t : NT) : Prop where
  ex : ∃ T, PE X e T ∧ RdN X T t
theorem DN.of {t : NT} {T : TE} (h : PE X e T) (f : RdN X T t) : DN X e t := ⟨T, h, f⟩
def dNew (t : NT) : ET := fun E η Q => t E η fun ds => Q (.list ds)
theorem DN.de {t : NT} (h : DN X e t) : DE X e (dNew t) := by
  obtain ⟨T, h1, h2⟩ := h.ex
  exact .of h1 fun σ H c O η E Q g ht => h2 σ H c O η E _ _ g ht fun v H' ⟨ds, a, vs, e1, st, h0, h1, rp, q⟩ => by
    subst e1
    exact ⟨.list ds, st, .lst (fun z => g.hT a z h0) h1 (rp.weak fun _ => .inl), q⟩
theorem Step.none {G : Option (Addr × Addr)} {H H1 : Hp} (st : Step G H H1) (dr : DrawOk G H) {p : Addr} (h : H1 p = none) : H p = none := by
  cases e : H p with
  | none => rfl
  | some o =>
    by_cases w : Wr G p
    · exact absurd h (st.draw.tr p w)
    · rw [st.keep p o w e] at h; cases h
theorem newk {X : Cx} {E : XP} {c : Ctx} {O : Addr → Prop} {η : EnvD} {σ : L2.St} {H H1 : Hp} {Q : List D → Prop} {R : VK} (g : Gd X c E O η σ H) (s1 : Step c.G H H1) {ds : List D} {vs : List V} (r : RepAll X.K O H1 vs ds) (q : Q ds) (k : ∀ v H', NewK X.K c O H Q v H' → R v H') :
    ∀ p, H1 p = none → R (.ref p) (upd H1 p (.lst vs)) := fun p hp =>
  k _ _ ⟨ds, p, vs, rfl, s1.trans (.alloc s1.draw hp), s1.none g.draw hp, upd_same, (r.more hp).same (same_upd hp), q⟩
def nLst (ts : AT) : NT := fun E η Q => ts E η fun ds => ds.length ≤ sizeLine ∧ Q ds
theorem dn_lst (h : DA X es ts) : DN X (.List es pos) (nLst ts) := .of (pe_lst h.pa) fun σ H c O η E Q R g h k =>
  ⟨c, O, η, E, _, g, h, fun ds vs H1 s1 r1 q => ⟨by rw [r1.length]; exact q.1, newk g s1 r1 q.2 k⟩⟩

/-! ### a[i], a[i:j] -/
def oIx : OpD
  | .list ds, .int i, Q => onS (atI ds i) Q
  | .tuple ds, .int i, Q => onS (atI ds i) Q
  | .str x, .int i, Q => x.length ≤ sizeLine ∧ onS (atI x.cps.toList i) fun n => Q (.str ⟨#[n]⟩)
  | _, _, _ => False
theorem RepAll.atI {K : PySem.W.Frag} {O : Addr → Prop} {H : Hp} {vs : List V} {ds : List D} (r : RepAll K O H vs ds) {i : Int} {d : D} (h : atI ds i = some d) : ∃ x, L2.atI vs i = some x ∧ Rep K O H x d := by
  unfold L2.atI at h ⊢
  rw [r.length]
  cases e : ixN ds.length i with
  | none => rw [e] at h; cases h
  | some j =>
    rw [e] at h
    exact r.getD h
theorem de_ix (ha : DE X a ta) (hb : DE X b tb) (hs : PlainIx b := by exact fun _ _ => rfl) : DE X (.Subscript a b pos) (dOp oIx ta tb) := .of (pe_ix ix_seq ha.pe hb.pe hs) fun σ H c O η E Q g h => by
  refine bin_lift (r := oIx) ?_ g h fun d v H' s r q => ⟨d, s, r, q⟩
  intro G O H x y dx dy Q R B rx ry h k
  cases rx with
  | lst o1 h1 r1 =>
    cases ry with
    | int i =>
      obtain ⟨d, hd, h⟩ := onS_out h
      obtain ⟨z, hz, rz⟩ := r1.atI hd
      exact .inl ⟨_, _, i, z, rfl, rfl, .of h1, hz, way_here B k rz h⟩
    | _ => exact h.elim
  | tup h1 r1 =>
    cases ry with
    | int i =>
      obtain ⟨d, hd, h⟩ := onS_out h
      obtain ⟨z, hz, rz⟩ := r1.atI hd
      exact .inr (.inl ⟨_, _, i, z, rfl, rfl, h1.sq, hz, way_here B k rz h⟩)
    | _ => exact h.elim
  | str x =>
    cases ry with
    | int i =>
      obtain ⟨hl, h⟩ := h
      obtain ⟨n, hn, h⟩ := onS_out h
      exact .inr (.inr ⟨x, i, n, rfl, rfl, hl, hn, way_here B k (.str _) h⟩)
    | _ => exact h.elim
  | _ => cases ry <;> exact h.elim
def cutD {α : Type} (xs : List α) (lo hi : Option Int) : List α := (xs.drop (HT.sIx xs.length 0 lo)).take (HT.sIx xs.length xs.length hi - HT.sIx xs.length 0 lo)
abbrev OT := XP → EnvD → (Option Int → Prop) → Prop
def oNone : OT := fun _ _ Q => Q none
def oSome (t : ET) : OT := fun E η Q => t E η fun x => match x with | .int i => Q (some i) | _ => False
structure DO (X : Cx) (e : Option Expr) (t : OT) : Prop where
  mk ::
  po : ∃ T, PO X e T ∧ ∀ σ H c O η E (Q : Option Int → Prop) (R : Option Int → Hp → Prop), Gd X c E O η σ H → t E η Q → (∀ i H', Step c.G H H' → Q i → R i H') → T σ H R
theorem do_none : DO X none oNone := ⟨_, po_none, fun σ H c O η E Q R g h k => k none H (.refl g.draw) h⟩
theorem do_some (h : DE X e t) : DO X (some e) (oSome t) := ⟨_, po_some h.pe, fun σ H c O η E Q R g h k => by
  refine ⟨c, O, η, E, _, g, h, fun d v H' s r q => ?_⟩
  cases r <;> first | exact ⟨_, rfl, k _ _ s q⟩ | exact q.elim⟩
def dSl (ta : ET) (tl th : OT) : ET := fun E η Q => ta E η fun x => tl E η fun l => th E η fun h => match x with
  | .list ds => Q (.list (cutD ds l h))
  | .tuple ds => Q (.tuple (cutD ds l h))
  | _ => False
theorem cut_all {α : Type} {xs : List α} {l h : Option Int} (e : HT.sIx xs.length 0 l = 0 ∧ HT.sIx xs.length xs.length h = xs.length) : cutD xs l h = xs := by
  unfold cutD
  rw [e.1, e.2, List.drop_zero, Nat.sub_zero, List.take_length]
theorem RepAll.cut {K : PySem.W.Frag} {O : Addr → Prop} {H : Hp} {vs : List V} {ds : List D} (r : RepAll K O H vs ds) (l h : Option Int) : RepAll K O H (cutV vs l h) (cutD ds l h) := by
  unfold cutV cutD
  rw [r.length]
  exact (r.drop _).take _
theorem SlR.or' {r r' : V → Option Int → Option Int → Hp → VK → Prop} (h : SlR X r) (h' : SlR X r') : SlR X (fun x lo hi H Q => r x lo hi H Q ∨ r' x lo hi H Q) := h.or h'
theorem de_sl {lo hi : Option Expr} {tl th : OT} {p2 : Pos} (ha : DE X a ta) (hl : DO X lo tl) (hh : DO X hi th) : DE X (.Subscript a (.Slice lo hi none p2) pos) (dSl ta tl th) := by
  obtain ⟨Tl, pl, kl⟩ := hl.po
  obtain ⟨Th, ph, kh⟩ := hh.po
  refine .of (pe_slice (SlR.or' sl_list sl_tupA) ha.pe pl ph) fun σ H c O η E Q g h => ?_
  refine ⟨c, O, η, E, _, g, h, fun dx x H1 s1 r1 h1 => ?_⟩
  have g1 := g.step s1
  refine kl _ _ c O η E _ _ g1 h1 fun l H2 s2 h2 => ?_
  have g2 := g1.step s2
  refine kh _ _ c O η E _ _ g2 h2 fun u H3 s3 h3 => ?_
  have g3 := g2.step s3
  have r3 := s3.rep g2.draw g2.wO (s2.rep g1.draw g1.wO r1)
  have sa := s1.trans (s2.trans s3)
  cases r3 with
  | lst o h0 rr => exact .inl ⟨_, _, rfl, .of h0, way_new g3.base (way_out sa) (rr.cut _ _) h3⟩
  | tup h0 rr =>
    refine .inr ⟨_, _, rfl, h0.sq, fun e => ?_, fun _ => way_newT g3.base (way_out sa) (rr.cut _ _) h3⟩
    refine ⟨_, sa, .tup h0 rr, ?_⟩
    rw [rr.length] at e
    rw [← cut_all e]
    exact h3
  | _ => exact h3.elim

/-! ### calls of built-ins -/
abbrev CallD := List D → (D → Prop) → Prop
def dCall (r : CallD) (ts : AT) : ET := fun E η Q => ts E η fun ds => r ds Q
def CallOk (K : PySem.W.Frag) (T : List V → Hp → VK → Prop) (r : CallD) : Prop := ∀ (G : Option (Addr × Addr)) (O : Addr → Prop) (H : Hp) (xs : List V) (ds : List D) (Q : D → Prop) (R : VK), Base G O H → RepAll K O H xs ds → r ds Q → Way K G O H Q R → T xs H R
theorem call_lift {X : Cx} {T : List V → Hp → VK → Prop} {r : CallD} (ok : CallOk X.K T r) {σ : L2.St} {H : Hp} {c : Ctx} {O : Addr → Prop} {η : EnvD} {E : XP} {Q : D → Prop} (g : Gd X c E O η σ H) (h : dCall r ts E η Q) :
    tCB T (liftA X ts) σ H fun v H' => ∃ d, Step c.G H H' ∧ Rep X.K O H' v d ∧ Q d :=
  ⟨c, O, η, E, _, g, h, fun ds vs H1 s1 r1 h1 => ok c.G O H1 vs ds Q _ (g.step s1).base r1 h1 fun d v H' s r q => ⟨d, s1.trans s, r, q⟩⟩
theorem de_callB {T : List V → Hp → VK → Prop} {r : CallD} {id : String} {x : Str} (hc : CallR X (.builtin id) T) (ok : CallOk X.K T r) (hg : Gl X x) (hm : X.mg x = none) (hv : bootBuiltins x = some (.builtin id)) (ha : DA X (e :: es) ts) (hn : x ≠ "__name__" := by decide)
    (hdb : (x == ("__debug__" : Str)) = false := by decide) (he : starEach (e :: es) X.env = (false, eval e X.env) :: starEach es X.env := by rfl) (hpl : (backTo pos (starEach es X.env)).any (·.1) = false := by rfl) :
    DE X (.Call (.Name x p) (e :: es) [] pos) (dCall r ts) := .of (pe_callB hc hg hm hv ha.pa hn hdb he hpl) fun σ H c O η E Q g h => call_lift ok g h
theorem de_callTy {T : List V → Hp → VK → Prop} {r : CallD} {id : String} {x : Str} (hc : CallR X (.type id) T) (ok : CallOk X.K T r) (hg : Gl X x) (hm : X.mg x = none) (hv : bootBuiltins x = some (.type id)) (ha : DA X (e :: es) ts) (hn : x ≠ "__name__" := by decide)
    (hdb : (x == ("__debug__" : Str)) = false := by decide) (he : starEach (e :: es) X.env = (false, eval e X.env) :: starEach es X.env := by rfl) (hpl : (backTo pos (starEach es X.env)).any (·.1) = false := by rfl) :
    DE X (.Call (.Name x p) (e :: es) [] pos) (dCall r ts) := .of (pe_callTy hc hg hm hv ha.pa hn hdb he hpl) fun σ H c O η E Q g h => call_lift ok g h
end
end DL

/-! DLsort: sorted of alike data: tuples of any length among them, the empty one first. -/
namespace DL
open PySem PySem.Spec PyProof.Rows L2 PySem.W PySem.SeqAt
section
variable {prog : Program} {w : World} {A : Around} {s : Shared}
theorem call_tuple_lt' {E : Value → Shared → Prop} {Q : Value → Shared → Prop} {l b : Addr} {items items2 : Array Value} {e r : Nat → Bool} (hl : s.heap.IsTuple l items) (hb : s.heap.IsTuple b items2)
    (he : ∀ j (h1 : j < items.size) (h2 : j < items2.size), EqAt A.in1 s items[j] items2[j] (e j))
    (hr : ∀ j (h1 : j < items.size) (h2 : j < items2.size), e j = false → PySem.SeqAt.RcLt A.in1 s items[j] items2[j] (r j))
    (h : Q (.bool (firstLt e r (decide (items.size < items2.size)) (List.range (min items.size items2.size)))) s) :
    wpAny (model prog w) A (call (.builtin "tuple.__lt__") [.ref l, .ref b]) Q E s := by
  obtain ⟨ol, ho, hc, n, hd⟩ := hl
  obtain ⟨ob, ho2, hc2, n2, hd2⟩ := hb
  obtain ⟨cls, dd, data, sl⟩ := ol
  obtain ⟨cls2, dd2, data2, sl2⟩ := ob
  cases hc; cases hd; cases hc2; cases hd2
  exact call_meets F.slot_tuple_lt ⟨_, ho, rfl⟩ F.entry_tuple_lt (F.args_tuple_lt_2 _ _) (PySem.SeqAt.tuple_ltAt l b items items2 n n2 dd dd2 sl sl2 e r) ⟨ho, ho2, he, hr, h⟩
theorem oneLt_tuples {xs ys : List PyData} {a b : Value} {as bs : List Addr} {E : Value → Shared → Prop} {Q : Bool → Shared → Prop} (ra : Reads s.heap a (.tuple xs) as) (rb : Reads s.heap b (.tuple ys) bs) (h : alike (.tuple xs) (.tuple ys) = true)
    (hu : A.units + min (PyData.tuple xs).depth (PyData.tuple ys).depth < cLine) (hq : Q (dataLt (.tuple xs) (.tuple ys)) s) : wpAny (model prog w) A (oneLt' true a b) Q E s := by
  have hal : alikeAll xs ys = true := by simpa [alike] using h
  cases ra with
  | @tuple l o vs n _ _ h1 h2 h3 h4 =>
    cases rb with
    | @tuple l' o' vs' n' _ _ k1 k2 k3 k4 =>
      have n1 : vs.size = xs.length := by simpa using ReadsAll.length _ _ _ h4
      have n2 : vs'.size = ys.length := by simpa using ReadsAll.length _ _ _ k4
      rw [dataLt_tuple, ← firstLt_toks xs ys hal, ← n1, ← n2] at hq
      rw [oneLt'_eq]
      simp only [if_true]
      refine wpAny_bind (wpAny_cRoomFor (room_here hu) ?_)
      refine wpAny_bind (wpAny_callSpecialIfBound?_slot (T := "tuple") ⟨_, h1, h2⟩ F.slot_tuple_lt ?_)
      refine call_tuple_lt' (e := pairEq xs ys) (r := fun j => dataLt (xs.getD j .none) (ys.getD j .none)) ⟨_, h1, h2, _, h3⟩ ⟨_, k1, k2, _, k3⟩ (fun j j1 j2 => ?_) (fun j j1 j2 hj => ?_) ?_
      · have z := eqAt_alikeAll xs ys A.in1 s vs.toList vs'.toList _ _ h4 k4 hal (room_in hu) j (by simpa using j1) (by simpa using j2)
        simpa using z
      · have z := rcLt_alikeAll xs ys A.in1 s vs.toList vs'.toList _ _ h4 k4 hal (room_in hu) j (by simpa using j1) (by simpa using j2) hj
        simpa using z
      · exact wpAny_truthy_bool hq
end
section
variable {prog : Program} {w : World} {A : Around} {s : Shared} {E : Value → Shared → Prop}
theorem first_tuple {v : Value} {xs : List PyData} {as : List Addr} {Q : Option Value → Shared → Prop} (r : Reads s.heap v (.tuple xs) as) (h : ∀ o, (o = none ↔ xs = []) → Q o s) : wpAny (model prog w) A (firstOfTuple' v) Q E s := by
  cases r with
  | @tuple a o vs n _ _ h1 h2 h3 h4 =>
    have n1 : vs.size = xs.length := by simpa using ReadsAll.length _ _ _ h4
    rw [kas_first_eq]
    refine wpAny_bind ((looks_reads (.tuple h1 h2 h3 h4)).here ?_)
    rw [if_neg (by show ¬ (Value.type "tuple" != Value.type "tuple") = true; decide)]
    refine wpAny_bind (wpAny_listItems h1 h3 (wpAny_pure (h _ ?_)))
    constructor
    · intro z
      have : vs.size ≤ 0 := by simpa using z
      cases xs with
      | nil => rfl
      | cons x r => rw [n1] at this; simp at this
    · rintro rfl
      have : vs.size = 0 := n1
      simp [this]
theorem firsts_tuples : ∀ {vs : List Value} {ds : List PyData} {Q : List (Option Value) → Shared → Prop}, EachIs (fun v d => ∃ as, Reads s.heap v d as) vs ds → (∀ d, d ∈ ds → ∃ xs, d = .tuple xs) →
    (∀ rs : List (Option Value), (rs[0]? = some none ↔ ds[0]? = some (.tuple [])) → rs.length = ds.length → Q rs s) → wpAny (model prog w) A (vs.mapM firstOfTuple') Q E s
  | _, _, Q, .nil, _, h => by
    rw [List.mapM_nil]
    exact wpAny_pure (h [] (by simp) rfl)
  | v :: vs, d :: ds, Q, .cons ⟨as, r⟩ t, ht, h => by
    obtain ⟨xs, rfl⟩ := ht d List.mem_cons_self
    rw [List.mapM_cons]
    refine wpAny_bind (first_tuple r fun o ho => wpAny_bind (firsts_tuples t (fun d hd => ht d (List.mem_cons_of_mem _ hd)) fun rs _ hl => wpAny_pure (h (o :: rs) ?_ ?_)))
    · simp only [List.getElem?_cons_zero, Option.some.injEq, PyData.tuple.injEq]
      exact ho
    · rw [List.length_cons, List.length_cons, hl]
end
section
variable {prog : Program} {w : World} {A : Around} {s : Shared}
/-- tuples, the first of them empty: all are taken as of one type -/
theorem SortsAt.empties {vs : List Value} {ds : List PyData} (e : EachIs (fun v d => ∃ as, Reads s.heap v d as) vs ds) (hal : AllAlike ds) (ht : ∀ d, d ∈ ds → ∃ xs, d = .tuple xs) (h0 : ds[0]? = some (.tuple [])) (hu : ∀ d, d ∈ ds → A.units + d.depth < cLine) :
    SortsAt prog w A s (dataKind s.heap ds) vs := by
  have room : ∀ {d d' : PyData}, d ∈ ds → A.units + min d.depth d'.depth < cLine := fun {d d'} hd => Nat.lt_of_le_of_lt (Nat.add_le_add_left (Nat.min_le_left _ _) _) (hu d hd)
  refine ⟨fun v hv => ?_, oneType', fun E x y a b Q ha hb hq => ?_, fun h2 E Q hq => ?_⟩
  · obtain ⟨d, hd, as, r⟩ := e.left v hv
    exact ⟨_, dataKind_some hal hd r⟩
  · obtain ⟨d, as, hd, ra, rfl⟩ := dataKind_inv ha
    obtain ⟨d', as', hd', rb, rfl⟩ := dataKind_inv hb
    obtain ⟨xs, rfl⟩ := ht d hd
    obtain ⟨ys, rfl⟩ := ht d' hd'
    rw [keyLt'_oneType]
    exact oneLt_tuples ra rb (hal _ hd _ hd') (room hd) hq
  · rw [keyKind'_eq, List.mapM_toArray, map_eq_pure_bind]
    refine wpAny_bind (wpAny_bind (firsts_tuples e ht fun rs hr hl => wpAny_pure ?_))
    have e0 : rs[0]? = some none := hr.mpr h0
    have e1 : (rs.toArray.all fun x => x.isSome) = false := by
      cases rs with
      | nil => simp at e0
      | cons a r =>
        have : a = none := by simpa using e0
        subst this
        simp
    rw [if_neg (by rw [e1]; decide)]
    rw [if_neg (by simp [e0])]
    have hT : ∀ v ∈ vs, Looks (model prog w) s.heap (typeOf v) (Value.type "tuple") := fun v hv => by
      obtain ⟨d, hd, as, r⟩ := e.left v hv
      obtain ⟨xs, rfl⟩ := ht d hd
      exact looks_reads r
    rw [oneTypeOnly'_eq, List.mapM_toArray, map_eq_pure_bind]
    refine wpAny_bind (wpAny_bind (wpAny_bind (kas_mapM (r := Value.type "tuple") _ (fun v hv Q' hq => (hT v hv).here hq) (wpAny_pure ?_))))
    cases vs with
    | nil => simp at h2
    | cons v r =>
      have h3 : ((List.map (fun _ => Value.type "tuple") (v :: r)).toArray.all fun x => x == Value.type "tuple") = true := by
        simp only [List.all_toArray, List.all_map, List.all_eq_true]
        intro _ _
        rfl
      have h4 : (List.map (fun _ => Value.type "tuple") (v :: r)).toArray[0]? = some (Value.type "tuple") := by simp
      rw [h4]
      simp only [h3, if_true]
      exact wpAny_pure (wpAny_pure hq)
end
end DL

/-! DL3: the built-ins over data. -/
namespace DL
open PySem PySem.Spec PyProof.Rows L2
section
variable {K : PySem.W.Frag} {O : Addr → Prop} {H : Hp}
mutual
theorem nd_alike : ∀ d : D, PySem.W.alike d d = true → d.hasDict = false
  | .none, _ => rfl
  | .bool _, _ => rfl
  | .int _, _ => rfl
  | .str _, _ => rfl
  | .list xs, h => by
    rw [PySem.W.alike] at h
    simpa [PyData.hasDict] using nd_alikes xs h
  | .tuple xs, h => by
    rw [PySem.W.alike] at h
    simpa [PyData.hasDict] using nd_alikes xs h
  | .dict _, h => by simp [PySem.W.alike] at h
theorem nd_alikes : ∀ xs : List D, PySem.W.alikeAll xs xs = true → PyData.hasDictAll xs = false
  | [], _ => rfl
  | x :: xs, h => by
    simp only [PySem.W.alikeAll, Bool.and_eq_true] at h
    rw [PyData.hasDictAll, nd_alike x h.1, nd_alikes xs h.2]
    rfl
end
theorem nd_each : ∀ {ds : List D}, (∀ d ∈ ds, d.hasDict = false) → PyData.hasDictAll ds = false
  | [], _ => rfl
  | d :: ds, h => by
    rw [PyData.hasDictAll, h d List.mem_cons_self, nd_each fun x hx => h x (List.mem_cons_of_mem _ hx)]
    rfl
theorem nd_all {ds : List D} (h : PySem.W.AllAlike ds) : PyData.hasDictAll ds = false := nd_each fun d hd => nd_alike d (h d hd d hd)
theorem RepAll.each {X : Cx} {pins : List (Addr × Obj)} {σ : L2.St} {s : Shared} (I : Inv X pins σ H s) : ∀ {vs : List V} {ds : List D} {us : List Value}, PyData.hasDictAll ds = false → RepAll X.K O H vs ds → Vals vs us → PySem.W.EachIs (fun u d => ∃ as, Reads s.heap u d as) us ds
  | _, _, _, _, .nil, .nil => .nil
  | _, _, _, n, .cons r t, .cons rv tv => .cons (Dp.reads I _ _ _ (r.dp (by simp only [PyData.hasDictAll, Bool.or_eq_false_iff] at n; exact n.1)) rv) (RepAll.each I (by simp only [PyData.hasDictAll, Bool.or_eq_false_iff] at n; exact n.2) t tv)
theorem RepAll.each2 : ∀ {vs : List V} {ds : List D} {us : List Value}, RepAll K O H vs ds → Vals vs us → PySem.W.EachIs (fun u d => ∃ x, RelV x u ∧ Rep K O H x d) us ds
  | _, _, _, .nil, .nil => .nil
  | _, _, _, .cons r t, .cons rv tv => .cons ⟨_, rv, r⟩ (RepAll.each2 t tv)
theorem each_out : ∀ {us : List Value} {ds : List D}, PySem.W.EachIs (fun u d => ∃ x, RelV x u ∧ Rep K O H x d) us ds → ∃ vs, Vals vs us ∧ RepAll K O H vs ds
  | _, _, .nil => ⟨[], .nil, .nil⟩
  | _, _, .cons ⟨x, r, h⟩ t => by
    obtain ⟨vs, h1, h2⟩ := each_out t
    exact ⟨x :: vs, .cons r h1, .cons h h2⟩
end
def sortD (ds : List D) : List D := ds.mergeSort (PySem.W.dataLe false id)
def SrtOk (ds : List D) : Prop := PySem.W.AllAlike ds ∧ (PySem.W.Sortable ds ∨ ((∀ d, d ∈ ds → ∃ xs, d = .tuple xs) ∧ ds[0]? = some (.tuple []))) ∧ ∀ d, d ∈ ds → d.depth ≤ 60
section
variable {X : Cx} {a b e : Expr} {es rest : List Expr} {pos p : Pos} {ta tb tc t u : ET} {ts : AT}
def rSortD (K : PySem.W.Frag) : List V → Hp → VK → Prop := fun vs H Q => ∃ (a : Addr) (xs : List V) (ds : List D) (O : Addr → Prop), vs = [.ref a] ∧ H a = some (.lst xs) ∧ RepAll K O H xs ds ∧ SrtOk ds ∧
  ∀ p ys, H p = none → RepAll K O H ys (sortD ds) → Q (.ref p) (upd H p (.lst ys))
theorem cr_sortD (hu : X.A.units + 64 < cLine) : CallR X (.builtin "sorted") (rSortD X.K) := by
  intro pins s σ H vs us Q I r h
  obtain ⟨a, xs, ds, O, rfl, ha, rx, ⟨hal, hs, hd⟩, q⟩ := h
  cases r with
  | cons r1 r2 =>
    cases r2
    cases r1
    obtain ⟨its, rv, hp, hz⟩ := I.list (.of ha)
    have hl := rx.length
    have hl2 := rv.length
    have e1 := rx.each2 rv
    have er := RepAll.each I (nd_all hal) rx rv
    have mid : ∀ d, d ∈ ds → X.A.in1.in1.units + d.depth < cLine := fun d hm => by
      have := hd d hm
      show X.A.units + 1 + 1 + d.depth < cLine
      omega
    have er' : PySem.W.EachIs (fun v d => ∃ as, Reads (PySem.W.sortingHeap (PySem.W.copyHeap s.heap its) (s.heap.objs.size + 1) its) v d as) its ds := er.mono fun _ _ ⟨as, r⟩ => ⟨as, PyProof.Rows.Reads.keeps (fun _ _ => PySem.W.sorting_copy_old) r⟩
    have S : PySem.W.SortsAt X.prog X.w X.A.in1.in1 { s with heap := PySem.W.sortingHeap (PySem.W.copyHeap s.heap its) (s.heap.objs.size + 1) its } (PySem.W.dataKind (PySem.W.sortingHeap (PySem.W.copyHeap s.heap its) (s.heap.objs.size + 1) its) ds) its := by
      rcases hs with hs | ⟨ht, h0⟩
      · exact PySem.W.SortsAt.data (s := { s with heap := PySem.W.sortingHeap (PySem.W.copyHeap s.heap its) (s.heap.objs.size + 1) its }) er' hal hs mid
      · exact SortsAt.empties (s := { s with heap := PySem.W.sortingHeap (PySem.W.copyHeap s.heap its) (s.heap.objs.size + 1) its }) er' hal ht h0 mid
    have ms : ds.map id = ds := List.map_id _
    have so := PySem.W.sortVals_data (h' := PySem.W.sortingHeap (PySem.W.copyHeap s.heap its) (s.heap.objs.size + 1) its) (enc := id) false e1 er' (by rw [ms]; exact hal)
    rw [ms] at so
    obtain ⟨ys, hv, hy⟩ := each_out so
    refine PySem.W.sorted_vals hp.isList S (by omega) ?_
    obtain ⟨c, hc⟩ := PyProof.Rows.sortedAll_at s.heap its (PySem.W.sortVals (PySem.W.dataKind (PySem.W.sortingHeap (PySem.W.copyHeap s.heap its) (s.heap.objs.size + 1) its) ds) false its its).toArray
    have hp0 : s.heap.objs.size ≤ s.heap.objs.size + 1 := Nat.le_succ _
    have hq := q (s.heap.objs.size + 1) ys (I.hok.fresh hp0) hy
    have hlen : ys.length = xs.length := by rw [hy.length, (List.mergeSort_perm _ _).length_eq, hl]
    refine ⟨.ref (s.heap.objs.size + 1), _, I.laid (o := .lst ys) (t' := s.toks) (fun b o e => PyProof.Rows.sortedAll_old e) hp0 ⟨by rw [hlen]; exact hz, _, c, hv, hc⟩, rfl, hq⟩

/-! lists that are made -/
def nCall (r : List D → (List D → Prop) → Prop) (ts : AT) : NT := fun E η Q => ts E η fun ds => r ds Q
def NewOk (K : PySem.W.Frag) (T : List V → Hp → VK → Prop) (r : List D → (List D → Prop) → Prop) : Prop := ∀ (G : Option (Addr × Addr)) (O : Addr → Prop) (H : Hp) (xs : List V) (ds : List D) (Q : List D → Prop) (R : VK), Base G O H → RepAll K O H xs ds → r ds Q →
  (∀ es vs, RepAll K O H vs es → Q es → ∀ p, H p = none → R (.ref p) (upd H p (.lst vs))) → T xs H R
theorem new_lift {X : Cx} {T : List V → Hp → VK → Prop} {r : List D → (List D → Prop) → Prop} (ok : NewOk X.K T r) {σ : L2.St} {H : Hp} {c : Ctx} {O : Addr → Prop} {η : EnvD} {E : XP} {Q : List D → Prop} {R : VK} (g : Gd X c E O η σ H) (h : nCall r ts E η Q) (k : ∀ v H', NewK X.K c O H Q v H' → R v H') :
    tCB T (liftA X ts) σ H R :=
  ⟨c, O, η, E, _, g, h, fun ds vs H1 s1 r1 h1 => ok c.G O H1 vs ds Q _ (g.step s1).base r1 h1 fun es ws r2 q => newk g s1 r2 q k⟩
theorem dn_callB {T : List V → Hp → VK → Prop} {r : List D → (List D → Prop) → Prop} {id : String} {x : Str} (hc : CallR X (.builtin id) T) (ok : NewOk X.K T r) (hg : Gl X x) (hm : X.mg x = none) (hv : bootBuiltins x = some (.builtin id)) (ha : DA X (e :: es) ts) (hn : x ≠ "__name__" := by decide)
    (hdb : (x == ("__debug__" : Str)) = false := by decide) (he : starEach (e :: es) X.env = (false, eval e X.env) :: starEach es X.env := by rfl) (hpl : (backTo pos (starEach es X.env)).any (·.1) = false := by rfl) :
    DN X (.Call (.Name x p) (e :: es) [] pos) (nCall r ts) := .of (pe_callB hc hg hm hv ha.pa hn hdb he hpl) fun σ H c O η E Q R g h k => new_lift ok g h k
theorem dn_callTy {T : List V → Hp → VK → Prop} {r : List D → (List D → Prop) → Prop} {id : String} {x : Str} (hc : CallR X (.type id) T) (ok : NewOk X.K T r) (hg : Gl X x) (hm : X.mg x = none) (hv : bootBuiltins x = some (.type id)) (ha : DA X (e :: es) ts) (hn : x ≠ "__name__" := by decide)
    (hdb : (x == ("__debug__" : Str)) = false := by decide) (he : starEach (e :: es) X.env = (false, eval e X.env) :: starEach es X.env := by rfl) (hpl : (backTo pos (starEach es X.env)).any (·.1) = false := by rfl) :
    DN X (.Call (.Name x p) (e :: es) [] pos) (nCall r ts) := .of (pe_callTy hc hg hm hv ha.pa hn hdb he hpl) fun σ H c O η E Q R g h k => new_lift ok g h k
def fSorted : List D → (List D → Prop) → Prop
  | [.list xs], Q => SrtOk xs ∧ Q (sortD xs)
  | _, _ => False
theorem dn_sorted (hu : X.A.units + 65 < cLine) (hg : Gl X "sorted") (hm : X.mg "sorted" = none) (ha : DA X [e] ts) (he : starEach [e] X.env = (false, eval e X.env) :: starEach [] X.env := by rfl) : DN X (.Call (.Name "sorted" p) [e] [] pos) (nCall fSorted ts) := by
  refine dn_callB (cr_sortD (Nat.lt_of_succ_lt hu)) ?_ hg hm (by decide +kernel) ha (he := he)
  intro G O H xs ds Q R B r h k
  match ds, h with
  | [.list zs], ⟨h1, h2⟩ =>
    cases r with
    | cons r1 r2 =>
      cases r2
      cases r1 with
      | lst o h0 rr => exact ⟨_, _, zs, O, rfl, h0, rr, h1, fun p ys hp hy => k _ _ hy h2 p hp⟩
/-- list(x) -/
def fList : List D → (List D → Prop) → Prop
  | [.list xs], Q => Q xs
  | [.tuple xs], Q => Q xs
  | _, _ => False
theorem dn_list (hg : Gl X "list") (hm : X.mg "list" = none) (ha : DA X [e] ts) (he : starEach [e] X.env = (false, eval e X.env) :: starEach [] X.env := by rfl) : DN X (.Call (.Name "list" p) [e] [] pos) (nCall fList ts) := by
  refine dn_callTy call_list_of ?_ hg hm boot_list ha (he := he)
  intro G O H xs ds Q R B r h k
  match ds, h with
  | [.list zs], h =>
    cases r with
    | cons r1 r2 =>
      cases r2
      cases r1 with
      | lst o h0 rr => exact ⟨_, _, rfl, .inl (.of h0), k _ _ rr h⟩
  | [.tuple zs], h =>
    cases r with
    | cons r1 r2 =>
      cases r2
      cases r1 with
      | tup h0 rr => exact ⟨_, _, rfl, .inr h0.sq, k _ _ rr h⟩
/-- tuple(x) -/
def fTuple : CallD
  | [.list xs], Q => Q (.tuple xs)
  | [.tuple xs], Q => Q (.tuple xs)
  | _, _ => False
theorem de_tuple (hg : Gl X "tuple") (hm : X.mg "tuple" = none) (ha : DA X [e] ts) (he : starEach [e] X.env = (false, eval e X.env) :: starEach [] X.env := by rfl) : DE X (.Call (.Name "tuple" p) [e] [] pos) (dCall fTuple ts) := by
  refine de_callTy call_tuple_of ?_ hg hm boot_tuple ha (he := he)
  intro G O H xs ds Q R B r h k
  match ds, h with
  | [.list zs], h =>
    cases r with
    | cons r1 r2 =>
      cases r2
      cases r1 with
      | lst o h0 rr => exact ⟨_, _, rfl, .inl ⟨.of h0, way_newT B k rr h⟩⟩
  | [.tuple zs], h =>
    cases r with
    | cons r1 r2 =>
      cases r2
      cases r1 with
      | tup h0 rr => exact ⟨_, _, rfl, .inr ⟨h0.sq, way_here B k (.tup h0 rr) h⟩⟩
/-- len(x) -/
def fLen : CallD
  | [.list xs], Q => Q (.int xs.length)
  | [.tuple xs], Q => Q (.int xs.length)
  | [.str x], Q => x.length ≤ sizeLine ∧ Q (.int x.length)
  | _, _ => False
theorem de_len (hg : Gl X "len") (hm : X.mg "len" = none) (ha : DA X [e] ts) (he : starEach [e] X.env = (false, eval e X.env) :: starEach [] X.env := by rfl) : DE X (.Call (.Name "len" p) [e] [] pos) (dCall fLen ts) := by
  refine de_callB call_len ?_ hg hm PySem.boot_len ha (he := he)
  intro G O H xs ds Q R B r h k
  match ds, h with
  | [.list zs], h =>
    cases r with
    | cons r1 r2 =>
      cases r2
      cases r1 with
      | lst o h0 rr => exact ⟨_, zs.length, rfl, .inl ⟨_, .of h0, rr.length.symm⟩, way_here B k (.int _) h⟩
  | [.tuple zs], h =>
    cases r with
    | cons r1 r2 =>
      cases r2
      cases r1 with
      | tup h0 rr => exact ⟨_, zs.length, rfl, .inr ⟨_, h0.sq, rr.length.symm⟩, way_here B k (.int _) h⟩
  | [.str x], ⟨hx, h⟩ =>
    cases r with
    | cons r1 r2 =>
      cases r2
      cases r1
      exact ⟨_, x.length, rfl, ⟨hx, rfl⟩, way_here B k (.int _) h⟩
/-! all, any, sum -/
def isB : D → Bool
  | .bool _ => true
  | _ => false
def bOf : D → Bool
  | .bool b => b
  | _ => false
def isI : D → Bool
  | .int _ => true
  | _ => false
def iOf : D → Int
  | .int i => i
  | _ => 0
theorem bools_of {K : PySem.W.Frag} {O : Addr → Prop} {H : Hp} : ∀ {vs : List V} {ds : List D}, RepAll K O H vs ds → ds.all isB = true → vs = (ds.map bOf).map V.bl
  | _, _, .nil, _ => rfl
  | _, _, .cons r t, h => by
    rw [List.all_cons, Bool.and_eq_true] at h
    cases r <;> first | exact congrArg _ (bools_of t h.2) | exact absurd h.1 (by simp [isB, isI])
def fAll : CallD
  | [.list xs], Q => xs.all isB = true ∧ Q (.bool ((xs.map bOf).all id))
  | _, _ => False
def fAny : CallD
  | [.list xs], Q => xs.all isB = true ∧ Q (.bool ((xs.map bOf).any id))
  | _, _ => False
def fSum : CallD
  | [.list xs], Q => xs.all isI = true ∧ Q (.int (xs.map iOf).sum)
  | _, _ => False
theorem de_all (hc : X.calm = true) (hg : Gl X "all") (hm : X.mg "all" = none) (ha : DA X [e] ts) (he : starEach [e] X.env = (false, eval e X.env) :: starEach [] X.env := by rfl) : DE X (.Call (.Name "all" p) [e] [] pos) (dCall fAll ts) := by
  refine de_callB (cr_all hc) ?_ hg hm (by decide +kernel) ha (he := he)
  intro G O H xs ds Q R B r h k
  match ds, h with
  | [.list zs], ⟨hb, h⟩ =>
    cases r with
    | cons r1 r2 =>
      cases r2
      cases r1 with
      | lst o h0 rr => exact ⟨_, zs.map bOf, rfl, by rw [← bools_of rr hb]; exact .of h0, way_here B k (.bl _) h⟩
/-! int(x), max(a, b), min(a, b) -/
def fInt : CallD
  | [.int i], Q => Q (.int i)
  | [.bool b], Q => Q (.int (if b then 1 else 0))
  | _, _ => False
def fMin2 : CallD
  | [.int i, .int j], Q => Q (.int (if j < i then j else i))
  | _, _ => False
def fMax2 : CallD
  | [.int i, .int j], Q => Q (.int (if j > i then j else i))
  | _, _ => False
theorem de_min2 (hc : X.calm = true) (hg : Gl X "min") (hm : X.mg "min" = none) (ha : DA X [e, b] ts) (he : starEach [e, b] X.env = (false, eval e X.env) :: starEach [b] X.env := by rfl) (hpl : (backTo pos (starEach [b] X.env)).any (·.1) = false := by rfl) : DE X (.Call (.Name "min" p) [e, b] [] pos) (dCall fMin2 ts) := by
  refine de_callB (call_min2 hc) ?_ hg hm (by decide +kernel) ha (he := he) (hpl := hpl)
  intro G O H xs ds Q R B r h k
  match ds, h with
  | [.int i, .int j], h =>
    cases r with
    | cons r1 r2 =>
      cases r2 with
      | cons r2 r3 =>
        cases r3
        cases r1
        cases r2
        exact ⟨i, j, rfl, way_here B k (.int _) h⟩
/-! list + list, list * n as new lists -/
def nCat (ta tb : NT) : NT := fun E η Q => ta E η fun x => tb E η fun y => x.length + y.length ≤ sizeLine ∧ Q (x ++ y)
/-! isinstance -/
def tyOf : D → String
  | .none => "NoneType"
  | .bool _ => "bool"
  | .int _ => "int"
  | .str _ => "str"
  | .list _ => "list"
  | .tuple _ => "tuple"
  | .dict _ => "dict"
def isiN (T n : String) : Bool := n == T || (T == "int" && n == "bool")
def isiD (T : String) (d : D) : Bool := isiN T (tyOf d)
theorem kit_of {T : String} (h : (["NoneType", "bool", "int", "str", "list", "tuple", "dict"].all fun n => decide (kitB n T = some (isiN T n))) = true) (d : D) : kitB (tyOf d) T = some (isiD T d) := by
  rw [List.all_eq_true] at h
  have := h (tyOf d) (by cases d <;> simp [tyOf])
  exact of_decide_eq_true this
def dIsi (T : String) (ta : ET) : ET := fun E η Q => ta E η fun d => Q (.bool (isiD T d))
/-- a value's class, dicts among them -/
def TyD (K : PySem.W.Frag) (H : Hp) (v : V) (t : Value) : Prop := TyX K H v t ∨ ∃ a es ep, v = .ref a ∧ H a = some (dictO a es ep) ∧ t = .type "dict"
theorem kitD_of {X : Cx} {pins : List (Addr × Obj)} {σ : L2.St} {H : Hp} {s : Shared} {x : V} {u t : Value} (I : Inv X pins σ H s) (rx : RelV x u) (ty : TyD X.K H x t) : ∃ P : Heap → Prop, PySem.W.KitX X.K u t P ∧ P s.heap ∧ u ≠ .builtin "__main__.__loader__#opaque" := by
  rcases ty with ty | ⟨a, es, ep, rfl, ha, rfl⟩
  · exact L2.kit_of I rx ty
  · cases rx
    obtain ⟨⟨o, h1, h2, _⟩, _⟩ := I.hok a _ ha
    exact ⟨_, PySem.W.kitx_dict, ⟨o, h1, h2.1⟩, fun z => nomatch z⟩
def rIsiD (K : PySem.W.Frag) : List V → Hp → VK → Prop := fun xs H Q => ∃ (x c : V) (t u : Value) (b : Bool), xs = [x, c] ∧ ClsV c u ∧ TyD K H x t ∧ PySem.W.kitOne K t u = some b ∧ Q (.bl b) H
theorem call_isiD {X : Cx} : CallR X (.builtin "isinstance") (rIsiD X.K) := by
  intro pins s σ H xs us Q I r h
  obtain ⟨x, c, t, u, b, rfl, k, ty, e, q⟩ := h
  obtain ⟨u1, u2, rfl, r1, r2⟩ := vals2 r
  have e2 := k.eq r2
  subst e2
  obtain ⟨P, Z, p, hx⟩ := kitD_of I r1 ty
  exact PySem.W.kia_one Z I.kIn p e hx fun tk => ⟨.bl b, H, I.tok tk, rfl, q⟩
theorem rep_ty {K : PySem.W.Frag} {O : Addr → Prop} {H : Hp} {v : V} {d : D} (r : Rep K O H v d) : TyD K H v (.type (tyOf d)) := by
  cases r with
  | dct o h => exact .inr ⟨_, _, _, rfl, h, rfl⟩
  | non => exact .inl <| .base .non
  | bl b => exact .inl <| .base (.bl b)
  | int i => exact .inl <| .base (.int i)
  | str x => exact .inl <| .base (.str x)
  | lst o h rr => exact .inl <| .base (.lst h)
  | tup h rr =>
    rcases h with h | ⟨o, its, n, h1, h2, _⟩
    · exact .inl <| .base (.tup h)
    · exact .inl <| .kTuple h1 h2
theorem de_isi {T : String} {x : Str} {p2 : Pos} (hT : ∀ d, kitB (tyOf d) T = some (isiD T d)) (hg : Gl X "isinstance") (hm : X.mg "isinstance" = none) (hgT : Gl X x) (hmT : X.mg x = none) (hvT : bootBuiltins x = some (.type T)) (ha : DE X a ta) (hn : x ≠ "__name__" := by decide) (hdb : (x == ("__debug__" : Str)) = false := by decide)
    (he : starEach [a, .Name x p2] X.env = (false, eval a X.env) :: starEach [.Name x p2] X.env := by rfl) (hpl : (backTo pos (starEach [.Name x p2] X.env)).any (·.1) = false := by rfl) :
    DE X (.Call (.Name "isinstance" p) [a, .Name x p2] [] pos) (dIsi T ta) := by
  refine .of (pe_callB call_isiD hg hm (by decide +kernel) (pa_cons ha.pe (pa_cons (pe_bltn (v := .ty T) hgT hmT hvT rfl hn hdb) pa_nil) he) (by decide) (by decide) he hpl) fun σ H c O η E Q g h => ?_
  exact ⟨c, O, η, E, _, g, h, fun d v H' s r q => ⟨v, .ty T, _, _, _, rfl, .ty T, rep_ty r, kit_ty (hT d), _, s, .bl _, q⟩⟩
theorem kit_int : ∀ d, kitB (tyOf d) "int" = some (isiD "int" d) := kit_of (by decide +kernel)
theorem kit_bool : ∀ d, kitB (tyOf d) "bool" = some (isiD "bool" d) := kit_of (by decide +kernel)
theorem kit_tuple : ∀ d, kitB (tyOf d) "tuple" = some (isiD "tuple" d) := kit_of (by decide +kernel)
/-! repr -/
def reprOk (d : D) : Prop := d.showable = true ∧ d.shown.length ≤ sizeLine ∧ d.depth ≤ 60
def fRepr : CallD
  | [d], Q => reprOk d ∧ d.hasDict = false ∧ Q (.str d.shown)
  | _, _ => False
theorem cr_reprD (hg : X.A.guards = some []) (hu : X.A.units + 65 < cLine) : CallR X (.builtin "repr") (fun xs H Q => ∃ x d, xs = [x] ∧ Dp X.K H x d ∧ reprOk d ∧ d.hasDict = false ∧ Q (.str d.shown) H) := by
  intro pins s σ H xs us Q I r h
  obtain ⟨x, d, rfl, hd, ⟨h1, h2, h3⟩, h4, q⟩ := h
  cases r with
  | cons r1 r2 =>
    cases r2
    obtain ⟨as, rd⟩ := Dp.reads I d x _ hd r1
    have fin : ∀ h' u tk, (∀ b o, s.heap.get? b = some o → h'.get? b = some o) → EP X pins σ Q (.str d.shown u) { s with heap := h', toks := tk } := fun h' u tk hk => ⟨.str d.shown, H, I.kept hk, ⟨_, rfl⟩, q⟩
    cases hd with
    | lst hs ha =>
      cases r1
      exact repr_of_reads' rd h1 (PySem.PyData.noDict_hsm h4) hg (by omega) (fun _ _ e => e) fin h2
    | tup hs ha =>
      cases r1
      exact repr_of_reads' rd h1 (PySem.PyData.noDict_hsm h4) hg (by omega) (fun _ _ e => e) fin h2
    | non =>
      cases r1
      exact PySem.P.repr_of_none (by simpa [PyData.shown] using fin s.heap s.toks (s.toks + 1) fun _ _ e => e)
    | bl b =>
      cases r1
      refine PySem.P.repr_of_bool ?_
      have := fin s.heap s.toks (s.toks + 1) fun _ _ e => e
      simpa [PyData.shown] using this
    | int i =>
      obtain ⟨t, rfl⟩ := r1
      refine PySem.P.repr_of_int (by simpa [PyData.showable] using h1) ?_
      simpa [PyData.shown] using fin s.heap s.toks (s.toks + 1) fun _ _ e => e
    | str x =>
      obtain ⟨t, rfl⟩ := r1
      refine PySem.P.repr_of_str ?_ (by simpa [PyData.shown] using h2)
      simpa [PyData.shown] using fin s.heap s.toks (s.toks + 1) fun _ _ e => e
theorem de_repr (hgd : X.A.guards = some []) (hu : X.A.units + 65 < cLine) (hg : Gl X "repr") (hm : X.mg "repr" = none) (ha : DA X [e] ts) (he : starEach [e] X.env = (false, eval e X.env) :: starEach [] X.env := by rfl) : DE X (.Call (.Name "repr" p) [e] [] pos) (dCall fRepr ts) := by
  refine de_callB (cr_reprD hgd hu) ?_ hg hm (by decide +kernel) ha (he := he)
  intro G O H xs ds Q R B r h k
  match ds, h with
  | [d], ⟨h1, h2, h⟩ =>
    cases r with
    | cons r1 r2 =>
      cases r2
      exact ⟨_, d, rfl, r1.dp h2, h1, h2, way_here B k (.str _) h⟩
end
end DL

/-! DL4: what is walked; comprehensions. -/
namespace DL
open PySem PySem.Spec PyProof.Rows L2
/-- what is walked stands still: the pairs of F are read as they are -/
def Std (K : PySem.W.Frag) (F : List (V × D)) (H : Hp) : Prop := ∃ O : Addr → Prop, ∀ p ∈ F, Rep K O H p.1 p.2
/-- turn i gives the i-th of ds -/
def YD (K : PySem.W.Frag) (F : List (V × D)) (ds : List D) : Nat → Hp → V → Hp → Prop := fun i H x H' => ∃ d, ds[i]? = some d ∧ Same H H' ∧ ∀ O : Addr → Prop, (∀ p ∈ F, Rep K O H p.1 p.2) → Rep K O H' x d
abbrev WalkD (K : PySem.W.Frag) (J : It) (F : List (V × D)) (ds : List D) : Prop := Walk J ds.length (Std K F) (YD K F ds)
abbrev IT := XP → EnvD → (List D → Prop) → Prop
def liftI (X : Cx) (t : IT) : TI := fun σ H R => ∃ (c : Ctx) (O : Addr → Prop) (η : EnvD) (E : XP) (Q : List D → Prop), Gd X c E O η σ H ∧ t E η Q ∧ ∀ J H' ds F, Step c.G H H' → (∀ p ∈ F, Rep X.K O H' p.1 p.2) → WalkD X.K J F ds → Q ds → R J H'
structure DI (X : Cx) (tg iter : Expr) (t : IT) : Prop where
  pi : PI X tg iter (liftI X t)
section
variable {K : PySem.W.Frag}
theorem rep_list {O : Addr → Prop} {H : Hp} {v : V} {ds : List D} (r : Rep K O H v (.list ds)) : ∃ a xs, v = .ref a ∧ H a = some (.lst xs) ∧ RepAll K O H xs ds := by
  cases r with
  | lst o h rr => exact ⟨_, _, rfl, h, rr⟩
theorem rep_tup {O : Addr → Prop} {H : Hp} {v : V} {ds : List D} (r : Rep K O H v (.tuple ds)) : ∃ a xs, v = .ref a ∧ TupAt K H a xs ∧ RepAll K O H xs ds := by
  cases r with
  | tup h rr => exact ⟨_, _, rfl, h, rr⟩
theorem wd_list {a : Addr} {ds : List D} : WalkD K (Itl K a) [(.ref a, .list ds)] ds where
  goes := fun i H hi ⟨O, h⟩ => by
    obtain ⟨_, xs, e, h1, rr⟩ := rep_list (h _ (List.mem_singleton.mpr rfl))
    cases e
    obtain ⟨x, hx, _⟩ := rr.getD (List.getElem?_eq_getElem hi)
    exact ⟨xs, x, .of h1, hx⟩
  stops := fun H ⟨O, h⟩ => by
    obtain ⟨_, xs, e, h1, rr⟩ := rep_list (h _ (List.mem_singleton.mpr rfl))
    cases e
    exact ⟨xs, .of h1, Nat.le_of_eq rr.length⟩
  yields := fun i H x H' hi ⟨O, h⟩ ⟨e, y⟩ => by
    subst e
    refine ⟨ds[i], List.getElem?_eq_getElem hi, .refl _, fun O' h' => ?_⟩
    obtain ⟨_, xs, e, h1, rr⟩ := rep_list (h' _ (List.mem_singleton.mpr rfl))
    cases e
    obtain ⟨d, hd, r⟩ := rr.get (y xs (.of h1))
    rw [List.getElem?_eq_getElem hi] at hd
    cases hd
    exact r
theorem wd_tup {a : Addr} {ds : List D} : WalkD K (Itt K a) [(.ref a, .tuple ds)] ds where
  goes := fun i H hi ⟨O, h⟩ => by
    obtain ⟨_, xs, e, h1, rr⟩ := rep_tup (h _ (List.mem_singleton.mpr rfl))
    cases e
    obtain ⟨x, hx, _⟩ := rr.getD (List.getElem?_eq_getElem hi)
    exact ⟨xs, x, h1.sq, hx⟩
  stops := fun H ⟨O, h⟩ => by
    obtain ⟨_, xs, e, h1, rr⟩ := rep_tup (h _ (List.mem_singleton.mpr rfl))
    cases e
    exact ⟨xs, h1.sq, Nat.le_of_eq rr.length⟩
  yields := fun i H x H' hi ⟨O, h⟩ ⟨e, y⟩ => by
    subst e
    refine ⟨ds[i], List.getElem?_eq_getElem hi, .refl _, fun O' h' => ?_⟩
    obtain ⟨_, xs, e, h1, rr⟩ := rep_tup (h' _ (List.mem_singleton.mpr rfl))
    cases e
    obtain ⟨d, hd, r⟩ := rr.get (y xs h1.sq)
    rw [List.getElem?_eq_getElem hi] at hd
    cases hd
    exact r
def rangeD (lo : Int) (n : Nat) : List D := (List.range n).map fun i => .int (lo + (i : Nat))
theorem rangeD_len (lo : Int) (n : Nat) : (rangeD lo n).length = n := by simp [rangeD]
theorem wd_range {lo : Int} {n : Nat} : WalkD K (Itr lo n) [] (rangeD lo n) where
  goes := fun i H hi _ => by rw [rangeD_len] at hi; exact hi
  stops := fun H _ => by rw [rangeD_len]; exact Nat.le_refl _
  yields := fun i H x H' hi _ ⟨e, y⟩ => by
    subst e y
    rw [rangeD_len] at hi
    refine ⟨.int (lo + i), by simp [rangeD, hi], .refl _, fun _ _ => .int _⟩
/-- pairs -/
def pairsD (xs ys : List D) : List D := (xs.zip ys).map fun p => .tuple [p.1, p.2]
theorem pairsD_len (xs ys : List D) : (pairsD xs ys).length = min xs.length ys.length := by simp [pairsD]
theorem pairsD_get {xs ys : List D} {i : Nat} {x y : D} (hx : xs[i]? = some x) (hy : ys[i]? = some y) : (pairsD xs ys)[i]? = some (.tuple [x, y]) := by
  have : (xs.zip ys)[i]? = some (x, y) := List.getElem?_zip_eq_some.mpr ⟨hx, hy⟩
  simp [pairsD, this]
theorem pair_rep {O : Addr → Prop} {H : Hp} {T : Addr} {x y : V} {dx dy : D} (hT : H T = none) (rx : Rep K O H x dx) (ry : Rep K O H y dy) : Rep K O (upd H T (.tup [x, y])) (.ref T) (.tuple [dx, dy]) :=
  .tup (.inl upd_same) (.cons (rx.same (same_upd hT)) (.cons (ry.same (same_upd hT)) .nil))
theorem min_lt {i m n : Nat} (h : i < min m n) : i < m ∧ i < n := Nat.lt_min.mp h
theorem wd_zipL {a b : Addr} {ds es : List D} : WalkD K (Itz K a b) [(.ref a, .list ds), (.ref b, .list es)] (pairsD ds es) where
  goes := fun i H hi ⟨O, h⟩ => by
    rw [pairsD_len] at hi
    obtain ⟨h1, h2⟩ := min_lt hi
    obtain ⟨_, xs, e, ha, rr⟩ := rep_list (h (.ref a, .list ds) (by simp))
    cases e
    obtain ⟨_, ys, e, hb, rs⟩ := rep_list (h (.ref b, .list es) (by simp))
    cases e
    obtain ⟨x, hx, _⟩ := rr.getD (List.getElem?_eq_getElem h1)
    obtain ⟨y, hy, _⟩ := rs.getD (List.getElem?_eq_getElem h2)
    exact ⟨xs, ys, x, y, .of ha, .of hb, hx, hy⟩
  stops := fun H ⟨O, h⟩ => by
    rw [pairsD_len]
    obtain ⟨_, xs, e, ha, rr⟩ := rep_list (h (.ref a, .list ds) (by simp))
    cases e
    obtain ⟨_, ys, e, hb, rs⟩ := rep_list (h (.ref b, .list es) (by simp))
    cases e
    refine ⟨xs, ys, .of ha, .of hb, ?_⟩
    rw [rr.length, rs.length]
    omega
  yields := fun i H v H' hi ⟨O, h⟩ ⟨T, x, y, e1, hT, e2, fx, fy⟩ => by
    subst e1 e2
    rw [pairsD_len] at hi
    obtain ⟨h1, h2⟩ := min_lt hi
    refine ⟨.tuple [ds[i], es[i]], pairsD_get (List.getElem?_eq_getElem h1) (List.getElem?_eq_getElem h2), same_upd hT, fun O' h' => ?_⟩
    obtain ⟨_, xs, e, ha, rr⟩ := rep_list (h' (.ref a, .list ds) (by simp))
    cases e
    obtain ⟨_, ys, e, hb, rs⟩ := rep_list (h' (.ref b, .list es) (by simp))
    cases e
    obtain ⟨d, hd, r⟩ := rr.get (fx xs (.of ha))
    obtain ⟨d', hd', r'⟩ := rs.get (fy ys (.of hb))
    rw [List.getElem?_eq_getElem h1] at hd
    rw [List.getElem?_eq_getElem h2] at hd'
    cases hd
    cases hd'
    exact pair_rep hT r r'
theorem wd_zipT {a b : Addr} {ds es : List D} : WalkD K (RZ.ItzT K a b) [(.ref a, .tuple ds), (.ref b, .tuple es)] (pairsD ds es) where
  goes := fun i H hi ⟨O, h⟩ => by
    rw [pairsD_len] at hi
    obtain ⟨h1, h2⟩ := min_lt hi
    obtain ⟨_, xs, e, ha, rr⟩ := rep_tup (h (.ref a, .tuple ds) (by simp))
    cases e
    obtain ⟨_, ys, e, hb, rs⟩ := rep_tup (h (.ref b, .tuple es) (by simp))
    cases e
    obtain ⟨x, hx, _⟩ := rr.getD (List.getElem?_eq_getElem h1)
    obtain ⟨y, hy, _⟩ := rs.getD (List.getElem?_eq_getElem h2)
    exact ⟨xs, ys, x, y, ha.sq, hb.sq, hx, hy⟩
  stops := fun H ⟨O, h⟩ => by
    rw [pairsD_len]
    obtain ⟨_, xs, e, ha, rr⟩ := rep_tup (h (.ref a, .tuple ds) (by simp))
    cases e
    obtain ⟨_, ys, e, hb, rs⟩ := rep_tup (h (.ref b, .tuple es) (by simp))
    cases e
    refine ⟨xs, ys, ha.sq, hb.sq, ?_⟩
    rw [rr.length, rs.length]
    omega
  yields := fun i H v H' hi ⟨O, h⟩ ⟨T, x, y, e1, hT, e2, fx, fy⟩ => by
    subst e1 e2
    rw [pairsD_len] at hi
    obtain ⟨h1, h2⟩ := min_lt hi
    refine ⟨.tuple [ds[i], es[i]], pairsD_get (List.getElem?_eq_getElem h1) (List.getElem?_eq_getElem h2), same_upd hT, fun O' h' => ?_⟩
    obtain ⟨_, xs, e, ha, rr⟩ := rep_tup (h' (.ref a, .tuple ds) (by simp))
    cases e
    obtain ⟨_, ys, e, hb, rs⟩ := rep_tup (h' (.ref b, .tuple es) (by simp))
    cases e
    obtain ⟨d, hd, r⟩ := rr.get (fx xs ha.sq)
    obtain ⟨d', hd', r'⟩ := rs.get (fy ys hb.sq)
    rw [List.getElem?_eq_getElem h1] at hd
    rw [List.getElem?_eq_getElem h2] at hd'
    cases hd
    cases hd'
    exact pair_rep hT r r'
theorem wd_enumL {a : Addr} {ds : List D} : WalkD K (Ite K a) [(.ref a, .list ds)] (pairsD (rangeD 0 ds.length) ds) where
  goes := fun i H hi ⟨O, h⟩ => by
    rw [pairsD_len, rangeD_len, Nat.min_self] at hi
    obtain ⟨_, xs, e, h1, rr⟩ := rep_list (h _ (List.mem_singleton.mpr rfl))
    cases e
    obtain ⟨x, hx, _⟩ := rr.getD (List.getElem?_eq_getElem hi)
    exact ⟨xs, x, .of h1, hx⟩
  stops := fun H ⟨O, h⟩ => by
    rw [pairsD_len, rangeD_len, Nat.min_self]
    obtain ⟨_, xs, e, h1, rr⟩ := rep_list (h _ (List.mem_singleton.mpr rfl))
    cases e
    exact ⟨xs, .of h1, Nat.le_of_eq rr.length⟩
  yields := fun i H v H' hi ⟨O, h⟩ ⟨T, x, e1, hT, e2, fx⟩ => by
    subst e1 e2
    rw [pairsD_len, rangeD_len, Nat.min_self] at hi
    refine ⟨.tuple [.int (i : Nat), ds[i]], pairsD_get (by simp [rangeD, hi]) (List.getElem?_eq_getElem hi), same_upd hT, fun O' h' => ?_⟩
    obtain ⟨_, xs, e, h1, rr⟩ := rep_list (h' _ (List.mem_singleton.mpr rfl))
    cases e
    obtain ⟨d, hd, r⟩ := rr.get (fx xs (.of h1))
    rw [List.getElem?_eq_getElem hi] at hd
    cases hd
    exact pair_rep hT (.int _) r
end
section
variable {X : Cx} {tg e e2 : Expr} {es : List Expr} {pos p : Pos} {ta tb t : ET} {ts : AT}
/-- a list or a tuple, whichever comes -/
def iSeq (t : ET) : IT := fun E η Q => t E η fun d => match d with | .list ds => Q ds | .tuple ds => Q ds | _ => False
def iBoth (K : PySem.W.Frag) (tl : TE) : TI := fun σ H R => tl σ H fun x H1 => ∃ a, x = .ref a ∧ ((∃ xs, SqL K H1 a xs ∧ R (Itl K a) H1) ∨ ∃ xs, SqT K H1 a xs ∧ R (Itt K a) H1)
/-- an iterator of one record, just made -/
theorem pie_new {pins : List (Addr × Obj)} {σ : L2.St} {H : Hp} {s : Shared} {R : It → Hp → Prop} {J : It} {tn : Nat → Heap → Prop} {o : Obj} (I : Inv X pins σ H s)
    (T : Turn X.prog X.w X.K tg J [s.heap.objs.size] s.heap.objs.size tn) (h0 : tn 0 (s.heap.push o)) (q : R J H) : PIE X pins σ tg R (.ref s.heap.objs.size) { s with heap := s.heap.push o } :=
  ⟨_, [s.heap.objs.size], tn, J, H, rfl, I.kept (t' := s.toks) (fun b u e => Heap.get?_push_of_some _ e), T, h0, fun b hb => by
    cases List.mem_singleton.mp hb
    exact I.fpOk (Nat.le_refl _) (I.hok.fresh (Nat.le_refl _)), q⟩
theorem pi_both {l : Expr} {tl : TE} (hl : PE X l tl) : PI X tg l (iBoth X.K tl) := ⟨fun pins s σ H R I h => thn (hl.run pins s σ H _ I h) fun v s1 ⟨x, H1, I1, r1, a, e, q⟩ => by
  subst e
  cases r1
  rcases q with ⟨xs, hq, q⟩ | ⟨xs, hq, q⟩
  · obtain ⟨its, rv, pl, hz⟩ := I1.list hq
    exact wpAny_pyIter_list pl.isList (pie_new I1 (turn_list a _) ⟨_, Heap.get?_push_size _ rfl, rfl, rfl⟩ q)
  · obtain ⟨its, rv, pl, hz⟩ := I1.tuple hq
    exact wpAny_pyIter_tuple (show s1.heap.IsTuple a its.toArray from pl) (pie_new I1 (turn_tuple a _) ⟨_, Heap.get?_push_size _ rfl, rfl, rfl⟩ q)⟩
theorem di_seq (h : DE X e t) : DI X tg e (iSeq t) := ⟨⟨fun pins s σ H R I ⟨c, O, η, E, Q, g, ht, k⟩ => (pi_both h.pe).run pins s σ H R I
  ⟨c, O, η, E, _, g, ht, fun d v H' s r q => by
    cases r with
    | lst o h0 rr => exact ⟨_, rfl, .inl ⟨_, .of h0, k _ H' _ _ s (fun p hp => by cases List.mem_singleton.mp hp; exact .lst o h0 rr) wd_list q⟩⟩
    | tup h0 rr => exact ⟨_, rfl, .inr ⟨_, h0.sq, k _ H' _ _ s (fun p hp => by cases List.mem_singleton.mp hp; exact .tup h0 rr) wd_tup q⟩⟩
    | _ => exact q.elim⟩⟩⟩
def iRange1 (ts : AT) : IT := fun E η Q => ts E η fun ds => match ds with | [.int j] => (-(2 ^ 62) ≤ j ∧ j < 2 ^ 62) ∧ Q (rangeD 0 j.toNat) | _ => False
theorem di_range1 (hg : Gl X "range") (hm : X.mg "range" = none) (ha : DA X [e] ts) (hs : starEach [e] X.env = [(false, eval e X.env)] := by rfl) : DI X tg (.Call (.Name "range" p) [e] [] pos) (iRange1 ts) := ⟨⟨fun pins s σ H R I ⟨c, O, η, E, Q, g, ht, k⟩ =>
  (pi_range1 hg hm ha.pa hs).run pins s σ H R I ⟨c, O, η, E, _, g, ht, fun ds vs H' s r q => by
    match ds, q with
    | [.int j], ⟨⟨h1, h2⟩, q⟩ =>
      cases r with
      | cons r1 r2 =>
        cases r2
        cases r1
        exact ⟨j, rfl, h1, h2, k _ H' _ [] s (fun p hp => absurd hp (by simp)) wd_range q⟩⟩⟩⟩
def iRange2 (ts : AT) : IT := fun E η Q => ts E η fun ds => match ds with | [.int i, .int j] => (-(2 ^ 62) ≤ i ∧ i < 2 ^ 62 ∧ -(2 ^ 62) ≤ j ∧ j < 2 ^ 62) ∧ Q (rangeD i (j - i).toNat) | _ => False
theorem di_range2 (hg : Gl X "range") (hm : X.mg "range" = none) (ha : DA X [e, e2] ts) (hs : starEach [e, e2] X.env = [(false, eval e X.env), (false, eval e2 X.env)] := by rfl) (hs2 : starEach [e2] X.env = [(false, eval e2 X.env)] := by rfl) :
    DI X tg (.Call (.Name "range" p) [e, e2] [] pos) (iRange2 ts) := ⟨⟨fun pins s σ H R I ⟨c, O, η, E, Q, g, ht, k⟩ =>
  (pi_range2 hg hm ha.pa hs hs2).run pins s σ H R I ⟨c, O, η, E, _, g, ht, fun ds vs H' s r q => by
    match ds, q with
    | [.int i, .int j], ⟨h1, q⟩ =>
      cases r with
      | cons r1 r2 =>
        cases r2 with
        | cons r2 r3 =>
          cases r3
          cases r1
          cases r2
          exact ⟨i, j, rfl, h1, k _ H' _ [] s (fun p hp => absurd hp (by simp)) wd_range q⟩⟩⟩⟩
def iZip2 (ts : AT) : IT := fun E η Q => ts E η fun ds => match ds with | [.list xs, .list ys] => Q (pairsD xs ys) | [.tuple xs, .tuple ys] => Q (pairsD xs ys) | _ => False
theorem di_zip {elts : List Expr} {kk : Nat} {tpos : Pos} (hg : Gl X "zip") (hm : X.mg "zip" = none) (ha : DA X [e, e2] ts) (hs : starEach [e, e2] X.env = (false, eval e X.env) :: starEach [e2] X.env := by rfl) (hpl : (backTo pos (starEach [e2] X.env)).any (·.1) = false := by rfl) :
    DI X (.Tuple elts kk tpos) (.Call (.Name "zip" p) [e, e2] [] pos) (iZip2 ts) := ⟨⟨fun pins s σ H R I ⟨c, O, η, E, Q, g, ht, k⟩ =>
  (RZ.pi_zipA hg hm ha.pa hs hpl).run pins s σ H R I ⟨c, O, η, E, _, g, ht, fun ds vs H' s r q => by
    match ds, q with
    | [.list xs, .list ys], q =>
      cases r with
      | cons r1 r2 =>
        cases r2 with
        | cons r2 r3 =>
          cases r3
          obtain ⟨a, us, e1, h1, rr1⟩ := rep_list r1
          obtain ⟨b, ws, e2, h2, rr2⟩ := rep_list r2
          subst e1 e2
          exact ⟨a, b, us, ws, rfl, .inl ⟨.of h1, .of h2, k _ H' _ _ s (fun p hp => by
            simp only [List.mem_cons, List.mem_nil_iff, or_false] at hp
            rcases hp with rfl | rfl
            · exact r1
            · exact r2) wd_zipL q⟩⟩
    | [.tuple xs, .tuple ys], q =>
      cases r with
      | cons r1 r2 =>
        cases r2 with
        | cons r2 r3 =>
          cases r3
          obtain ⟨a, us, e1, h1, rr1⟩ := rep_tup r1
          obtain ⟨b, ws, e2, h2, rr2⟩ := rep_tup r2
          subst e1 e2
          exact ⟨a, b, us, ws, rfl, .inr ⟨h1.sq, h2.sq, k _ H' _ _ s (fun p hp => by
            simp only [List.mem_cons, List.mem_nil_iff, or_false] at hp
            rcases hp with rfl | rfl
            · exact r1
            · exact r2) wd_zipT q⟩⟩⟩⟩⟩
end
end DL

/-! DL4b: enumerate of a tuple. -/
namespace DL
open PySem PySem.Spec PyProof.Rows L2
set_option maxHeartbeats 1000000 in
theorem meets_enum1 {v : Value} {o : Obj} {H : Heap → Prop} (B : Begins v o H) :
    Meets (Builtin.«enumerate.__new__» ⟨[.type "enumerate", v], []⟩) (fun _ R s => H s.heap ∧ R (.ok (.ret (.ref (s.heap.push o).objs.size)))
      { s with heap := (s.heap.push o).push { cls := .type "enumerate", data := .fields #[.none, .bool false, .ref s.heap.objs.size, rawInt 0, .none, .none] } }) :=
  .of_wp fun prog w A R s h => by
    obtain ⟨hp, g, d, tk, os⟩ := s
    obtain ⟨h1, h⟩ := h
    have sub1 := sub_enumerate
    have it1 : ∀ {A' : Around} {E : Value → Shared → Prop} {Q : Value → Shared → Prop}, Q (.ref hp.objs.size) ⟨hp.push o, g, d, tk, os⟩ → wpAny (model prog w) A' (pyIter v) Q E ⟨hp, g, d, tk, os⟩ := fun q =>
      B.iter prog w _ _ ⟨hp, g, d, tk, os⟩ _ h1 q
    wp_walk using it1
    refine wpAny_stack_any fun st => wpAny_pure ?_
    split
    next c _ _ _ _ _ =>
      cases (c == Value.type "enumerate")
      · (wp_walk using it1); exact ⟨_, rfl, h⟩
      · (wp_walk using it1); exact ⟨_, rfl, h⟩
    · (wp_walk using it1); exact ⟨_, rfl, h⟩
section
variable {prog : Program} {w : World} {A : Around} {E : Value → Shared → Prop} {s : Shared}
theorem call_enum1 {v : Value} {o : Obj} {H : Heap → Prop} {Q : Value → Shared → Prop} (B : Begins v o H) (h1 : H s.heap)
    (h : ∀ h', IsEnum h' (s.heap.objs.size + 1) s.heap.objs.size 0 .none → h'.get? s.heap.objs.size = some o → (∀ b u, s.heap.get? b = some u → h'.get? b = some u) → Q (.ref (s.heap.objs.size + 1)) { s with heap := h' }) :
    wpAny (model prog w) A (call (.type "enumerate") [v]) Q E s := by
  refine callType_new F.called_enumerate (by decide) (F.typeCall_enumerate_1 _) (F.newCall_enumerate_1 _) (fun obj => F.args_object_init_2 obj _) F.entry_enumerate_new (meets_enum1 B) ⟨h1, ?_⟩
  have z : (s.heap.push o).objs.size = s.heap.objs.size + 1 := Heap.size_push ..
  have at2 := Heap.get?_push_size (s.heap.push o) (o := { cls := .type "enumerate", data := .fields #[.none, .bool false, .ref s.heap.objs.size, rawInt 0, .none, .none] }) rfl
  show _ ∧ _
  rw [z] at at2 ⊢
  exact ⟨⟨_, at2, rfl⟩, h _ at2 (Heap.get?_push_of_some _ (Heap.get?_push_size _ B.free)) fun b u x => Heap.get?_push_of_some _ (Heap.get?_push_of_some _ x)⟩
end
/-- the tuple at a, each item in a new pair with its number -/
def IteT (K : PySem.W.Frag) (a : Addr) : It where
  go := fun i H => ∃ (xs : List V) (x : V), SqT K H a xs ∧ xs[i]? = some x
  yld := fun i H v H' => ∃ T x, v = .ref T ∧ H T = none ∧ H' = upd H T (.tup [.int (i : Nat), x]) ∧ ∀ xs, SqT K H a xs → xs[i]? = some x
  stop := fun i H => ∃ xs : List V, SqT K H a xs ∧ xs.length = i
theorem turn_enumT {P : Program} {w : World} {K : PySem.W.Frag} {elts : List Expr} {kk : Nat} {tpos : Pos} (a e it : Addr) (hai : a ≠ it) (hae : a ≠ e) :
    Turn P w K (.Tuple elts kk tpos) (IteT K a) [e, it] e (fun i h => (∃ old, IsEnum h e it ((i : Nat) : Int) old) ∧ h.IsTupleIter it a i ∧ e ≠ it) where
  mem := List.mem_cons_self
  obj := fun i h st b hb => by
    obtain ⟨⟨old, he⟩, hit, _⟩ := st
    obtain ⟨o, ho, hc, hd⟩ := hit
    rcases List.mem_cons.mp hb with z | hb
    · subst z
      exact ⟨_, he, fun v q => nomatch q⟩
    · cases List.mem_singleton.mp hb
      exact ⟨o, ho, fun v q => by rw [hd] at q; cases q⟩
  keep := fun i h h' st k => by
    obtain ⟨⟨old, he⟩, hi, hne⟩ := st
    exact ⟨⟨old, k e (by simp) _ he⟩, hi.at fun o q => k it (by simp) o q, hne⟩
  item := by
    intro X hP hw hK hc i pins s σ H E I hf st hg
    subst hP hw hK
    obtain ⟨⟨old, he⟩, hit, hne⟩ := st
    obtain ⟨xs, x, hq, hx⟩ := hg
    obtain ⟨its, rv, pl, hz⟩ := I.tuple hq
    obtain ⟨u, hu, ru⟩ := rv.get hx
    have lte : e < s.heap.objs.size := Heap.lt_size he
    have lti : it < s.heap.objs.size := let ⟨_, q, _⟩ := hit; Heap.lt_size q
    have hi : i < its.toArray.size := by
      have := (List.getElem?_eq_some_iff.mp hu).1
      simpa using this
    refine wpAny_pyNext_enum_itemD (Draws.tuple (A := X.A.in1) (I.ok.hd hc) it a hai its.toArray) he ⟨hit, pl⟩ hi hne (by
      intro z
      rcases List.mem_cons.mp z with z | z
      · exact hne z
      · exact hae (List.mem_singleton.mp z).symm) fun y h1 tk hy ho st1 hT hsz hk => ?_
    have ey : y = u := by
      have z : its.toArray[i]? = some u := by simpa using hu
      have hy : its.toArray[i]? = some y := hy
      rw [z] at hy
      exact (Option.some.inj hy).symm
    subst ey
    refine ⟨_, rfl, wpAny_letOwnedTupleGo_enum (s := { s with heap := h1, toks := tk + 1 }) ho fun h2 he2 sb => ?_⟩
    have hT2 : h2.get? s.heap.objs.size = some { cls := .type "tuple", data := .seq #[.int i tk, y] } := (sb.2 _ (Nat.ne_of_gt lte)).trans hT
    have new : ObjOk X.prog X.w (upd H s.heap.objs.size (.tup [.int (i : Nat), x])) h2 s.heap.objs.size (.tup [.int (i : Nat), x]) :=
      ⟨(by decide : 2 ≤ sizeLine), [.int i tk, y], .cons ⟨tk, rfl⟩ (.cons ru .nil), _, hT2, rfl, _, rfl⟩
    have J : Inv X pins σ (upd H s.heap.objs.size (.tup [.int (i : Nat), x])) { s with heap := h2, toks := tk + 1 } :=
      I.turnedNew (ch := [e, it]) (fun b ob hb q => (sb.2 b fun z => hb (z ▸ List.mem_cons_self)).trans (hk b ob (fun z => hb (z ▸ List.mem_cons_self)) (fun z => hb (by rw [z]; simp)) q)) hf (Nat.le_refl _) new
    refine ⟨.ref s.heap.objs.size, _, J, rfl, ⟨_, x, rfl, I.hok.fresh (Nat.le_refl _), rfl, fun ys hy => by rw [I.tuple_inj hy hq]; exact hx⟩, ⟨⟨y, ?_⟩, st1.1.at fun o q => (sb.2 it (Ne.symm hne)).trans q, hne⟩, fun b hb => ?_⟩
    · have : ((i + 1 : Nat) : Int) = (i : Int) + 1 := by omega
      rw [this]
      exact he2
    · have lt : b < s.heap.objs.size := by
        rcases List.mem_cons.mp hb with z | hb
        · exact z ▸ lte
        · exact List.mem_singleton.mp hb ▸ lti
      rw [upd_ne (Nat.ne_of_lt lt)]
      exact (hf b hb).1
  done := by
    intro X hP hw hK hc i pins s σ H E I hf st hg
    subst hP hw hK
    obtain ⟨⟨old, he⟩, hit, hne⟩ := st
    obtain ⟨xs, hq, hx⟩ := hg
    obtain ⟨its, rv, pl, hz⟩ := I.tuple hq
    obtain ⟨f0, f1, f2, f3, f4, f5⟩ := hf it (by simp)
    have hn : i = its.toArray.size := by
      have := rv.length
      simp only [List.size_toArray]
      omega
    subst hn
    exact wpAny_pyNext_enum_endD (Draws.tuple (A := X.A.in1) (I.ok.hd hc) it a hai its.toArray) he ⟨hit, pl⟩ fun h1 eb => ⟨rfl, I.turned (t' := s.toks) (fun b o hb q => eb b o hb q) f0 f1 f3 f4 f5⟩
  self := fun A i s Q E st h => by
    obtain ⟨⟨_, he⟩, _⟩ := st
    exact wpAny_pyIter_enum he h
theorem wd_enumT {K : PySem.W.Frag} {a : Addr} {ds : List D} : WalkD K (IteT K a) [(.ref a, .tuple ds)] (pairsD (rangeD 0 ds.length) ds) where
  goes := fun i H hi ⟨O, h⟩ => by
    rw [pairsD_len, rangeD_len, Nat.min_self] at hi
    obtain ⟨_, xs, e, h1, rr⟩ := rep_tup (h _ (List.mem_singleton.mpr rfl))
    cases e
    obtain ⟨x, hx, _⟩ := rr.getD (List.getElem?_eq_getElem hi)
    exact ⟨xs, x, h1.sq, hx⟩
  stops := fun H ⟨O, h⟩ => by
    rw [pairsD_len, rangeD_len, Nat.min_self]
    obtain ⟨_, xs, e, h1, rr⟩ := rep_tup (h _ (List.mem_singleton.mpr rfl))
    cases e
    exact ⟨xs, h1.sq, rr.length⟩
  yields := fun i H v H' hi ⟨O, h⟩ ⟨T, x, e1, hT, e2, fx⟩ => by
    subst e1 e2
    rw [pairsD_len, rangeD_len, Nat.min_self] at hi
    refine ⟨.tuple [.int (i : Nat), ds[i]], pairsD_get (by simp [rangeD, hi]) (List.getElem?_eq_getElem hi), same_upd hT, fun O' h' => ?_⟩
    obtain ⟨_, xs, e, h1, rr⟩ := rep_tup (h' _ (List.mem_singleton.mpr rfl))
    cases e
    obtain ⟨d, hd, r⟩ := rr.get (fx xs h1.sq)
    rw [List.getElem?_eq_getElem hi] at hd
    cases hd
    exact pair_rep hT (.int _) r
section
variable {X : Cx} {tg e : Expr} {pos p : Pos} {ta : ET}
def iEnumE (K : PySem.W.Frag) (ta : TE) : TI := fun σ H R => ta σ H fun x H1 => ∃ a, x = .ref a ∧ ((∃ xs, SqL K H1 a xs ∧ R (Ite K a) H1) ∨ ∃ xs, SqT K H1 a xs ∧ R (IteT K a) H1)
theorem pi_enumE {te : TE} {elts : List Expr} {kk : Nat} {tpos : Pos} (hg : Gl X "enumerate") (hm : X.mg "enumerate" = none) (ha : PE X e te) (hs : starEach [e] X.env = [(false, eval e X.env)] := by rfl) :
    PI X (.Tuple elts kk tpos) (.Call (.Name "enumerate" p) [e] [] pos) (iEnumE X.K te) := ⟨fun pins s σ H R I h => by
  refine Call_ (ld_blt I hg hm boot_enumerate (PyProof.Rows.callWith_type1 (thn ((pa_cons ha pa_nil (hs := by rw [hs]; rfl)).run pos pins s σ H (fun vs H1 => match vs with | [x] => ∃ a, x = .ref a ∧ ((∃ xs, SqL X.K H1 a xs ∧ R (Ite X.K a) H1) ∨ ∃ xs, SqT X.K H1 a xs ∧ R (IteT X.K a) H1) | _ => False) I h) fun us s1 ⟨vs, H1, I1, r1, q1⟩ => ?_) hs rfl))
  match vs, r1, q1 with
  | [_], .cons r .nil, ⟨a, e1, q⟩ =>
      subst e1
      cases r
      have foot : ∀ b ∈ [s1.heap.objs.size + 1, s1.heap.objs.size], FpOk X pins H1 b := fun b hb => by
        have hle : s1.heap.objs.size ≤ b := by
          rcases List.mem_cons.mp hb with z | hb
          · rw [z]; exact Nat.le_succ _
          · rw [List.mem_singleton.mp hb]; exact Nat.le_refl _
        exact I1.fpOk hle (I1.hok.fresh hle)
      rcases q with ⟨xs, hq, q⟩ | ⟨xs, hq, q⟩
      · obtain ⟨its, rv, pl, hz⟩ := I1.list hq
        refine call_enum1 (begins_list a its.toArray) pl.isList fun h' he hit hk => wpAny_pyIter_enum he ?_
        exact ⟨s1.heap.objs.size + 1, [s1.heap.objs.size + 1, s1.heap.objs.size], _, _, H1, rfl, I1.kept (t' := s1.toks) hk, turn_enum a _ _, ⟨⟨.none, he⟩, ⟨_, hit, rfl, rfl⟩, Nat.succ_ne_self _⟩, foot, q⟩
      · obtain ⟨its, rv, pl, hz⟩ := I1.tuple hq
        have lt : a < s1.heap.objs.size := pl.lt
        refine call_enum1 (begins_tuple a its.toArray) pl fun h' he hit hk => wpAny_pyIter_enum he ?_
        exact ⟨s1.heap.objs.size + 1, [s1.heap.objs.size + 1, s1.heap.objs.size], _, _, H1, rfl, I1.kept (t' := s1.toks) hk, turn_enumT a _ _ (Nat.ne_of_lt lt) (Nat.ne_of_lt (Nat.lt_succ_of_lt lt)), ⟨⟨.none, he⟩, ⟨_, hit, rfl, rfl⟩, Nat.succ_ne_self _⟩, foot, q⟩⟩
def iEnum1 (t : ET) : IT := fun E η Q => t E η fun d => match d with | .list ds => Q (pairsD (rangeD 0 ds.length) ds) | .tuple ds => Q (pairsD (rangeD 0 ds.length) ds) | _ => False
theorem di_enum {elts : List Expr} {kk : Nat} {tpos : Pos} (hg : Gl X "enumerate") (hm : X.mg "enumerate" = none) (ha : DE X e ta) (hs : starEach [e] X.env = [(false, eval e X.env)] := by rfl) :
    DI X (.Tuple elts kk tpos) (.Call (.Name "enumerate" p) [e] [] pos) (iEnum1 ta) := ⟨⟨fun pins s σ H R I ⟨c, O, η, E, Q, g, ht, k⟩ => (pi_enumE hg hm ha.pe hs).run pins s σ H R I
  ⟨c, O, η, E, _, g, ht, fun d v H' s r q => by
    cases r with
    | lst o h0 rr => exact ⟨_, rfl, .inl ⟨_, .of h0, k _ H' _ _ s (fun p hp => by cases List.mem_singleton.mp hp; exact .lst o h0 rr) wd_enumL q⟩⟩
    | tup h0 rr => exact ⟨_, rfl, .inr ⟨_, h0.sq, k _ H' _ _ s (fun p hp => by cases List.mem_singleton.mp hp; exact .tup h0 rr) wd_enumT q⟩⟩
    | _ => exact q.elim⟩⟩⟩
end
end DL

/-! DL5: targets, comprehensions. -/
namespace DL
open PySem PySem.Spec PyProof.Rows L2
section
variable {K : PySem.W.Frag} {c : Ctx} {O : Addr → Prop} {η : EnvD} {σ : L2.St} {H H1 H' : Hp}
theorem join_set_self {σ : L2.St} {i : Nat} {x : V} (h : i < σ.length) : (σ.set i (some x))[i]?.join = some x := by
  rw [List.getElem?_set_self h]
  rfl
theorem Good.set (g : Good K c O η σ H) (i : Nat) {x : V} {d : D} (r : Rep K O H x d) : Good K c O (η.set i (.dat d)) (σ.set i (some x)) H where
  len := by rw [List.length_set, List.length_set, g.len]
  hB := g.hB
  hW := g.hW
  hT := g.hT
  keep := g.keep
  draw := g.draw
  cell := fun j y h => by
    by_cases e : i = j
    · subst e
      by_cases hl : i < η.length
      · rw [List.getElem?_set_self hl] at h
        cases h
        exact ⟨x, join_set_self (g.len ▸ hl), r⟩
      · rw [List.getElem?_eq_none (by rw [List.length_set]; omega)] at h
        cases h
    · rw [List.getElem?_set_ne e] at h ⊢
      exact g.cell j y h
  dis := dis_put g.dis i (z := .dat d) (fun _ _ h => h) _
  fr := g.fr
/-- the slots at vs forgotten -/
def wipeD (η : EnvD) : List Nat → EnvD
  | [] => η
  | v :: vs => (wipeD η vs).set v .un
theorem Good.unset (g : Good K c O η σ H) (i : Nat) : Good K c O (η.set i .un) (σ.set i none) H where
  len := by rw [List.length_set, List.length_set, g.len]
  hB := g.hB
  hW := g.hW
  hT := g.hT
  keep := g.keep
  draw := g.draw
  cell := fun j y h => by
    by_cases e : i = j
    · subst e
      by_cases hl : i < η.length
      · rw [List.getElem?_set_self hl] at h
        cases h
        trivial
      · rw [List.getElem?_eq_none (by rw [List.length_set]; omega)] at h
        cases h
    · rw [List.getElem?_set_ne e] at h ⊢
      exact g.cell j y h
  dis := dis_put g.dis i (z := .un) (fun _ _ h => h) _
  fr := g.fr
theorem Good.wipe (g : Good K c O η σ H) : ∀ vs : List Nat, Good K c O (wipeD η vs) (L2.wipe σ vs) H
  | [] => g
  | v :: vs => (Good.wipe g vs).unset v
/-- all that is owned may be read: nothing is changed meanwhile -/
def lendC : Cell → Cell
  | .own ds => .dat (.list ds)
  | .mtb _ d _ => .dat d
  | .ist _ nm fs _ => .lin nm fs
  | x => x
def lend (η : EnvD) : EnvD := η.map lendC
theorem Good.lend (g : Good K c O η σ H) : Good K c c.B (lend η) σ H where
  len := by unfold DL.lend; rw [List.length_map, g.len]
  hB := fun _ h => h
  hW := g.hW
  hT := fun a h => g.hT a (g.hB a h)
  keep := g.keep
  draw := g.draw
  cell := fun i x h => by
    unfold DL.lend at h
    rw [List.getElem?_map] at h
    cases e : η[i]? with
    | none => rw [e] at h; cases h
    | some y =>
      rw [e] at h
      cases h
      have q := g.cell i y e
      cases y with
      | un => trivial
      | dat d => obtain ⟨v, e1, r⟩ := q; exact ⟨v, e1, r.weak g.hB⟩
      | own ds => obtain ⟨a, xs, e1, ha, oa, nb, h0, r⟩ := q; exact ⟨.ref a, e1, .lst nb ha (r.weak g.hB)⟩
      | drw => exact q
      | obj a o => exact ⟨q.1, fun p hp => (q.2 p hp).imp fun y r => ⟨r.1, r.2.weak g.hB⟩⟩
      | scr ns => exact q
      | mtb p d fp => obtain ⟨v, e1, r, _, _, h3, _⟩ := q; exact ⟨v, e1, r.rep fun b hb => (h3 b hb).2.1⟩
      | lin nm fs => obtain ⟨v, e1, r⟩ := q; exact ⟨v, e1, r.map (fun a u o e => ⟨fun z => o (g.hB a z), e⟩) fun _ _ e => e⟩
      | ist p nm fs fp => obtain ⟨v, e1, r, _, _, h3, _⟩ := q; exact ⟨v, e1, r.lin fun b hb => (h3 b hb).2.1⟩
  dis := fun i j x y a h1 h2 h3 h4 => by
    unfold DL.lend at h1
    rw [List.getElem?_map] at h1
    cases e : η[i]? with
    | none => rw [e] at h1; cases h1
    | some y => rw [e] at h1; cases y <;> cases h1 <;> exact h3.elim
  fr := fun p hp => (g.fr p hp).weak g.hB
theorem Rep.upd {a : Addr} {xs ys : List V} (oa : O a) (ha : H a = some (.lst xs)) {v : V} {d : D} (r : Rep K O H v d) : Rep K O (L2.upd H a (.lst ys)) v d :=
  r.map (fun b zs ob e => ⟨ob, by rw [upd_ne (fun z : b = a => ob (by rw [z]; exact oa))]; exact e⟩) fun b zs e => by
    rw [upd_ne (fun z : b = a => by rw [z, ha] at e; cases e)]; exact e
theorem RepAll.upd {a : Addr} {xs ys : List V} (oa : O a) (ha : H a = some (.lst xs)) {v : List V} {d : List D} (r : RepAll K O H v d) : RepAll K O (L2.upd H a (.lst ys)) v d :=
  r.map (fun b zs ob e => ⟨ob, by rw [upd_ne (fun z : b = a => ob (by rw [z]; exact oa))]; exact e⟩) fun b zs e => by
    rw [upd_ne (fun z : b = a => by rw [z, ha] at e; cases e)]; exact e
/-- a list that no slot owns is changed -/
theorem Good.mut (g : Good K c O η σ H) {a : Addr} {xs ys : List V} (oa : O a) (ha : H a = some (.lst xs)) (nw : ¬ Wr c.G a) (h0 : c.H0 a = none) (no : ∀ (i : Nat) (x : Cell), η[i]? = some x → ¬ foot x (σ[i]?.join) a) : Good K c O η σ (upd H a (.lst ys)) := by
  have rp : ∀ {v : V} {d : D}, Rep K O H v d → Rep K O (upd H a (.lst ys)) v d := fun r => r.upd oa ha
  have rps : ∀ {v : List V} {d : List D}, RepAll K O H v d → RepAll K O (upd H a (.lst ys)) v d := fun r => r.upd oa ha
  refine ⟨g.len, g.hB, g.hW, fun b h => ?_, fun b o w e => ?_, ?_, fun i x h => ?_, g.dis, fun p hp => rp (g.fr p hp)⟩
  · by_cases e : b = a
    · subst e; rw [upd_same]; intro z; cases z
    · rw [upd_ne e]; exact g.hT b h
  · rw [upd_ne (fun z => by rw [z, h0] at e; cases e)]
    exact g.keep b o w e
  · refine ⟨?_, tabs_upd g.draw.2 ha⟩
    have := g.draw.1
    cases hG : c.G with
    | none => trivial
    | some p =>
      obtain ⟨p1, p2⟩ := p
      rw [hG] at this nw
      obtain ⟨n, m, t, ns, e1, x1, x2, e2, x3⟩ := this
      refine ⟨n, m, t, ns, ?_, x1, x2, ?_, x3⟩
      · rw [upd_ne (fun z => nw (.inl ⟨_, rfl, .inl z.symm⟩))]; exact e1
      · rw [upd_ne (fun z => nw (.inl ⟨_, rfl, .inr z.symm⟩))]; exact e2
  · have q := g.cell i x h
    cases x with
    | un => trivial
    | dat d => obtain ⟨v, e, r⟩ := q; exact ⟨v, e, rp r⟩
    | own ds =>
      obtain ⟨b, zs, e, hb, ob, nb, h0', r⟩ := q
      refine ⟨b, zs, e, ?_, ob, nb, h0', rps r⟩
      rw [upd_ne (fun z : b = a => no i _ h (by rw [← z]; exact e))]
      exact hb
    | drw => exact q
    | obj b o => exact ⟨q.1, fun p hp => (q.2 p hp).imp fun y r => ⟨by rw [upd_ne (fun z : p.1 = a => by have := r.1; rw [z, ha] at this; cases this)]; exact r.1, rp r.2⟩⟩
    | scr ns =>
      obtain ⟨b, e, r⟩ := q
      exact ⟨b, e, r.map fun b' o u x => by rw [upd_ne (fun z : b' = a => by rw [z, ha] at x; cases x)]; exact x⟩
    | mtb p d fp =>
      obtain ⟨x, e, r, h1, h2, h3, h4⟩ := q
      exact ⟨x, e, r.map (fun b' xs x => by rw [upd_ne (fun z : b' = a => by rw [z, ha] at x; cases x)]; exact x) (fun b' hb => upd_ne (fun z : b' = a => no i _ h (z ▸ hb))), h1, h2, h3, h4⟩
    | lin nm fs =>
      obtain ⟨x, e, r⟩ := q
      exact ⟨x, e, r.map (fun b u nb e => ⟨nb, by rw [upd_ne (fun z : b = a => nb (z ▸ oa))]; exact e⟩) fun b' xs x => by rw [upd_ne (fun z : b' = a => by rw [z, ha] at x; cases x)]; exact x⟩
    | ist p nm fs fp =>
      obtain ⟨x, e, r, h1, h2, h3, h4⟩ := q
      exact ⟨x, e, r.map (fun b' xs x => by rw [upd_ne (fun z : b' = a => by rw [z, ha] at x; cases x)]; exact x) (fun b' hb => upd_ne (fun z : b' = a => no i _ h (z ▸ hb))), h1, h2, h3, h4⟩
/-- a new list's address joins -/
theorem Good.more (g : Good K c O η σ H) (st : Step c.G H H1) {a : Addr} {ys : List V} (h : H a = none) (h1 : H1 a = some (.lst ys)) : Good K c (fun b => O b ∨ b = a) η σ H1 := by
  have w1 : ∀ b, Wr c.G b → (O b ∨ b = a) := fun b w => .inl (g.wO b w)
  have rp : ∀ {v : V} {d : D}, Rep K O H v d → Rep K (fun b => O b ∨ b = a) H1 v d := fun r => st.rep g.draw w1 (r.more h)
  have rps : ∀ {v : List V} {d : List D}, RepAll K O H v d → RepAll K (fun b => O b ∨ b = a) H1 v d := fun r => st.repAll g.draw w1 (r.more h)
  have g1 := g.step st
  refine ⟨g.len, fun b hb => .inl (g.hB b hb), g.hW, fun b hb => hb.elim (g1.hT b) (fun z => by rw [z, h1]; intro q; cases q), g1.keep, g1.draw, fun i x hx => ?_, g.dis, fun p hp => rp (g.fr p hp)⟩
  have q := g.cell i x hx
  cases x with
  | un => trivial
  | dat d => obtain ⟨v, e, r⟩ := q; exact ⟨v, e, rp r⟩
  | own ds =>
    obtain ⟨b, zs, e, hb, ob, nb, h0, r⟩ := q
    exact ⟨b, zs, e, st.keep b _ (fun z => nb (g.hW b z)) hb, .inl ob, nb, h0, rps r⟩
  | drw => exact q
  | obj a o => exact ⟨q.1, fun p hp => (q.2 p hp).imp fun y r => ⟨st.keep _ _ (g.draw.xd _ _ r.1) r.1, rp r.2⟩⟩
  | scr ns =>
    obtain ⟨b, e, r⟩ := q
    exact ⟨b, e, r.map fun b' o u x => st.keep b' _ (g.draw.frz b' o u x) x⟩
  | mtb p d fp =>
    obtain ⟨x, e, r, h1, h2, h3, h4⟩ := g1.cell i _ hx
    exact ⟨x, e, r, h1, h2, fun b hb => ⟨.inl (h3 b hb).1, (h3 b hb).2⟩, h4⟩
  | lin nm fs =>
    obtain ⟨x, e, r⟩ := q
    exact ⟨x, e, r.map (fun b u nb e => ⟨fun z => z.elim nb fun q => (by rw [q, h] at e; cases e), st.keep b _ (fun z => nb (g.wO b z)) e⟩) fun b xs e => st.keep b _ (g.draw.tup b xs e) e⟩
  | ist p nm fs fp =>
    obtain ⟨x, e, r, h1, h2, h3, h4⟩ := g1.cell i _ hx
    exact ⟨x, e, r, h1, h2, fun b hb => ⟨.inl (h3 b hb).1, (h3 b hb).2⟩, h4⟩
theorem Good.fresh0 (g : Good K c O η σ H) {a : Addr} (h : H a = none) : ¬ Wr c.G a ∧ c.H0 a = none := by
  have nw : ¬ Wr c.G a := fun z => g.draw.tr a z h
  refine ⟨nw, ?_⟩
  cases e : c.H0 a with
  | none => rfl
  | some o =>
    have := g.keep a o nw e
    rw [h] at this; cases this
theorem Good.foot_ne (g : Good K c O η σ H) {a : Addr} (h : H a = none) (i : Nat) (x : Cell) (hi : η[i]? = some x) : ¬ foot x (σ[i]?.join) a := fun z => by
  have q := g.cell i _ hi
  cases x with
  | own ds =>
    obtain ⟨b, zs, e, hb, _⟩ := q
    have z : σ[i]?.join = some (.ref a) := z
    rw [z] at e
    cases e
    rw [h] at hb; cases hb
  | mtb p d fp =>
    obtain ⟨x, e, r, _⟩ := q
    rcases r.alive a z with ⟨xs, e⟩ | ⟨es, ep, e⟩ <;> rw [h] at e <;> cases e
  | ist p nm fs fp =>
    obtain ⟨x, e, r, _⟩ := q
    obtain ⟨o, e, _⟩ := r.alive a z
    rw [h] at e
    cases e
  | _ => exact z.elim
end

/-! ### targets -/
abbrev GT := D → EnvD → (EnvD → Prop) → Prop
abbrev GTs := List D → EnvD → (EnvD → Prop) → Prop
def gN (i : Nat) : GT := fun d η Q => Q (η.set i (.dat d))
def gNil' : GTs := fun ds η Q => match ds with | [] => Q η | _ => False
def gCons' (g : GT) (gs : GTs) : GTs := fun ds η Q => match ds with | d :: r => g d η fun η1 => gs r η1 Q | [] => False
def gT (gs : GTs) : GT := fun d η Q => match d with | .tuple ds => gs ds η Q | _ => False
/-- the slots in is are stored, no others -/
def liftG (K : PySem.W.Frag) (is : List Nat) (g : GT) : TG := fun v σ H R => ∃ (c : Ctx) (O : Addr → Prop) (η : EnvD) (d : D) (Q : EnvD → Prop), Good K c O η σ H ∧ Rep K O H v d ∧ g d η Q ∧
  ∀ σ' η', Good K c O η' σ' H → σ'.length = σ.length → (∀ j : Nat, j ∉ is → σ'[j]? = σ[j]?) → Q η' → R σ' H
def liftGs (K : PySem.W.Frag) (is : List Nat) (g : GTs) : TGs := fun vs σ H R => ∃ (c : Ctx) (O : Addr → Prop) (η : EnvD) (ds : List D) (Q : EnvD → Prop), Good K c O η σ H ∧ RepAll K O H vs ds ∧ g ds η Q ∧
  ∀ σ' η', Good K c O η' σ' H → σ'.length = σ.length → (∀ j : Nat, j ∉ is → σ'[j]? = σ[j]?) → Q η' → R σ' H
structure DG (X : Cx) (tg : Expr) (is : List Nat) (g : GT) : Prop where
  pg : PG X tg (liftG X.K is g)
structure DGs (X : Cx) (tgs : List Expr) (is : List Nat) (g : GTs) : Prop where
  pgs : PGs X tgs (liftGs X.K is g)
section
variable {X : Cx} {pos : Pos} {tg : Expr} {tgs : List Expr} {is js : List Nat} {g : GT} {gs : GTs}
theorem dg_name (i : Nat) {x : Str} (hN : X.N.Nodup) (hi : X.N[i]? = some x := by rfl) (hx : Loc X.env.scope x := by first | exact Or.inl rfl | exact Or.inr rfl) (hf : X.fn x = true ∨ X.env.scope.names.lookup x = some .local := by first | exact .inl rfl | exact .inr rfl) : DG X (.Name x pos) [i] (gN i) :=
  ⟨⟨fun pins s σ H v u R I r ⟨c, O, η, d, Q, g, rp, q, k⟩ => (pg_name hN hi hx hf).run pins s σ H v u R I r (k _ _ (g.set i rp) (List.length_set ..) (fun j hj => List.getElem?_set_ne (fun z : i = j => hj (by rw [z]; exact List.mem_singleton.mpr rfl))) q)⟩⟩
theorem dgs_nil : DGs X [] [] gNil' := ⟨⟨fun pins s σ H vs us R I r ⟨c, O, η, ds, Q, g, rp, q, k⟩ => pgs_nil.run pins s σ H vs us R I r (by
  cases rp with
  | nil => exact ⟨rfl, k σ η g rfl (fun _ _ => rfl) q⟩
  | cons _ _ => exact q.elim)⟩⟩
theorem dgs_cons (h1 : DG X tg is g) (h2 : DGs X tgs js gs) (hs : (assignEach (tg :: tgs) X.env).map (·.2) = assign tg X.env :: (assignEach tgs X.env).map (·.2) := by rfl) : DGs X (tg :: tgs) (is ++ js) (gCons' g gs) :=
  ⟨⟨fun pins s σ H vs us R I r ⟨c, O, η, ds, Q, g, rp, q, k⟩ => (pgs_cons h1.pg h2.pgs hs).run pins s σ H vs us R I r (by
    cases rp with
    | nil => exact q.elim
    | cons r1 r2 =>
      refine ⟨_, _, rfl, c, O, η, _, _, g, r1, q, fun σ1 η1 g1 l1 e1 q1 => ⟨c, O, η1, _, Q, g1, r2, q1, fun σ2 η2 g2 l2 e2 q2 => k σ2 η2 g2 (l2.trans l1) (fun j hj => ?_) q2⟩⟩
      rw [List.mem_append, not_or] at hj
      exact (e2 j hj.2).trans (e1 j hj.1))⟩⟩
theorem dg_tup {k n : Nat} (hc : X.calm = true) (h : DGs X tgs is gs) (hn : (assignEach tgs X.env).length = n := by rfl) (hst : (assignEach tgs X.env).findIdx? (·.1) = none := by rfl) (hgs : ∀ ds η Q, gs ds η Q → ds.length = n) :
    DG X (.Tuple tgs k pos) is (gT gs) := ⟨⟨fun pins s σ H v u R I r ⟨c, O, η, d, Q, g, rp, q, kk⟩ => (pg_tup hc h.pgs hn hst).run pins s σ H v u R I r (by
  cases rp with
  | tup h1 rr => exact ⟨_, _, rfl, h1.sq, rr.length.trans (hgs _ _ _ q), c, O, η, _, Q, g, rr, q, kk⟩
  | _ => exact q.elim)⟩⟩
end

/-! ### comprehensions -/

structure DTs (X : Cx) (ifs : List Expr) (t : BT) : Prop where
  pts : PTs X ifs (liftB0 X.K t)
def bYes : BT := fun _ _ Q => Q true
section
variable {X : Cx} {e : Expr} {t : BT}
theorem dts_nil : DTs X [] bYes := ⟨⟨fun pins s σ H R I ⟨c, O, η, Q, g, q, k⟩ => pts_nil.run pins s σ H R I (k true H (.refl g.draw) q)⟩⟩
theorem dts_one (h : DT X e t) : DTs X [e] t := ⟨pts_one h.pt0⟩
end
def compD (g : GT) (tt : BT) (te : ET) (η0 : EnvD) : List D → List D → (List D → Prop) → Prop
  | [], acc, Q => Q acc
  | d :: ds, acc, Q => g d η0 fun η1 => tt never η1 fun b => if b = true then te never η1 fun y => acc.length < sizeLine ∧ compD g tt te η0 ds (acc ++ [y]) Q else compD g tt te η0 ds acc Q
def nComp (own : List Nat) (ti : IT) (g : GT) (tt : BT) (te : ET) : NT := fun E η Q => ti E η fun ds => compD g tt te (wipeD η own) ds [] Q
theorem wipe_get {σ : L2.St} : ∀ {vs : List Nat} {i : Nat}, (L2.wipe σ vs)[i]? = if i ∈ vs then σ[i]?.map (fun _ => none) else σ[i]?
  | [], i => by simp [L2.wipe]
  | v :: vs, i => by
    show ((L2.wipe σ vs).set v none)[i]? = _
    rw [List.getElem?_set]
    by_cases e : v = i
    · subst e
      rw [if_pos rfl, L2.wipe_length]
      by_cases hl : v < σ.length
      · rw [if_pos hl, if_pos (List.mem_cons_self), List.getElem?_eq_getElem hl]; rfl
      · rw [if_neg hl, if_pos (List.mem_cons_self), List.getElem?_eq_none (by omega)]; rfl
    · rw [if_neg e, wipe_get]
      by_cases hm : i ∈ vs
      · rw [if_pos hm, if_pos (List.mem_cons_of_mem _ hm)]
      · rw [if_neg hm, if_neg (by simp [hm]; exact fun z => e z.symm)]
theorem wipe_eq {σ σ' : L2.St} {vs : List Nat} (hl : σ'.length = σ.length) (h : ∀ j : Nat, j ∉ vs → σ'[j]? = σ[j]?) : L2.wipe σ' vs = L2.wipe σ vs := by
  apply List.ext_getElem?
  intro i
  rw [wipe_get, wipe_get]
  by_cases hm : i ∈ vs
  · rw [if_pos hm, if_pos hm]
    by_cases hi : i < σ.length
    · rw [List.getElem?_eq_getElem hi, List.getElem?_eq_getElem (hl ▸ hi)]; rfl
    · rw [List.getElem?_eq_none (by omega), List.getElem?_eq_none (by omega)]
  · rw [if_neg hm, if_neg hm, h i hm]
theorem wipe_wipe {σ : L2.St} {vs : List Nat} : L2.wipe (L2.wipe σ vs) vs = L2.wipe σ vs := by
  apply List.ext_getElem?
  intro i
  rw [wipe_get, wipe_get]
  by_cases hm : i ∈ vs
  · rw [if_pos hm, if_pos hm]; cases σ[i]? <;> rfl
  · rw [if_neg hm, if_neg hm]
theorem lc_lift {X : Cx} {ti : IT} {is own : List Nat} {g : GT} {tt : BT} {te : ET} (hsub : ∀ i ∈ is, i ∈ own) : RdN X (tLc (liftI X ti) (liftG X.K is g) (liftB0 X.K tt) (liftE0 X.K te) own) (nComp own ti g tt te) := by
  intro σ H c O η E Q R gd ht k
  refine ⟨c, O, η, E, _, gd, ht, fun J H1 ds F s1 hF w q D hD => ?_⟩
  have g1 := gd.toGood.step s1
  have fr0 := g1.fresh0 hD
  have hDs := s1.none gd.draw hD
  have gm : Good X.K c (fun b => O b ∨ b = D) η σ (upd H1 D (.lst [])) := g1.more (.alloc g1.draw hD) hD upd_same
  have gw := gm.wipe own
  have no : ∀ (i : Nat) (x : Cell), (wipeD η own)[i]? = some x → ¬ foot x ((L2.wipe σ own)[i]?.join) D := (g1.wipe own).foot_ne hD
  refine lc_it w (fun i H2 => ∃ vs acc, Good X.K c (fun b => O b ∨ b = D) (wipeD η own) (L2.wipe σ own) H2 ∧ H2 D = some (.lst vs) ∧ RepAll X.K (fun b => O b ∨ b = D) H2 vs acc ∧ (∀ p ∈ F, Rep X.K (fun b => O b ∨ b = D) H2 p.1 p.2) ∧
    Step c.G H1 H2 ∧ compD g tt te (wipeD η own) (ds.drop i) acc Q) ?_ ?_ ?_ ?_
  · exact ⟨[], [], gw, upd_same, .nil, fun p hp => ((hF p hp).more hD).same (same_upd hD), .alloc g1.draw hD, q⟩
  · rintro i H2 _ ⟨vs, acc, _, _, _, h4, _⟩
    exact ⟨_, h4⟩
  · rintro i x H2 H3 hi ⟨vs, acc, g2, hD2, r2, hF2, s2, q2⟩ ⟨d, hd, sm, hx⟩
    have s3 : Step c.G H2 H3 := .same g2.draw sm
    have g3 := g2.step s3
    have ed : ds.drop i = d :: ds.drop (i + 1) := by
      obtain ⟨hl, he⟩ := List.getElem?_eq_some_iff.mp hd
      rw [List.drop_eq_getElem_cons hl, he]
    rw [ed] at q2
    refine ⟨c, _, _, d, _, g3, hx _ hF2, q2, fun σ4 η4 g4 l4 e4 q4 => ⟨?_, ?_⟩⟩
    · rw [← wipe_wipe (σ := σ)]
      exact wipe_eq l4 fun j hj => e4 j fun z => hj (hsub j z)
    · refine ⟨c, _, η4, _, g4, q4, fun b H5 s5 q5 => ?_⟩
      have f5 : ∀ p ∈ F, Rep X.K (fun b => O b ∨ b = D) H5 p.1 p.2 := fun p hp => s5.rep g3.draw g3.wO ((hF2 p hp).same sm)
      have r5 := s5.repAll g3.draw g3.wO (r2.same sm)
      have gw5 := g3.step s5
      have hD5 : H5 D = some (.lst vs) := s5.keep D _ fr0.1 (sm _ _ hD2)
      cases b with
      | false => exact ⟨vs, acc, gw5, hD5, r5, f5, s2.trans (s3.trans s5), q5⟩
      | true =>
        refine ⟨c, _, η4, _, g4.step s5, q5, fun y v H6 s6 ry q6 => ?_⟩
        obtain ⟨hz, q6⟩ := q6
        have hD6 : H6 D = some (.lst vs) := s6.keep D _ fr0.1 hD5
        have r6 := s6.repAll gw5.draw gw5.wO r5
        refine ⟨vs, hD6, by rw [r6.length]; exact hz, vs ++ [v], acc ++ [y], ?_, upd_same, ?_, ?_, ?_, q6⟩
        · exact (gw5.step s6).mut (.inr rfl) hD6 fr0.1 fr0.2 no
        · exact (r6.append (.cons ry .nil)).upd (.inr rfl) hD6
        · exact fun p hp => (s6.rep gw5.draw gw5.wO (f5 p hp)).upd (.inr rfl) hD6
        · have st := s2.trans (s3.trans (s5.trans s6))
          have gg := (gw5.step s6).mut (ys := vs ++ [v]) (.inr rfl) hD6 fr0.1 fr0.2 no
          refine ⟨fun b o w e => ?_, gg.draw⟩
          rw [upd_ne (fun z => by rw [z, hD] at e; cases e)]
          exact st.keep b o w e
  · rintro H2 ⟨vs, acc, g2, hD2, r2, hF2, s2, q2⟩
    rw [List.drop_length] at q2
    exact k _ _ ⟨acc, D, vs, rfl, s1.trans s2, hDs, hD2, r2, q2⟩
section
variable {X : Cx} {elt tg iter : Expr} {ifs : List Expr} {scope : Scope} {own : List (Str × Nat)} {is : List Nat} {pos : Pos} {ti : IT} {g : GT} {tt : BT} {te : ET}
theorem dn_lc (hc : X.calm = true) (hN : X.N.Nodup) (hi : DI X tg iter ti) (ok : BlkOk X.N X.env.scope scope own) (hsub : ∀ i ∈ is, i ∈ own.map (·.2))
    (hg : ∀ (s : Shared) (H : Hp) (C : Addr) (cl : List (Str × Addr)) (fp : List Addr), DG (X.blk s H scope (compEnvC scope cl C X.env) fp) tg is g) (ht : ∀ (s : Shared) (H : Hp) (C : Addr) (cl : List (Str × Addr)) (fp : List Addr), DTs (X.blk s H scope (compEnvC scope cl C X.env) fp) ifs tt)
    (he : ∀ (s : Shared) (H : Hp) (C : Addr) (cl : List (Str × Addr)) (fp : List Addr), DE (X.blk s H scope (compEnvC scope cl C X.env) fp) elt te) (hs : ∀ x, foldedSetIterable iter X.env x = pure x := by intro _; rfl) :
    DN X (.ListComp elt [⟨tg, iter, ifs, 0⟩] scope pos) (nComp (own.map (·.2)) ti g tt te) :=
  .of (pe_lc hc hN hi.pi ok (fun s H C cl fp => (hg s H C cl fp).pg) (fun s H C cl fp => (ht s H C cl fp).pts) (fun s H C cl fp => (he s H C cl fp).pe0) hs) (lc_lift hsub)
end
section
variable {X : Cx} {c : Ctx} {E : XP} {O : Addr → Prop} {η : EnvD} {σ : L2.St} {H H1 : Hp}
theorem Gd.set (g : Gd X c E O η σ H) (i : Nat) {x : V} {d : D} (r : Rep X.K O H x d) : Gd X c E O (η.set i (.dat d)) (σ.set i (some x)) H := ⟨g.toGood.set i r, g.er⟩
theorem Gd.unset (g : Gd X c E O η σ H) (i : Nat) : Gd X c E O (η.set i .un) (σ.set i none) H := ⟨g.toGood.unset i, g.er⟩
theorem Gd.wipe (g : Gd X c E O η σ H) (vs : List Nat) : Gd X c E O (wipeD η vs) (L2.wipe σ vs) H := ⟨g.toGood.wipe vs, g.er⟩
theorem Gd.lend (g : Gd X c E O η σ H) : Gd X c E c.B (lend η) σ H := ⟨g.toGood.lend, g.er⟩
theorem Gd.mut (g : Gd X c E O η σ H) {a : Addr} {xs ys : List V} (oa : O a) (ha : H a = some (.lst xs)) (nw : ¬ Wr c.G a) (h0 : c.H0 a = none) (no : ∀ (i : Nat) (x : Cell), η[i]? = some x → ¬ foot x (σ[i]?.join) a) : Gd X c E O η σ (upd H a (.lst ys)) := ⟨g.toGood.mut oa ha nw h0 no, g.er⟩
theorem Gd.more (g : Gd X c E O η σ H) (st : Step c.G H H1) {a : Addr} {ys : List V} (h : H a = none) (h1 : H1 a = some (.lst ys)) : Gd X c E (fun b => O b ∨ b = a) η σ H1 := ⟨g.toGood.more st h h1, g.er⟩
end
end DL

/-! DL6: statements. -/
namespace DL
open PySem PySem.Spec PyProof.Rows L2
/-! lengths of targets -/
def GX (g : GT) : Prop := ∀ d η Q, g d η Q → ∃ η', Q η'
def GL (gs : GTs) (n : Nat) : Prop := ∀ ds η Q, gs ds η Q → ds.length = n ∧ ∃ η', Q η'
theorem gx_n (i : Nat) : GX (gN i) := fun d η Q h => ⟨_, h⟩
theorem gl_nil : GL gNil' 0 := fun ds η Q h => by
  cases ds with
  | nil => exact ⟨rfl, _, h⟩
  | cons _ _ => exact h.elim
theorem gl_cons {g : GT} {gs : GTs} {n : Nat} (h1 : GX g) (h2 : GL gs n) : GL (gCons' g gs) (n + 1) := fun ds η Q h => by
  cases ds with
  | nil => exact h.elim
  | cons d r =>
    obtain ⟨η', h'⟩ := h1 _ _ _ h
    obtain ⟨e, q⟩ := h2 _ _ _ h'
    exact ⟨by rw [List.length_cons, e], q⟩
section
variable {X : Cx} {e : Expr} {es rest : List Expr} {pos p : Pos} {t : ET} {ts : AT} {K : PySem.W.Frag}
abbrev NPr : EnvD → Prop := fun _ => True
/-- behind an expression in the lent state: the state as it was -/
theorem lend_lift {σ : L2.St} {H : Hp} {c : Ctx} {O : Addr → Prop} {η : EnvD} {E : XP} {Q : D → Prop} {R : VK} (g : Gd X c E O η σ H) (h : t E (lend η) Q) (k : ∀ d v H', Step c.G H H' → Rep X.K c.B H' v d → Q d → Gd X c E O η σ H' → R v H') : liftE X t σ H R :=
  ⟨c, c.B, lend η, E, Q, g.lend, h, fun d v H' s r q => k d v H' s r q (g.step s)⟩
theorem lend_liftB {t : BT} {σ : L2.St} {H : Hp} {c : Ctx} {O : Addr → Prop} {η : EnvD} {E : XP} {Q : Bool → Prop} {R : Bool → Hp → Prop} (g : Gd X c E O η σ H) (h : t E (lend η) Q) (k : ∀ b H', Step c.G H H' → Q b → Gd X c E O η σ H' → R b H') : liftB X t σ H R :=
  ⟨c, c.B, lend η, E, Q, g.lend, h, fun b H' s q => k b H' s q (g.step s)⟩

/-! name = e -/
def sSet (i : Nat) (t : ET) : SD := fun E z η => t E η fun d => z.nx (η.set i (.dat d))
def sSetL (i : Nat) (t : ET) : SD := fun E z η => t E (lend η) fun d => flat d = true ∧ z.nx (η.set i (.dat d))
def sOwn (i : Nat) (t : NT) : SD := fun E z η => t E η fun ds => z.nx (η.set i (.own ds))
def sOwnL (i : Nat) (t : NT) : SD := fun E z η => t E (lend η) fun ds => flatAll ds = true ∧ z.nx (η.set i (.own ds))
theorem Good.setOwn {c : Ctx} {O : Addr → Prop} {η : EnvD} {σ : L2.St} {H H1 : Hp} (g : Good K c O η σ H) (st : Step c.G H H1) {a : Addr} {vs : List V} {ds : List D} (h : H a = none) (h1 : H1 a = some (.lst vs)) (r : RepAll K (fun b => O b ∨ b = a) H1 vs ds) (i : Nat) :
    Good K c (fun b => O b ∨ b = a) (η.set i (.own ds)) (σ.set i (some (.ref a))) H1 := by
  have gm := g.more st h h1
  have f0 := g.fresh0 h
  have ne := g.foot_ne h
  refine ⟨by rw [List.length_set, List.length_set, gm.len], gm.hB, gm.hW, gm.hT, gm.keep, gm.draw, fun j y hj => ?_, dis_new g.len g.dis i (z := .own ds) fun b hb j x _ hj => ?_, gm.fr⟩
  · by_cases e : i = j
    · subst e
      by_cases hl : i < η.length
      · rw [List.getElem?_set_self hl] at hj
        cases hj
        exact ⟨a, vs, join_set_self (g.len ▸ hl), h1, .inr rfl, fun z => g.hT a (g.hB a z) h, f0.2, r⟩
      · rw [List.getElem?_eq_none (by rw [List.length_set]; omega)] at hj
        cases hj
    · rw [List.getElem?_set_ne e] at hj ⊢
      exact gm.cell j y hj
  · have hb : some (V.ref a) = some (V.ref b) := hb
    cases hb
    exact ne j x hj
variable {x : Str} {pos' : Pos} {i : Nat}
theorem Gd.setOwn {c : Ctx} {E : XP} {O : Addr → Prop} {η : EnvD} {σ : L2.St} {H H1 : Hp} (g : Gd X c E O η σ H) (st : Step c.G H H1) {a : Addr} {vs : List V} {ds : List D} (h : H a = none) (h1 : H1 a = some (.lst vs)) (r : RepAll X.K (fun b => O b ∨ b = a) H1 vs ds) (i : Nat) : Gd X c E (fun b => O b ∨ b = a) (η.set i (.own ds)) (σ.set i (some (.ref a))) H1 := ⟨g.toGood.setOwn st h h1 r i, g.er⟩
theorem ds_set (i : Nat) {x : Str} {pos' : Pos} (hN : X.N.Nodup) (he : DE X e t) (hi : X.N[i]? = some x := by rfl) (hx : Loc X.env.scope x := by first | exact Or.inl rfl | exact Or.inr rfl) (hs : swapsWith e (some (.Name x pos')) pos.line X.env = pure false := by rfl)
    (hf : X.fn x = true ∨ X.env.scope.names.lookup x = some .local := by first | exact .inl rfl | exact .inr rfl) : DS X (.Assign [.Name x pos'] e pos) (sSet i t) := .of (ps_set (i := i) hN hi hx he.pe hs hf) fun σ H c O η E z g h =>
  ⟨c, O, η, E, _, g, h, fun d v H' s r q => ⟨O, _, (g.step s).set i r, q⟩⟩
theorem ds_setL (i : Nat) {x : Str} {pos' : Pos} (hN : X.N.Nodup) (he : DE X e t) (hi : X.N[i]? = some x := by rfl) (hx : Loc X.env.scope x := by first | exact Or.inl rfl | exact Or.inr rfl) (hs : swapsWith e (some (.Name x pos')) pos.line X.env = pure false := by rfl)
    (hf : X.fn x = true ∨ X.env.scope.names.lookup x = some .local := by first | exact .inl rfl | exact .inr rfl) : DS X (.Assign [.Name x pos'] e pos) (sSetL i t) := .of (ps_set (i := i) hN hi hx he.pe hs hf) fun σ H c O η E z g h =>
  lend_lift g h fun d v H' s r q g' => ⟨O, _, g'.set i (r.flat q.1), q.2⟩
/-- .. from a reading of a new list -/
theorem own_read {T : TE} {tn : NT} (i : Nat) {st : Stmt} (h : PS X st (tAsg T (gName i))) (hr : RdN X T tn) : DS X st (sOwn i tn) := .of h fun σ H c O η E z g ht => hr σ H c O η E _ _ g ht fun v H' ⟨ds, a, vs, e1, s, h0, h1, rp, q⟩ => by
  subst e1
  exact ⟨_, _, g.setOwn s h0 h1 rp i, q⟩
theorem ds_own (i : Nat) {x : Str} {pos' : Pos} {tn : NT} (hN : X.N.Nodup) (he : DN X e tn) (hi : X.N[i]? = some x := by rfl) (hx : Loc X.env.scope x := by first | exact Or.inl rfl | exact Or.inr rfl) (hs : swapsWith e (some (.Name x pos')) pos.line X.env = pure false := by rfl)
    (hf : X.fn x = true ∨ X.env.scope.names.lookup x = some .local := by first | exact .inl rfl | exact .inr rfl) : DS X (.Assign [.Name x pos'] e pos) (sOwn i tn) := by
  obtain ⟨T, h1, h2⟩ := he.ex
  exact own_read i (ps_set (i := i) hN hi hx h1 hs hf) h2
/-- a new list as plain data: y = [..] -/
def sNew (i : Nat) (t : NT) : SD := fun E z η => t E η fun ds => z.nx (η.set i (.dat (.list ds)))
theorem new_read {T : TE} {tn : NT} (i : Nat) {st : Stmt} (h : PS X st (tAsg T (gName i))) (hr : RdN X T tn) : DS X st (sNew i tn) := .of h fun σ H c O η E z g ht => hr σ H c O η E _ _ g ht fun v H' ⟨ds, a, vs, e1, s, h0, h1, rp, q⟩ => by
  subst e1
  exact ⟨O, _, (g.step s).set i (.lst (fun o => g.hT a o h0) h1 (rp.weak fun _ => .inl)), q⟩
/-! y = [..] in one row, y a local: the comprehension's own store -/
section
variable {elt tg iter : Expr} {ifs : List Expr} {scope : Scope} {own : List (Str × Nat)} {is : List Nat} {cpos : Pos} {ti : IT} {g : GT} {tt : BT} {te : ET} {y : Str} {py : Pos}
theorem ps_lc (i : Nat) (hc : X.calm = true) (hN : X.N.Nodup) (hy : X.N[i]? = some y) (hyl : X.env.scope.names.lookup y = some .local) (hsw : swapsWith (.ListComp elt [⟨tg, iter, ifs, 0⟩] scope cpos) (some (.Name y py)) pos.line X.env = pure true) (hi : DI X tg iter ti) (ok : BlkOk X.N X.env.scope scope own)
    (hg : ∀ (s : Shared) (H : Hp) (C : Addr) (cl : List (Str × Addr)) (fp : List Addr), DG (X.blk s H scope (compEnvC scope cl C X.env) fp) tg is g) (ht : ∀ (s : Shared) (H : Hp) (C : Addr) (cl : List (Str × Addr)) (fp : List Addr), DTs (X.blk s H scope (compEnvC scope cl C X.env) fp) ifs tt)
    (he : ∀ (s : Shared) (H : Hp) (C : Addr) (cl : List (Str × Addr)) (fp : List Addr), DE (X.blk s H scope (compEnvC scope cl C X.env) fp) elt te) (hs : ∀ x, foldedSetIterable iter X.env x = pure x := by intro _; rfl) :
    PS X (.Assign [.Name y py] (.ListComp elt [⟨tg, iter, ifs, 0⟩] scope cpos) pos) (tAsg (tLc (liftI X ti) (liftG X.K is g) (liftB0 X.K tt) (liftE0 X.K te) (own.map (·.2))) (gName i)) :=
  ps_setLc hc hN hy hyl hsw hi.pi ok (fun s H C cl fp => (hg s H C cl fp).pg) (fun s H C cl fp => (ht s H C cl fp).pts) (fun s H C cl fp => (he s H C cl fp).pe0) hs
end

/-! return, if, an expression alone -/
def sRet (t : ET) : SD := fun E z η => t E (lend η) z.rt
theorem ds_ret (h : DE X e t) : DS X (.Return (some e) pos) (sRet t) := .of (ps_ret h.pe) fun σ H c O η E z g ht => lend_lift g ht fun d v H' s r q g' => ⟨d, g'.keep, g'.draw, .inl r, q⟩
def sRetN : SD := fun _ z _ => z.rt .none
def sIf (b : BT) (t u : SD) : SD := fun E z η => b E (lend η) fun k => if k = true then t E z η else u E z η
theorem ds_if {cnd : Expr} {a b : List Stmt} {tb : BT} {t u : SD} (hc : DT X cnd tb) (ha : DSs X a t) (hb : DSs X b u) : DS X (.If cnd a b pos) (sIf tb t u) := .of (ps_if hc.pt ha.pss hb.pss) fun σ H c O η E z g h =>
  lend_liftB g h fun k H' s q g' => by
    cases k with
    | true => exact ⟨c, O, η, E, z, g', q, fun _ _ q => q, fun _ _ q => q, fun _ _ q => q, fun _ _ q => q⟩
    | false => exact ⟨c, O, η, E, z, g', q, fun _ _ q => q, fun _ _ q => q, fun _ _ q => q, fun _ _ q => q⟩
def sDrop (t : ET) : SD := fun E z η => t E (lend η) fun _ => z.nx η
theorem ds_expr (he : DE X e t) (hs : swapsWith e none pos.line X.env = pure false := by rfl) : DS X (.Expr e pos) (sDrop t) := .of (ps_expr he.pe hs) fun σ H c O η E z g h => lend_lift g h fun d v H' s r q g' => ⟨O, η, g', q⟩
def sBreak : SD := fun _ z η => z.bk η
def sCont : SD := fun _ z η => z.ct η
def sNever : SD := fun _ _ _ => False
/-! what is owned becomes plain -/
def frz (i : Nat) (η : EnvD) : EnvD := match η[i]? with | some (.own ds) => η.set i (.dat (.list ds)) | _ => η
theorem Good.frz {c : Ctx} {O : Addr → Prop} {η : EnvD} {σ : L2.St} {H : Hp} (g : Good K c O η σ H) (i : Nat) : ∃ O', Good K c O' (DL.frz i η) σ H := by
  unfold DL.frz
  split
  · rename_i ds hi
    obtain ⟨a, xs, e, ha, oa, nb, h0, r⟩ := g.cell i _ hi
    have w : ∀ b, (O b ∧ b ≠ a) → O b := fun b h => h.1
    refine ⟨fun b => O b ∧ b ≠ a, by rw [List.length_set, g.len], fun b h => ⟨g.hB b h, fun z => nb (by rw [← z]; exact h)⟩, g.hW, fun b h => g.hT b h.1, g.keep, g.draw, fun j y hj => ?_, fun j k x y b h1 h2 h3 h4 => ?_, fun p hp => (g.fr p hp).weak w⟩
    · by_cases ej : i = j
      · subst ej
        rw [List.getElem?_set_self (List.getElem?_eq_some_iff.mp hi).1] at hj
        cases hj
        exact ⟨.ref a, e, .lst (fun z => z.2 rfl) ha (r.weak w)⟩
      · rw [List.getElem?_set_ne ej] at hj
        have q := g.cell j y hj
        cases y with
        | un => trivial
        | dat d => obtain ⟨v, e1, r1⟩ := q; exact ⟨v, e1, r1.weak w⟩
        | own es =>
          obtain ⟨b, zs, e1, hb, ob, nb1, h01, r1⟩ := q
          exact ⟨b, zs, e1, hb, ⟨ob, fun z => ej (g.inj i j ds es a hi hj e (by rw [← z]; exact e1))⟩, nb1, h01, r1.weak w⟩
        | drw => exact q
        | obj a o => exact ⟨q.1, fun p hp => (q.2 p hp).imp fun y r => ⟨r.1, r.2.weak w⟩⟩
        | scr ns => exact q
        | mtb p d fp =>
          obtain ⟨x, e1, r1, k1, k2, k3, k4⟩ := q
          exact ⟨x, e1, r1, k1, k2, fun b hb => ⟨⟨(k3 b hb).1, fun z => ej (g.dis i j _ _ a hi hj e (show a ∈ fp from z ▸ hb))⟩, (k3 b hb).2⟩, k4⟩
        | lin nm fs => obtain ⟨x, e1, r1⟩ := q; exact ⟨x, e1, r1.map (fun b u nb e => ⟨fun z => nb z.1, e⟩) fun _ _ e => e⟩
        | ist p nm fs fp =>
          obtain ⟨x, e1, r1, k1, k2, k3, k4⟩ := q
          exact ⟨x, e1, r1, k1, k2, fun b hb => ⟨⟨(k3 b hb).1, fun z => ej (g.dis i j _ _ a hi hj e (show a ∈ fp from z ▸ hb))⟩, (k3 b hb).2⟩, k4⟩
    · have ne : ∀ {m : Nat} {u : Cell} {v : Option V}, (η.set i (.dat (.list ds)))[m]? = some u → foot u v b → i ≠ m := fun {m u v} q f z => by
        subst z
        rw [List.getElem?_set_self (List.getElem?_eq_some_iff.mp hi).1] at q
        cases q
        exact f
      rw [List.getElem?_set_ne (ne h1 h3)] at h1
      rw [List.getElem?_set_ne (ne h2 h4)] at h2
      exact g.dis j k _ _ b h1 h2 h3 h4
  · exact ⟨O, g⟩
theorem Gd.frz {c : Ctx} {E : XP} {O : Addr → Prop} {η : EnvD} {σ : L2.St} {H : Hp} (g : Gd X c E O η σ H) (i : Nat) : ∃ O', Gd X c E O' (DL.frz i η) σ H := (g.toGood.frz i).imp fun _ h => ⟨h, g.er⟩
def sFrz (i : Nat) (t : SD) : SD := fun E z η => t E z (frz i η)
/-! x.append(e), x.extend(e) -/
def onOwn (o : Option Cell) (k : List D → Prop) : Prop := match o with | some (.own ds) => k ds | _ => False
def onList (d : D) (k : List D → Prop) : Prop := match d with | .list es => k es | _ => False
def onInt (d : D) (k : Int → Prop) : Prop := match d with | .int n => k n | _ => False
def onCInt (o : Option Cell) (k : Int → Prop) : Prop := match o with | some (.dat (.int n)) => k n | _ => False
theorem onOwn_out {o : Option Cell} {k : List D → Prop} (h : onOwn o k) : ∃ ds, o = some (.own ds) ∧ k ds := by
  unfold onOwn at h
  split at h
  · exact ⟨_, rfl, h⟩
  · exact h.elim
def sApp (i : Nat) (t : ET) : SD := fun E z η => onOwn η[i]? fun ds => t E η fun d => ds.length < sizeLine ∧ z.nx (η.set i (.own (ds ++ [d])))
def sAppL (i : Nat) (t : ET) : SD := fun E z η => onOwn η[i]? fun ds => t E (lend η) fun d => flat d = true ∧ ds.length < sizeLine ∧ z.nx (η.set i (.own (ds ++ [d])))
def sExtL (i : Nat) (t : ET) : SD := fun E z η => onOwn η[i]? fun ds => t E (lend η) fun d => onList d fun es => flatAll es = true ∧ ds.length + es.length ≤ sizeLine ∧ z.nx (η.set i (.own (ds ++ es)))
theorem own_out {c : Ctx} {O : Addr → Prop} {η : EnvD} {σ : L2.St} {H : Hp} (g : Good K c O η σ H) {i : Nat} {ds : List D} (hi : η[i]? = some (.own ds)) : ∃ a xs, σ[i]? = some (some (.ref a)) ∧ H a = some (.lst xs) ∧ O a ∧ ¬ c.B a ∧ c.H0 a = none ∧ RepAll K O H xs ds := by
  obtain ⟨a, xs, e, r⟩ := g.cell i _ hi
  refine ⟨a, xs, ?_, r⟩
  cases q : σ[i]? with
  | none => rw [q] at e; cases e
  | some w => rw [q] at e; exact congrArg some e
theorem Good.grown {c : Ctx} {O : Addr → Prop} {η : EnvD} {σ : L2.St} {H : Hp} (g : Good K c O η σ H) {i : Nat} {ds : List D} (hi : η[i]? = some (.own ds)) {a : Addr} (ea : σ[i]? = some (some (.ref a))) {ys : List V} {es : List D} (r : RepAll K O H ys es) :
    Good K c O (η.set i (.own es)) σ (upd H a (.lst ys)) := by
  obtain ⟨a', xs, e, ha, oa, nb, h0, _⟩ := own_out g hi
  rw [ea] at e
  cases e
  have nw : ¬ Wr c.G a := fun z => nb (g.hW a z)
  -- the slot is emptied first
  have gi : Good K c O (η.set i .un) (σ.set i none) H := g.unset i
  have no : ∀ (j : Nat) (x : Cell), (η.set i .un)[j]? = some x → ¬ foot x ((σ.set i none)[j]?.join) a := fun j x hj q => by
    by_cases ej : i = j
    · subst ej
      rw [List.getElem?_set_self (List.getElem?_eq_some_iff.mp hi).1] at hj
      cases hj
      exact q
    · rw [List.getElem?_set_ne ej] at hj q
      exact ej (g.dis i j _ _ a hi hj (by rw [ea]; rfl) q)
  have g1 := gi.mut (ys := ys) oa ha nw h0 no
  refine ⟨by rw [List.length_set, g.len], g1.hB, g1.hW, g1.hT, g1.keep, g1.draw, fun j y hj => ?_, fun j k x y b h1 h2 h3 h4 => ?_, g1.fr⟩
  · by_cases ej : i = j
    · subst ej
      rw [List.getElem?_set_self (List.getElem?_eq_some_iff.mp hi).1] at hj
      cases hj
      exact ⟨a, ys, by rw [ea]; rfl, upd_same, oa, nb, h0, r.upd oa ha⟩
    · rw [List.getElem?_set_ne ej] at hj
      have q := g1.cell j y (by rw [List.getElem?_set_ne ej]; exact hj)
      rwa [List.getElem?_set_ne ej] at q
  · have there : ∀ {m : Nat} {u : Cell}, (η.set i (.own es))[m]? = some u → foot u (σ[m]?.join) b → ∃ u', η[m]? = some u' ∧ foot u' (σ[m]?.join) b := fun {m u} q f => by
      by_cases e : i = m
      · subst e
        rw [List.getElem?_set_self (List.getElem?_eq_some_iff.mp hi).1] at q
        cases q
        exact ⟨_, hi, f⟩
      · rw [List.getElem?_set_ne e] at q; exact ⟨u, q, f⟩
    obtain ⟨u1, q1, f1⟩ := there h1 h3
    obtain ⟨u2, q2, f2⟩ := there h2 h4
    exact g.dis j k u1 u2 b q1 q2 f1 f2
theorem Gd.grown {c : Ctx} {E : XP} {O : Addr → Prop} {η : EnvD} {σ : L2.St} {H : Hp} (g : Gd X c E O η σ H) {i : Nat} {ds : List D} (hi : η[i]? = some (.own ds)) {a : Addr} (ea : σ[i]? = some (some (.ref a))) {ys : List V} {es : List D} (r : RepAll X.K O H ys es) : Gd X c E O (η.set i (.own es)) σ (upd H a (.lst ys)) := ⟨g.toGood.grown hi ea r, g.er⟩
theorem own_after {c : Ctx} {O : Addr → Prop} {η : EnvD} {σ : L2.St} {H H1 : Hp} (g : Good K c O η σ H) (st : Step c.G H H1) {i : Nat} {ds : List D} (hi : η[i]? = some (.own ds)) {a : Addr} (ea : σ[i]? = some (some (.ref a))) : ∃ xs, H1 a = some (.lst xs) ∧ RepAll K O H1 xs ds := by
  obtain ⟨a', xs, e, h1, _, _, _, r⟩ := own_out (g.step st) hi
  rw [ea] at e
  cases e
  exact ⟨xs, h1, r⟩
section
variable {apos npos : Pos}
theorem ds_app (i : Nat) {x : Str} {npos : Pos} (he : DE X e t) (hN : X.N[i]? = some x := by rfl) (hv : Vis X.env.scope x := by first | exact Or.inl rfl | exact Or.inr (Or.inl rfl) | exact Or.inr (Or.inr rfl)) (hd : (x == ("__debug__" : Str)) = false := by decide) (hcd : (x == ("__classdict__" : Str)) = false := by decide)
    (hline : (apos.endLine == p.line) = true := by rfl) (hs : starEach [e] X.env = (false, eval e X.env) :: starEach [] X.env := by rfl) (hfew : ((backTo p (starEach [e] X.env)).all (fun x => !x.1) && (backToKw p (keywordEach [] X.env)).all (fun x => x.1.isSome) && decide ([e].length + ([] : List Keyword).length + (if ([] : List Keyword).isEmpty then 0 else 1) < 30)) = true := by rfl)
    (hsw : swapsWith (.Call (.Attribute (.Name x npos) "append" apos) [e] [] p) none pos.line X.env = pure false := by rfl) : DS X (.Expr (.Call (.Attribute (.Name x npos) "append" apos) [e] [] p) pos) (sApp i t) := by
  refine .of (ps_expr (pe_bm PySem.F.plainAttrs_list PySem.F.slot_list_append PySem.F.type_list_append mt_append (pe_var hN hv hd hcd) (pa_cons he.pe pa_nil hs) (by rfl) hfew hline hs) hsw) fun σ H c O η E z g h => ?_
  obtain ⟨ds, hi, h⟩ := onOwn_out h
  · obtain ⟨a, xs, ea, ha, _⟩ := own_out g.toGood hi
    refine ⟨.ref a, ea, .inl ⟨rfl, xs, .of ha⟩, c, O, η, E, _, g, h, fun d v H1 s r q => ?_⟩
    obtain ⟨ys, hy, ry⟩ := own_after g.toGood s hi ea
    exact ⟨a, ys, v, rfl, rfl, hy, by rw [ry.length]; exact q.1, O, _, (g.step s).grown hi ea (ry.append (.cons r .nil)), q.2⟩
theorem ds_extL (i : Nat) {x : Str} {npos : Pos} (he : DE X e t) (hN : X.N[i]? = some x := by rfl) (hv : Vis X.env.scope x := by first | exact Or.inl rfl | exact Or.inr (Or.inl rfl) | exact Or.inr (Or.inr rfl)) (hd : (x == ("__debug__" : Str)) = false := by decide) (hcd : (x == ("__classdict__" : Str)) = false := by decide)
    (hline : (apos.endLine == p.line) = true := by rfl) (hs : starEach [e] X.env = (false, eval e X.env) :: starEach [] X.env := by rfl) (hfew : ((backTo p (starEach [e] X.env)).all (fun x => !x.1) && (backToKw p (keywordEach [] X.env)).all (fun x => x.1.isSome) && decide ([e].length + ([] : List Keyword).length + (if ([] : List Keyword).isEmpty then 0 else 1) < 30)) = true := by rfl)
    (hsw : swapsWith (.Call (.Attribute (.Name x npos) "extend" apos) [e] [] p) none pos.line X.env = pure false := by rfl) : DS X (.Expr (.Call (.Attribute (.Name x npos) "extend" apos) [e] [] p) pos) (sExtL i t) := by
  refine .of (ps_expr (pe_bm PySem.F.plainAttrs_list PySem.F.slot_list_extend PySem.F.type_list_extend mt_extend (pe_var hN hv hd hcd) (pa_cons he.pe pa_nil hs) (by rfl) hfew hline hs) hsw) fun σ H c O η E z g h => ?_
  obtain ⟨ds, hi, h⟩ := onOwn_out h
  · obtain ⟨a, xs, ea, ha, _⟩ := own_out g.toGood hi
    refine ⟨.ref a, ea, .inl ⟨rfl, xs, .of ha⟩, c, c.B, lend η, E, _, g.lend, h, fun d v H1 s r q => ?_⟩
    obtain ⟨ys, hy, ry⟩ := own_after g.toGood s hi ea
    cases r with
    | lst o h1 rr => exact ⟨a, _, ys, _, rfl, rfl, hy, h1, by rw [ry.length, rr.length]; exact q.2.1, O, _, (g.step s).grown hi ea (ry.append (rr.flat q.1)), q.2.2⟩
    | _ => exact q.elim
end

/-! for, while -/
def forD (g : GT) (tb : SD) (E : XP) (z : EndsD) : List D → EnvD → Prop
  | [], η => z.nx η
  | d :: ds, η => g d η fun η1 => tb E { nx := forD g tb E z ds, rt := z.rt, bk := z.nx, ct := forD g tb E z ds } η1
def sFor (ti : IT) (g : GT) (tb : SD) : SD := fun E z η => ti E η fun ds => forD g tb E z ds η
theorem Good.frame {c : Ctx} {O : Addr → Prop} {η : EnvD} {σ : L2.St} {H : Hp} (g : Good K c O η σ H) {F : List (V × D)} (h : ∀ p ∈ F, Rep K O H p.1 p.2) : Good K { c with fr := F ++ c.fr } O η σ H where
  len := g.len
  hB := g.hB
  hW := g.hW
  hT := g.hT
  keep := g.keep
  draw := g.draw
  cell := g.cell
  dis := g.dis
  fr := fun p hp => (List.mem_append.mp hp).elim (h p) (g.fr p)
theorem Good.unframe {c : Ctx} {F : List (V × D)} {O : Addr → Prop} {η : EnvD} {σ : L2.St} {H : Hp} (g : Good K { c with fr := F ++ c.fr } O η σ H) : Good K c O η σ H where
  len := g.len
  hB := g.hB
  hW := g.hW
  hT := g.hT
  keep := g.keep
  draw := g.draw
  cell := g.cell
  dis := g.dis
  fr := fun p hp => g.fr p (List.mem_append_right _ hp)
theorem Gd.frame {c : Ctx} {E : XP} {O : Addr → Prop} {η : EnvD} {σ : L2.St} {H : Hp} (g : Gd X c E O η σ H) {F : List (V × D)} (h : ∀ p ∈ F, Rep X.K O H p.1 p.2) : Gd X { c with fr := F ++ c.fr } E O η σ H := ⟨g.toGood.frame h, g.er⟩
theorem Gd.unframe {c : Ctx} {E : XP} {F : List (V × D)} {O : Addr → Prop} {η : EnvD} {σ : L2.St} {H : Hp} (g : Gd X { c with fr := F ++ c.fr } E O η σ H) : Gd X c E O η σ H := ⟨g.toGood.unframe, g.er⟩
theorem ds_for {tg iter : Expr} {body : List Stmt} {ti : IT} {is : List Nat} {g : GT} {tb : SD} (hp : PassesOwn (model X.prog X.w) X.A X.env X.xe) (hc : X.calm = true) (hi : DI X tg iter ti) (hg : DG X tg is g) (hb : DSs X body tb) (hs : ∀ x, foldedSetIterable iter X.env x = pure x := by intro _; rfl) :
    DS X (.For tg iter body [] pos) (sFor ti g tb) := .of (ps_for hp hc hi.pi hg.pg hb.pss hs) fun σ H c O η E z gd h => by
  refine ⟨c, O, η, E, _, gd, h, fun J H1 ds F s1 hF w q => ?_⟩
  have g1 := (gd.step s1).frame hF
  refine for_it w (fun i σ2 H2 => ∃ O2 η2, Gd X { c with fr := F ++ c.fr } E O2 η2 σ2 H2 ∧ forD g tb E z (ds.drop i) η2) ⟨O, η, g1, q⟩ ?_ ?_ ?_
  · rintro i σ2 H2 _ ⟨O2, η2, g2, _⟩
    exact ⟨O2, fun p hp => g2.fr p (List.mem_append_left _ hp)⟩
  · rintro i x σ2 H2 H3 hi ⟨O2, η2, g2, q2⟩ ⟨d, hd, sm, hx⟩
    have ed : ds.drop i = d :: ds.drop (i + 1) := by
      obtain ⟨hl, he⟩ := List.getElem?_eq_some_iff.mp hd
      rw [List.drop_eq_getElem_cons hl, he]
    rw [ed] at q2
    refine ⟨_, O2, η2, d, _, (g2.step (.same g2.draw sm)).toGood, hx O2 fun p hp => g2.fr p (List.mem_append_left _ hp), q2, fun σ4 η4 g4 _ _ q4 => ?_⟩
    exact ⟨_, O2, η4, E, _, ⟨g4, g2.er⟩, q4, fun _ _ q => q, fun _ _ q => q, fun _ _ ⟨O5, η5, g5, q5⟩ => ⟨O5, η5, g5.unframe, q5⟩, fun _ _ q => q⟩
  · rintro σ2 H2 ⟨O2, η2, g2, q2⟩
    rw [List.drop_length] at q2
    exact ⟨O2, η2, g2.unframe, q2⟩
def whileD (b : BT) (tb : SD) (E : XP) (z : EndsD) : Nat → EnvD → Prop
  | 0, _ => False
  | n + 1, η => b E (lend η) fun k => if k = true then tb E { nx := whileD b tb E z n, rt := z.rt, bk := z.nx, ct := whileD b tb E z n } η else z.nx η
def sWhile (b : BT) (tb : SD) : SD := fun E z η => ∃ n, whileD b tb E z n η
theorem ds_while {cnd : Expr} {body : List Stmt} {b : BT} {tb : SD} (hp : PassesOwn (model X.prog X.w) X.A X.env X.xe) (hc : DT X cnd b) (hb : DSs X body tb) : DS X (.While cnd body [] pos) (sWhile b tb) := .of (ps_while hp hc.pt hb.pss) fun σ H c O η E z g h => by
  obtain ⟨n, h⟩ := h
  refine ⟨fun m σ2 H2 => ∃ O2 η2, Gd X c E O2 η2 σ2 H2 ∧ whileD b tb E z m η2, ⟨n, O, η, g, h⟩, fun m σ2 H2 ⟨O2, η2, g2, h2⟩ => ?_⟩
  cases m with
  | zero => exact h2.elim
  | succ m =>
    refine lend_liftB g2 h2 fun k H3 s q g3 => ?_
    cases k with
    | true =>
      refine ⟨fun σ4 H4 => ∃ O4 η4, Gd X c E O4 η4 σ4 H4 ∧ whileD b tb E z m η4, fun σ' H' q' => ⟨m, Nat.lt_succ_self _, q'⟩, ?_⟩
      exact ⟨c, O2, η2, E, _, g3, q, fun _ _ q => q, fun _ _ q => q, fun _ _ q => q, fun _ _ q => q⟩
    | false => exact ⟨O2, η2, g3, q⟩

/-! x += e, (a, b) = e -/
def sAug (i : Nat) (t : ET) : SD := fun E z η => onCInt η[i]? fun m => t E (lend η) fun d => onInt d fun n => z.nx (η.set i (.dat (.int (m + n))))
def sAsg (t : ET) (g : GT) : SD := fun E z η => t E η fun d => g d η z.nx
theorem ds_asg {tg : Expr} {is : List Nat} {g : GT} (he : DE X e t) (hg : DG X tg is g) (hs : swapsWithSole [tg] e pos.line X.env = pure false := by rfl) (hw : swappedStores [tg] e X.env = pure none := by rfl) (h1 : (assignEach [tg] X.env).map (·.2) = [assign tg X.env] := by rfl) :
    DS X (.Assign [tg] e pos) (sAsg t g) := .of (ps_asg he.pe hg.pg hs hw h1) fun σ H c O η E z gd h =>
  ⟨c, O, η, E, _, gd, h, fun d v H' s r q => ⟨c, O, η, d, _, (gd.step s).toGood, r, q, fun σ' η' g' _ _ q' => ⟨O, η', ⟨g', gd.er⟩, q'⟩⟩⟩
/-! (x, y) = (a, b), plain or new -/
/-- what an argument list gives: plain things and new lists -/
abbrev MT := XP → EnvD → (List Cell → Prop) → Prop
def lenScr (i : Nat) : ET := fun _ η Q => match η[i]? with | some (.scr ns) => Q (.int ns.length) | _ => False
theorem de_lenScr (i : Nat) {x : Str} {npos : Pos} (hg : Gl X "len") (hm : X.mg "len" = none) (hN : X.N[i]? = some x := by rfl) (hv : Vis X.env.scope x := by first | exact Or.inl rfl | exact Or.inr (Or.inl rfl) | exact Or.inr (Or.inr rfl)) (hd : (x == ("__debug__" : Str)) = false := by decide) (hcd : (x == ("__classdict__" : Str)) = false := by decide)
    (he : starEach [.Name x npos] X.env = (false, eval (.Name x npos) X.env) :: starEach [] X.env := by rfl) : DE X (.Call (.Name "len" p) [.Name x npos] [] pos) (lenScr i) := .of (pe_callB call_len_seq hg hm PySem.boot_len (pa_cons (pe_var hN hv hd hcd) pa_nil he)) fun σ H c O η E Q g h => by
  unfold lenScr at h
  split at h
  · rename_i ns hi
    obtain ⟨a, ea, r⟩ := g.cell i _ hi
    have es : σ[i]? = some (some (.ref a)) := by
      cases q : σ[i]? with
      | none => rw [q] at ea; cases ea
      | some w => rw [q] at ea; exact congrArg some ea
    exact ⟨.ref a, es, a, _, rfl, .inl r.sq, .int ns.length, .refl g.draw, by rw [List.length_map]; exact .int _, h⟩
  · exact h.elim
end
end DL

/-! DL7: defs, calls, the law's end. -/
namespace DL
open PySem PySem.Spec PyProof.Rows L2
/-- a def keeps its promise where no repr is under way -/
structure FnG (P : Program) (w : World) (K : PySem.W.Frag) (mg : Str → Option Value) (base : Heap) (CX : CXT) (k : Nat) (f : Addr) (fd : FuncData) (ps : List Str) (sp : Sp) : Prop where
  len : ∀ vs H Q E, sp vs H Q E → vs.length = ps.length
  run : ∀ (A : Around) (outer : List Env) (s : Shared) (H : Hp) (args : Args) (us : List Value) (vs : List V) (Q : VK) (E : XK), A.guards = some [] → Room k A → Env0 P w K mg base A outer s H → BindsTo s fd args (ps.zip us) → Vals vs us →
    sp vs H Q E → codeAny (model P w) A (.call (.ref f) args) (CR CX outer P w H s Q E) s
section
variable {P : Program} {w : World} {K : PySem.W.Frag} {mg : Str → Option Value} {base : Heap} {CX : CXT} {k : Nat} {f : Addr} {fd : FuncData} {ps N : List Str} {sp : Sp}
theorem FnG.mono {j : Nat} (F : FnG P w K mg base CX j f fd ps sp) (h : j ≤ k) : FnG P w K mg base CX k f fd ps sp := ⟨F.len, fun A outer s H args us vs Q E hg hr => F.run A outer s H args us vs Q E hg (hr.mono h)⟩
/-- from its body -/
theorem fnG_of {x qual : Str} {st : Stmt} (F : Fun K x qual st f fd) (S : FnScope N ps (defScope st)) (len : ∀ vs H Q E, sp vs H Q E → vs.length = ps.length)
    (hbody : ∀ (cdv : Value) (A : Around) (outer : List Env) (s : Shared) (H : Hp) (vs : List V) (Q : VK) (E : XK), A.guards = some [] → Room k (A.deeper (envOfC qual (defScope st) s.heap.objs.size f cdv)) → sp vs H Q E →
      ∃ t, PSs (cxOf CX P w K mg base N qual (defScope st) f cdv A outer s H E) (defBody st) t ∧ t { nx := fun _ H' => Q .non H', rt := Q } (start N vs) H) : FnG P w K mg base CX (k + 1) f fd ps sp := by
  obtain ⟨oc, od, kV, doc, pm, an, cdv, ct, osl, rfl, lk, hcd⟩ := F.ex
  refine ⟨len, fun A outer s H args us vs Q E hg hr e0 hb r hsp => ?_⟩
  have hl := len _ _ _ _ hsp
  have inH : ∀ b o, base.get? b = some o → s.heap.get? b = some o := fun b o e => (e0.bs b o e).1
  have KX : K.In s.heap := e0.mod.kin.keeps inH
  have lim : s.heap.NoLimit := e0.mod.nolimit.keeps inH
  have kinds : ∀ y ∈ ps.zip us, (defScope st).names.lookup y.1 = some .local ∨
      ((defScope st).names.lookup y.1 = some .cell ∧ ((cellsFrom (s.heap.objs.size + 1) (defScope st).names []).lookup y.1).isSome = true) := by
    intro y hy
    have hm := (List.of_mem_zip (a := y.1) (b := y.2) hy).1
    exact (S.par y.1 hm).imp id fun q => ⟨q, PySem.W.cellsFrom_some _ _ _ (.inl q)⟩
  refine codeAny_call_function hr.depth (KX _ _ lk) rfl S.co S.gen rfl (PySem.W.codeRec_of KX hcd) (hb _ _ _ _ ?_)
  refine wpAny_newFunctionEnv_cells S.kind kinds fun env he s1 IC => ?_
  subst he
  refine ⟨lim.keeps IC.toInCall.keep, codeAny_func ?_⟩
  obtain ⟨t, ht, hq⟩ := hbody cdv A outer s H vs Q E hg (hr.deeper _) hsp
  have I := inv_start (CX := CX) (E := E) S hr.hd e0 hl r IC
  have leave : ∀ {σ' : L2.St} {H' : Hp} {v : V} {u : Value} {s' : Shared}, Inv (cxOf CX P w K mg base N qual (defScope st) f cdv A outer s H E) [] σ' H' s' → RelV v u → Q v H' → CE outer P w H s Q u s' :=
    fun J rv q => ⟨_, _, J.os, J.bare, J.base, J.hok, rv, q⟩
  refine wpAny_mono (ht.run [] s1 (start N vs) H _ I hq) (fun fl s' hs => ?_) fun e s' hs => hs
  match fl, hs with
  | .ret u, ⟨v, σ', H', J, rv, q⟩ => exact leave J rv q
  | .next, ⟨σ', H', J, q⟩ => exact leave (v := .non) J rfl q
  | .brk, ⟨_, _, _, q⟩ => exact q.elim
  | .cont, ⟨_, _, _, q⟩ => exact q.elim
end
section
variable {X : Cx} {CX : CXT} {k : Nat} {f : Addr} {fd : FuncData} {ps : List Str} {sp : Sp} {E : XK} {x : Str} {p pos : Pos} {e : Expr} {es : List Expr} {t : TA}
theorem run_fnG {pins : List (Addr × Obj)} {σ : L2.St} {H : Hp} {s : Shared} {Q : VK} {us : List Value} {vs : List V} (F : FnG X.prog X.w X.K X.mg X.base CX k f fd ps sp) (hgd : X.A.guards = some []) (hr : Room k X.A) (hb : Binds X.K fd ps []) (hx : Passes CX X E)
    (I : Inv X pins σ H s) (r : Vals vs us) (h : sp vs H Q E) : wpAny (model X.prog X.w) X.A (call (.ref f) us) (EP X pins σ Q) X.xe s := by
  have hl : (us ++ []).length = ps.length := by rw [List.append_nil, ← r.length]; exact F.len _ _ _ _ h
  have hb' := hb s us I.kIn hl
  rw [List.append_nil] at hb'
  refine wpAny_call (codeAny_mono (F.run X.A X.stack s H ⟨us, []⟩ us vs Q E hgd hr I.env0 hb' r h) fun out s' hq => ?_)
  match out, hq with
  | .error e, hq => exact hx pins σ H s e s' I hq
  | .ok (.ret u), hq => exact I.after hq
theorem pe_callG (F : FnG X.prog X.w X.K X.mg X.base CX k f fd ps sp) (hgd : X.A.guards = some []) (hr : Room k X.A) (hg : Gl X x) (hm : X.mg x = some (.ref f)) (hk : PySem.W.keepIn X.K (.ref f) = true) (hb : Binds X.K fd ps []) (hx : Passes CX X E) (ha : PA X (e :: es) t)
    (hdb : (x == ("__debug__" : Str)) = false := by decide) (he : starEach (e :: es) X.env = (false, eval e X.env) :: starEach es X.env := by rfl) (hpl : (backTo pos (starEach es X.env)).any (·.1) = false := by rfl) :
    PE X (.Call (.Name x p) (e :: es) [] pos) (tCB (fun vs H Q => sp vs H Q E) t) := ⟨fun pins s σ H Q I h =>
  wpAny_Call_Name_kw (ld_glob I hg hm (PySem.W.callWith_K (h₀ := X.base) I.ok.mod.kin hk (thn (ha.run pos pins s σ H _ I h) fun us s1 ⟨vs, H1, I1, r, q⟩ => ⟨I1.kIn, run_fnG F hgd hr hb hx I1 r q⟩) he hpl) hdb)⟩
theorem pe_callG0 (F : FnG X.prog X.w X.K X.mg X.base CX k f fd ps sp) (hgd : X.A.guards = some []) (hr : Room k X.A) (hg : Gl X x) (hm : X.mg x = some (.ref f)) (hk : PySem.W.keepIn X.K (.ref f) = true) (hb : Binds X.K fd ps []) (hx : Passes CX X E)
    (hdb : (x == ("__debug__" : Str)) = false := by decide) : PE X (.Call (.Name x p) [] [] pos) (tCB (fun vs H Q => sp vs H Q E) tNil) := ⟨fun pins s σ H Q I h =>
  wpAny_Call_Name_kw (ld_glob I hg hm (PySem.W.callWith_K0 I.kIn hk (run_fnG (us := []) F hgd hr hb hx I .nil h)) hdb)⟩
end

/-! ### promises over data -/
def ArgOk (K : PySem.W.Frag) (B : Addr → Prop) (G : Option (Addr × Addr)) (H : Hp) (v : V) : Cell → Prop
  | .dat d => Rep K B H v d
  | .drw => ∃ a g, v = .ref a ∧ G = some (a, g)
  | .lin nm fs => InsAt K B H v nm fs
  | _ => False
def ArgsOk (K : PySem.W.Frag) (B : Addr → Prop) (G : Option (Addr × Addr)) (H : Hp) : List V → List Cell → Prop := Paired (ArgOk K B G H)
abbrev FT := XP → List Cell → (D → Prop) → Prop
/-- what a def over data promises -/
def spD (K : PySem.W.Frag) (n : Nat) (wf : FT) : Sp := fun vs H Q _ => vs.length = n ∧ ∃ B G cs R, (∀ a, B a → H a ≠ none) ∧ (∀ a, Wr G a → B a) ∧ DrawOk G H ∧ ArgsOk K B G H vs cs ∧ wf never cs R ∧ ∀ d v H', Step G H H' → Rep K B H' v d → R d → Q v H'
abbrev FnD (P : Program) (w : World) (K : PySem.W.Frag) (mg : Str → Option Value) (base : Heap) (k : Nat) (f : Addr) (fd : FuncData) (ps : List Str) (wf : FT) : Prop := FnG P w K mg base CX0 k f fd ps (spD K ps.length wf)
/-- a body's run -/
def bodyD (m n : Nat) (t : SD) : FT := fun E cs Q => cs.length = m ∧ t E { nx := fun _ => Q .none, rt := Q } (cs ++ List.replicate (n - cs.length) .un)
theorem bodyD_len {m n : Nat} {t : SD} : ∀ cs R, bodyD m n t never cs R → cs.length = m := fun _ _ h => h.1
theorem arg_cell {K : PySem.W.Frag} {B : Addr → Prop} {G : Option (Addr × Addr)} {H : Hp} {v : V} : ∀ {x : Cell}, ArgOk K B G H v x → CellOk K ⟨B, G, H, [], []⟩ B H (some v) x
  | .dat _, r => ⟨v, rfl, r⟩
  | .drw, ⟨a, g, e1, e2⟩ => ⟨a, g, congrArg some e1, e2⟩
  | .lin _ _, r => ⟨v, rfl, r⟩
theorem args_cell {K : PySem.W.Frag} {B : Addr → Prop} {G : Option (Addr × Addr)} {H : Hp} {x : Cell} : ∀ {vs : List V} {cs : List Cell} {i : Nat}, ArgsOk K B G H vs cs → cs[i]? = some x → CellOk K ⟨B, G, H, [], []⟩ B H (vs[i]?.map some).join x
  | _, _, _, .nil, e => by simp at e
  | _, _, 0, .cons r t, e => by
    simp at e
    subst e
    exact arg_cell r
  | _, _, i + 1, .cons r t, e => by
    have := args_cell (i := i) t (by simpa using e)
    simpa using this
theorem start_good {K : PySem.W.Frag} {B : Addr → Prop} {G : Option (Addr × Addr)} {H : Hp} {N : List Str} (hB : ∀ a, B a → H a ≠ none) (hW : ∀ a, Wr G a → B a) (hd : DrawOk G H) {vs : List V} {cs : List Cell} (ha : ArgsOk K B G H vs cs) :
    Good K ⟨B, G, H, [], []⟩ B (cs ++ List.replicate (N.length - cs.length) .un) (start N vs) H := by
  have hl : vs.length = cs.length := Paired.length ha
  have own : ∀ (i : Nat) (x : Cell) (v : Option V) (b : Addr), (cs ++ List.replicate (N.length - cs.length) Cell.un)[i]? = some x → ¬ foot x v b := fun i x v b e f => by
    by_cases hi : i < cs.length
    · rw [List.getElem?_append_left hi] at e
      have : ∀ {vs : List V} {cs : List Cell} {i : Nat}, ArgsOk K B G H vs cs → cs[i]? = some x → False := by
        intro vs cs i h
        induction h generalizing i with
        | nil => simp
        | cons r t ih =>
          cases i with
          | zero => intro e; simp at e; rw [e] at r; cases x <;> first | exact r | exact f
          | succ i => simpa using ih
      exact this ha e
    · rw [List.getElem?_append_right (by omega), List.getElem?_replicate] at e
      split at e <;> cases e
      exact f
  refine ⟨?_, fun _ h => h, hW, hB, fun _ _ _ e => e, hd, fun i x h => ?_, fun i j x y b h1 _ f _ => absurd f (own i x _ b h1), fun p hp => absurd hp (by simp)⟩
  · unfold L2.start
    rw [List.length_append, List.length_append, List.length_map, List.length_replicate, List.length_replicate, hl]
  · unfold L2.start
    by_cases hi : i < cs.length
    · rw [List.getElem?_append_left hi] at h
      rw [List.getElem?_append_left (by rw [List.length_map]; omega), List.getElem?_map]
      exact args_cell ha h
    · rw [List.getElem?_append_right (by omega), List.getElem?_replicate] at h
      split at h
      · cases h; trivial
      · cases h
theorem fnD_of {P : Program} {w : World} {K : PySem.W.Frag} {mg : Str → Option Value} {base : Heap} {k : Nat} {f : Addr} {fd : FuncData} {ps N : List Str} {x qual : Str} {st : Stmt} {t : SD} (F : Fun K x qual st f fd) (S : FnScope N ps (defScope st))
    (hbody : ∀ (cdv : Value) (A : Around) (outer : List Env) (s : Shared) (H : Hp) (E : XK), A.guards = some [] → Room k (A.deeper (envOfC qual (defScope st) s.heap.objs.size f cdv)) → DSs (cxOf CX0 P w K mg base N qual (defScope st) f cdv A outer s H E).nox (defBody st) t) :
    FnD P w K mg base (k + 1) f fd ps (bodyD ps.length N.length t) := by
  refine fnG_of F S (fun vs H Q E h => h.1) fun cdv A outer s H vs Q E hg hr h => ?_
  obtain ⟨hl, B, G, cs, R, hB, hW, hd, ha, hw, kk⟩ := h
  refine ⟨_, (hbody cdv A outer s H E hg hr).pss.nox, ⟨B, G, H, [], []⟩, B, _, never, _, ⟨start_good (N := N) hB hW hd ha, eok_never⟩, hw.2, fun σ' H' ⟨O, η, g, q⟩ => ?_, fun v H' ⟨d, h1, h2, h3, h4⟩ => kk d v H' ⟨h1, h2⟩ (no_mret rfl h3) h4, fun σ' H' ⟨O, η, g, q⟩ => q.elim, fun σ' H' ⟨O, η, g, q⟩ => q.elim⟩
  exact kk .none .non H' ⟨g.keep, g.draw⟩ .non q
/-- arguments, the draws among them -/
abbrev CT := XP → EnvD → (List Cell → Prop) → Prop
def liftC (X : Cx) (t : CT) : TA := fun σ H R => ∃ (c : Ctx) (O : Addr → Prop) (η : EnvD) (E : XP) (Q : List Cell → Prop), Gd X c E O η σ H ∧ t E η Q ∧ ∀ cs vs H', Step c.G H H' → ArgsOk X.K O c.G H' vs cs → Q cs → R vs H'
structure DC (X : Cx) (es : List Expr) (t : CT) : Prop where
  pa : PA X es (liftC X t)
def cNil : CT := fun _ _ Q => Q []
def cCons (t : ET) (ts : CT) : CT := fun E η Q => t E η fun d => ts E η fun cs => Q (.dat d :: cs)
def isDrw (o : Option Cell) (k : Prop) : Prop := match o with | some .drw => k | _ => False
def cDrw (i : Nat) (ts : CT) : CT := fun E η Q => isDrw η[i]? (ts E η fun cs => Q (.drw :: cs))
theorem isDrw_out {o : Option Cell} {k : Prop} (h : isDrw o k) : o = some .drw ∧ k := by
  unfold isDrw at h
  split at h
  · exact ⟨rfl, h⟩
  · exact h.elim
section
variable {X : Cx} {e : Expr} {es : List Expr} {t : ET} {ts : CT} {pos p : Pos}
theorem dc_nil : DC X [] cNil := ⟨⟨fun pos pins s σ H R I ⟨c, O, η, E, Q, g, q, k⟩ => pa_nil.run pos pins s σ H R I (k [] [] H (.refl g.draw) .nil q)⟩⟩
theorem ArgOk.step {K : PySem.W.Frag} {O : Addr → Prop} {G : Option (Addr × Addr)} {H H1 : Hp} (st : Step G H H1) (dr : DrawOk G H) (hW : ∀ a, Wr G a → O a) {v : V} {x : Cell} (h : ArgOk K O G H v x) : ArgOk K O G H1 v x := by
  cases x with
  | dat d => exact st.rep dr hW h
  | drw => exact h
  | un => exact h
  | own ds => exact h
  | scr ns => exact h
  | obj a o => exact h
  | mtb p d fp => exact h
  | lin nm fs => exact InsAt.map (fun a _ o e => ⟨o, st.keep a _ (fun z => o (hW a z)) e⟩) (fun a xs e => st.keep a _ (dr.tup a xs e) e) h
  | ist p nm fs fp => exact h
theorem dc_cons (h : DE X e t) (hr : DC X es ts) (hs : starEach (e :: es) X.env = (false, eval e X.env) :: starEach es X.env := by rfl) : DC X (e :: es) (cCons t ts) := ⟨⟨fun pos pins s σ H R I ⟨c, O, η, E, Q, g, q, k⟩ => (pa_cons h.pe hr.pa hs).run pos pins s σ H R I
  ⟨c, O, η, E, _, g, q, fun d v H1 s1 r1 q1 => ⟨c, O, η, E, _, g.step s1, q1, fun cs vs H2 s2 r2 q2 => k _ _ H2 (s1.trans s2) (.cons (show ArgOk X.K O c.G H2 v (.dat d) from s2.rep s1.draw g.wO r1) r2) q2⟩⟩⟩⟩
theorem dc_drw (i : Nat) {x : Str} (hr : DC X es ts) (hN : X.N[i]? = some x := by rfl) (hv : Vis X.env.scope x := by first | exact Or.inl rfl | exact Or.inr (Or.inl rfl) | exact Or.inr (Or.inr rfl)) (hd : (x == ("__debug__" : Str)) = false := by decide) (hcd : (x == ("__classdict__" : Str)) = false := by decide)
    (hs : starEach (.Name x p :: es) X.env = (false, eval (.Name x p) X.env) :: starEach es X.env := by rfl) : DC X (.Name x p :: es) (cDrw i ts) := ⟨⟨fun pos pins s σ H R I ⟨c, O, η, E, Q, g, q, k⟩ => (pa_cons (pe_var hN hv hd hcd) hr.pa hs).run pos pins s σ H R I (by
  obtain ⟨hi, q⟩ := isDrw_out q
  obtain ⟨a, gr, e1, e2⟩ := g.cell i _ hi
  refine ⟨.ref a, ?_, c, O, η, E, _, g, q, fun cs vs H2 s2 r2 q2 => k _ _ H2 s2 (.cons (show ArgOk X.K O c.G H2 (.ref a) .drw from ⟨a, gr, rfl, e2⟩) r2) q2⟩
  cases z : σ[i]? with
  | none => rw [z] at e1; cases e1
  | some w => rw [z] at e1; exact congrArg some e1)⟩⟩
def dCallF (wf : FT) (ts : CT) : ET := fun E η Q => ts E η fun cs => wf never cs Q
theorem callF_lift {X : Cx} {n : Nat} {wf : FT} {σ : L2.St} {H : Hp} {c : Ctx} {O : Addr → Prop} {η : EnvD} {E : XP} {Q : D → Prop} (hn : ∀ cs R, wf never cs R → cs.length = n) (g : Gd X c E O η σ H) (h : dCallF wf ts E η Q) :
    tCB (fun vs H Q => spD X.K n wf vs H Q E0) (liftC X ts) σ H fun v H' => ∃ d, Step c.G H H' ∧ Rep X.K O H' v d ∧ Q d :=
  ⟨c, O, η, E, _, g, h, fun cs vs H1 s1 r1 q => ⟨(Paired.length r1).trans (hn _ _ q), O, c.G, cs, Q, (g.step s1).hT, g.wO, s1.draw, r1, q, fun d v H' s r q => ⟨d, s1.trans s, r, q⟩⟩⟩
theorem de_call {k : Nat} {f : Addr} {fd : FuncData} {ps : List Str} {wf : FT} {x : Str} (F : FnD X.prog X.w X.K X.mg X.base k f fd ps wf) (hn : ∀ cs R, wf never cs R → cs.length = ps.length) (hgd : X.A.guards = some []) (hr : Room k X.A) (hg : Gl X x) (hm : X.mg x = some (.ref f)) (hk : PySem.W.keepIn X.K (.ref f) = true) (hb : Binds X.K fd ps [])
    (ha : DC X (e :: es) ts) (hdb : (x == ("__debug__" : Str)) = false := by decide) (he : starEach (e :: es) X.env = (false, eval e X.env) :: starEach es X.env := by rfl) (hpl : (backTo pos (starEach es X.env)).any (·.1) = false := by rfl) : DE X (.Call (.Name x p) (e :: es) [] pos) (dCallF wf ts) :=
  .of (pe_callG F hgd hr hg hm hk hb pass0 ha.pa hdb he hpl) fun σ H c O η E Q g h => callF_lift hn g h
theorem de_call0 {k : Nat} {f : Addr} {fd : FuncData} {ps : List Str} {wf : FT} {x : Str} (F : FnD X.prog X.w X.K X.mg X.base k f fd ps wf) (hn : ∀ cs R, wf never cs R → cs.length = ps.length) (hgd : X.A.guards = some []) (hr : Room k X.A) (hg : Gl X x) (hm : X.mg x = some (.ref f)) (hk : PySem.W.keepIn X.K (.ref f) = true) (hb : Binds X.K fd ps [])
    (hdb : (x == ("__debug__" : Str)) = false := by decide) : DE X (.Call (.Name x p) [] [] pos) (dCallF wf cNil) :=
  .of (pe_callG0 F hgd hr hg hm hk hb pass0 hdb) fun σ H c O η E Q g h => ⟨hn _ _ h, O, c.G, [], Q, g.hT, g.wO, g.draw, .nil, h, fun d v H' s r q => ⟨d, s, r, q⟩⟩
end
end DL

/-! DL8: the law's end. -/
namespace DL
open PySem PySem.Spec PyProof.Rows L2
/-- nothing is tracked but the script and the tables -/
def OnlyL (H : Hp) : Prop := (∀ a, H a = none ∨ (∃ o u, H a = some (.frz o u)) ∨ ∃ ps, H a = some (.tbl ps)) ∧ TabM H
/-- the tables, as the head leaves them -/
structure TabsC (K : PySem.W.Frag) (h : Heap) (cs : List (Addr × Addr)) : Prop where
  sys : K.lookup sysModules = none
  all : lawTabs.map (·.1) = cs.map (·.2)
  new : ∀ p ∈ cs, h.get? p.2 = some { cls := .none, data := .fields #[] }
  off : ∀ p ∈ cs, K.lookup p.2 = none
  code : ∀ p ∈ cs, PySem.W.CodeHd h p.1 p.2
theorem law_callG {P : Program} {w : World} {K : PySem.W.Frag} {mg mb : Str → Option Value} {k : Nat} {fa a : Addr} {cs : List (Addr × Addr)} {fd : FuncData} {x : Str} {sp : Sp} {s1 : Shared} {vs : List Value} {ns : List Int} (KX : K.In s1.heap) (hns : s1.heap.Ns mainGlobals mg) (hb : s1.heap.Ns builtinsNs mb)
    (hbb : ∀ x : Str, x ≠ "__name__" → mb x = bootBuiltins x) (hlim : s1.heap.NoLimit) (hg : s1.gens = #[]) (T : TabsC K s1.heap cs) (hsys : ∃ mm, s1.heap.Ns sysModules mm)
    (hbm : ∃ (bm : Addr) (ob : Obj), mg "__builtins__" = some (.ref bm) ∧ bm ≠ builtinsNs ∧ s1.heap.get? bm = some ob ∧ ob.cls = .type "module" ∧ ob.dict = some builtinsNs ∧ ob.data = .plain)
    (ha : s1.heap.get? a = some { cls := .type "list", data := .seq vs.toArray }) (hi : IntsAre vs ns) (hl : ns.length ≤ sizeLine) (hr : Room k callerA)
    (F : ∀ base : Heap, K.In base → base.Ns mainGlobals mg → (∀ p ∈ cs, LamX.TabB base mg p.1 p.2) → FnG P w K mg base CX0 k fa fd [x] sp) (hbind : ∀ (s : Shared) (u : Value), BindsTo s fd ⟨[u], []⟩ [(x, u)])
    (hsp : ∀ H : Hp, OnlyL H → SqL K H a (ns.map V.int) → sp [.ref a] H (fun v _ => v = .bl true) fun _ _ _ => False) :
    codeAny (model P w) callerA (.call (.ref fa) ⟨[.ref a], []⟩) (fun r s' => r = .ok (.ret (.bool true)) ∧ OldK s1.heap s'.heap ∧ s'.os = s1.os ∧ AllBare s'.gens) s1 := by
  have rv := vals_ints hi
  have lenV := hi.length
  -- a table's address
  have tabAt : ∀ b, (∃ q, (b, q) ∈ lawTabs) → ∃ p ∈ cs, p.2 = b := fun b ⟨q, hq⟩ => by
    have : b ∈ cs.map (·.2) := by rw [← T.all]; exact List.mem_map.mpr ⟨_, hq, rfl⟩
    exact List.mem_map.mp this
  have tabs0 : ∀ {H : Hp}, (∀ p ∈ cs, H p.2 = some (.tbl #[])) → LamX.Tabs lawTabs H := fun h p hp => by
    obtain ⟨c, hc, e⟩ := tabAt p.1 ⟨p.2, hp⟩
    exact .nil (by rw [← e]; exact h c hc)
  have aT : ∀ p ∈ cs, p.2 ≠ a := fun p hp z => by
    have q := T.new p hp
    rw [z, ha] at q
    cases q
  obtain ⟨mmS, oS, esS, epS, eS, dS, rS⟩ := hsys
  have aS : a ≠ sysModules := fun z => by
    rw [z, eS] at ha
    cases ha
    cases dS
  have pS : ∀ p ∈ cs, p.2 ≠ sysModules := fun p hp z => by
    have q := T.new p hp
    rw [z, eS] at q
    cases q
    cases dS
  have main : ∀ H : Hp, OnlyL H → (∀ p ∈ cs, H p.2 = some (.tbl #[])) → SqL K H a (ns.map V.int) → HOk P w H s1.heap → (∀ b u, H b = some u → (b = a ∧ K.lookup a = none) ∨ (∃ p ∈ cs, p.2 = b) ∨ b = sysModules) →
      codeAny (model P w) callerA (.call (.ref fa) ⟨[.ref a], []⟩) (fun r s' => r = .ok (.ret (.bool true)) ∧ OldK s1.heap s'.heap ∧ s'.os = s1.os ∧ AllBare s'.gens) s1 := by
    intro H hO hH hS hok hA
    -- what is neither a list nor an empty table is not tracked
    have free : ∀ {b : Addr} {o : Obj}, b ≠ sysModules → s1.heap.get? b = some o → (∀ vs n, o.data ≠ .seq vs n) → o.data ≠ .fields #[] → H b = none := by
      intro b o nS e n1 n2
      cases q : H b with
      | none => rfl
      | some u =>
        rcases hA b u q with ⟨rfl, _⟩ | ⟨p, hp, rfl⟩ | z
        · rw [ha] at e
          cases e
          exact (n1 _ _ rfl).elim
        · rw [T.new p hp] at e
          cases e
          exact (n2 rfl).elim
        · exact absurd z nS
    have dictFree : ∀ {b : Addr} {o : Obj} {es : Array DictEntry} {ep : Nat}, b ≠ sysModules → s1.heap.get? b = some o → o.data = .dict es ep → H b = none := fun nS e d => free nS e (fun vs n z => by rw [d] at z; cases z) (fun z => by rw [d] at z; cases z)
    have nsB : ∀ {b : Addr} {m : Str → Option Value}, b ≠ sysModules → s1.heap.Ns b m → (hidT s1.heap H).Ns b m := by
      rintro b m nS ⟨o, es, ep, e, d, r⟩
      exact ⟨o, es, ep, hidT_get e (dictFree nS e d), d, r⟩
    have kB : K.In (hidT s1.heap H) := by
      intro b o e
      refine hidT_get (KX b o e) ?_
      cases q : H b with
      | none => rfl
      | some u =>
        rcases hA b u q with ⟨rfl, z⟩ | ⟨p, hp, rfl⟩ | rfl
        · rw [z] at e
          cases e
        · rw [T.off p hp] at e
          cases e
        · rw [T.sys] at e
          cases e
    have mB : Mod K mg (hidT s1.heap H) := ⟨kB, nsB (by decide) hns, ⟨mb, nsB (by decide) hb, hbb⟩, let ⟨m, q1, q2⟩ := hlim; ⟨m, nsB (by decide) q1, q2⟩⟩
    have tB : ∀ p ∈ cs, LamX.TabB (hidT s1.heap H) mg p.1 p.2 := by
      intro p hp
      have hP := T.new p hp
      refine ⟨?_, ?_, fun z => ?_⟩
      · obtain ⟨o, us, file, tf, flags, tg, inF, text, tt, e1, r1, r2, r3, rest⟩ := T.code p hp
        refine ⟨o, us, file, tf, flags, tg, inF, text, tt, hidT_get e1 (free (fun z => ?_) e1 (fun vs n z => ?_) fun z => ?_), r1, r2, r3, rest⟩
        · rw [z, eS] at e1; cases e1; rw [r2] at dS; cases dS
        · rw [r2] at z; cases z
        · rw [r2] at z; cases z; cases r3
      · obtain ⟨bm, ob, b1, b2, b3, b4, b5, b6⟩ := hbm
        have plainAt : ∀ {o : Obj}, s1.heap.get? bm = some o → o.data = .plain := fun e => by
          rw [b3] at e
          cases e
          exact b6
        refine ⟨bm, ob, b1, b2, fun q => ?_, fun q => ?_, hidT_get b3 (free (fun z => by rw [z, eS] at b3; cases b3; rw [b6] at dS; cases dS) b3 (fun vs n z => by rw [b6] at z; cases z) fun z => by rw [b6] at z; cases z), b4, b5, b6⟩
        · obtain ⟨o, es, ep, e, hd, _⟩ := hns
          rw [← q] at e
          rw [plainAt e] at hd
          cases hd
        · rw [← q] at hP
          cases plainAt hP
      · obtain ⟨o, es, ep, e, hd, _⟩ := hns
        rw [z, hP] at e
        cases e
        cases hd
    have e0 : Env0 P w K mg (hidT s1.heap H) callerA [] s1 H := ⟨rfl, mB, fun b o e => of_hidT e, Nat.le_of_eq (hidT_size _ _), trivial, fun b hb => (nomatch hb), hok, .of_eq hg⟩
    refine codeAny_mono ((F _ kB (nsB (by decide) hns) tB).run callerA [] s1 H ⟨[.ref a], []⟩ [.ref a] [.ref a] _ _ rfl hr e0 (hbind s1 (.ref a)) (.cons rfl .nil) (hsp H hO hS)) fun r s' h => ?_
    match r, h with
    | .error e, h => exact False.elim h
    | .ok (.ret u), ⟨v, H', os, bare, un, hok', r', q⟩ =>
      have q : v = .bl true := q
      subst q
      have r' : u = Value.bool true := r'
      subst r'
      have grown : ∀ p ∈ cs, ∃ more : Array Value, s'.heap.get? p.2 = some { cls := .none, data := .fields more } := fun p hp => by
        obtain ⟨more, z⟩ := un.tbls p.2 #[] (hH p hp)
        exact ⟨_, hok' p.2 _ z⟩
      have stays : ∀ b o, (¬ ∃ p ∈ cs, p.2 = b) → s1.heap.get? b = some o → s'.heap.get? b = some o := fun b o nb e => by
        cases z : H b with
        | none => exact un.keep b o e z (fun m => nomatch m) (fun m => nomatch m)
        | some u =>
          rcases hO.1 b with z' | ⟨ob, xs, z'⟩ | ⟨ps, z'⟩
          · rw [z] at z'; cases z'
          · obtain ⟨e1, _⟩ := hok b _ z'
            obtain ⟨e2, _⟩ := hok' b _ (un.frzs b ob _ z')
            rw [e] at e1
            cases e1
            exact e2
          · rcases hA b _ z' with ⟨rfl, _⟩ | y | y
            · rcases hS with (y | ⟨oo, y⟩) | ⟨oo, its, n, y, _⟩
              · rw [z'] at y; cases y
              · rw [z'] at y; cases y
              · rcases hA b _ z' with ⟨_, y2⟩ | y2 | y2
                · rw [y2] at y; cases y
                · exact absurd y2 nb
                · exact absurd y2 aS
            · exact absurd y nb
            · obtain ⟨o9, e9⟩ := hO.2.m
              rw [y, e9] at z'
              cases z'
      refine ⟨rfl, ⟨fun b o e => ?_, fun b o e => ?_⟩, os, bare⟩
      · by_cases hbT : ∃ p ∈ cs, p.2 = b
        · obtain ⟨p, hp, rfl⟩ := hbT
          obtain ⟨more, hm⟩ := grown p hp
          rw [T.new p hp] at e
          cases e
          exact .inr (.inl ⟨((T.code p hp).tab (T.new p hp)).isCodeTable, rfl, #[], more, rfl, by rw [Array.empty_append]; exact hm⟩)
        · exact .inl (stays b o hbT e)
      · by_cases hbT : ∃ p ∈ cs, p.2 = b
        · obtain ⟨p, hp, rfl⟩ := hbT
          obtain ⟨more, hm⟩ := grown p hp
          exact ⟨_, hm⟩
        · exact ⟨o, stays b o hbT e⟩
  classical
  cases hk : K.lookup a with
  | some o =>
    have e := KX a o hk
    rw [ha] at e
    cases e
    have main2 := fun H hO hH hS hok hA => main H hO hH hS hok hA
    let H0 : Hp := fun b => if b = sysModules then some (.frz oS (.own 0)) else if ∃ p ∈ cs, p.2 = b then some (.tbl #[]) else none
    have at_S : H0 sysModules = some (.frz oS (.own 0)) := if_pos rfl
    have at_ : ∀ p ∈ cs, H0 p.2 = some (HO.tbl #[]) := fun p hp => (if_neg (pS p hp)).trans (if_pos ⟨p, hp, rfl⟩)
    have out : ∀ (b : Addr) (u : HO), H0 b = some u → (b = sysModules ∧ u = .frz oS (.own 0)) ∨ ((∃ p ∈ cs, p.2 = b) ∧ u = .tbl #[]) := fun b u z => by
      have z : (if b = sysModules then some (HO.frz oS (.own 0)) else if ∃ p ∈ cs, p.2 = b then some (HO.tbl #[]) else none) = some u := z
      by_cases h0 : b = sysModules
      · rw [if_pos h0] at z; exact .inl ⟨h0, (Option.some.inj z).symm⟩
      · rw [if_neg h0] at z
        by_cases hb : ∃ p ∈ cs, p.2 = b
        · rw [if_pos hb] at z
          exact .inr ⟨hb, (Option.some.inj z).symm⟩
        · rw [if_neg hb] at z; cases z
    refine main2 H0 ⟨fun b => ?_, tabs0 at_, oS, at_S⟩ at_ (.inr ⟨_, vs.toArray, _, hk, rfl, rfl, rfl, by rw [List.size_toArray, lenV]; exact hl, by simpa using rv⟩) (fun b u z => ?_) fun b u z => (out b u z).elim (fun y => .inr (.inr y.1)) fun y => .inr (.inl y.1)
    · by_cases h0 : b = sysModules
      · exact .inr (.inl ⟨_, _, h0 ▸ at_S⟩)
      · by_cases hb : ∃ p ∈ cs, p.2 = b
        · exact .inr (.inr ⟨_, (if_neg h0).trans (if_pos hb)⟩)
        · exact .inl ((if_neg h0).trans (if_neg hb))
    · rcases out b u z with ⟨rfl, rfl⟩ | ⟨⟨p, hp, rfl⟩, rfl⟩
      · exact ⟨eS, oS, eS⟩
      · exact T.new p hp
  | none =>
    let H0 : Hp := fun b => if b = sysModules then some (.frz oS (.own 0)) else if b = a then some (.frz { cls := .type "list", data := .seq vs.toArray } (.lst (ns.map V.int))) else if ∃ p ∈ cs, p.2 = b then some (.tbl #[]) else none
    have at_S : H0 sysModules = some (.frz oS (.own 0)) := if_pos rfl
    have at_a : H0 a = some (HO.frz { cls := .type "list", data := .seq vs.toArray } (.lst (ns.map V.int))) := (if_neg aS).trans (if_pos rfl)
    have at_ : ∀ p ∈ cs, H0 p.2 = some (HO.tbl #[]) := fun p hp => (if_neg (pS p hp)).trans ((if_neg (aT p hp)).trans (if_pos ⟨p, hp, rfl⟩))
    have out : ∀ (b : Addr) (u : HO), H0 b = some u → (b = sysModules ∧ u = .frz oS (.own 0)) ∨ (b = a ∧ u = HO.frz { cls := .type "list", data := .seq vs.toArray } (.lst (ns.map V.int))) ∨ ((∃ p ∈ cs, p.2 = b) ∧ u = .tbl #[]) := by
      intro b u z
      have z : (if b = sysModules then some (HO.frz oS (.own 0)) else if b = a then some (HO.frz { cls := .type "list", data := .seq vs.toArray } (.lst (ns.map V.int))) else if ∃ p ∈ cs, p.2 = b then some (HO.tbl #[]) else none) = some u := z
      by_cases h0 : b = sysModules
      · rw [if_pos h0] at z; exact .inl ⟨h0, (Option.some.inj z).symm⟩
      rw [if_neg h0] at z
      by_cases hb : b = a
      · rw [if_pos hb] at z
        exact .inr (.inl ⟨hb, (Option.some.inj z).symm⟩)
      · rw [if_neg hb] at z
        by_cases hb2 : ∃ p ∈ cs, p.2 = b
        · rw [if_pos hb2] at z
          exact .inr (.inr ⟨hb2, (Option.some.inj z).symm⟩)
        · rw [if_neg hb2] at z; cases z
    refine main H0 ⟨fun b => ?_, tabs0 at_, oS, at_S⟩ at_ (.inl (.inr ⟨_, at_a⟩)) (fun b u z => ?_) fun b u z => (out b u z).elim (fun y => .inr (.inr y.1)) fun y => y.elim (fun y => .inl ⟨y.1, hk⟩) fun y => .inr (.inl y.1)
    · by_cases h0 : b = sysModules
      · exact .inr (.inl ⟨_, _, h0 ▸ at_S⟩)
      by_cases hb : b = a
      · exact .inr (.inl ⟨_, _, (if_neg h0).trans (if_pos hb)⟩)
      · by_cases hb2 : ∃ p ∈ cs, p.2 = b
        · exact .inr (.inr ⟨_, (if_neg h0).trans ((if_neg hb).trans (if_pos hb2))⟩)
        · exact .inl ((if_neg h0).trans ((if_neg hb).trans (if_neg hb2)))
    · rcases out b u z with ⟨rfl, rfl⟩ | ⟨rfl, rfl⟩ | ⟨⟨p, hp, rfl⟩, rfl⟩
      · exact ⟨eS, oS, eS⟩
      · exact ⟨ha, by rw [List.length_map]; exact hl, vs, _, rv, ha⟩
      · exact T.new p hp
/-- what the head tells of the tables -/
def TabsOf (q : Program) (K : PySem.W.Frag) (h : Heap) : Prop := ∀ {d : DefRec} {x : Str} {c P : Addr}, (recsOf q).find? (fun e => e.name == x) = some d → PySem.W.tabIn K x = some (c, P) → PySem.W.CodeHd h c P ∧ h.get? P = some (PySem.W.tabObj #[])
end DL

/-! DL9: draws, defs by name, parallel stores. -/
namespace DL
open PySem PySem.Spec PyProof.Rows L2
def dw (x y z : V) : List (Key × V) := [(.inr "mixed", x), (.inr "great", y), (.inr "turn", z)]
theorem key_mg : ¬ (Sum.inr "mixed" : Key) = .inr "great" := by decide
theorem key_mt : ¬ (Sum.inr "mixed" : Key) = .inr "turn" := by decide
theorem key_gt : ¬ (Sum.inr "great" : Key) = .inr "turn" := by decide
theorem dw_mixed (x y z : V) : valV (dw x y z) (.inr "mixed" : Key) = some x := valV_pos rfl
theorem dw_great (x y z : V) : valV (dw x y z) (.inr "great" : Key) = some y := (valV_neg key_mg).trans (valV_pos rfl)
theorem dw_turn (x y z : V) : valV (dw x y z) (.inr "turn" : Key) = some z := (valV_neg key_mt).trans ((valV_neg key_gt).trans (valV_pos rfl))
theorem dw_put_turn (x y z v : V) : putK (dw x y z) (.inr "turn" : Key) v = dw x y v := by
  have e1 : ¬ (Sum.inr "mixed" : Key) = .inr "turn" := by decide
  have e2 : ¬ (Sum.inr "great" : Key) = .inr "turn" := by decide
  simp [putK, dw, e1, e2]
theorem dw_put_mixed (x y z v : V) : putK (dw x y z) (.inr "mixed" : Key) v = dw v y z := by
  have e1 : ¬ (Sum.inr "great" : Key) = .inr "mixed" := by decide
  have e2 : ¬ (Sum.inr "turn" : Key) = .inr "mixed" := by decide
  simp [putK, dw, e1, e2]
theorem dget_of {H : Hp} {a : Addr} {kvs : List (Key × V)} {k : Key} {v : V} (h : H a = some (.dK kvs)) (e : valV kvs k = some v) : DGet H a (kV k) (some v) := by
  rw [← e]
  exact DGet.k h
theorem dp_ints {K : PySem.W.Frag} {H : Hp} : ∀ ns : List Int, DpAll K H (ns.map V.int) (ns.map PyData.int)
  | [] => .nil
  | n :: ns => .cons (.int n) (dp_ints ns)
theorem lay_ints : ∀ ns : List Int, PyData.canLayAll0 (ns.map PyData.int) = true
  | [] => rfl
  | n :: ns => by
    show (PyData.canLay0 (.int n) && PyData.canLayAll0 (ns.map PyData.int)) = true
    rw [lay_ints ns]
    rfl
theorem shaped_ints (ns : List Int) : SeqAt.shaped (.list (ns.map PyData.int)) = true := by
  unfold SeqAt.shaped
  have h1 : (PyData.list (ns.map PyData.int)).canLay0 = true := lay_ints ns
  have h2 : (PyData.list (ns.map PyData.int)).depth ≤ 64 := by
    simp [PyData.depth, PySem.W.depth_ints]
  rw [h1, decide_eq_true h2]
  rfl
theorem ixN_nat {n j : Nat} (h : j < n) : ixN n (j : Int) = some j := by
  unfold ixN
  simp
  omega
/-- a draw's step -/
def StepO (a g : Addr) (H H' : Hp) : Prop := (∀ b o, b ≠ a → b ≠ g → H b = some o → H' b = some o) ∧ DrawO (some (a, g)) H'
theorem step_of {a g : Addr} {H H' : Hp} (k : ∀ b o, b ≠ a → b ≠ g → H b = some o → H' b = some o) (d : DrawO (some (a, g)) H') : StepO a g H H' := ⟨k, d⟩
theorem StepO.step {a g : Addr} {H H' : Hp} (st : StepO a g H H') (h : DrawOk (some (a, g)) H) : Step (some (a, g)) H H' := by
  obtain ⟨k, d⟩ := st
  refine ⟨fun b o n e => k b o (fun z => n (.inl ⟨_, rfl, .inl z⟩)) (fun z => n (.inl ⟨_, rfl, .inr z⟩)) e, d, tabm_stay h.2 fun b u e hu => ?_⟩
  obtain ⟨_, m, t, ns, e1, _, _, e2, _⟩ := h.1
  refine k b u (fun z => ?_) (fun z => ?_) e
  · rw [z, e1] at e
    cases e
    rcases hu with ⟨_, z⟩ | ⟨_, z⟩ | ⟨_, _, z⟩ <;> cases z
  · rw [z, e2] at e
    cases e
    rcases hu with ⟨_, z⟩ | ⟨_, z⟩ | ⟨_, _, z⟩ <;> cases z

/-- a new row of draws -/
def spBegun (K : PySem.W.Frag) : Sp := fun vs H Q _ => ∃ (a : Addr) (ns : List Int), vs = [.ref a] ∧ SqL K H a (ns.map V.int) ∧ ns.length ≤ 63 ∧ ∀ d g H', H d = none → H g = none → Same H H' → DrawO (some (d, g)) H' → Q (.ref d) H'
/-- the next number below a bound -/
def spNext : Sp := fun vs H Q _ => ∃ (a g : Addr) (b : Int), vs = [.ref a, .int b] ∧ DrawO (some (a, g)) H ∧ 0 < b ∧ b < 1073741824 ∧ ∀ r H', 0 ≤ r → r < b → StepO a g H H' → Q (.int r) H'
def wNextB (Q : D → Prop) : Cell → Prop
  | .dat (.int b) => (0 < b ∧ b < 1073741824) ∧ ∀ r, 0 ≤ r → r < b → Q (.int r)
  | _ => False
def w_next : FT := fun _ cs Q => match cs with
  | [.drw, x] => wNextB Q x
  | _ => False
theorem next_len : ∀ cs R, w_next never cs R → cs.length = 2 := fun cs R h => by
  unfold w_next at h
  split at h
  · rfl
  · exact h.elim
section
variable {P : Program} {w : World} {K : PySem.W.Frag} {mg : Str → Option Value} {base : Heap} {k : Nat}
theorem next_imp {vs : List V} {H : Hp} {Q : VK} {E : XK} (h : spD K 2 w_next vs H Q E) : spNext vs H Q E := by
  obtain ⟨hl, B, G, cs, R, hB, hW, hd, ha, hw, kk⟩ := h
  unfold w_next at hw
  split at hw
  · rename_i x
    cases ha with
    | cons r1 r2 =>
      cases r2 with
      | cons r2 r3 =>
        cases r3
        obtain ⟨a, g, rfl, rfl⟩ := r1
        cases x with
        | dat d =>
          have r2 : Rep K B H _ d := r2
          cases r2 with
          | int b => exact ⟨a, g, b, rfl, hd.1, hw.1.1, hw.1.2, fun r H' h0 h1 st => kk _ _ _ (st.step hd) (.int r) (hw.2 r h0 h1)⟩
          | _ => exact hw.elim
        | _ => exact hw.elim
  · exact hw.elim
/-- a def of the text, by its name -/
structure DefIn (K : PySem.W.Frag) (mg : Str → Option Value) (x : Str) (st : Stmt) (ps : List Str) : Prop where
  ex : ∃ f fd, Fun K x x st f fd ∧ mg x = some (.ref f) ∧ Binds K fd ps []
structure HasF (P : Program) (w : World) (K : PySem.W.Frag) (mg : Str → Option Value) (base : Heap) (x : Str) (k : Nat) (ps : List Str) (wf : FT) : Prop where
  ex : ∃ f fd, mg x = some (.ref f) ∧ PySem.W.keepIn K (.ref f) = true ∧ Binds K fd ps [] ∧ FnD P w K mg base k f fd ps wf
  len : ∀ cs R, wf never cs R → cs.length = ps.length
theorem hasF_of {x : Str} {st : Stmt} {ps N : List Str} {t : SD} (Df : DefIn K mg x st ps) (S : FnScope N ps (defScope st))
    (hbody : ∀ (f : Addr) (cdv : Value) (A : Around) (outer : List Env) (s : Shared) (H : Hp) (E : XK), A.guards = some [] → Room k (A.deeper (envOfC x (defScope st) s.heap.objs.size f cdv)) → DSs (cxOf CX0 P w K mg base N x (defScope st) f cdv A outer s H E).nox (defBody st) t) :
    HasF P w K mg base x (k + 1) ps (bodyD ps.length N.length t) := by
  obtain ⟨f, fd, F, hm, hb⟩ := Df.ex
  exact ⟨⟨f, fd, hm, F.kp, hb, fnD_of F S (hbody f)⟩, bodyD_len⟩
theorem hasF_next {x : Str} {st : Stmt} {ps : List Str} (Df : DefIn K mg x st ps) (hp : ps.length = 2) (h : ∀ f fd, Fun K x x st f fd → FnG P w K mg base CX0 k f fd ps spNext) : HasF P w K mg base x k ps w_next := by
  obtain ⟨f, fd, F, hm, hb⟩ := Df.ex
  refine ⟨⟨f, fd, hm, F.kp, hb, fun vs H Q E q => q.1, fun A outer s H args us vs Q E hg hr he hbt hv hs => (h f fd F).run A outer s H args us vs Q E hg hr he hbt hv (next_imp (by rw [← hp]; exact hs))⟩, fun cs R q => (next_len cs R q).trans hp.symm⟩
end
section
variable {X : Cx} {e : Expr} {es : List Expr} {ts : CT} {pos p : Pos} {k j : Nat} {ps : List Str} {wf : FT} {x : Str}
theorem de_f (F : HasF X.prog X.w X.K X.mg X.base x j ps wf) (hgd : X.A.guards = some []) (hr : Room k X.A) (ha : DC X (e :: es) ts) (hj : j ≤ k := by decide) (hg : Gl X x := by rfl) (hdb : (x == ("__debug__" : Str)) = false := by decide) (he : starEach (e :: es) X.env = (false, eval e X.env) :: starEach es X.env := by rfl)
    (hpl : (backTo pos (starEach es X.env)).any (·.1) = false := by rfl) : DE X (.Call (.Name x p) (e :: es) [] pos) (dCallF wf ts) := by
  obtain ⟨f, fd, hm, hk, hb, G⟩ := F.ex
  exact de_call G F.len hgd (hr.mono hj) hg hm hk hb ha hdb he hpl
theorem de_f0 (F : HasF X.prog X.w X.K X.mg X.base x j ps wf) (hgd : X.A.guards = some []) (hr : Room k X.A) (hj : j ≤ k := by decide) (hg : Gl X x := by rfl) (hdb : (x == ("__debug__" : Str)) = false := by decide) : DE X (.Call (.Name x p) [] [] pos) (dCallF wf cNil) := by
  obtain ⟨f, fd, hm, hk, hb, G⟩ := F.ex
  exact de_call0 G F.len hgd (hr.mono hj) hg hm hk hb hdb
end
/-! two names at once -/
section
variable {X : Cx} {a b : Expr} {t u : ET} {tn : NT} {pos : Pos}
def sPar (i j : Nat) (t u : ET) : SD := fun E z η => t E η fun x => u E η fun y => z.nx ((η.set i (.dat x)).set j (.dat y))
theorem ds_par (i j : Nat) {x y : Str} {px py pt : Pos} {kt k2 : Nat} {pt2 : Pos} (hc : X.calm = true) (hN : X.N.Nodup) (ha : DE X a t) (hb : DE X b u) (hi : X.N[i]? = some x := by rfl) (hj : X.N[j]? = some y := by rfl) (hij : i ≠ j := by decide) (hx : X.env.scope.names.lookup x = some .local := by rfl) (hy : X.env.scope.names.lookup y = some .local := by rfl)
    (hw : swappedStores [.Tuple [.Name x px, .Name y py] kt pt] (.Tuple [a, b] k2 pt2) X.env = pure (some [x, y]) := by rfl) (hs : swapsWithSole [.Tuple [.Name x px, .Name y py] kt pt] (.Tuple [a, b] k2 pt2) pos.line X.env = pure false := by rfl)
    (sa : starEach [a, b] X.env = (false, eval a X.env) :: starEach [b] X.env := by rfl) (sb : starEach [b] X.env = (false, eval b X.env) :: starEach [] X.env := by rfl) :
    DS X (.Assign [.Tuple [.Name x px, .Name y py] kt pt] (.Tuple [a, b] k2 pt2) pos) (sPar i j t u) := .of (ps_par hc hN hi hj hij hx hy (pa_cons ha.pe (pa_cons hb.pe pa_nil sb) sa) hw hs) fun σ H c O η E z g h => by
  refine ⟨c, O, η, E, _, g, h, fun dx vx H1 s1 r1 h1 => ⟨c, O, η, E, _, g.step s1, h1, fun dy vy H2 s2 r2 q => ⟨vx, vy, rfl, O, _, ?_, q⟩⟩⟩
  have g2 := (g.step s1).step s2
  exact (g2.set i (s2.rep s1.draw g.wO r1)).set j r2
def sParN (i j : Nat) (tn : NT) (u : ET) : SD := fun E z η => tn E η fun ds => u E η fun y => z.nx ((η.set i (.own ds)).set j (.dat y))
theorem parN_core {K : PySem.W.Frag} {σ : L2.St} {H H1 H2 : Hp} {c : Ctx} {O : Addr → Prop} {η : EnvD} {a : Addr} {vs : List V} {ds : List D} {dy : D} {vy : V} (g : Good K c O η σ H) (s1 : Step c.G H H1) (h0 : H a = none) (h1 : H1 a = some (.lst vs)) (r1 : RepAll K (fun b => O b ∨ b = a) H1 vs ds)
    (s2 : Step c.G H1 H2) (r2 : Rep K (fun b => O b ∨ b = a) H2 vy dy) (i j : Nat) : Good K c (fun b => O b ∨ b = a) ((η.set i (.own ds)).set j (.dat dy)) ((σ.set i (some (.ref a))).set j (some vy)) H2 := by
  have nw := (g.fresh0 h0).1
  have w1 : ∀ b, Wr c.G b → (O b ∨ b = a) := fun b w => .inl (g.wO b w)
  exact (g.setOwn (s1.trans s2) h0 (s2.keep a _ nw h1) (s2.repAll s1.draw w1 r1) i).set j r2
/-- .. by a tuple that is made (a name is captured) -/
theorem ds_asgN (i j : Nat) {x y : Str} {px py pt : Pos} {kt k2 : Nat} {pt2 : Pos} (hc : X.calm = true) (hN : X.N.Nodup) (ha : DN X a tn) (hb : DE X b u) (hi : X.N[i]? = some x := by rfl) (hj : X.N[j]? = some y := by rfl) (hx : Loc X.env.scope x := by first | exact Or.inl rfl | exact Or.inr rfl) (hy : Loc X.env.scope y := by first | exact Or.inl rfl | exact Or.inr rfl)
    (hf : X.fn x = true ∨ X.env.scope.names.lookup x = some .local := by first | exact .inl rfl | exact .inr rfl) (hf' : X.fn y = true ∨ X.env.scope.names.lookup y = some .local := by first | exact .inl rfl | exact .inr rfl)
    (hs : swapsWithSole [.Tuple [.Name x px, .Name y py] kt pt] (.Tuple [a, b] k2 pt2) pos.line X.env = pure false := by rfl) (hw : swappedStores [.Tuple [.Name x px, .Name y py] kt pt] (.Tuple [a, b] k2 pt2) X.env = pure none := by rfl)
    (h1 : (assignEach [.Tuple [.Name x px, .Name y py] kt pt] X.env).map (·.2) = [assign (.Tuple [.Name x px, .Name y py] kt pt) X.env] := by rfl)
    (hn : (assignEach [.Name x px, .Name y py] X.env).length = 2 := by rfl) (hst : (assignEach [.Name x px, .Name y py] X.env).findIdx? (·.1) = none := by rfl)
    (g1 : (assignEach [.Name x px, .Name y py] X.env).map (·.2) = assign (.Name x px) X.env :: (assignEach [.Name y py] X.env).map (·.2) := by rfl) (g2 : (assignEach [.Name y py] X.env).map (·.2) = assign (.Name y py) X.env :: (assignEach [] X.env).map (·.2) := by rfl)
    (sa : starEach [a, b] X.env = (false, eval a X.env) :: starEach [b] X.env := by rfl) (sb : starEach [b] X.env = (false, eval b X.env) :: starEach [] X.env := by rfl) :
    DS X (.Assign [.Tuple [.Name x px, .Name y py] kt pt] (.Tuple [a, b] k2 pt2) pos) (sParN i j tn u) := by
  obtain ⟨T, p1, rd⟩ := ha.ex
  refine .of (ps_asg (pe_tup (pa_cons p1 (pa_cons hb.pe pa_nil sb) sa)) (pg_tup hc (pgs_cons (pg_name (i := i) hN hi hx hf) (pgs_cons (pg_name (i := j) hN hj hy hf') pgs_nil g2) g1) hn hst) hs hw h1) fun σ H c O η E z g h => rd σ H c O η E _ _ g h fun v H1 ⟨ds, a, vs, e1, s1, h0, h1, r1, q1⟩ => ?_
  subst e1
  refine ⟨c, _, η, E, _, g.more s1 h0 h1, q1, fun dy vy H2 s2 r2 q => ⟨(by decide : 2 ≤ sizeLine), fun T hT => ?_⟩⟩
  refine ⟨T, _, rfl, .inl (.inl upd_same), rfl, _, _, rfl, _, _, rfl, rfl, _, _, ⟨parN_core g.toGood s1 h0 h1 r1 (s2.trans (.alloc s2.draw hT)) (r2.same (same_upd hT)) i j, g.er⟩, q⟩
end
end DL

/-! DL36: instances of the program's classes: fields read, methods that only read. -/
namespace DL
open PySem PySem.Spec PyProof.Rows L2
def onLin (o : Option Cell) (k : Str → List (Str × D) → Prop) : Prop := match o with | some (.lin nm fs) => k nm fs | _ => False
/-- f is a plain field of the class's instances -/
def FldOk (K : PySem.W.Frag) (nm f : Str) : Prop := ∀ C, ClsOf K nm C → L2.Cls K C ∧ L2.NoAttr K C f
section
variable {X : Cx} {x nm f m : Str} {p pos apos : Pos} {e o : Expr} {es : List Expr} {ts : CT}
/-- o.f -/
def dFld (i : Nat) (nm f : Str) : ET := fun E η Q => onLin η[i]? fun nm' fs => nm' = nm ∧ ∃ d, fs.lookup f = some d ∧ Q d
/-! ### methods -/
/-- a method of the class keeps its promise; the instance is its first argument -/
structure HasMt (P : Program) (w : World) (K : PySem.W.Frag) (mg : Str → Option Value) (base : Heap) (nm m : Str) (k : Nat) (ps : List Str) (wf : FT) : Prop where
  ex : ∀ C, ClsOf K nm C → L2.Cls K C ∧ ∃ f fd, L2.Meth K C m f ∧ Binds K fd ps [] ∧ FnD P w K mg base k f fd ps wf
  len : ∀ cs R, wf never cs R → cs.length = ps.length
/-- what the head tells of a method -/
def MethIn (K : PySem.W.Frag) (nm m : Str) (st : Stmt) (ps : List Str) : Prop := ∀ C, ClsOf K nm C → L2.Cls K C ∧ ∃ f fd, L2.Meth K C m f ∧ Fun K m (nm ++ ("." : Str) ++ m) st f fd ∧ Binds K fd ps []
/-- o.m(e, ..) -/
def dMeth (i : Nat) (nm m : Str) (wf : FT) (ts : CT) : ET := fun E η Q => onLin η[i]? fun nm' fs => nm' = nm ∧ fs.lookup m = none ∧ ts E η fun cs => wf never (.lin nm fs :: cs) Q
end
end DL

/-! DL38: a conditional expression as a test. -/
namespace DL
open PySem PySem.Spec PyProof.Rows L2
def bIfE (c a b : BT) : BT := fun E η Q => c E η fun k => if k = true then a E η Q else b E η Q
theorem x_bIfE {c a b : BT} {E : XP} {η : EnvD} {QB : Bool → Prop} : bIfE c a b E η QB = c E η (fun k => if k = true then a E η QB else b E η QB) := id rfl
end DL

/-! DL10: order of tuples, ranges as lists and tuples. -/
namespace DL
open PySem PySem.Spec PyProof.Rows L2
section
variable {X : Cx} {a b e e2 : Expr} {es rest : List Expr} {pos p p2 q2 : Pos} {ta tb tc t u : ET} {ts : AT}
/-- two ints, or two tuples of one form -/
def oOrd (f : Int → Int → Bool) (g : D → D → Bool) : OpD
  | .int i, .int j, Q => Q (.bool (f i j))
  | .tuple xs, .tuple ys, Q => (PySem.W.alike (.tuple xs) (.tuple ys) = true ∧ (PyData.tuple xs).depth ≤ 64 ∧ PyData.hasDict (.tuple xs) = false ∧ PyData.hasDict (.tuple ys) = false) ∧ Q (.bool (g (.tuple xs) (.tuple ys)))
  | _, _, _ => False
def rOrdD (K : PySem.W.Frag) (g : D → D → Bool) : R2 := fun x y H Q => ∃ xs ys, Dp K H x (.tuple xs) ∧ Dp K H y (.tuple ys) ∧ PySem.W.alike (.tuple xs) (.tuple ys) = true ∧ (PyData.tuple xs).depth ≤ 64 ∧ Q (.bl (g (.tuple xs) (.tuple ys))) H
theorem ord_room {A : Around} {xs ys : List D} (hu : A.units + 64 < cLine) (h : (PyData.tuple xs).depth ≤ 64) : A.units + min (PyData.tuple xs).depth (PyData.tuple ys).depth < cLine := by
  have := Nat.min_le_left (PyData.tuple xs).depth (PyData.tuple ys).depth
  omega
theorem op_gtD (hu : X.A.units + 64 < cLine) : OpR X (compareOp .Gt) (rOrdD X.K fun x y => PySem.W.dataLt y x) := by
  intro pins s σ H x y v u Q I rx ry h
  obtain ⟨xs, ys, hx, hy, al, dp, q⟩ := h
  obtain ⟨as, r1⟩ := Dp.reads I _ x v hx rx
  obtain ⟨bs, r2⟩ := Dp.reads I _ y u hy ry
  exact PySem.W.gt_data r1 r2 al (fun z => nomatch z) (ord_room hu dp) ⟨.bl _, H, I, rfl, q⟩
theorem op_leD (hu : X.A.units + 64 < cLine) : OpR X (compareOp .LtE) (rOrdD X.K fun x y => !PySem.W.dataLt y x) := by
  intro pins s σ H x y v u Q I rx ry h
  obtain ⟨xs, ys, hx, hy, al, dp, q⟩ := h
  obtain ⟨as, r1⟩ := Dp.reads I _ x v hx rx
  obtain ⟨bs, r2⟩ := Dp.reads I _ y u hy ry
  exact PySem.W.le_data r1 r2 al (fun z => nomatch z) (ord_room hu dp) ⟨.bl _, H, I, rfl, q⟩
theorem op_geD (hu : X.A.units + 64 < cLine) : OpR X (compareOp .GtE) (rOrdD X.K fun x y => !PySem.W.dataLt x y) := by
  intro pins s σ H x y v u Q I rx ry h
  obtain ⟨xs, ys, hx, hy, al, dp, q⟩ := h
  obtain ⟨as, r1⟩ := Dp.reads I _ x v hx rx
  obtain ⟨bs, r2⟩ := Dp.reads I _ y u hy ry
  exact PySem.W.ge_data r1 r2 al (fun z => nomatch z) (ord_room hu dp) ⟨.bl _, H, I, rfl, q⟩
theorem cm_ord {op : CmpOp} {f : Int → Int → Bool} {g : D → D → Bool} (h1 : OpR X (compareOp op) (rI0 fun i j => .bl (f i j))) (h2 : OpR X (compareOp op) (rOrdD X.K g)) : CmpR X op (oOrd f g) := by
  refine ⟨_, OpR.or h1 h2, ?_⟩
  intro G O H x y dx dy Q R B rx ry h k
  cases rx with
  | int i =>
    cases ry with
    | int j => exact .inl ⟨i, j, rfl, rfl, way_here B k (.bl _) h⟩
    | _ => exact h.elim
  | tup h1 r1 =>
    cases ry with
    | tup h2 r2 => exact .inr ⟨_, _, .tup h1.sq (r1.dp (nd_tuple h.1.2.2.1)), .tup h2.sq (r2.dp (nd_tuple h.1.2.2.2)), h.1.1, h.1.2.1, way_here B k (.bl _) h.2⟩
    | _ => exact h.elim
  | _ => cases ry <;> exact h.elim
abbrev oGt2 : OpD := oOrd (fun i j => decide (j < i)) fun x y => PySem.W.dataLt y x
abbrev oLe2 : OpD := oOrd (fun i j => decide (i ≤ j)) fun x y => !PySem.W.dataLt y x
abbrev oGe2 : OpD := oOrd (fun i j => decide (j ≤ i)) fun x y => !PySem.W.dataLt x y
theorem cm_gt2 (hu : X.A.units + 65 < cLine) : CmpR X .Gt oGt2 := cm_ord op_gt (op_gtD (Nat.lt_of_succ_lt hu))
theorem cm_le2 (hu : X.A.units + 65 < cLine) : CmpR X .LtE oLe2 := cm_ord op_le (op_leD (Nat.lt_of_succ_lt hu))
theorem cm_ge2 (hu : X.A.units + 65 < cLine) : CmpR X .GtE oGe2 := cm_ord op_ge (op_geD (Nat.lt_of_succ_lt hu))

/-! list(range(..)), tuple(range(..)) -/
theorem rgV_rep {K : PySem.W.Frag} {O : Addr → Prop} {H : Hp} {i j : Int} : RepAll K O H (rgV i j) (rangeD i (j - i).toNat) := by
  unfold rgV rangeD
  induction List.range (j - i).toNat with
  | nil => exact .nil
  | cons n l ih => exact .cons (.int _) ih
/-- the bounds of a range -/
abbrev GRg := XP → EnvD → (Int → Int → Prop) → Prop
def gRg1 (ta : ET) : GRg := fun E η Q => ta E η fun x => match x with | .int j => RgOk 0 j ∧ Q 0 j | _ => False
def gRg2 (ta tb : ET) : GRg := fun E η Q => ta E η fun x => tb E η fun y => match x, y with | .int i, .int j => RgOk i j ∧ Q i j | _, _ => False
/-- a range's rule -/
def RRg (X : Cx) (e : Expr) (t : GRg) : Prop := ∃ te, PRg X e te ∧ ∀ (σ : L2.St) (H : Hp) (c : Ctx) (O : Addr → Prop) (η : EnvD) (E : XP) (Q : Int → Int → Prop) (R : Int → Int → Hp → Prop), Gd X c E O η σ H → t E η Q → (∀ i j H', Step c.G H H' → RgOk i j → Q i j → R i j H') → te σ H R
theorem rr_1 (hg : Gl X "range") (hm : X.mg "range" = none) (ha : DE X a ta) (na : starEach [a] X.env = (false, eval a X.env) :: starEach [] X.env := by rfl) : RRg X (.Call (.Name "range" p) [a] [] pos) (gRg1 ta) := by
  refine ⟨_, prg_1 hg hm ha.pe na, fun σ H c O η E Q R g h k => ⟨c, O, η, E, _, g, h, fun d v H1 s1 r1 q => ?_⟩⟩
  cases r1 <;> first | exact ⟨_, rfl, k _ _ H1 s1 q.1 q.2⟩ | exact q.elim
theorem rr_2 (hg : Gl X "range") (hm : X.mg "range" = none) (ha : DE X a ta) (hb : DE X b tb) (na : starEach [a, b] X.env = (false, eval a X.env) :: starEach [b] X.env := by rfl) (nb : starEach [b] X.env = (false, eval b X.env) :: starEach [] X.env := by rfl) (hp : (backTo pos (starEach [b] X.env)).any (·.1) = false := by rfl) :
    RRg X (.Call (.Name "range" p) [a, b] [] pos) (gRg2 ta tb) := by
  refine ⟨_, prg_2 hg hm ha.pe hb.pe na nb hp, fun σ H c O η E Q R g h k => ⟨c, O, η, E, _, g, h, fun d v H1 s1 r1 q => ?_⟩⟩
  refine ⟨c, O, η, E, _, g.step s1, q, fun d2 v2 H2 s2 r2 q2 => ?_⟩
  cases r1 with
  | int i => cases r2 <;> first | exact ⟨_, _, rfl, rfl, k _ _ H2 (s1.trans s2) q2.1 q2.2⟩ | exact q2.elim
  | _ => cases r2 <;> exact q2.elim
def nRg (t : GRg) : NT := fun E η Q => t E η fun i j => Q (rangeD i (j - i).toNat)
def dTupRg (t : GRg) : ET := fun E η Q => t E η fun i j => Q (.tuple (rangeD i (j - i).toNat))
variable {tg : GRg}
theorem dn_listRg (hc : X.calm = true) (hg : Gl X "list") (hm : X.mg "list" = none) (h : RRg X e tg) (na : starEach [e] X.env = (false, eval e X.env) :: starEach [] X.env := by rfl) : DN X (.Call (.Name "list" p) [e] [] pos) (nRg tg) := by
  obtain ⟨te, h1, h2⟩ := h
  exact .of (pe_listRg hc hg hm h1 na) fun σ H c O η E Q R g ht k => h2 σ H c O η E _ _ g ht fun i j H1 s1 ok q => ⟨ok, newk g s1 rgV_rep q k⟩
theorem de_tupRg (hc : X.calm = true) (hg : Gl X "tuple") (hm : X.mg "tuple" = none) (h : RRg X e tg) (na : starEach [e] X.env = (false, eval e X.env) :: starEach [] X.env := by rfl) : DE X (.Call (.Name "tuple" p) [e] [] pos) (dTupRg tg) := by
  obtain ⟨te, h1, h2⟩ := h
  exact .of (pe_tupRg hc hg hm h1 na) fun σ H c O η E Q g ht => h2 σ H c O η E _ _ g ht fun i j H1 s1 ok q => ⟨ok, way_newT (g.step s1).base (way_out s1) rgV_rep q⟩
end
end DL

/-! DL11: the law's def, what the head tells. -/
namespace DL
open PySem PySem.Spec PyProof.Rows L2
theorem hu65 {k : Nat} {A : Around} (r : Room k A) : A.units + 65 < cLine := by
  have := r.un
  omega
/-- what the law has to keep -/
def spLaw (K : PySem.W.Frag) : Sp := fun vs H Q _ => ∃ (a : Addr) (ns : List Int), vs = [.ref a] ∧ ns.length ≤ 63 ∧ OnlyL H ∧ SqL K H a (ns.map V.int) ∧ ∀ H', Q (.bl true) H'
theorem spLaw_len {K : PySem.W.Frag} {vs : List V} {H : Hp} {Q : VK} {E : XK} (h : spLaw K vs H Q E) : vs.length = ["_law_script"].length := by
  obtain ⟨a, ns, rfl, _⟩ := h
  rfl
/-- the ends that the law may take -/
def zLaw : EndsD := { nx := fun _ => False, rt := fun d => d = .bool true }
def lawEnv (n : Nat) (ns : List Int) : EnvD := .scr ns :: .drw :: List.replicate n .un
theorem scr_of {K : PySem.W.Frag} {H : Hp} {a : Addr} {ns : List Int} (hO : OnlyL H) (hS : SqL K H a (ns.map V.int)) : ScrAt K H a ns := by
  rcases hS with (h | h) | h
  · rcases hO.1 a with z | ⟨o, xs, z⟩ | ⟨ps, z⟩
    · rw [h] at z; cases z
    · rw [h] at z; cases z
    · rw [h] at z; cases z
  · exact .inl h
  · exact .inr h
theorem law_go {X : Cx} {t : SD} {N : List Str} {n : Nat} {vs : List V} {H : Hp} {Q : VK} {E : XK} (hN : N.length = n + 2) (h : spLaw X.K vs H Q E) (pl : ∀ ns : List Int, ns.length ≤ 63 → t never zLaw (lawEnv n ns)) :
    tSeq (tAsg (tCB (fun vs H Q => spBegun X.K vs H Q E0) (tCons (tVar 0) tNil)) (gName 1)) (liftS X t) { nx := fun _ H' => Q .non H', rt := Q } (start N vs) H := by
  obtain ⟨a, ns, rfl, hl, hO, hS, q⟩ := h
  have e : start N [V.ref a] = some (.ref a) :: none :: List.replicate n none := by
    unfold L2.start
    rw [show ([V.ref a] : List V).length = 1 from rfl, hN, show n + 2 - 1 = n + 1 by omega]
    rfl
  rw [e]
  refine ⟨.ref a, rfl, a, ns, rfl, hS, hl, fun d g H' hd hg sm dr => ?_⟩
  have ad : d ≠ g := dr.1
  have drk : DrawOk (some (d, g)) H' := ⟨dr, hO.2.ext sm⟩
  refine ⟨⟨Wr (some (d, g)), some (d, g), H', [], []⟩, Wr (some (d, g)), lawEnv n ns, never, zLaw, ?_, pl ns hl, fun σ' H'' z => ?_, fun v H'' z => ?_, fun σ' H'' z => ?_, fun σ' H'' z => ?_⟩
  · refine ⟨⟨?_, fun b hb => hb, fun b hb => hb, DrawOk.tr drk, fun _ _ _ x => x, drk, ?_, ?_, fun p hp => absurd hp (by simp)⟩, eok_never⟩
    · show (lawEnv n ns).length = (some (V.ref a) :: some (V.ref d) :: List.replicate n none).length
      simp [lawEnv]
    · intro i x hx
      match i, hx with
      | 0, hx =>
        cases hx
        exact ⟨a, rfl, (scr_of hO hS).map fun b o u z => sm b _ z⟩
      | 1, hx =>
        cases hx
        exact ⟨d, g, rfl, rfl⟩
      | i + 2, hx =>
        have hx : (List.replicate n Cell.un)[i]? = some x := hx
        rw [List.getElem?_replicate] at hx
        split at hx
        · cases hx; trivial
        · cases hx
    · intro i j x y b hi _ f _
      exfalso
      match i, hi, f with
      | 0, hi, f => cases hi; exact f
      | 1, hi, f => cases hi; exact f
      | i + 2, hi, f =>
        have hi : (List.replicate n Cell.un)[i]? = some x := hi
        rw [List.getElem?_replicate] at hi
        split at hi <;> cases hi
        exact f
  · obtain ⟨O, η, g', z⟩ := z
    exact z.elim
  · obtain ⟨d', k1, k2, r, z⟩ := z
    have z : d' = .bool true := z
    subst z
    have r := no_mret rfl r
    cases r
    exact q _
  · obtain ⟨O, η, g', z⟩ := z
    exact z.elim
  · obtain ⟨O, η, g', z⟩ := z
    exact z.elim
/-- a def that the top has written -/
def DefAt (K : PySem.W.Frag) (x : Str) (st : Stmt) : Prop := ∃ (f : Addr) (oc : Value) (od : Option Addr) (kV doc pm : Value) (an : Option Addr) (cdv ct : Value) (osl : Array (Option Value)), PySem.W.nsIn K mainGlobals x = some (some (.ref f)) ∧
  K.lookup f = some ⟨oc, od, .func (PySem.W.fnOf x x (defArgs st) (defBody st) (defScope st) .none kV doc pm an cdv ct), osl⟩ ∧ PySem.W.codeIn K cdv x = true ∧ PySem.W.keepIn K (.ref f) = true
section
variable {P : Program} {w : World} {K : PySem.W.Frag} {mg : Str → Option Value} {h : Heap} {x : Str} {st : Stmt} {ps : List Str} {k : Nat}
theorem defAt {f : Addr} {oc : Value} {od : Option Addr} {kV doc pm : Value} {an : Option Addr} {cdv ct : Value} {osl : Array (Option Value)} (a : PySem.W.nsIn K mainGlobals x = some (some (.ref f)))
    (l : K.lookup f = some ⟨oc, od, .func (PySem.W.fnOf x x (defArgs st) (defBody st) (defScope st) .none kV doc pm an cdv ct), osl⟩) (c : PySem.W.codeIn K cdv x = true) (k : PySem.W.keepIn K (.ref f) = true) : DefAt K x st := ⟨f, oc, od, kV, doc, pm, an, cdv, ct, osl, a, l, c, k⟩
def ConI (K : PySem.W.Frag) (x : Str) (i : Int) : Prop := ∃ t, PySem.W.nsIn K mainGlobals x = some (some (.int i t))
def ConS (K : PySem.W.Frag) (x : Str) (y : Str) : Prop := ∃ t, PySem.W.nsIn K mainGlobals x = some (some (.str y t))
theorem conI {i : Int} {t : Tok} (a : PySem.W.nsIn K mainGlobals x = some (some (.int i t))) : ConI K x i := ⟨t, a⟩
abbrev BindsAs (x : Str) (st : Stmt) (ps : List Str) : Prop := ∀ (kV doc pm : Value) (an : Option Addr) (cdv ct : Value) (us : List Value), us.length = ps.length → bindArgs (PySem.W.fnOf x x (defArgs st) (defBody st) (defScope st) .none kV doc pm an cdv ct) ⟨us, []⟩ = pure (ps.zip us)
theorem defIn (X : K.In h) (G : h.Ns mainGlobals mg) (a : DefAt K x st) (hb : BindsAs x st ps) : DefIn K mg x st ps := by
  obtain ⟨f, oc, od, kV, doc, pm, an, cdv, ct, osl, a1, l1, c1, k1⟩ := a
  have F := fun_mk (st := st) l1 c1 k1
  exact ⟨⟨f, _, F, PySem.W.mg_of X G a1, F.binds hb⟩⟩
end
end DL

/-! DL12: tuple * int. -/
namespace DL
open PySem PySem.Spec PyProof.Rows L2
section
variable {X : Cx} {a b : Expr} {pos : Pos} {ta tb : ET}
def rOnce (K : PySem.W.Frag) : R2 := fun x y H Q => ∃ l xs, x = .ref l ∧ y = .int 1 ∧ SqT K H l xs ∧ Q (.ref l) H
/-- *, tuples among them -/
def oMul2 : OpD
  | .tuple xs, .int j, Q => (xs ≠ [] ∧ 1 ≤ j ∧ j ≤ 1000 ∧ xs.length ≤ 1000) ∧ Q (.tuple (List.replicate j.toNat xs).flatten)
  | .int i, .int j, Q => CMul i j ∧ Q (.int (i * j))
  | .list xs, .int j, Q => (0 ≤ j ∧ j < 2 ^ 63 ∧ xs.length * j.toNat ≤ sizeLine) ∧ Q (.list (List.replicate j.toNat xs).flatten)
  | _, _, _ => False
end
end DL

/-! DL13: several names at once: plain things and new lists. -/
namespace DL
open PySem PySem.Spec PyProof.Rows L2
section
variable {K : PySem.W.Frag} {c : Ctx} {O O' : Addr → Prop} {η η' ζ : EnvD} {σ σ' τ : L2.St} {H H1 : Hp}
/-- the same things under other numbers -/
theorem Good.renum (g : Good K c O η σ H) (f : Nat → Nat) (hl : η'.length = σ'.length) (h : ∀ m x, η'[m]? = some x → η[f m]? = some x ∧ σ'[m]?.join = σ[f m]?.join) (inj : ∀ m n x y, η'[m]? = some x → η'[n]? = some y → f m = f n → m = n) : Good K c O η' σ' H where
  len := hl
  hB := g.hB
  hW := g.hW
  hT := g.hT
  keep := g.keep
  draw := g.draw
  cell := fun m x hm => by
    obtain ⟨h1, h2⟩ := h m x hm
    rw [h2]
    exact g.cell _ x h1
  dis := fun m n x y a h1 h2 h3 h4 => by
    obtain ⟨k1, k2⟩ := h m _ h1
    obtain ⟨l1, l2⟩ := h n _ h2
    exact inj m n _ _ h1 h2 (g.dis _ _ x y a k1 l1 (k2 ▸ h3) (l2 ▸ h4))
  fr := g.fr
theorem Good.head (g : Good K c O (η ++ ζ) (σ ++ τ) H) (hl : η.length = σ.length) : Good K c O η σ H := g.renum id hl (fun m x hm => by
  have := (List.getElem?_eq_some_iff.mp hm).1
  exact ⟨by rw [id, List.getElem?_append_left this]; exact hm, by rw [id, List.getElem?_append_left (by omega)]⟩) fun _ _ _ _ _ _ e => e
/-- the first of the pending things is stored at i -/
theorem Good.store {x : Cell} {v : Option V} (g : Good K c O (η ++ x :: ζ) (σ ++ v :: τ) H) (hl : η.length = σ.length) (i : Nat) : Good K c O (η.set i x ++ ζ) (σ.set i v ++ τ) H := by
  have ln := g.len
  simp only [List.length_append, List.length_cons] at ln
  refine g.renum (fun m => if m < η.length then (if m = i then η.length else m) else m + 1) (by simp only [List.length_append, List.length_set]; omega) (fun m y hm => ?_) fun m n y z hm hn e => ?_
  · by_cases h1 : m < η.length
    · have hm2 : (η.set i x)[m]? = some y := by rwa [List.getElem?_append_left (by rw [List.length_set]; exact h1)] at hm
      have e1 : (σ.set i v ++ τ)[m]? = (σ.set i v)[m]? := List.getElem?_append_left (by rw [List.length_set]; omega)
      by_cases h2 : m = i
      · subst h2
        rw [List.getElem?_set_self h1] at hm2
        cases hm2
        have fm : (if m < η.length then (if m = m then η.length else m) else m + 1) = η.length := by
          rw [if_pos h1, if_pos rfl]
        rw [fm, e1, List.getElem?_set_self (by omega)]
        refine ⟨by rw [List.getElem?_append_right (Nat.le_refl _), Nat.sub_self]; rfl, ?_⟩
        rw [hl, List.getElem?_append_right (Nat.le_refl _), Nat.sub_self]
        rfl
      · rw [List.getElem?_set_ne (Ne.symm h2)] at hm2
        have fm : (if m < η.length then (if m = i then η.length else m) else m + 1) = m := by
          rw [if_pos h1, if_neg h2]
        rw [fm, e1, List.getElem?_set_ne (Ne.symm h2)]
        exact ⟨by rw [List.getElem?_append_left h1]; exact hm2, by rw [List.getElem?_append_left (by omega)]⟩
    · have hm2 : ζ[m - η.length]? = some y := by rwa [List.getElem?_append_right (by rw [List.length_set]; omega), List.length_set] at hm
      have fm : (if m < η.length then (if m = i then η.length else m) else m + 1) = m + 1 := by
        rw [if_neg h1]
      have e1 : m + 1 - η.length = (m - η.length) + 1 := by omega
      have e2 : m + 1 - σ.length = (m - σ.length) + 1 := by omega
      rw [fm]
      refine ⟨by rw [List.getElem?_append_right (by omega), e1, List.getElem?_cons_succ]; exact hm2, ?_⟩
      rw [List.getElem?_append_right (by rw [List.length_set]; omega), List.length_set, List.getElem?_append_right (by omega), e2, List.getElem?_cons_succ]
  · have e : (if m < η.length then (if m = i then η.length else m) else m + 1) = (if n < η.length then (if n = i then η.length else n) else n + 1) := e
    by_cases h1 : m < η.length
    · by_cases h2 : n < η.length
      · rw [if_pos h1, if_pos h2] at e
        split at e <;> split at e <;> omega
      · rw [if_pos h1, if_neg h2] at e
        split at e <;> omega
    · by_cases h2 : n < η.length
      · rw [if_neg h1, if_pos h2] at e
        split at e <;> omega
      · rw [if_neg h1, if_neg h2] at e
        omega
end
/-! ### lists of things, plain or new -/
structure MOut (K : PySem.W.Frag) (c : Ctx) (O : Addr → Prop) (η : EnvD) (σ : L2.St) (H : Hp) (cs : List Cell) (vs : List V) (H' : Hp) (O' : Addr → Prop) : Prop where
  st : Step c.G H H'
  up : ∀ b, O b → O' b
  dn : ∀ b, O' b → O b ∨ H b = none
  gd : Good K c O' (η ++ cs) (σ ++ vs.map some) H'
  len : cs.length = vs.length
  new : ∀ (j : Nat) (y : Cell) (b : Addr), cs[j]? = some y → foot y ((vs.map some)[j]?.join) b → H b = none
def liftM (X : Cx) (t : MT) : TA := fun σ H R => ∃ (c : Ctx) (O : Addr → Prop) (η : EnvD) (E : XP) (Q : List Cell → Prop), Gd X c E O η σ H ∧ t E η Q ∧ ∀ cs vs H' O', MOut X.K c O η σ H cs vs H' O' → Q cs → R vs H'
structure DM (X : Cx) (es : List Expr) (t : MT) : Prop where
  pa : PA X es (liftM X t)
def mNil : MT := fun _ _ Q => Q []
def mD (t : ET) (ms : MT) : MT := fun E η Q => t E η fun d => ms E η fun cs => Q (.dat d :: cs)
def mN (t : NT) (ms : MT) : MT := fun E η Q => t E η fun ds => ms E η fun cs => Q (.own ds :: cs)
section
variable {K : PySem.W.Frag} {c : Ctx} {O O2 : Addr → Prop} {G : Option (Addr × Addr)} {H H1 H2 : Hp}
theorem Rep.on (st : Step G H1 H2) (dr : DrawOk G H1) (hW : ∀ a, Wr G a → O a) (dn : ∀ b, O2 b → O b ∨ H1 b = none) {d : D} {v : V} (r : Rep K O H1 v d) : Rep K O2 H2 v d :=
  r.map (fun a _ o e => ⟨fun z => (dn a z).elim o fun q => (by rw [q] at e; cases e), st.keep a _ (fun z => o (hW a z)) e⟩) fun a xs e => st.keep a _ (dr.tup a xs e) e
theorem RepAll.on (st : Step G H1 H2) (dr : DrawOk G H1) (hW : ∀ a, Wr G a → O a) (dn : ∀ b, O2 b → O b ∨ H1 b = none) {d : List D} {v : List V} (r : RepAll K O H1 v d) : RepAll K O2 H2 v d :=
  r.map (fun a _ o e => ⟨fun z => (dn a z).elim o fun q => (by rw [q] at e; cases e), st.keep a _ (fun z => o (hW a z)) e⟩) fun a xs e => st.keep a _ (dr.tup a xs e) e
end
section
variable {X : Cx} {e : Expr} {es : List Expr} {t : ET} {tn : NT} {ms : MT}
end
def on2C (cs : List Cell) (k : Cell → Cell → Prop) : Prop := match cs with | [x, y] => k x y | _ => False
def on3C (cs : List Cell) (k : Cell → Cell → Cell → Prop) : Prop := match cs with | [x, y, z] => k x y z | _ => False
def sM2 (i j : Nat) (m : MT) : SD := fun E z η => m E η fun cs => on2C cs fun x y => z.nx ((η.set i x).set j y)
def sM3 (i j k : Nat) (m : MT) : SD := fun E z η => m E η fun cs => on3C cs fun x y u => z.nx (((η.set i x).set j y).set k u)
section
variable {X : Cx} {a b d : Expr} {m : MT} {pos : Pos}
end
end DL

/-! DL14: starred items. -/
namespace DL
open PySem PySem.Spec PyProof.Rows L2
section
variable {X : Cx} {e : Expr} {es : List Expr} {t : ET} {ts : AT} {p : Pos}
def aStar (t : ET) (ts : AT) : AT := fun E η Q => t E η fun d => match d with
  | .list ds => ts E η fun es => Q (ds ++ es)
  | .tuple ds => ts E η fun es => Q (ds ++ es)
  | _ => False
end
end DL

/-! DL16: the turns of a zip of two tuples whose pair is kept. -/
namespace DL
open PySem PySem.Spec PyProof.Rows L2
section
variable {prog : Program} {w : World} {A : Around} {E : Value → Shared → Prop} {s : Shared}
/-- the zip's object -/
def IsZ (h : Heap) (z TI TO : Addr) (f0 : Value) (f1 : Bool) : Prop := h.get? z = some { cls := .type "zip", dict := none, data := .fields #[f0, .bool f1, .bool false, .ref TI, .ref TO], slots := #[] }
/-- the zip of two tuples, its pair free or kept, after k turns -/
structure ZSt (h : Heap) (z TI TO i1 i2 l1 l2 : Addr) (k : Nat) : Prop where
  ob : ∃ f0 f1, IsZ h z TI TO f0 f1 ∧ (f0 = .none ∨ ∃ T : Addr, f0 = rawInt T)
  its : IsPair h TI (.ref i1) (.ref i2)
  own : ∃ u v, IsPair h TO u v
  it1 : h.IsTupleIter i1 l1 k
  it2 : h.IsTupleIter i2 l2 k
end
end DL

/-! DL17: enumerate of a zip of two tuples: its turns. -/
namespace DL
open PySem PySem.Spec PyProof.Rows L2
section
variable {prog : Program} {w : World} {A : Around} {E : Value → Shared → Prop} {s : Shared}
end
end DL

/-! DL18: enumerate(zip(a, b)), a and b tuples. -/
namespace DL
open PySem PySem.Spec PyProof.Rows L2
section
variable {X : Cx} {pins : List (Addr × Obj)} {σ : L2.St} {H H' : Hp} {s : Shared} {h' : Heap}
end
section
variable {prog : Program} {w : World} {A : Around} {E : Value → Shared → Prop} {s : Shared}
end
end DL

/-! DL19: enumerate(zip(a, b)) as an iterable. -/
namespace DL
open PySem PySem.Spec PyProof.Rows L2
/-- the tuples at a and b, the items in new pairs, each with its number in another new pair -/
def IteZ (K : PySem.W.Frag) (a b : Addr) : It where
  go := fun i H => ∃ (xs ys : List V) (x y : V), SqT K H a xs ∧ SqT K H b ys ∧ xs[i]? = some x ∧ ys[i]? = some y
  yld := fun i H v H' => ∃ T U x y, v = .ref U ∧ H T = none ∧ H U = none ∧ T ≠ U ∧ H' = upd (upd H T (.tup [x, y])) U (.tup [.int (i : Nat), .ref T]) ∧ (∀ xs, SqT K H a xs → xs[i]? = some x) ∧ ∀ ys, SqT K H b ys → ys[i]? = some y
  stop := fun i H => ∃ xs ys : List V, SqT K H a xs ∧ SqT K H b ys ∧ xs.length = i
end DL

/-! DL20: enumerate(zip(a, b)): made. -/
namespace DL
open PySem PySem.Spec PyProof.Rows L2
section
variable {prog : Program} {w : World} {A : Around} {E : Value → Shared → Prop} {s : Shared}
end
end DL

/-! DL21: enumerate(zip(a, b)) of two tuples, in the head of a loop. -/
namespace DL
open PySem PySem.Spec PyProof.Rows L2
section
variable {X : Cx} {e e2 : Expr} {pos p pos2 p2 tpos : Pos} {ts : AT} {elts : List Expr} {kk : Nat}
def iEnumZA (K : PySem.W.Frag) (ta : TA) : TI := fun σ H R => ta σ H fun vs H1 => ∃ a b xs ys, vs = [.ref a, .ref b] ∧ SqT K H1 a xs ∧ SqT K H1 b ys ∧ R (IteZ K a b) H1
def iEnumZ (ts : AT) : IT := fun E η Q => ts E η fun ds => match ds with | [.tuple xs, .tuple ys] => xs.length ≤ ys.length ∧ Q (pairsD (rangeD 0 xs.length) (pairsD xs ys)) | _ => False
end
end DL

/-! DL22: list.extend by a tuple. -/
namespace DL
open PySem PySem.Spec PyProof.Rows L2
section
variable {X : Cx} {e : Expr} {pos p apos : Pos} {t : ET}
def rExtT (K : PySem.W.Frag) : V → List V → Hp → VK → Prop := fun x vs H Q => ∃ l b xs zs, x = .ref l ∧ vs = [.ref b] ∧ H l = some (.lst xs) ∧ SqT K H b zs ∧ xs.length + zs.length ≤ sizeLine ∧ Q .non (upd H l (.lst (xs ++ zs)))
theorem MtM.or {id : String} {r r' : V → List V → Hp → VK → Prop} (h : MtM X id r) (h' : MtM X id r') : MtM X id (fun x xs H Q => r x xs H Q ∨ r' x xs H Q) := by
  intro pins s σ H x v vs us Q I rx rv q
  exact q.elim (h pins s σ H x v vs us Q I rx rv) (h' pins s σ H x v vs us Q I rx rv)
def onSeqE (d : D) (k : List D → Prop) : Prop := match d with | .list es => k es | .tuple es => k es | _ => False
def sExtS (i : Nat) (t : ET) : SD := fun E z η => onOwn η[i]? fun ds => t E (lend η) fun d => onSeqE d fun es => flatAll es = true ∧ ds.length + es.length ≤ sizeLine ∧ z.nx (η.set i (.own (ds ++ es)))
end
end DL

/-! PL0: data, order, loops: no program in sight. -/
namespace PL
open PySem DL
/-! ### data of ints -/
def T (l : List Int) : D := .tuple (l.map .int)
theorem eqv_int (i j : Int) : PyData.eqv (.int i) (.int j) = decide (i = j) := by
  unfold PyData.eqv
  rw [Bool.eq_iff_iff]
  simp
mutual
/-- no truth value, no dict -/
def noB : D → Bool
  | .none => true
  | .bool _ => false
  | .int _ => true
  | .str _ => true
  | .list xs => noBs xs
  | .tuple xs => noBs xs
  | .dict _ => false
def noBs : List D → Bool
  | [] => true
  | x :: xs => noB x && noBs xs
end
mutual
theorem eqv_iff : ∀ x y : D, noB x = true → noB y = true → (PyData.eqv x y = true ↔ x = y)
  | .none, y, _, hy => by cases y <;> simp_all [PyData.eqv, noB]
  | .bool _, y, h, _ => by simp [noB] at h
  | .int i, y, _, hy => by cases y <;> simp_all [PyData.eqv, noB]
  | .str x, y, _, hy => by cases y <;> simp_all [PyData.eqv, noB]
  | .list xs, y, hx, hy => by
    cases y with
    | list ys =>
      have := eqvs_iff xs ys (by simpa [noB] using hx) (by simpa [noB] using hy)
      simpa [PyData.eqv] using this
    | _ => simp_all [PyData.eqv, noB]
  | .tuple xs, y, hx, hy => by
    cases y with
    | tuple ys =>
      have := eqvs_iff xs ys (by simpa [noB] using hx) (by simpa [noB] using hy)
      simpa [PyData.eqv] using this
    | _ => simp_all [PyData.eqv, noB]
  | .dict _, _, h, _ => by simp [noB] at h
theorem eqvs_iff : ∀ xs ys : List D, noBs xs = true → noBs ys = true → (PyData.eqvAll xs ys = true ↔ xs = ys)
  | [], [], _, _ => by simp [PyData.eqvAll]
  | [], _ :: _, _, _ => by simp [PyData.eqvAll]
  | _ :: _, [], _, _ => by simp [PyData.eqvAll]
  | x :: xs, y :: ys, hx, hy => by
    simp only [noBs, Bool.and_eq_true] at hx hy
    have h1 := eqv_iff x y hx.1 hy.1
    have h2 := eqvs_iff xs ys hx.2 hy.2
    simp only [PyData.eqvAll, Bool.and_eq_true, h1, h2, List.cons.injEq]
end
theorem noBs_map {α : Type} (f : α → D) (h : ∀ a, noB (f a) = true) : ∀ l : List α, noBs (l.map f) = true
  | [] => rfl
  | a :: l => by
    rw [List.map_cons, noBs, h a, noBs_map f h l]
    rfl
theorem noB_T (l : List Int) : noB (T l) = true := by
  unfold T noB
  exact noBs_map _ (fun _ => rfl) l
theorem map_int_inj : ∀ {l m : List Int}, l.map PyData.int = m.map PyData.int → l = m
  | [], [], _ => rfl
  | [], _ :: _, h => by simp at h
  | _ :: _, [], h => by simp at h
  | a :: l, b :: m, h => by
    simp only [List.map_cons, List.cons.injEq, PyData.int.injEq] at h
    rw [h.1, map_int_inj h.2]
theorem T_inj {l m : List Int} (h : T l = T m) : l = m := by
  unfold T at h
  exact map_int_inj (PyData.tuple.inj h)
theorem eqv_T (l m : List Int) : PyData.eqv (T l) (T m) = decide (l = m) := by
  rw [Bool.eq_iff_iff, eqv_iff _ _ (noB_T l) (noB_T m), decide_eq_true_eq]
  exact ⟨T_inj, fun e => by rw [e]⟩
theorem any_int (l : List Int) (x : Int) : ((l.map PyData.int).any fun z => PyData.eqv z (.int x)) = decide (x ∈ l) := by
  rw [Bool.eq_iff_iff, List.any_eq_true, decide_eq_true_eq]
  constructor
  · rintro ⟨z, hz, e⟩
    obtain ⟨i, hi, rfl⟩ := List.mem_map.mp hz
    rw [eqv_int, decide_eq_true_eq] at e
    rwa [← e]
  · intro h
    exact ⟨_, List.mem_map.mpr ⟨x, h, rfl⟩, by rw [eqv_int]; simp⟩
/-! ### data that may be compared and shown -/
structure Rp (k w : Nat) (d : D) : Prop where
  lay : d.canLay0 = true
  dep : d.depth ≤ k
  wei : d.weight ≤ w
  sho : d.intsShort 13 = true
  can : d.showable = true
theorem Rp.mono {k w k' w' : Nat} {d : D} (r : Rp k w d) (h : k ≤ k') (h' : w ≤ w') : Rp k' w' d := ⟨r.lay, Nat.le_trans r.dep h, Nat.le_trans r.wei h', r.sho, r.can⟩
theorem Rp.shaped {k w : Nat} {d : D} (r : Rp k w d) (h : k ≤ 64) : SeqAt.shaped d = true := by
  unfold SeqAt.shaped
  rw [r.lay, decide_eq_true (Nat.le_trans r.dep h)]
  rfl
theorem Rp.repr {k w : Nat} {d : D} (r : Rp k w d) (h : k ≤ 60) (hw : w ≤ 2 ^ 20) : reprOk d ∧ d.hasDict = false := by
  refine ⟨⟨r.can, ?_, Nat.le_trans r.dep h⟩, PyData.hasDict_of_canLay d r.lay⟩
  refine PyData.shown_fits_of_layable0 (B := 13) (by decide) (by decide) ?_ r.sho
  unfold PyData.layable0
  have h1 := r.dep
  have h2 := r.wei
  rw [r.lay, decide_eq_true (show d.depth ≤ 64 by omega), decide_eq_true (show d.weight ≤ 2 ^ 20 by omega)]
  rfl
theorem log2_lt {n k : Nat} (h : n < 2 ^ k) (hk : 0 < k) : n.log2 < k := by
  by_cases e : n = 0
  · subst e
    simpa using hk
  · exact (Nat.log2_lt e).mpr h
theorem rp_int {i : Int} (h : i.natAbs < 10 ^ 12) : Rp 0 41 (.int i) := by
  have h0 : i.natAbs.log2 < 40 := log2_lt (Nat.lt_trans h (by decide)) (by decide)
  refine ⟨rfl, Nat.le_refl _, ?_, ?_, ?_⟩
  · unfold PyData.weight
    split <;> omega
  · have := PyData.intsShortAll_ints [i] (by simpa using h)
    simpa [PyData.intsShortAll] using this
  · unfold PyData.showable
    exact decide_eq_true (by omega)
theorem rp_bool (b : Bool) : Rp 0 0 (.bool b) := ⟨rfl, Nat.le_refl _, Nat.le_refl _, rfl, rfl⟩
structure Rps (k w : Nat) (ds : List D) : Prop where
  lay : PyData.canLayAll0 ds = true
  dep : PyData.depthAll ds ≤ k
  wei : PyData.weightAll ds ≤ w
  sho : PyData.intsShortAll 13 ds = true
  can : PyData.showableAll ds = true
theorem rps_of {k w : Nat} : ∀ {ds : List D} {n : Nat}, (∀ d ∈ ds, Rp k w d) → ds.length ≤ n → Rps k (n * (w + 1)) ds
  | [], n, _, _ => ⟨rfl, Nat.zero_le _, Nat.zero_le _, rfl, rfl⟩
  | d :: ds, n, h, hn => by
    have r := h d List.mem_cons_self
    have ih := rps_of (n := ds.length) (fun x hx => h x (List.mem_cons_of_mem _ hx)) (Nat.le_refl _)
    refine ⟨?_, ?_, ?_, ?_, ?_⟩
    · rw [PyData.canLayAll0, r.lay, ih.lay]; rfl
    · rw [PyData.depthAll]; exact Nat.max_le.mpr ⟨r.dep, ih.dep⟩
    · rw [PyData.weightAll]
      have h1 := r.wei
      have h2 := ih.wei
      have h3 : (ds.length + 1) * (w + 1) ≤ n * (w + 1) := Nat.mul_le_mul_right _ (by simpa using hn)
      rw [Nat.add_mul, Nat.one_mul] at h3
      omega
    · rw [PyData.intsShortAll, r.sho, ih.sho]; rfl
    · rw [PyData.showableAll, r.can, ih.can]; rfl
theorem Rps.tup {k w : Nat} {ds : List D} (r : Rps k w ds) : Rp (k + 1) w (.tuple ds) := by
  refine ⟨?_, ?_, ?_, ?_, ?_⟩
  · rw [PyData.canLay0]; exact r.lay
  · rw [PyData.depth]; exact Nat.succ_le_succ r.dep
  · rw [PyData.weight]; exact r.wei
  · rw [PyData.intsShort]; exact r.sho
  · rw [PyData.showable]; exact r.can
theorem Rps.lst {k w : Nat} {ds : List D} (r : Rps k w ds) : Rp (k + 1) w (.list ds) := by
  refine ⟨?_, ?_, ?_, ?_, ?_⟩
  · rw [PyData.canLay0]; exact r.lay
  · rw [PyData.depth]; exact Nat.succ_le_succ r.dep
  · rw [PyData.weight]; exact r.wei
  · rw [PyData.intsShort]; exact r.sho
  · rw [PyData.showable]; exact r.can
theorem rp_tup {k w : Nat} {ds : List D} (n : Nat) (h : ∀ d ∈ ds, Rp k w d) (hn : ds.length ≤ n) : Rp (k + 1) (n * (w + 1)) (.tuple ds) := (rps_of h hn).tup
theorem rp_lst {k w : Nat} {ds : List D} (n : Nat) (h : ∀ d ∈ ds, Rp k w d) (hn : ds.length ≤ n) : Rp (k + 1) (n * (w + 1)) (.list ds) := (rps_of h hn).lst
theorem eqOk_rp {k w k' w' : Nat} {x y : D} (h : Rp k w x) (h' : Rp k' w' y) (hk : k ≤ 64 := by decide) (hk' : k' ≤ 64 := by decide) : eqOk x y = true := by
  unfold eqOk
  split
  · rfl
  · rw [h.shaped hk, h'.shaped hk']
    rfl

/-! ### loops -/
/-- the kept ones, each told by k -/
theorem compD_fl {α : Type} (h k : α → D) (p : α → Bool) {g : GT} {tt : BT} {te : ET} {η0 : EnvD} : ∀ {xs : List α} {acc : List D} {Q : List D → Prop},
    (∀ a ∈ xs, ∀ (R1 : D → Prop) (R0 : Prop), (p a = true → R1 (k a)) → (p a = false → R0) → g (h a) η0 fun η1 => tt never η1 fun b => if b = true then te never η1 R1 else R0) → acc.length + xs.length ≤ sizeLine → Q (acc ++ (xs.filter p).map k) → compD g tt te η0 (xs.map h) acc Q
  | [], acc, Q, _, _, q => by
    simp only [List.filter_nil, List.map_nil, List.append_nil] at q
    exact q
  | a :: xs, acc, Q, each, hl, q => by
    rw [List.length_cons] at hl
    refine each a List.mem_cons_self _ _ (fun e => ⟨by omega, ?_⟩) fun e => ?_
    · refine compD_fl h k p (fun x hx => each x (List.mem_cons_of_mem _ hx)) (by rw [List.length_append, List.length_singleton]; omega) ?_
      rw [List.filter_cons_of_pos e, List.map_cons] at q
      rwa [List.append_assoc, List.singleton_append]
    · refine compD_fl h k p (fun x hx => each x (List.mem_cons_of_mem _ hx)) (by omega) ?_
      rwa [List.filter_cons_of_neg (by rw [e]; decide)] at q
theorem compD_mp {α : Type} (h k : α → D) {g : GT} {tt : BT} {te : ET} {η0 : EnvD} {xs : List α} {acc : List D} {Q : List D → Prop}
    (each : ∀ a ∈ xs, ∀ (R1 : D → Prop) (R0 : Prop), R1 (k a) → g (h a) η0 fun η1 => tt never η1 fun b => if b = true then te never η1 R1 else R0) (hl : acc.length + xs.length ≤ sizeLine) (q : Q (acc ++ xs.map k)) : compD g tt te η0 (xs.map h) acc Q := by
  refine compD_fl h k (fun _ => true) (fun a ha R1 R0 h1 _ => each a ha R1 R0 (h1 rfl)) hl ?_
  rwa [List.filter_eq_self.mpr fun _ _ => rfl]
theorem cut1 {α : Type} (xs : List α) : cutD xs (some 1) none = xs.drop 1 := by
  unfold cutD
  have e : HT.sIx xs.length 0 (some 1) = min 1 xs.length := HT.sIx_nat xs.length 0 1
  rw [e, HT.sIx_none]
  cases xs with
  | nil => rfl
  | cons x xs =>
    have e2 : min 1 (x :: xs).length = 1 := by simp
    rw [e2, List.take_of_length_le (by simp)]
/-- each kept or not, as it comes -/
theorem compD_sub {g : GT} {tt : BT} {te : ET} {η0 : EnvD} : ∀ {ds acc : List D} {Q : List D → Prop},
    (∀ d ∈ ds, ∀ (R1 : D → Prop) (R0 : Prop), R1 d → R0 → g d η0 fun η1 => tt never η1 fun b => if b = true then te never η1 R1 else R0) → acc.length + ds.length ≤ sizeLine → (∀ out : List D, out.Sublist ds → Q (acc ++ out)) → compD g tt te η0 ds acc Q
  | [], acc, Q, _, _, q => by
    have := q [] (List.Sublist.refl _)
    rwa [List.append_nil] at this
  | d :: ds, acc, Q, h, hl, q => by
    rw [List.length_cons] at hl
    refine h d List.mem_cons_self _ _ ⟨by omega, ?_⟩ ?_
    · refine compD_sub (fun x hx => h x (List.mem_cons_of_mem _ hx)) (by rw [List.length_append, List.length_singleton]; omega) fun out ho => ?_
      rw [List.append_assoc, List.singleton_append]
      exact q _ (ho.cons₂ d)
    · exact compD_sub (fun x hx => h x (List.mem_cons_of_mem _ hx)) (by omega) fun out ho => q _ (ho.cons d)
theorem forD_inv {g : GT} {tb : SD} {E : XP} {z : EndsD} (J : List D → EnvD → Prop) (h : ∀ d ds η, J (d :: ds) η → ∀ nx : EnvD → Prop, (∀ η', J ds η' → nx η') → g d η fun η1 => tb E { nx := nx, rt := z.rt, bk := z.nx, ct := nx } η1) (h0 : ∀ η, J [] η → z.nx η) :
    ∀ {ds : List D} {η : EnvD}, J ds η → forD g tb E z ds η
  | [], η, j => h0 η j
  | d :: ds, η, j => h d ds η j _ fun η' j' => forD_inv J h h0 j'
theorem whileD_inv {b : BT} {tb : SD} {E : XP} {z : EndsD} (J : Nat → EnvD → Prop)
    (h : ∀ n η, J n η → ∀ nx : EnvD → Prop, (∀ m η', n = m + 1 → J m η' → nx η') → b E (lend η) fun k => if k = true then tb E { nx := nx, rt := z.rt, bk := z.nx, ct := nx } η else z.nx η) : ∀ {n : Nat} {η : EnvD}, J n η → whileD b tb E z (n + 1) η
  | 0, η, j => h 0 η j _ fun m η' e _ => nomatch e
  | n + 1, η, j => h (n + 1) η j _ fun m η' e j' => by
    have e : m = n := by omega
    subst e
    exact whileD_inv J h j'

/-! ### order -/
theorem le_lt (a b : D) : PySem.W.dataLe false id a b = !PySem.W.dataLt b a := rfl
theorem sortD_perm (ds : List D) : (sortD ds).Perm ds := List.mergeSort_perm _ _
theorem sort_two : ∀ {l m : List D}, l.Perm m → l.Pairwise (fun a b => PySem.W.dataLe false id a b = true) → m.Pairwise (fun a b => PySem.W.dataLt a b = true) → l = m
  | [], m, p, _, _ => (List.nil_perm.mp p).symm
  | x :: xs, [], p, _, _ => absurd (List.perm_nil.mp p) (by simp)
  | x :: xs, y :: ys, p, hl, hm => by
    obtain ⟨h1, h2⟩ := List.pairwise_cons.mp hl
    obtain ⟨m1, m2⟩ := List.pairwise_cons.mp hm
    have e : x = y := by
      rcases List.mem_cons.mp (p.mem_iff.mp List.mem_cons_self) with e | hx
      · exact e
      · rcases List.mem_cons.mp (p.mem_iff.mpr List.mem_cons_self) with e | hy
        · exact e.symm
        · have a := m1 x hx
          have b := h1 y hy
          rw [le_lt, a] at b
          exact absurd b (by decide)
    subst e
    rw [sort_two (List.Perm.cons_inv p) h2 m2]
theorem sortD_eq {ds m : List D} (p : m.Perm ds) (hm : m.Pairwise (fun a b => PySem.W.dataLt a b = true)) : sortD ds = m :=
  sort_two ((sortD_perm ds).trans p.symm) (PySem.W.sort_pairwise (PySem.W.sortLe_total _ _ _) ds) hm
def ltL : List Int → List Int → Bool
  | [], [] => false
  | [], _ :: _ => true
  | _ :: _, [] => false
  | a :: l, b :: m => if a = b then ltL l m else decide (a < b)
theorem dataLt_T : ∀ l m : List Int, PySem.W.dataLt (T l) (T m) = ltL l m
  | [], [] => by decide +kernel
  | [], b :: m => by
    unfold T ltL
    rw [PySem.W.dataLt_tuple, List.map_cons, PySem.W.toks_all_cons]
    rfl
  | a :: l, [] => by
    unfold T ltL
    rw [PySem.W.dataLt_tuple, List.map_cons, PySem.W.toks_all_cons]
    rfl
  | a :: l, b :: m => by
    have ih := dataLt_T l m
    unfold T at ih ⊢
    rw [PySem.W.dataLt_tuple] at ih ⊢
    unfold ltL
    rw [List.map_cons, List.map_cons]
    by_cases e : a = b
    · rw [if_pos e, PySem.W.dataLt_all_yes rfl (by rw [eqv_int, decide_eq_true e])]
      exact ih
    · rw [if_neg e, PySem.W.dataLt_all_no rfl (by rw [eqv_int, decide_eq_false e]), PySem.W.dataLt_int]
/-- ascending -/
abbrev Asc (l : List Int) : Prop := l.Pairwise (· < ·)
theorem sortD_ints {l m : List Int} (p : m.Perm l) (h : Asc m) : sortD (l.map .int) = m.map .int := by
  refine sortD_eq (p.map _) ?_
  rw [List.pairwise_map]
  refine h.imp fun {a b} hab => ?_
  rw [PySem.W.dataLt_int, decide_eq_true hab]
/-- two ascending lists of the same members are one -/
theorem asc_ext : ∀ {l m : List Int}, Asc l → Asc m → (∀ x, x ∈ l ↔ x ∈ m) → l = m
  | [], [], _, _, _ => rfl
  | [], b :: m, _, _, h => absurd ((h b).mpr List.mem_cons_self) (by simp)
  | a :: l, [], _, _, h => absurd ((h a).mp List.mem_cons_self) (by simp)
  | a :: l, b :: m, hl, hm, h => by
    obtain ⟨l1, l2⟩ := List.pairwise_cons.mp hl
    obtain ⟨m1, m2⟩ := List.pairwise_cons.mp hm
    have e : a = b := by
      rcases List.mem_cons.mp ((h a).mp List.mem_cons_self) with e | ha
      · exact e
      · rcases List.mem_cons.mp ((h b).mpr List.mem_cons_self) with e | hb
        · exact e.symm
        · have := m1 a ha
          have := l1 b hb
          omega
    subst e
    refine congrArg _ (asc_ext l2 m2 fun x => ⟨fun hx => ?_, fun hx => ?_⟩)
    · rcases List.mem_cons.mp ((h x).mp (List.mem_cons_of_mem _ hx)) with e | z
      · have := l1 x hx
        omega
      · exact z
    · rcases List.mem_cons.mp ((h x).mpr (List.mem_cons_of_mem _ hx)) with e | z
      · have := m1 x hx
        omega
      · exact z
theorem Asc.nodup {l : List Int} (h : Asc l) : l.Nodup := h.imp fun {a b} hab e => by omega
end PL

/-! DLset0: a set of nested tuples: searching, adding. -/
namespace DS
open PySem PySem.Spec PyProof.Rows L2
variable {P : Program} {w : World} {A : Around} {E : Value → Shared → Prop} {s : Shared}
mutual
/-- ints, tuples of such .. -/
def numK : NestedKey → Bool
  | .num _ => true
  | .tup ks => numKs ks
  | _ => false
def numKs : List NestedKey → Bool
  | [] => true
  | k :: ks => numK k && numKs ks
end
/-- the key k at a -/
structure At (h : Heap) (k : NestedKey) (a : Addr) : Prop where
  is : NestedIs h k (.ref a)
  dep : k.depth ≤ 8
  num : numK k = true
theorem At.knd {h : Heap} {k : NestedKey} {a : Addr} (x : At h k a) : (nestedKind P w).is h k a := ⟨x.is, x.dep⟩
abbrev hsh (w : World) (k : NestedKey) : Int := k.hash w
theorem At.keep {h h' : Heap} {k : NestedKey} {a : Addr} (x : At h k a) (hk : ∀ c o, h.get? c = some o → h'.get? c = some o) : At h' k a := ⟨NestedIs.at (fun c o vs n e _ => hk c o e) _ _ x.is, x.dep, x.num⟩
theorem all_each {h : Heap} {n : Nat} : ∀ {ks : List NestedKey} {vs : List Value}, NestedAll h ks vs → NestedKey.depthAll ks ≤ n → ∀ v ∈ vs, ∃ k, NestedIs h k v ∧ k.depth ≤ n
  | _, _, .nil, _, v, hv => by cases hv
  | k :: ks, _ :: vs, .cons r t, hd, v, hv => by
    simp only [NestedKey.depthAll] at hd
    rcases List.mem_cons.mp hv with e | hv
    · subst e
      exact ⟨k, r, by omega⟩
    · exact all_each t (by omega) v hv
/-- no item is of a class statement -/
theorem cls_ok : ∀ (n : Nat) (k : NestedKey) (v : Value) (Q : Bool → Shared → Prop), NestedIs s.heap k v → k.depth ≤ n → Q false s → wpAny (model P w) A (ofAClassStatement n v) Q E s := by
  intro n
  induction n with
  | zero =>
    intro k v Q hk hd q
    cases hk with
    | tup h1 h2 h3 h4 => simp [NestedKey.depth] at hd
    | _ => exact wpAny_pure q
  | succ n ih =>
    intro k v Q hk hd q
    cases hk with
    | @tup a o vs m ks h1 h2 h3 h4 =>
      simp only [NestedKey.depth] at hd
      have ty : s.TypeIs (.ref a) "tuple" := ⟨o, h1, h2⟩
      unfold ofAClassStatement
      refine wpAny_bind (wpAny_typeOf ty ?_)
      dsimp only
      have et : (("tuple" : String) == "tuple") = true := by decide
      simp only [et, if_true, Bool.not_true, Bool.false_eq_true, if_false]
      try refine wpAny_bind (wpAny_pure ?_)
      try simp only [Bool.not_true, Bool.false_eq_true, if_false]
      show wpAny _ _ (seqItems? (.ref a) >>= _) _ _ s
      refine wpAny_bind (wpAny_seqItems h1 h3 ?_)
      dsimp only
      refine wpAny_bind ?_
      show wpAny _ _ (forIn vs _ _) _ _ s
      rw [← Array.forIn_toList]
      have each := all_each h4 (n := n) (by omega)
      refine wpAny_forIn_list _ (fun left r s' => (r.1 = none ∧ s' = s) ∧ ∀ u ∈ left, ∃ k, NestedIs s.heap k u ∧ k.depth ≤ n) _ ?_ ?_ _ _ ⟨⟨rfl, rfl⟩, each⟩
      · rintro u left r s' ⟨⟨er, rfl⟩, each⟩
        obtain ⟨k, hk, hd⟩ := each u List.mem_cons_self
        refine wpAny_bind (ih k u _ hk hd ?_)
        simp only [Bool.false_eq_true, if_false]
        exact wpAny_pure ⟨⟨rfl, rfl⟩, fun x hx => each x (List.mem_cons_of_mem _ hx)⟩
      · rintro ⟨r1, r2⟩ s' ⟨⟨er, rfl⟩, _⟩
        simp only at er
        subst er
        exact wpAny_pure q
    | _ => exact wpAny_pure q
theorem all_each2 {h : Heap} {n : Nat} : ∀ {ks : List NestedKey} {vs : List Value}, NestedAll h ks vs → NestedKey.depthAll ks ≤ n → numKs ks = true → ∀ v ∈ vs, ∃ k, NestedIs h k v ∧ k.depth ≤ n ∧ numK k = true
  | _, _, .nil, _, _, v, hv => by cases hv
  | k :: ks, _ :: vs, .cons r t, hd, hn, v, hv => by
    simp only [NestedKey.depthAll] at hd
    simp only [numKs, Bool.and_eq_true] at hn
    rcases List.mem_cons.mp hv with e | hv
    · subst e
      exact ⟨k, r, by omega, hn.1⟩
    · exact all_each2 t (by omega) hn.2 v hv
/-- every item's hash is its value's -/
theorem byv_ok : ∀ (n : Nat) (k : NestedKey) (v : Value) (Q : Bool → Shared → Prop), NestedIs s.heap k v → k.depth ≤ n → numK k = true → Q true s → wpAny (model P w) A (hashByValue n v) Q E s := by
  intro n
  induction n with
  | zero =>
    intro k v Q hk hd hn q
    cases hk with
    | tup h1 h2 h3 h4 => simp [NestedKey.depth] at hd
    | none => cases hn
    | text x u => cases hn
    | _ => exact wpAny_pure q
  | succ n ih =>
    intro k v Q hk hd hn q
    cases hk with
    | @tup a o vs m ks h1 h2 h3 h4 =>
      simp only [NestedKey.depth] at hd
      have ty : s.TypeIs (.ref a) "tuple" := ⟨o, h1, h2⟩
      unfold hashByValue
      refine wpAny_bind (wpAny_specialOf ty F.slot_tuple_hash.lookup ?_)
      show wpAny _ _ (seqItems? (.ref a) >>= _) _ _ s
      refine wpAny_bind (wpAny_seqItems h1 h3 ?_)
      refine wpAny_bind ?_
      show wpAny _ _ (forIn vs _ _) _ _ s
      rw [← Array.forIn_toList]
      have each := all_each2 h4 (n := n) (by omega) (by rw [numK] at hn; exact hn)
      refine wpAny_forIn_list _ (fun left r s' => (r.1 = none ∧ s' = s) ∧ ∀ u ∈ left, ∃ k, NestedIs s.heap k u ∧ k.depth ≤ n ∧ numK k = true) _ ?_ ?_ _ _ ⟨⟨rfl, rfl⟩, each⟩
      · rintro u left r s' ⟨⟨er, rfl⟩, each⟩
        obtain ⟨k, hk, hd, hn⟩ := each u List.mem_cons_self
        refine wpAny_bind (ih k u _ hk hd hn ?_)
        simp only [Bool.not_true, Bool.false_eq_true, if_false]
        exact wpAny_pure ⟨⟨rfl, rfl⟩, fun x hx => each x (List.mem_cons_of_mem _ hx)⟩
      · rintro ⟨r1, r2⟩ s' ⟨⟨er, rfl⟩, _⟩
        simp only at er
        subst er
        exact wpAny_pure q
    | none => cases hn
    | text x u => cases hn
    | _ => exact wpAny_pure q
/-- the search asks nothing that could be seen -/
theorem unseen {k : NestedKey} {b : Addr} {Q : Bool → Shared → Prop} (hk : At s.heap k b) {ys : List Value} (hy : ∀ y ∈ ys, ∃ m c, y = Value.ref c ∧ At s.heap m c) (q : Q false s) : wpAny (model P w) A (searchCouldBeSeen (.ref b) ys) Q E s := by
  unfold searchCouldBeSeen
  refine wpAny_bind ?_
  refine wpAny_forIn_list _ (fun left r s' => (r.1 = none ∧ s' = s) ∧ ∀ y ∈ left, ∃ m c, y = Value.ref c ∧ At s.heap m c) _ ?_ ?_ _ _ ⟨⟨rfl, rfl⟩, hy⟩
  · rintro u left r s' ⟨⟨er, rfl⟩, each⟩
    obtain ⟨m, c, rfl, hc⟩ := each u List.mem_cons_self
    have more : ∀ y ∈ left, ∃ m c, y = Value.ref c ∧ At s'.heap m c := fun x hx => each x (List.mem_cons_of_mem _ hx)
    dsimp only
    by_cases hv : (b == c || (carriedByValue (.ref b) && carriedByValue (.ref c))) = true
    · exact wp_if_pos hv (wpAny_pure ⟨⟨rfl, rfl⟩, more⟩)
    · refine wp_if_neg hv ?_
      refine wpAny_bind ((nestedKind P w).quiet hk.knd ?_)
      simp only [Bool.not_true, Bool.false_eq_true, if_false]
      refine wpAny_bind ((nestedKind P w).quiet hc.knd ?_)
      simp only [Bool.not_true, Bool.false_eq_true, if_false]
      refine wpAny_bind (cls_ok 8 k _ _ hk.is hk.dep ?_)
      simp only [Bool.false_eq_true, if_false]
      refine wpAny_bind (cls_ok 8 m _ _ hc.is hc.dep ?_)
      simp only [Bool.false_eq_true, if_false]
      exact wpAny_pure ⟨⟨rfl, rfl⟩, more⟩
  · rintro ⟨r1, r2⟩ s' ⟨⟨er, rfl⟩, _⟩
    simp only at er
    subst er
    exact wpAny_pure q
/-- the rows of the set at its addresses and keys -/
abbrev Row := Addr × NestedKey
def rws (w : World) (L : List Row) : List (Int × Value) := L.map fun p => (hsh w p.2, Value.ref p.1)
theorem rws_len (L : List Row) : (rws w L).length = L.length := List.length_map _
structure SetK (w : World) (h : Heap) (a : Addr) (L : List Row) (es : Array (Int × Value)) (ep : Nat) (t : SetTable) : Prop where
  here : ∃ o, h.get? a = some o ∧ o.ExactSet ∧ o.data = .set es ep t
  row : es.toList = rws w L
  ok : TabOk t (L.map fun p => hsh w p.2)
  one : (L.map Prod.snd).Nodup
  at_ : ∀ p ∈ L, At h p.2 p.1
  pl : t.plain = true
  ld : w.params.followText "set-order" = true ∨ t.led = true
  lo : L.length * 5 < t.mask * 3
  lt : L.length < 64
variable {a : Addr} {L : List Row} {es : Array (Int × Value)} {ep : Nat} {t : SetTable}
theorem SetK.size (S : SetK w s.heap a L es ep t) : es.size = L.length := by
  have := congrArg List.length S.row
  rwa [Array.length_toList, rws_len] at this
theorem SetK.psize (S : SetK w s.heap a L es ep t) : t.place.toList.length = L.length := by
  have := S.ok.sz
  rwa [List.length_map, ← Array.length_toList] at this
theorem SetK.fits (S : SetK w s.heap a L es ep t) : t.fits es.size = true := by
  have h1 := S.ok.sz
  rw [List.length_map] at h1
  have h2 := S.size
  have h3 := S.lo
  unfold SetTable.fits SetTable.fill
  rw [S.ok.dm, Bool.and_eq_true, beq_iff_eq, decide_eq_true_eq]
  exact ⟨h1.trans h2.symm, by show t.place.size + 0 ≤ t.mask; omega⟩
theorem SetK.at_i (S : SetK w s.heap a L es ep t) {i : Nat} {p : Row} (h : L[i]? = some p) : es[i]? = some (hsh w p.2, Value.ref p.1) := by
  rw [← Array.getElem?_toList, S.row]
  unfold rws
  rw [List.getElem?_map, h]
  rfl
/-- the n-th step of the way of the hash h -/
abbrev step (m : Nat) (h : Int) (n : Nat) : SetTable.Probe := nth m (runAt m (SetTable.bits h % (m + 1)) (SetTable.bits h)) n
theorem step_dummy (m : Nat) (h : Int) (n : Nat) : (step m h n).dummy = none := by
  have key : ∀ (n : Nat) (p : SetTable.Probe), p.dummy = none → (nth m p n).dummy = none := by
    intro n
    induction n with
    | zero => exact fun p h => h
    | succ n ih =>
      intro p h
      refine ih (adv m p) ?_
      unfold adv
      split <;> exact h
  exact key n _ rfl
theorem step_more (m : Nat) (h : Int) (n q : Nat) : nth m (step m h n) q = step m h (n + q) := (nth_add m n _ q).symm
/-- the search from the n-th step on: k is found, or the empty slot at the way's end -/
theorem search_k (S : SetK w s.heap a L es ep t) {x : Addr} {k : NestedKey} (hx : At s.heap k x) (hu : A.units + 8 < cLine) {K : Nat} (hKf : K < 10 * SetTable.turns t.mask) (free : way t.mask (hsh w k) K ∉ t.place.toList) (full : ∀ c, c < K → way t.mask (hsh w k) c ∈ t.place.toList)
    {Q : SetFound → Shared → Prop} (qin : k ∈ L.map Prod.snd → Q (.there none) s) (qout : k ∉ L.map Prod.snd → Q (.free (way t.mask (hsh w k) K) false) s) :
    ∀ (f n : Nat) (from_ : Option SetTable.Probe), from_.getD (t.probeStart (hsh w k)) = step t.mask (hsh w k) n → n ≤ K → K - n < f →
      (∀ (i : Nat) p, L[i]? = some p → p.2 = k → ∃ c, n ≤ c ∧ c < K ∧ t.place.toList[i]? = some (way t.mask (hsh w k) c)) → wpAny (model P w) A (setSearchFrom a (.ref x) (hsh w k) true f from_) Q E s
  | 0, n, from_, _, _, hf, _ => absurd hf (Nat.not_lt_zero _)
  | f + 1, n, from_, hfrom, hn, hf, reach => by
    obtain ⟨o, ho, hex, hdat⟩ := S.here
    have odd : ¬ t.gaveWay = true := by
      unfold SetTable.gaveWay
      rw [mask_odd S.ok.mok]
      decide
    rw [setSearchFrom_succ]
    refine wpAny_bind (wpAny_setState_of ho hdat S.fits ?_)
    dsimp only
    refine wp_if_neg odd ?_
    try refine wpAny_bind (wpAny_pure ?_)
    have wy : ∀ q, (nth t.mask (step t.mask (hsh w k) n) q).j = way t.mask (hsh w k) (n + q) := fun q => congrArg SetTable.Probe.j (step_more t.mask (hsh w k) n q)
    have hof : ∀ (i : Nat) p, L[i]? = some p → (es[i]?.map (·.1)).getD 0 = hsh w p.2 := fun i p e => by
      rw [S.at_i e]
      rfl
    have spec := go_spec t S.ok.ris S.ok.dm (fun i => (es[i]?.map (·.1)).getD 0) (hsh w k) (10 * SetTable.turns t.mask) (K - n) (step t.mask (hsh w k) n) (step_dummy _ _ _) (by omega) (fun q hq => by rw [wy]; exact full _ (by omega)) (by rw [wy, show n + (K - n) = K by omega]; exact free)
    rcases spec with ⟨q, i, hq, hi, hh, first, hpr⟩ | ⟨none_, hpr⟩
    · have hpr2 : t.probe (fun i => (es[i]?.map (·.1)).getD 0) (hsh w k) (from_.getD (t.probeStart (hsh w k))) = some (.candidate (way t.mask (hsh w k) (n + q)) i (step t.mask (hsh w k) (n + (q + 1)))) := by
        rw [hfrom, ← wy, ← step_more]
        exact hpr
      rw [hpr2]
      dsimp only
      rw [wy] at hi
      have hil : i < L.length := by
        have := (List.getElem?_eq_some_iff.mp hi).1
        rwa [S.psize] at this
      obtain ⟨p, hp⟩ : ∃ p, L[i]? = some p := ⟨_, List.getElem?_eq_getElem hil⟩
      have hm : p ∈ L := List.mem_of_getElem? hp
      have after : wpAny (model P w) A (searchRest a (.ref x) (hsh w k) true f es t (way t.mask (hsh w k) (n + q)) i (step t.mask (hsh w k) (n + (q + 1)))) Q E s := by
        unfold searchRest
        rw [S.at_i hp]
        dsimp only
        refine wpAny_bind (wpAny_holding ((nestedKind P w).eqBool hu (S.at_ p hm).knd hx.knd ?_))
        refine wpAny_bind (wpAny_setState_of ho hdat S.fits ?_)
        dsimp only
        by_cases same : p.2 = k
        · refine wp_if_pos (by simp [same]) (wpAny_pure (qin ?_))
          exact List.mem_map.mpr ⟨p, hm, same⟩
        · refine wp_if_neg (by simp [same]) ?_
          try refine wpAny_bind (wpAny_pure ?_)
          rw [sameMem]
          dsimp only
          have live := slot_live S.ok.ris hi
          simp only [if_true, live, S.at_i hp]
          refine wpAny_bind (wpAny_isSame_ref_self (wpAny_bind (wpAny_pure ?_)))
          simp only [if_true]
          refine wp_if_neg (by simp [same]) ?_
          refine search_k S hx hu hKf free full qin qout f (n + (q + 1)) _ rfl (by omega) (by omega) fun i0 p0 e0 k0 => ?_
          obtain ⟨c, c1, c2, c3⟩ := reach i0 p0 e0 k0
          refine ⟨c, ?_, c2, c3⟩
          rcases Nat.lt_trichotomy c (n + q) with z | z | z
          · refine absurd ?_ (first (c - n) i0 (by omega) (by rw [wy, show n + (c - n) = c by omega]; exact c3))
            exact (hof i0 p0 e0).trans (by rw [k0])
          · subst z
            have l0 := slot_live S.ok.ris c3
            rw [live] at l0
            injection l0 with l0
            subst l0
            rw [hp] at e0
            cases e0
            exact absurd k0 same
          · omega
      by_cases led : t.led = true
      · refine wp_if_neg (by simp [led]) ?_
        try refine wpAny_bind (wpAny_pure ?_)
        exact after
      · refine wp_if_pos (by simp [led]) ?_
        refine wpAny_bind (unseen hx (fun y hy => ?_) ?_)
        · obtain ⟨e, he, rfl⟩ := List.mem_map.mp hy
          have he1 : e ∈ es.toList := by
            have : e ∈ es ∧ e.1 = hsh w k := by simpa using he
            simpa using this.1
          rw [S.row] at he1
          obtain ⟨p2, hp2, rfl⟩ := List.mem_map.mp he1
          exact ⟨p2.2, p2.1, rfl, S.at_ p2 hp2⟩
        · refine wp_if_neg (by decide) ?_
          try refine wpAny_bind (wpAny_pure ?_)
          exact after
    · have hpr2 : t.probe (fun i => (es[i]?.map (·.1)).getD 0) (hsh w k) (from_.getD (t.probeStart (hsh w k))) = some (.empty (way t.mask (hsh w k) K) none) := by
        rw [hfrom, show way t.mask (hsh w k) K = (nth t.mask (step t.mask (hsh w k) n) (K - n)).j by rw [wy, show n + (K - n) = K by omega]]
        exact hpr
      rw [hpr2]
      dsimp only
      refine wpAny_pure (qout fun hm => ?_)
      obtain ⟨p0, hp0, k0⟩ := List.mem_map.mp hm
      obtain ⟨i0, hi0⟩ := List.mem_iff_getElem?.mp hp0
      obtain ⟨c, c1, c2, c3⟩ := reach i0 p0 hi0 k0
      refine none_ (c - n) i0 (by omega) (by rw [wy, show n + (c - n) = c by omega]; exact c3) ?_
      exact (hof i0 p0 hi0).trans (by rw [k0])
theorem search0 (S : SetK w s.heap a L es ep t) {x : Addr} {k : NestedKey} (hx : At s.heap k x) (hu : A.units + 8 < cLine) {Q : SetFound → Shared → Prop} (qin : k ∈ L.map Prod.snd → Q (.there none) s)
    (qout : ∀ K, k ∉ L.map Prod.snd → way t.mask (hsh w k) K ∉ t.place.toList → (∀ c, c < K → way t.mask (hsh w k) c ∈ t.place.toList) → Q (.free (way t.mask (hsh w k) K) false) s) : wpAny (model P w) A (setSearch a (.ref x) (hsh w k) true) Q E s := by
  have lo := S.lo
  obtain ⟨K, hKf, free, full⟩ := S.ok.first (by rw [List.length_map]; omega) (hsh w k)
  have few : K < 100000 := by
    have : 10 * SetTable.turns t.mask ≤ 1420 := by
      unfold SetTable.turns
      rcases S.ok.mok with e | e | e <;> omega
    omega
  unfold setSearch
  refine search_k S hx hu hKf free full qin (fun hn => qout K hn free full) 100000 0 none rfl (Nat.zero_le _) (by omega) fun i p hp hk => ?_
  have hh : (L.map fun p => hsh w p.2)[i]? = some (hsh w k) := by
    rw [List.getElem?_map, hp, ← hk]
    rfl
  have hil : i < t.place.toList.length := by
    rw [S.psize]
    exact (List.getElem?_eq_some_iff.mp hp).1
  obtain ⟨c, hc, e⟩ := S.ok.before free hh (List.getElem?_eq_getElem hil)
  exact ⟨c, Nat.zero_le _, hc, by rw [List.getElem?_eq_getElem hil, e]⟩
end DS

/-! DLset1: adding, set(xs). -/
namespace DS
open PySem PySem.Spec PyProof.Rows L2
variable {P : Program} {w : World} {A : Around} {E : Value → Shared → Prop} {s : Shared}
variable {a : Addr} {L : List Row} {es : Array (Int × Value)} {ep : Nat} {t : SetTable}
/-- a key stays, whatever becomes of the set -/
theorem At.but {h h' : Heap} {k : NestedKey} {b : Addr} {o : Obj} (x : At h k b) (ho : h.get? a = some o) (hd : o.data = .set es ep t) (hs : Heap.SameBut a h h') : At h' k b := by
  refine ⟨NestedIs.at (fun c oc vs n e d => ?_) _ _ x.is, x.dep, x.num⟩
  have ne : c ≠ a := fun z => by
    subst z
    rw [ho] at e
    cases e
    rw [hd] at d
    cases d
  exact (hs.2 c ne).trans e
theorem rws_ins (L : List Row) (p : Nat) (r : Row) : rws w (L.take p ++ r :: L.drop p) = (rws w L).take p ++ (hsh w r.2, Value.ref r.1) :: (rws w L).drop p := by
  simp [rws, List.map_take, List.map_drop]
theorem hs_ins (L : List Row) (p : Nat) (r : Row) : (L.take p ++ r :: L.drop p).map (fun q => hsh w q.2) = (L.map fun q => hsh w q.2).take p ++ hsh w r.2 :: (L.map fun q => hsh w q.2).drop p := by
  simp [List.map_take, List.map_drop]
/-- the rows told in another order -/
theorem reorder (L : List Row) (es : Array (Int × Value)) (hr : es.toList = rws w L) : ∀ ns : List Nat, (∀ i ∈ ns, i < L.length) →
    ns.filterMap (fun i => es[i]?) = rws w (ns.filterMap fun i => L[i]?) ∧ ((ns.filterMap fun i => L[i]?).map fun p => hsh w p.2) = ns.map fun i => (es.map (·.1)).getD i 0
  | [], _ => ⟨rfl, rfl⟩
  | i :: ns, h => by
    obtain ⟨h1, h2⟩ := reorder L es hr ns fun j hj => h j (List.mem_cons_of_mem _ hj)
    have hi := h i List.mem_cons_self
    have e1 : L[i]? = some L[i] := List.getElem?_eq_getElem hi
    have e2 : es[i]? = some (hsh w L[i].2, Value.ref L[i].1) := by
      rw [← Array.getElem?_toList, hr]
      unfold rws
      rw [List.getElem?_map, e1]
      rfl
    have e3 : (es.map (·.1)).getD i 0 = hsh w L[i].2 := by
      have : (es.map (·.1))[i]? = some (hsh w L[i].2) := by
        rw [Array.getElem?_map, e2]
        rfl
      simp [Array.getD_eq_getD_getElem?, this]
    refine ⟨?_, ?_⟩
    · rw [List.filterMap_cons_some e2, List.filterMap_cons_some e1, h1]
      rfl
    · rw [List.filterMap_cons_some e1, List.map_cons, List.map_cons, h2, e3]
theorem pick_all {α : Type} (L : List α) : (List.range L.length).filterMap (fun i => L[i]?) = L := by
  have key : ∀ n, n ≤ L.length → (List.range n).filterMap (fun i => L[i]?) = L.take n := by
    intro n
    induction n with
    | zero => exact fun _ => rfl
    | succ n ih =>
      intro hn
      have e := List.getElem?_eq_getElem (show n < L.length from hn)
      rw [List.range_succ, List.filterMap_append, ih (by omega), List.filterMap_cons_some e, List.filterMap_nil, ← take_next e]
  rw [key _ (Nat.le_refl _), List.take_length]
/-- laid anew in a larger table -/
theorem relay_k {o : Obj} (ho : s.heap.get? a = some o) (hex : o.ExactSet) (hd : o.data = .set es ep t) (row : es.toList = rws w L) (psz : t.place.size = es.size) (dm : t.dummies = #[]) (fl : es.size ≤ t.mask) (one : (L.map Prod.snd).Nodup) (at_ : ∀ p ∈ L, At s.heap p.2 p.1)
    (pl : t.plain = true) (ld : w.params.followText "set-order" = true ∨ t.led = true) (lt : L.length < 64) {want M : Nat} (hw : SetTable.sizeAbove want - 1 = M) (hM : MaskOk M) (h128 : SetTable.sizeAbove want ≤ 128) (lo : L.length * 5 < M * 3) {Q : Unit → Shared → Prop}
    (q : ∀ h' L' es' ep' t', Heap.SameBut a s.heap h' → SetK w h' a L' es' ep' t' → L'.Perm L → Q () { s with heap := h' }) : wpAny (model P w) A (setRelay a want) Q E s := by
  have esz : es.size = L.length := by
    have := congrArg List.length row
    rwa [Array.length_toList, rws_len] at this
  have fits : t.fits es.size = true := by
    unfold SetTable.fits SetTable.fill
    rw [dm, Bool.and_eq_true, beq_iff_eq, decide_eq_true_eq]
    exact ⟨psz, by show t.place.size + 0 ≤ t.mask; omega⟩
  obtain ⟨t', order, e, pm, T, em, el, epl, edm⟩ := relaid_ok t (hs := es.map (·.1)) (wanted := want) hw hM (by rw [Array.size_map]; omega)
  rw [Array.size_map, esz] at pm
  obtain ⟨r1, r2⟩ := reorder L es row order.toList fun i hi => List.mem_range.mp (pm.mem_iff.mp hi)
  have pL : (order.toList.filterMap fun i => L[i]?).Perm L := by
    have := pm.filterMap fun i => L[i]?
    rwa [pick_all] at this
  generalize (order.toList.filterMap fun i => L[i]?) = L2 at r1 r2 pL
  rw [← r2] at T
  have rl : (order.filterMap (es[·]?)).toList = rws w L2 := by first | (rw [Array.toList_filterMap]; exact r1) | simpa using r1
  have sz2 : (order.filterMap (es[·]?)).size = es.size := by
    have := congrArg List.length rl
    rw [Array.length_toList, rws_len, pL.length_eq] at this
    omega
  rw [setRelay_eq]
  refine wpAny_bind (wpAny_setState_of ho hd fits ?_)
  dsimp only
  refine wp_if_neg (by rw [sizeLine_eq]; omega) ?_
  try refine wpAny_bind (wpAny_pure ?_)
  rw [e]
  dsimp only
  refine wpAny_bind (wp_if_neg (by rw [sz2]; simp) ?_)
  try refine wpAny_bind (wpAny_pure ?_)
  refine wpAny_pure ?_
  dsimp only
  refine wpAny_storeSet_of ho hd ?_ (by rw [sz2, sizeLine_eq]; omega)
  have sb : Heap.SameBut a s.heap (s.heap.update a (Obj.putSet (order.filterMap (es[·]?)) t')) := .update ..
  refine q _ L2 _ (ep + 1) t' sb ⟨⟨_, store_at ho hd, ⟨hex.1, hex.2.1, hex.2.2⟩, rfl⟩, rl, T, (pL.map Prod.snd).nodup_iff.mpr one, fun p hp => (at_ p (pL.mem_iff.mp hp)).but ho hd sb, epl.trans pl, ?_, ?_, ?_⟩ pL
  · rw [el]; exact ld
  · rw [pL.length_eq, em]; exact lo
  · rw [pL.length_eq]; exact lt
/-- one key more -/
theorem add_k (S : SetK w s.heap a L es ep t) {x : Addr} {k : NestedKey} (hx : At s.heap k x) (hu : A.units + 8 < cLine) (few : L.length + 1 < 64) {Q : Bool → Shared → Prop}
    (q : ∀ b h' L' es' ep' t', Heap.SameBut a s.heap h' → SetK w h' a L' es' ep' t' → ((k ∈ L.map Prod.snd ∧ L' = L) ∨ (k ∉ L.map Prod.snd ∧ L'.Perm ((x, k) :: L))) → Q b { s with heap := h' }) : wpAny (model P w) A (setAddHashed a (.ref x) (hsh w k)) Q E s := by
  obtain ⟨o, ho, hex, hd⟩ := S.here
  have esz := S.size
  have lo := S.lo
  unfold setAddHashed
  refine wpAny_holding ?_
  rw [show (100000 : Nat) = 99999 + 1 from rfl, setAddHashedIn_succ]
  refine wpAny_bind (wpAny_setState_of ho hd S.fits ?_)
  dsimp only
  refine wp_if_neg (by simp [byScan, Value.scannable]) ?_
  try refine wpAny_bind (wpAny_pure ?_)
  refine wpAny_bind (search0 S hx hu (fun hm => ?_) fun K hm free full => ?_)
  · exact wpAny_pure (q false s.heap L es ep t (.refl a s.heap) S (.inl ⟨hm, rfl⟩))
  · dsimp only
    refine wpAny_bind (wpAny_setState_of ho hd S.fits ?_)
    dsimp only
    obtain ⟨p1, p2, p3, p4, p5, p6, _, _, p9⟩ := S.ok.put free full
    have pl1 : (t.put (way t.mask (hsh w k) K)).1.plain = true := p6.trans S.pl
    cases hput : t.put (way t.mask (hsh w k) K) with
    | mk t1 pp =>
    rw [hput] at p1 p3 p4 p5 p9 pl1
    dsimp only at p1 p3 p4 p5 p9 pl1 ⊢
    rw [List.length_map] at p9
    subst p1
    first
      | (refine wpAny_bind ?_; refine wp_if_pos pl1 ?_; refine byv_ok 8 k _ _ hx.is hx.dep hx.num ?_)
      | refine wp_if_pos pl1 (wpAny_bind (byv_ok 8 k _ _ hx.is hx.dep hx.num ?_))
    simp only [if_true]
    generalize SetTable.below t.place (way t.mask (hsh w k) K) = pp at p2 p3 ⊢
    have row1 : (SetTable.insertAt es pp (hsh w k, Value.ref x)).toList = rws w (L.take pp ++ (x, k) :: L.drop pp) := by rw [SetTable.toList_insertAt, rws_ins, S.row]
    rw [← hs_ins L pp (x, k)] at p3
    have pm : (L.take pp ++ (x, k) :: L.drop pp).Perm ((x, k) :: L) := put_perm L pp (x, k)
    generalize L.take pp ++ (x, k) :: L.drop pp = L1 at row1 p3 pm
    generalize SetTable.insertAt es pp (hsh w k, Value.ref x) = es1 at row1 ⊢
    have len1 : L1.length = L.length + 1 := pm.length_eq
    have esz1 : es1.size = L.length + 1 := by
      have := congrArg List.length row1
      rwa [Array.length_toList, rws_len, len1] at this
    have one1 : (L1.map Prod.snd).Nodup := (pm.map Prod.snd).nodup_iff.mpr (List.nodup_cons.mpr ⟨hm, S.one⟩)
    refine wpAny_bind (wpAny_storeSet_of ho hd ?_ (by rw [esz1, sizeLine_eq]; omega))
    have sb : Heap.SameBut a s.heap (s.heap.update a (Obj.putSet es1 t1)) := .update ..
    have ho1 := store_at (es' := es1) (t' := t1) ho hd
    generalize s.heap.update a (Obj.putSet es1 t1) = h1 at sb ho1 ⊢
    have at1 : ∀ p ∈ L1, At h1 p.2 p.1 := fun p hp => by
      rcases List.mem_cons.mp (pm.mem_iff.mp hp) with e | hp
      · subst e
        exact hx.but ho hd sb
      · exact (S.at_ p hp).but ho hd sb
    have ld1 : w.params.followText "set-order" = true ∨ t1.led = true := by rw [p5]; exact S.ld
    have full_iff : t1.tooFull = true ↔ (L.length + 1) * 5 ≥ t1.mask * 3 := by
      unfold SetTable.tooFull
      rw [decide_eq_true_eq, p9]
    by_cases tf : t1.tooFull = true
    · first
        | (refine wpAny_bind ?_; refine wp_if_pos (by simp [tf]) ?_)
        | (refine wp_if_pos (by simp [tf]) ?_; refine wpAny_bind ?_)
      have big := full_iff.mp tf
      rw [p4] at big
      have psz1 : t1.place.size = es1.size := by rw [p3.sz, List.length_map, len1, esz1]
      rw [esz]
      have next : ∀ M, SetTable.sizeAbove (SetTable.grown (L.length + 1)) - 1 = M → MaskOk M → SetTable.sizeAbove (SetTable.grown (L.length + 1)) ≤ 128 → (L.length + 1) * 5 < M * 3 → es1.size ≤ t1.mask →
          wpAny (model P w) A (setRelay a (SetTable.grown (L.length + 1))) (fun _ s' => wpAny (model P w) A (pure true) Q E s') E { s with heap := h1 } := fun M m1 m2 m3 m4 m5 =>
        relay_k (s := { s with heap := h1 }) ho1 ⟨hex.1, hex.2.1, hex.2.2⟩ rfl row1 psz1 p3.dm m5 one1 at1 pl1 ld1 (by rw [len1]; exact few) m1 m2 m3 (by rw [len1]; exact m4) fun h2 L2 es2 ep2 t2 sb2 S2 pm2 =>
          wpAny_pure (q true h2 L2 es2 ep2 t2 (sb.trans sb2) S2 (.inr ⟨hm, pm2.trans pm⟩))
      rcases S.ok.mok with e | e | e
      · have l4 : L.length = 4 := by omega
        exact next 31 (by rw [l4, size_20]) (.inr (.inl rfl)) (by rw [l4, size_20]; decide) (by omega) (by rw [esz1, p4, e]; omega)
      · have l18 : L.length = 18 := by omega
        exact next 127 (by rw [l18, size_76]) (.inr (.inr rfl)) (by rw [l18, size_76]; decide) (by omega) (by rw [esz1, p4, e]; omega)
      · omega
    · first
        | refine wp_if_neg (by simp [tf]) ?_
        | (refine wpAny_bind ?_; refine wp_if_neg (by simp [tf]) ?_; refine wpAny_pure ?_)
      have small : ¬ ((L.length + 1) * 5 ≥ t1.mask * 3) := fun z => tf (full_iff.mpr z)
      exact wpAny_pure (q true h1 L1 es1 (ep + 1) t1 sb ⟨⟨_, ho1, ⟨hex.1, hex.2.1, hex.2.2⟩, rfl⟩, row1, p3, one1, at1, pl1, ld1, by rw [len1]; omega, by rw [len1]; exact few⟩ (.inr ⟨hm, pm⟩))
end DS

/-! DLset2: set(xs) of a list of nested tuples. -/
namespace DS
open PySem PySem.Spec PyProof.Rows L2
variable {P : Program} {w : World} {A : Around} {E : Value → Shared → Prop} {s : Shared}
/-- what the set has of the first i rows -/
structure From (ks : List Row) (i : Nat) (L : List Row) : Prop where
  sub : ∀ p ∈ L, p ∈ ks.take i
  all : ∀ p ∈ ks.take i, p.2 ∈ L.map Prod.snd
  len : L.length ≤ i
theorem From.next {ks L L' : List Row} {i : Nat} {x : Row} (g : From ks i L) (h : ks[i]? = some x) (c : (x.2 ∈ L.map Prod.snd ∧ L' = L) ∨ (x.2 ∉ L.map Prod.snd ∧ L'.Perm (x :: L))) : From ks (i + 1) L' := by
  have e := take_next h
  rcases c with ⟨hm, rfl⟩ | ⟨_, pm⟩
  · refine ⟨fun p hp => ?_, fun p hp => ?_, Nat.le_succ_of_le g.len⟩
    · rw [e]; exact List.mem_append_left _ (g.sub p hp)
    · rw [e] at hp
      rcases List.mem_append.mp hp with z | z
      · exact g.all p z
      · rw [List.mem_singleton] at z
        subst z
        exact hm
  · have mem : ∀ y, y ∈ L' ↔ y = x ∨ y ∈ L := fun y => by rw [pm.mem_iff, List.mem_cons]
    refine ⟨fun p hp => ?_, fun p hp => ?_, by rw [pm.length_eq]; exact Nat.succ_le_succ g.len⟩
    · rw [e]
      rcases (mem p).mp hp with z | z
      · exact List.mem_append_right _ (List.mem_singleton.mpr z)
      · exact List.mem_append_left _ (g.sub p z)
    · rw [e] at hp
      rw [(pm.map Prod.snd).mem_iff, List.map_cons, List.mem_cons]
      rcases List.mem_append.mp hp with z | z
      · exact .inr (g.all p z)
      · rw [List.mem_singleton] at z
        exact .inl (by rw [z])
theorem SetK.on {h h' : Heap} {a : Addr} {L : List Row} {es : Array (Int × Value)} {ep : Nat} {t : SetTable} (S : SetK w h a L es ep t) (ha : ∀ o, h.get? a = some o → h'.get? a = some o) (hk : ∀ p ∈ L, At h' p.2 p.1) : SetK w h' a L es ep t := by
  obtain ⟨o, ho, r⟩ := S.here
  exact ⟨⟨o, ha o ho, r⟩, S.row, S.ok, S.one, hk, S.pl, S.ld, S.lo, S.lt⟩
/-- the object of a new set -/
abbrev newSet (w : World) : Obj := { cls := .type "set", dict := none, data := .set #[] 0 (.fresh 0 0 (!w.params.followText "set-order")) }
theorem setK_new {h : Heap} {a : Addr} (e : h.get? a = some (newSet w)) : SetK w h a [] #[] 0 (.fresh 0 0 (!w.params.followText "set-order")) := by
  refine ⟨⟨_, e, ⟨rfl, rfl, rfl⟩, rfl⟩, rfl, ⟨.nil, rfl, rfl, .inl rfl, fun x z => (by cases z), fun i h j z => (by simp at z)⟩, .nil, fun p z => (by cases z), rfl, ?_, (by show 0 * 5 < 7 * 3; decide), (by show 0 < 64; decide)⟩
  show _ ∨ (!w.params.followText "set-order") = true
  cases w.params.followText "set-order" with
  | true => exact .inl rfl
  | false => exact .inr rfl
/-- the turns of update -/
theorem turns_k {I : Addr} {fp wr : List Addr} {G : Array GenState → Array GenState → Prop} {n : Nat} {Pv : Nat → Value → Prop} {St : Nat → Shared → Prop} {R : Result → Shared → Prop} (W : WalksS P w A.in1 I fp wr G n Pv St) (b : Addr) (hb : b ∉ fp) (ks : List Row) (hn : n = ks.length)
    (few : ks.length < 64) (val : ∀ i v, Pv i v → ∃ p, ks[i]? = some p ∧ v = .ref p.1) (h0 : Heap) (hk : ∀ p ∈ ks, At h0 p.2 p.1) (b0 : h0.get? b = none) (w0 : ∀ c ∈ wr, h0.get? c = none) (hu : A.in1.units + 8 < cLine) :
    ∀ (left i : Nat) (s : Shared), n - i = left → i ≤ n → St i s → (∀ c o, h0.get? c = some o → s.heap.get? c = some o) → (∃ L es ep t, SetK w s.heap b L es ep t ∧ From ks i L) →
      (∀ s' L es ep t, Moved (b :: wr) G s s' → SetK w s'.heap b L es ep t → From ks n L → (∀ c o, h0.get? c = some o → s'.heap.get? c = some o) → R (.ok (.ret .none)) s') → codeAny (model P w) A (.builtin "set.update.loop" ⟨[.ref b, .ref I], []⟩) R s := by
  have bw : b ∉ wr := fun z => hb (W.sub _ z)
  have up : ∀ c ∈ wr, c ∈ b :: wr := fun c z => List.mem_cons_of_mem _ z
  have stay : ∀ {s s' : Shared}, Moved wr G s s' → (∀ c o, h0.get? c = some o → s.heap.get? c = some o) → ∀ c o, h0.get? c = some o → s'.heap.get? c = some o := fun m k c o e => m.heap c o (fun z => by rw [w0 c z] at e; cases e) (k c o e)
  intro left
  induction left with
  | zero =>
    intro i s e hi st k ⟨L, es, ep, t, S, g⟩ fin
    have : i = n := by omega
    subst this
    refine codeAny_builtin F.entry_set_update_loop ?_
    rw [Around.under_plainId F.plain_set_update_loop _]
    show wpAny _ A.in1 (pyNext (.ref I) >>= _) _ _ s
    refine wpAny_bind (W.done s _ _ st fun s' m => ?_)
    have k' := stay m k
    show wpAny _ A.in1 (ret Value.none) _ _ s'
    exact wpAny_pure (fin s' L es ep t (m.mono up) (S.on (fun o e => m.heap b o bw e) fun p hp => (hk p (List.mem_of_mem_take (g.sub p hp))).keep k') g k')
  | succ left ih =>
    intro i s e hi st k ⟨L, es, ep, t, S, g⟩ fin
    have hlt : i < n := by omega
    refine codeAny_builtin F.entry_set_update_loop ?_
    rw [Around.under_plainId F.plain_set_update_loop _]
    show wpAny _ A.in1 (pyNext (.ref I) >>= _) _ _ s
    refine wpAny_bind (W.item i s _ _ hlt st fun v s' hP st' m => ?_)
    obtain ⟨p, hp, rfl⟩ := val i v hP
    have k' := stay m k
    have S' : SetK w s'.heap b L es ep t := S.on (fun o e => m.heap b o bw e) fun r hr => (hk r (List.mem_of_mem_take (g.sub r hr))).keep k'
    have hx : At s'.heap p.2 p.1 := (hk p (List.mem_of_getElem? hp)).keep k'
    show wpAny _ A.in1 (holding [Value.ref p.1] (setAdd b (.ref p.1)) >>= _) _ _ s'
    refine wpAny_bind (wpAny_holding ?_)
    unfold setAdd
    refine wpAny_holding ?_
    refine wpAny_bind ((nestedKind P w).pyHash hu hx.knd ?_)
    refine add_k (s := { s' with toks := s'.toks + (nestedKind P w).draws p.2 }) S' hx hu (by have := g.len; omega) fun c h' L' es' ep' t' sb S2 c2 => ?_
    have k2 : ∀ c o, h0.get? c = some o → h'.get? c = some o := fun c o e => (sb.2 c (fun z => by rw [z, b0] at e; cases e)).trans (k' c o e)
    refine wpAny_pure ⟨plainId_quiet F.plain_set_update_loop _, ih (i + 1) _ (by omega) hlt (W.frame _ s' _ _ st' (Nat.le_add_right _ _) fun c hc o e => ?_) k2 ⟨L', es', ep', t', S2, g.next hp c2⟩ fun s2 L2 es2 ep2 t2 m2 S3 g3 k3 => ?_⟩
    · exact (sb.2 c fun z => hb (z ▸ hc)).trans e
    · refine fin s2 L2 es2 ep2 t2 (Moved.trans W.gtrans ((m.mono up).then_heap (Nat.le_add_right _ _) fun c o hc e => ?_) m2) S3 g3 k3
      exact (sb.2 c fun z => hc (by rw [z]; exact List.mem_cons_self)).trans e
set_option maxHeartbeats 3200000 in
/-- set(xs) -/
theorem call_set_k {l : Addr} {items : Array Value} (ks : List Row) {Q : Value → Shared → Prop} (hh : A.handled = none) (hl : s.heap.IsList l items) (hit : items.toList = ks.map fun p => Value.ref p.1) (hk : ∀ p ∈ ks, At s.heap p.2 p.1) (few : ks.length < 64) (hu : A.units + 11 < cLine)
    (q : ∀ (h' : Heap) (tk : Nat) L es ep t, SetK w h' s.heap.objs.size L es ep t → From ks ks.length L → (∀ c o, s.heap.get? c = some o → h'.get? c = some o) → Q (.ref s.heap.objs.size) { s with heap := h', toks := tk }) : wpAny (model P w) A (call (.type "set") [.ref l]) Q E s := by
  have isz : items.size = ks.length := by
    have := congrArg List.length hit
    rwa [Array.length_toList, List.length_map] at this
  obtain ⟨c0, tl, hmro⟩ := F.called_set.mro
  have f1 := F.called_set.made
  have f2 := F.called_set.sub
  refine wpAny_call (codeAny_of_tree ?_)
  show wpAny _ _ (callAny (.type "set") _) _ _ _
  refine wpAny_pure ⟨Code.quiet_builtin _ (by decide +kernel), codeAny_builtin F.entry_type_call ?_⟩
  rw [Around.under_plain (weight_type_call_type "set" [.ref l] []) rfl]
  have f3 := F.called_set.notType
  have f4 := F.called_set.canCreate
  have f5 := F.typeCall_set_1 (.ref l)
  repeat (any_goals (first | assumption | wp_step))
  refine codeAny_mono (code_set_led1 (.ref l) (E := E) (Q₁ := fun ob s1 => ob = .ref s.heap.objs.size ∧ s1 = { s with heap := s.heap.push (newSet w) }) ⟨rfl, rfl⟩) fun r s1 hr => ?_
  match r, hr with
  | .error e, hr => exact hr
  | .ok (.ret ob), ⟨e1, e2⟩ =>
    subst e1
    subst e2
    have gS : (s.heap.push (newSet w)).get? s.heap.objs.size = some (newSet w) := Heap.get?_push_size _ rfl
    have tS : Shared.TypeIs { s with heap := s.heap.push (newSet w) } (.ref s.heap.objs.size) "set" := ⟨_, gS, rfl⟩
    have f6 := F.called_set.init.lookup
    have f7 := F.called_set.init.bind (.ref s.heap.objs.size)
    repeat (any_goals (first | assumption | wp_step))
    refine codeAny_mono (codeAny_call_builtin (R := wants (fun r s2 => r = .none ∧ ∃ h' tk L es ep t, s2 = { s with heap := h', toks := tk } ∧ SetK w h' s.heap.objs.size L es ep t ∧ From ks ks.length L ∧ ∀ c o, s.heap.get? c = some o → h'.get? c = some o) E) F.called_set.init.plain F.entry_set_init (check_set_init_1 tS ?_)) fun r2 s2 h2 => ?_
    · obtain ⟨⟨ocls, odict, odata, oslots⟩, hol, hcl, nl, hdl⟩ := hl
      simp only at hcl hdl
      subst hcl
      subst hdl
      have g1 : (s.heap.push (newSet w)).get? l = some { cls := .type "list", dict := odict, data := .seq items nl, slots := oslots } := Heap.get?_push_of_some _ hol
      have f8 := F.sub_list_set
      have f9 := F.sub_list_frozenset
      have ne0 : (Value.type "list" == Value.type "dict") = false := by decide
      have l1 : (s.heap.push (newSet w)).IsList l items := ⟨_, g1, rfl, nl, rfl⟩
      unfold Builtin.«set.__init__» noKeywords Builtin.Frozenset.updateFrom
      generalize hPI : pyIter = PI
      wp_walk
      subst hPI
      refine wpAny_pyIter_list l1 ?_
      refine wpAny_bind (wpAny_runValue ?_)
      have llt : l < s.heap.objs.size := Heap.lt_size hol
      have hh3 : A.in1.in1.in1.handled = none := by simp [hh]
      have psz : (s.heap.push (newSet w)).objs.size = s.heap.objs.size + 1 := Heap.size_push ..
      have lne : l ≠ (s.heap.push (newSet w)).objs.size := by rw [psz]; exact Nat.ne_of_lt (Nat.lt_succ_of_lt llt)
      have nofp : s.heap.objs.size ∉ [(s.heap.push (newSet w)).objs.size, l] := by
        rw [psz]
        simp only [List.mem_cons, List.not_mem_nil, or_false, not_or]
        exact ⟨Nat.ne_of_lt (Nat.lt_succ_self _), Nat.ne_of_gt llt⟩
      have val : ∀ (i : Nat) (v : Value), items[i]? = some v → ∃ p, ks[i]? = some p ∧ v = .ref p.1 := fun i v hv => by
        rw [← Array.getElem?_toList, hit, List.getElem?_map] at hv
        obtain ⟨p, hp, e⟩ := Option.map_eq_some_iff.mp hv
        exact ⟨p, hp, e.symm⟩
      have none_of : ∀ c, s.heap.objs.size ≤ c → s.heap.get? c = none := fun c hc => by
        cases e : s.heap.get? c with
        | none => rfl
        | some o => exact absurd (Nat.lt_of_lt_of_le (Heap.lt_size e) hc) (Nat.lt_irrefl _)
      refine turns_k ((Walks.list hh3 _ l lne items).toS) s.heap.objs.size nofp ks isz few val s.heap hk (none_of _ (Nat.le_refl _)) (fun c hc => none_of c (by rw [List.mem_singleton.mp hc, psz]; exact Nat.le_succ _)) (by show A.units + 3 + 8 < cLine; omega) (items.size - 0) 0 _ (by omega) (Nat.zero_le _)
        ⟨⟨_, Heap.get?_push_size _ rfl, rfl, rfl⟩, l1.push _⟩ (fun c o e => Heap.get?_push_of_some _ (Heap.get?_push_of_some _ e)) ?start ?fin
      case start => exact ⟨[], #[], 0, _, setK_new (Heap.get?_push_of_some _ gS), ⟨fun p z => (by cases z), fun p z => (by simp at z), Nat.le_refl _⟩⟩
      case fin =>
        rintro ⟨h', g2, d', tk', os'⟩ L es ep t m S g k
        have eg : g2 = s.gens := m.gens
        have ed : d' = s.drawn := m.drawn
        have eo : os' = s.os := m.os
        subst eg
        subst ed
        subst eo
        show wpAny _ _ _ _ _ _
        refine wpAny_pure ?_
        show wpAny _ _ (ret Value.none) _ _ _
        rw [isz] at g
        exact wpAny_pure ⟨rfl, h', tk', L, es, ep, t, rfl, S, g, k⟩
    · match r2, h2 with
      | .error e, h2 => exact h2
      | .ok (.ret u), ⟨e3, h', tk, L, es, ep, t, e4, S, g, k⟩ =>
        subst e3
        subst e4
        repeat (any_goals (first | assumption | wp_step))
        exact q _ _ _ _ _ _ S g k
end DS

/-! DLset3: sorted(set). -/
namespace DS
open PySem PySem.Spec PyProof.Rows L2 DL
mutual
def keyD : D → NestedKey
  | .int i => .num i
  | .tuple xs => .tup (keyDs xs)
  | _ => .none
def keyDs : List D → List NestedKey
  | [] => []
  | x :: xs => keyD x :: keyDs xs
end
mutual
def datK : NestedKey → D
  | .num i => .int i
  | .tup ks => .tuple (datKs ks)
  | _ => .none
def datKs : List NestedKey → List D
  | [] => []
  | k :: ks => datK k :: datKs ks
end
mutual
theorem dat_key : ∀ d : D, itup d = true → datK (keyD d) = d ∧ numK (keyD d) = true ∧ (keyD d).depth = d.depth
  | .int i, _ => ⟨rfl, rfl, rfl⟩
  | .tuple xs, h => by
    obtain ⟨h1, h2, h3⟩ := dat_keys xs (by simpa [itup] using h)
    refine ⟨?_, ?_, ?_⟩
    · rw [keyD, datK, h1]
    · rw [keyD, numK, h2]
    · rw [keyD, NestedKey.depth, h3, PyData.depth]
  | .none, h => by simp [itup] at h
  | .bool _, h => by simp [itup] at h
  | .str _, h => by simp [itup] at h
  | .list _, h => by simp [itup] at h
  | .dict _, h => by simp [itup] at h
theorem dat_keys : ∀ ds : List D, itupAll ds = true → datKs (keyDs ds) = ds ∧ numKs (keyDs ds) = true ∧ NestedKey.depthAll (keyDs ds) = PyData.depthAll ds
  | [], _ => ⟨rfl, rfl, rfl⟩
  | d :: ds, h => by
    simp only [itupAll, Bool.and_eq_true] at h
    obtain ⟨h1, h2, h3⟩ := dat_key d h.1
    obtain ⟨k1, k2, k3⟩ := dat_keys ds h.2
    refine ⟨?_, ?_, ?_⟩
    · rw [keyDs, datKs, h1, k1]
    · rw [keyDs, numKs, h2, k2]; rfl
    · rw [keyDs, NestedKey.depthAll, h3, k3, PyData.depthAll]
end
mutual
theorem reads_key {h : Heap} : ∀ (d : D) (v : Value) (as : List Addr), itup d = true → Reads h v d as → as = [] ∧ NestedIs h (keyD d) v
  | .int i, _, _, _, r => by cases r; exact ⟨rfl, .int _ _⟩
  | .tuple xs, _, _, hi, r => by
    cases r with
    | tuple h1 h2 h3 h4 =>
      obtain ⟨e, n⟩ := reads_keys xs _ _ (by simpa [itup] using hi) h4
      exact ⟨e, .tup h1 h2 h3 n⟩
  | .none, _, _, h, _ => by simp [itup] at h
  | .bool _, _, _, h, _ => by simp [itup] at h
  | .str _, _, _, h, _ => by simp [itup] at h
  | .list _, _, _, h, _ => by simp [itup] at h
  | .dict _, _, _, h, _ => by simp [itup] at h
theorem reads_keys {h : Heap} : ∀ (ds : List D) (vs : List Value) (as : List Addr), itupAll ds = true → ReadsAll h vs ds as → as = [] ∧ NestedAll h (keyDs ds) vs
  | [], _, _, _, r => by cases r; exact ⟨rfl, .nil⟩
  | d :: ds, _, _, hi, r => by
    simp only [itupAll, Bool.and_eq_true] at hi
    cases r with
    | cons h1 h2 =>
      obtain ⟨e1, n1⟩ := reads_key d _ _ hi.1 h1
      obtain ⟨e2, n2⟩ := reads_keys ds _ _ hi.2 h2
      subst e1
      subst e2
      exact ⟨rfl, .cons n1 n2⟩
end
mutual
theorem itup_noB : ∀ d : D, itup d = true → PL.noB d = true
  | .int i, _ => rfl
  | .tuple xs, h => by
    rw [PL.noB]
    exact itups_noB xs (by simpa [itup] using h)
  | .none, h => by simp [itup] at h
  | .bool _, h => by simp [itup] at h
  | .str _, h => by simp [itup] at h
  | .list _, h => by simp [itup] at h
  | .dict _, h => by simp [itup] at h
theorem itups_noB : ∀ ds : List D, itupAll ds = true → PL.noBs ds = true
  | [], _ => rfl
  | d :: ds, h => by
    simp only [itupAll, Bool.and_eq_true] at h
    rw [PL.noBs, itup_noB d h.1, itups_noB ds h.2]
    rfl
end
/-- unlike data stand one before the other -/
theorem lt_of_ne {x y : D} (al : PySem.W.alike x y = true) (hx : itup x = true) (hy : itup y = true) (ne : x ≠ y) (h : PySem.W.dataLt y x = false) : PySem.W.dataLt x y = true := by
  cases e : PySem.W.dataLt x y with
  | true => rfl
  | false =>
    have te : PySem.W.keyToks x = PySem.W.keyToks y := PyProof.Rows.lex_total _ _ e h
    have nv : PyData.eqv x y = false := by
      cases z : PyData.eqv x y with
      | false => rfl
      | true => exact absurd ((PL.eqv_iff x y (itup_noB x hx) (itup_noB y hy)).mp z) ne
    have k := (PySem.W.toks_eqv x y al).2 nv [] [.inl 0]
    rw [te, PySem.W.lex_pre] at k
    rw [PyProof.Rows.lex_irrefl] at k
    exact absurd k (by decide)
theorem perm_back {α β : Type} (f : α → β) : ∀ {L : List α} {vs : List β}, vs.Perm (L.map f) → ∃ L1 : List α, L1.Perm L ∧ vs = L1.map f
  | [], vs, p => ⟨[], .nil, List.perm_nil.mp p⟩
  | x :: L, vs, p => by
    obtain ⟨a, b, rfl⟩ := List.append_of_mem (p.mem_iff.mpr (show f x ∈ (x :: L).map f from List.mem_cons_self))
    have p2 : (a ++ b).Perm (L.map f) := by
      have := List.perm_middle.symm.trans p
      rw [List.map_cons] at this
      exact this.cons_inv
    obtain ⟨L1, h1, h2⟩ := perm_back f p2
    obtain ⟨La, Lb, rfl, rfl, rfl⟩ := List.append_eq_map_iff.mp h2
    exact ⟨La ++ x :: Lb, List.perm_middle.trans (h1.cons x), by simp⟩
theorem each_rows {R : Value → D → Prop} : ∀ {L : List Row}, (∀ p ∈ L, R (.ref p.1) (datK p.2)) → PySem.W.EachIs R (L.map fun p => Value.ref p.1) (L.map fun p => datK p.2)
  | [], _ => .nil
  | p :: L, h => .cons (h p List.mem_cons_self) (each_rows fun r hr => h r (List.mem_cons_of_mem _ hr))
section
variable {P : Program} {w : World} {A : Around} {E : Value → Shared → Prop} {s : Shared} {a : Addr} {L : List Row} {es : Array (Int × Value)} {ep : Nat} {t : SetTable}
theorem sorted_k (S : SetK w s.heap a L es ep t) (hh : A.handled = none) (rd : ∀ p ∈ L, Reads s.heap (.ref p.1) (datK p.2) []) (al : PySem.W.AllAlike (L.map fun p => datK p.2)) (so : ∀ p ∈ L, ∃ x r, datK p.2 = .tuple (x :: r)) (dp : ∀ p ∈ L, (datK p.2).depth ≤ 8) (hu : A.units + 64 < cLine) {Q : Value → Shared → Prop}
    (q : ∀ s' p (out : List Value) (c : Nat) (bs : List D), (∀ b o, s.heap.get? b = some o → s'.heap.get? b = some o) → s'.gens = s.gens → s'.os = s.os → s.heap.objs.size ≤ p → s'.heap.get? p = some (seqObj "list" out.toArray c) → bs.Perm (L.map fun p => datK p.2) →
      PySem.W.EachIs (fun v d => ∃ r ∈ L, v = .ref r.1 ∧ d = datK r.2) out (bs.mergeSort (PySem.W.dataLe false id)) → Q (.ref p) s') : wpAny (model P w) A (call (.builtin "sorted") [.ref a]) Q E s := by
  obtain ⟨o, ho, hex, hd⟩ := S.here
  have esz := S.size
  have lt := S.lt
  refine Calls.call_function_entry kind_sorted plain_sorted entry_sorted (args_sorted1 _) ?_
  unfold Builtin.«sorted»
  refine wpAny_bind (m := checkCount "sorted" 1 1 _) (wpAny_pure ?_)
  refine wpAny_bind (collect_set (A := A.in1) hh ⟨o, ho, hex.1, hd⟩ S.fits (by unfold scanBound; omega) S.ok.ris S.ld fun s1 vs k1 z1 g1 o1 pm => ?_)
  have ev : es.toList.map (·.2) = L.map fun p => Value.ref p.1 := by
    rw [S.row]
    unfold rws
    rw [List.map_map]
    rfl
  rw [ev] at pm
  obtain ⟨L1, p1, rfl⟩ := perm_back (fun p : Row => Value.ref p.1) pm
  have in1 : ∀ p ∈ L1, p ∈ L := fun p hp => p1.mem_iff.mp hp
  have l1 : L1.length < 64 := by rw [p1.length_eq]; exact lt
  refine wpAny_bind (wpAny_newList ?_ (by rw [sizeLine_eq, List.length_map]; omega))
  have hoL : (s1.heap.push (seqObj "list" (L1.map fun p => Value.ref p.1).toArray 0)).get? s1.heap.objs.size = some (seqObj "list" (L1.map fun p => Value.ref p.1).toArray 0) := Heap.get?_push_size _ rfl
  have keep : ∀ b u, s.heap.get? b = some u → (s1.heap.push (seqObj "list" (L1.map fun p => Value.ref p.1).toArray 0)).get? b = some u := fun b u e => Heap.get?_push_of_some _ (k1 b u e)
  have pmD : (L1.map fun p => datK p.2).Perm (L.map fun p => datK p.2) := p1.map _
  refine wpAny_bind (wpAny_holding (PySem.W.list_sort_data (s := { s1 with heap := s1.heap.push (seqObj "list" (L1.map fun p => Value.ref p.1).toArray 0) }) (enc := id) (R := fun v d => ∃ r ∈ L, v = .ref r.1 ∧ d = datK r.2) (bs := L1.map fun p => datK p.2) hoL (each_rows fun p hp => ⟨p, in1 p hp, rfl, rfl⟩)
    (each_rows fun p hp => ⟨[], PyProof.Rows.Reads.keeps keep (rd p (in1 p hp)), by simp⟩) ?_ ?_ (by rw [List.length_map, sizeLine_eq]; omega) ?_ fun out lo eo => ?_))
  · rw [List.map_id]
    exact fun d hd d' hd' => al d (pmD.mem_iff.mp hd) d' (pmD.mem_iff.mp hd')
  · rw [List.map_id]
    refine .inl fun d hd => ?_
    obtain ⟨p, hp, rfl⟩ := List.mem_map.mp hd
    exact so p (in1 p hp)
  · intro d hd
    obtain ⟨p, hp, rfl⟩ := List.mem_map.mp hd
    have := dp p (in1 p hp)
    show A.units + 1 + 1 + (datK p.2).depth < cLine
    omega
  · obtain ⟨c, hc⟩ := sortedHeap_at (vs := L1.map fun p => Value.ref p.1) (out := out.toArray) hoL
    refine wpAny_pure ⟨_, rfl, q _ s1.heap.objs.size out c _ (fun b u e => ?_) g1 o1 z1 hc pmD eo⟩
    have e1 := k1 b u e
    have hlt := Heap.lt_size e1
    show (sortedHeap (s1.heap.push (seqObj "list" (L1.map fun p => Value.ref p.1).toArray 0)) s1.heap.objs.size _ _).get? b = some u
    rw [sortedHeap_old (Nat.ne_of_lt hlt) (by rw [size_push']; exact Nat.lt_succ_of_lt hlt)]
    exact Heap.get?_push_of_some _ e1
end
end DS

/-! DLset: sorted(set(xs)), xs a list of tuples of ints, nested. -/
namespace DL
open PySem PySem.Spec PyProof.Rows L2
/-- what may stand in the set -/
def SetOk (xs : List D) : Prop := xs.length < 64 ∧ xs.all itup = true ∧ PySem.W.AllAlike xs ∧ (∀ d, d ∈ xs → ∃ x r, d = .tuple (x :: r)) ∧ ∀ d, d ∈ xs → d.depth ≤ 8
def nSortSet (t : ET) : NT := fun E η Q => t E η fun d => match d with
  | .list xs => SetOk xs ∧ ∀ ys, ys.Pairwise (fun a b => PySem.W.dataLt a b = true) → (∀ d, d ∈ ys ↔ d ∈ xs) → Q ys
  | _ => False
theorem refsV : ∀ {ks : List DS.Row} {us : List Value}, Vals (ks.map fun p => V.ref p.1) us → us = ks.map fun p => Value.ref p.1
  | [], _, .nil => rfl
  | p :: ks, _, .cons r t => by
    cases r
    rw [refsV t]
    rfl
theorem rows_of {K : PySem.W.Frag} {O : Addr → Prop} {H : Hp} : ∀ {xs : List V} {ds : List D}, RepAll K O H xs ds → (∀ d ∈ ds, itup d = true ∧ ∃ x r, d = .tuple (x :: r)) →
    ∃ ks : List DS.Row, xs = ks.map (fun p => V.ref p.1) ∧ ds = ks.map (fun p => DS.datK p.2) ∧ ∀ p ∈ ks, Rep K O H (.ref p.1) (DS.datK p.2) ∧ itup (DS.datK p.2) = true ∧ DS.keyD (DS.datK p.2) = p.2
  | _, _, .nil, _ => ⟨[], rfl, rfl, fun p hp => by cases hp⟩
  | _, d :: _, .cons r t, h => by
    obtain ⟨ks, e1, e2, h3⟩ := rows_of t fun x hx => h x (List.mem_cons_of_mem _ hx)
    obtain ⟨hi, x, l, rfl⟩ := h d List.mem_cons_self
    have dk := (DS.dat_key _ hi).1
    cases r with
    | @tup a _ _ h1 h2 =>
      refine ⟨(a, DS.keyD (.tuple (x :: l))) :: ks, by rw [e1]; rfl, by rw [List.map_cons, ← e2, dk], fun p hp => ?_⟩
      rcases List.mem_cons.mp hp with z | z
      · subst z
        show Rep K O H (.ref a) (DS.datK (DS.keyD _)) ∧ itup (DS.datK (DS.keyD _)) = true ∧ DS.keyD (DS.datK (DS.keyD _)) = _
        rw [dk]
        exact ⟨.tup h1 h2, hi, rfl⟩
      · exact h3 p z
def tSortSet (K : PySem.W.Frag) (ta : TE) : TE := fun σ H Q => ta σ H fun x H1 => ∃ (l : Addr) (xs : List V) (ds : List D) (O : Addr → Prop), x = V.ref l ∧ H1 l = some (.lst xs) ∧ RepAll K O H1 xs ds ∧ SetOk ds ∧
  ∀ p ys es, H1 p = none → RepAll K O H1 ys es → es.Pairwise (fun a b => PySem.W.dataLt a b = true) → (∀ d, d ∈ es ↔ d ∈ ds) → ys.length ≤ sizeLine → Q (.ref p) (upd H1 p (.lst ys))
section
variable {X : Cx} {e : Expr} {t : ET} {p p2 q2 pos : Pos}
theorem pe_sortSet {ta : TE} (hc : X.calm = true) (hu : X.A.units + 65 < cLine) (hg : Gl X "sorted") (hm : X.mg "sorted" = none) (hg2 : Gl X "set") (hm2 : X.mg "set" = none) (ha : PE X e ta) (na : starEach [e] X.env = (false, eval e X.env) :: starEach [] X.env)
    (nb : starEach [.Call (.Name "set" p2) [e] [] q2] X.env = (false, eval (.Call (.Name "set" p2) [e] [] q2) X.env) :: starEach [] X.env) : PE X (.Call (.Name "sorted" p) [.Call (.Name "set" p2) [e] [] q2] [] pos) (tSortSet X.K ta) := by
  refine ⟨fun pins s σ H Q I h => ?_⟩
  refine Call_ (ld_blt I hg hm (show bootBuiltins "sorted" = some (.builtin "sorted") by decide +kernel) ?_)
  refine PyProof.Rows.callWith_builtin1 (PyProof.Rows.args_cons ?_ nb) nb rfl
  refine Call_ (ld_blt I hg2 hm2 PyProof.Rows.boot_set ?_)
  refine PyProof.Rows.callWith_type1 (PyProof.Rows.args_cons (thn (ha.run pins s σ H _ I h) fun v s1 ⟨x, H1, I1, r1, q1⟩ => PyProof.Rows.args_nil ?_) na) na rfl
  obtain ⟨l, xs, ds, O, rfl, hl, rx, ⟨few, hit, hal, hne, hdp⟩, q1⟩ := q1
  cases r1
  rw [List.all_eq_true] at hit
  obtain ⟨ks, rfl, rfl, hks⟩ := rows_of rx fun d hd => ⟨hit d hd, hne d hd⟩
  obtain ⟨its, rv, pl, hz⟩ := I1.list (.of hl)
  rw [List.length_map] at few
  have eI := refsV rv
  have inD : ∀ p ∈ ks, DS.datK p.2 ∈ ks.map fun p => DS.datK p.2 := fun p hp => List.mem_map.mpr ⟨p, hp, rfl⟩
  have rd1 : ∀ p ∈ ks, Reads s1.heap (.ref p.1) (DS.datK p.2) [] ∧ DS.At s1.heap p.2 p.1 := fun p hp => by
    obtain ⟨r, hi, ek⟩ := hks p hp
    obtain ⟨as, rd⟩ := Dp.reads I1 _ _ (.ref p.1) (r.dp (nd_alike _ (hal _ (inD p hp) _ (inD p hp)))) rfl
    obtain ⟨e0, n0⟩ := DS.reads_key _ _ _ hi rd
    subst e0
    obtain ⟨_, k2, k3⟩ := DS.dat_key _ hi
    rw [ek] at n0 k2 k3
    exact ⟨rd, n0, by rw [k3]; exact hdp _ (inD p hp), k2⟩
  refine DS.call_set_k (P := X.prog) (w := X.w) ks (I1.ok.hd hc) pl.isList (by simpa using eI) (fun p hp => (rd1 p hp).2) few (by omega) fun h' tk L es ep t S g k => PyProof.Rows.args_nil ?_
  have I2 : Inv X pins σ H1 { s1 with heap := h', toks := tk } := I1.kept k
  have sub : ∀ p ∈ L, p ∈ ks := fun p hp => List.mem_of_mem_take (g.sub p hp)
  have inL : ∀ p ∈ L, DS.datK p.2 ∈ ks.map fun p => DS.datK p.2 := fun p hp => inD p (sub p hp)
  refine DS.sorted_k (s := { s1 with heap := h', toks := tk }) S (I1.ok.hd hc) (fun p hp => PyProof.Rows.Reads.keeps k (rd1 p (sub p hp)).1) ?_ (fun p hp => hne _ (inL p hp)) (fun p hp => hdp _ (inL p hp)) (by omega) fun s' b out c bs k2 g2 o2 hb hout pm eo => ?_
  · intro d hd d' hd'
    obtain ⟨p, hp, rfl⟩ := List.mem_map.mp hd
    obtain ⟨p', hp', rfl⟩ := List.mem_map.mp hd'
    exact hal _ (inL p hp) _ (inL p' hp')
  · have eo2 : PySem.W.EachIs (fun u d => ∃ x, RelV x u ∧ Rep X.K O H1 x d) out (sortD bs) := eo.mono fun v d ⟨r, hr, e1, e2⟩ => by
      subst e1
      subst e2
      exact ⟨.ref r.1, rfl, (hks r (sub r hr)).1⟩
    obtain ⟨ys, hv, hy⟩ := each_out eo2
    have pmS : (sortD bs).Perm (L.map fun p => DS.datK p.2) := (List.mergeSort_perm _ _).trans pm
    have hlen : ys.length ≤ sizeLine := by
      have := S.lt
      rw [hy.length, pmS.length_eq, List.length_map, sizeLine_eq]
      omega
    have hn : H1 b = none := I2.hok.fresh hb
    have J : Inv X pins σ (upd H1 b (.lst ys)) { ({ s1 with heap := h', toks := tk } : Shared) with heap := s'.heap, gens := s'.gens, drawn := s'.drawn, toks := s'.toks } :=
      I2.call (ch := []) (Un.laid k2 hb hn) (I2.hok.laid k2 hb ⟨hlen, out, c, hv, hout⟩) (by rw [g2]; exact I2.bare) (fun _ z => nomatch z)
    have e9 : s' = { ({ s1 with heap := h', toks := tk } : Shared) with heap := s'.heap, gens := s'.gens, drawn := s'.drawn, toks := s'.toks } := by
      cases s'
      cases s1
      cases o2
      rfl
    rw [e9]
    refine ⟨.ref b, _, J, rfl, q1 b ys (sortD bs) hn hy ?_ ?_ hlen⟩
    · have nd : (L.map fun p => DS.datK p.2).Nodup := by
        refine List.pairwise_map.mpr (List.Pairwise.imp_of_mem (fun {x y} hx hy ne e => ne ?_) (List.pairwise_map.mp S.one))
        have ex := (hks x (sub x hx)).2.2
        have ey := (hks y (sub y hy)).2.2
        rw [← ex, ← ey, e]
      have nd2 : (sortD bs).Nodup := pmS.nodup_iff.mpr nd
      have le := PySem.W.sort_pairwise (PySem.W.sortLe_total (PyProof.Rows.listOrd PyProof.Rows.itemOrd) false fun b : D => PySem.W.keyToks (id b)) bs
      refine List.Pairwise.imp_of_mem (fun {x y} hx hy ⟨h1, h2⟩ => ?_) (List.Pairwise.and nd2 le)
      obtain ⟨px, hpx, rfl⟩ := List.mem_map.mp (pmS.mem_iff.mp hx)
      obtain ⟨py, hpy, rfl⟩ := List.mem_map.mp (pmS.mem_iff.mp hy)
      refine DS.lt_of_ne (hal _ (inL px hpx) _ (inL py hpy)) (hit _ (inL px hpx)) (hit _ (inL py hpy)) h1 ?_
      have h3 : (!PySem.W.dataLt (DS.datK py.2) (DS.datK px.2)) = true := h2
      simpa using h3
    · intro d
      rw [pmS.mem_iff]
      constructor
      · intro hd
        obtain ⟨p, hp, rfl⟩ := List.mem_map.mp hd
        exact inL p hp
      · intro hd
        obtain ⟨p, hp, rfl⟩ := List.mem_map.mp hd
        obtain ⟨r, hr, er⟩ := List.mem_map.mp (g.all p (by rw [List.take_length]; exact hp))
        exact List.mem_map.mpr ⟨r, hr, by rw [er]⟩
theorem dn_sortSet (hc : X.calm = true) (hu : X.A.units + 65 < cLine) (hg : Gl X "sorted") (hm : X.mg "sorted" = none) (hg2 : Gl X "set") (hm2 : X.mg "set" = none) (h : DE X e t) (na : starEach [e] X.env = (false, eval e X.env) :: starEach [] X.env := by rfl)
    (nb : starEach [.Call (.Name "set" p2) [e] [] q2] X.env = (false, eval (.Call (.Name "set" p2) [e] [] q2) X.env) :: starEach [] X.env := by rfl) :
    DN X (.Call (.Name "sorted" p) [.Call (.Name "set" p2) [e] [] q2] [] pos) (nSortSet t) := by
  refine .of (pe_sortSet hc hu hg hm hg2 hm2 h.pe na nb) fun σ H c O η E Q R g ht k => ?_
  refine ⟨c, O, η, E, _, g, ht, fun d v H1 s1 r1 q => ?_⟩
  cases r1 with
  | @lst a xs ds o h0 rr =>
    exact ⟨a, xs, ds, O, rfl, h0, rr, q.1, fun b ys es hn ry hp hm hl => newk g s1 ry (q.2 es hp hm) k b hn⟩
  | _ => exact q.elim
end
end DL

/-! DL15: sorted of a tuple. -/
namespace DL
open PySem PySem.Spec PyProof.Rows L2
section
variable {prog : Program} {w : World} {A : Around} {E : Value → Shared → Prop} {s : Shared}
end
section
variable {X : Cx} {e : Expr} {ts : AT} {p pos : Pos}
def SrtT (ds : List D) : Prop := ds.all itup = true ∧ PySem.W.AllAlike ds ∧ PySem.W.Sortable ds ∧ ∀ d, d ∈ ds → d.depth ≤ 60
def rSortTup (K : PySem.W.Frag) : List V → Hp → VK → Prop := fun vs H Q => ∃ (a : Addr) (xs : List V) (ds : List D) (O : Addr → Prop), vs = [.ref a] ∧ SqT K H a xs ∧ RepAll K O H xs ds ∧ SrtT ds ∧ ∀ p ys, H p = none → RepAll K O H ys (sortD ds) → Q (.ref p) (upd H p (.lst ys))
def fSortedT : List D → (List D → Prop) → Prop
  | [.tuple xs], Q => SrtT xs ∧ Q (sortD xs)
  | _, _ => False
end
end DL

/-! DL23: dicts whose keys are tuples of ints (nested): dict(pairs), d[k], list(d), {}. -/
namespace DL
open PySem PySem.Spec PyProof.Rows L2
/-! ### keys -/
section
variable {X : Cx} {pins : List (Addr × Obj)} {σ : L2.St} {H : Hp} {s : Shared} {O : Addr → Prop}
mutual
theorem Rep.nested (I : Inv X pins σ H s) : ∀ {d : D} {v : V} {u : Value}, itup d = true → Rep X.K O H v d → RelV v u → NestedIs s.heap (nk d) u
  | _, _, u, _, .int i, r => by
    obtain ⟨t, rfl⟩ := r
    exact .int i t
  | _, _, u, h, .tup ht ra, r => by
    cases r
    obtain ⟨its, rv, ⟨o, ho, hc, n, hd⟩, _⟩ := I.tuple ht.sq
    exact .tup ho hc hd (by simpa using RepAll.nested I (by simpa [itup] using h) ra rv)
  | _, _, _, h, .non, _ => by simp [itup] at h
  | _, _, _, h, .bl _, _ => by simp [itup] at h
  | _, _, _, h, .str _, _ => by simp [itup] at h
  | _, _, _, h, .lst .., _ => by simp [itup] at h
  | _, _, _, h, .dct .., _ => by simp [itup] at h
theorem RepAll.nested (I : Inv X pins σ H s) : ∀ {ds : List D} {vs : List V} {us : List Value}, itupAll ds = true → RepAll X.K O H vs ds → Vals vs us → NestedAll s.heap (nks ds) us
  | _, _, _, _, .nil, .nil => .nil
  | _, _, _, h, .cons r t, .cons q l => by
    simp only [itupAll, Bool.and_eq_true] at h
    exact .cons (Rep.nested I h.1 r q) (RepAll.nested I h.2 t l)
end
/-- the dict's table -/
def tabOf : List (D × D) → List Addr → List Value → List (NestedKey × Addr × Value)
  | p :: kvs, b :: bs, x :: xs => (nk p.1, b, x) :: tabOf kvs bs xs
  | _, _, _ => []
end
/-! ### d[k] -/
def dLook (kvs : List (D × D)) (k : D) : Option D := (kvs.find? fun p => PyData.eqv p.1 k).map (·.2)
section
variable {X : Cx} {a b e : Expr} {es : List Expr} {pos p : Pos} {ta tb : ET} {ts : AT}
def rIxDict (K : PySem.W.Frag) : R2 := fun x y H Q => ∃ (O : Addr → Prop) (kvs : List (D × D)) (k d : D), Rep K O H x (.dict kvs) ∧ Rep K O H y k ∧ keyOk k = true ∧ dLook kvs k = some d ∧ ∀ v, Rep K O H v d → Q v H
def oIxD : OpD
  | .dict kvs, k, Q => keyOk k = true ∧ onS (dLook kvs k) Q
  | x, k, Q => oIx x k Q
end
end DL

/-! DL24: dict(pairs), list(d). -/
namespace DL
open PySem PySem.Spec PyProof.Rows L2
def pairD (p : D × D) : D := .tuple [p.1, p.2]
/-- what dict(..) asks of its pairs -/
structure KvOk (kvs : List (D × D)) : Prop where
  keys : ∀ p ∈ kvs, keyOk p.1 = true
  nd : (kvs.map (·.1)).Nodup
section
variable {X : Cx} {pins : List (Addr × Obj)} {σ : L2.St} {H : Hp} {s : Shared} {O : Addr → Prop}
end
section
variable {X : Cx} {e : Expr} {pos p : Pos} {ts : AT}
def rDictP (K : PySem.W.Frag) : List V → Hp → VK → Prop := fun vs H Q => ∃ (a : Addr) (xs : List V) (kvs : List (D × D)) (O : Addr → Prop), vs = [.ref a] ∧ H a = some (.lst xs) ∧ RepAll K O H xs (kvs.map pairD) ∧ KvOk kvs ∧
  ∀ p es ep ks vs, H p = none → (p == sysModules) = false → Real p es ep → DictOk es ks vs kvs → RepAll K O H ks (kvs.map (·.1)) → RepAll K O H vs (kvs.map (·.2)) → Q (.ref p) (upd H p (dictO p es ep))
def fDictP : CallD
  | [.list ps], Q => ∃ kvs, ps = kvs.map pairD ∧ KvOk kvs ∧ Q (.dict kvs)
  | _, _ => False
/-! list(d) -/
def rListD (K : PySem.W.Frag) : List V → Hp → VK → Prop := fun vs H Q => ∃ (O : Addr → Prop) (v : V) (kvs : List (D × D)), vs = [v] ∧ Rep K O H v (.dict kvs) ∧ ∀ p ks, H p = none → RepAll K O H ks (kvs.map (·.1)) → Q (.ref p) (upd H p (.lst ks))
def fListD : List D → (List D → Prop) → Prop
  | [.dict kvs], Q => Q (kvs.map (·.1))
  | ds, Q => fList ds Q
end
end DL

/-! DLset4: sorted(set(xs)), xs a tuple of ints. -/
namespace DL
open PySem PySem.Spec PyProof.Rows L2
def nSortSetI (t : ET) : NT := fun E η Q => t E η fun d => match d with
  | .tuple xs => xs.length < 64 ∧ xs.all isI = true ∧ ∀ ns : List Int, ns.Pairwise (· < ·) → (∀ i, i ∈ ns ↔ i ∈ xs.map iOf) → Q (ns.map .int)
  | _ => False
def tSortSetI (K : PySem.W.Frag) (ta : TE) : TE := fun σ H Q => ta σ H fun x H1 => ∃ (l : Addr) (ns : List Int), x = V.ref l ∧ SqT K H1 l (ns.map V.int) ∧ ns.length < 64 ∧
  ∀ (p : Addr) (ns' : List Int), H1 p = none → ns'.Pairwise (· < ·) → (∀ i, i ∈ ns' ↔ i ∈ ns) → ns'.length ≤ ns.length → Q (.ref p) (upd H1 p (.lst (ns'.map V.int)))
section
variable {X : Cx} {e : Expr} {t : ET} {p p2 q2 pos : Pos}
end
end DL

/-! DLmin: min of a list of data, sum of lists. -/
namespace DL
open PySem PySem.Spec PyProof.Rows L2
def CmpOn (h0 : Heap) (prog : Program) (w : World) (A : Around) (op : CmpOp) (P : Nat → Value → Prop) (bt : Nat → Nat → Bool) : Prop :=
  ∀ i j vi vj (s : Shared) (Q : Value → Shared → Prop) (E : Value → Shared → Prop), (∀ c o, h0.get? c = some o → s.heap.get? c = some o) → P i vi → P j vj → Q (.bool (bt i j)) s → wpAny (model prog w) A (richCompare op vi vj) Q E s
section
variable {prog : Program} {w : World} {A : Around} {R : Result → Shared → Prop} {I : Addr} {fp wr : List Addr} {n : Nat} {P : Nat → Value → Prop} {St : Nat → Heap → Prop} {h0 : Heap}
end
section
variable {prog : Program} {w : World} {A : Around} {E : Value → Shared → Prop} {s : Shared} {l : Addr} {its : List Value}
end
end DL
namespace DL
open PySem PySem.Spec PyProof.Rows L2
/-- the least of some data: the first of the least -/
def pickD (b d : D) : D := bif PySem.W.dataLt d b then d else b
def minD : List D → D
  | [] => .none
  | x :: xs => xs.foldl pickD x
def ltAt (ds : List D) (i j : Nat) : Bool := PySem.W.dataLt (ds.getD i .none) (ds.getD j .none)
def MinOk (ds : List D) : Prop := ds ≠ [] ∧ PySem.W.AllAlike ds ∧ ∀ d, d ∈ ds → d ≠ .none ∧ d.depth ≤ 60
def rMinD (K : PySem.W.Frag) : List V → Hp → VK → Prop := fun vs H Q => ∃ (a : Addr) (xs : List V) (ds : List D) (O : Addr → Prop), vs = [.ref a] ∧ SqL K H a xs ∧ RepAll K O H xs ds ∧ MinOk ds ∧ ∀ x, Rep K O H x (minD ds) → Q x H
def fMinL : CallD
  | [.list xs], Q => MinOk xs ∧ Q (minD xs)
  | _, _ => False
/-! sum of lists -/
def accL (ys : List V) (ls : List (Addr × List V)) (i : Nat) : List V := ys ++ ((ls.take i).map (·.2)).flatten
section
variable {prog : Program} {w : World} {A : Around} {R : Result → Shared → Prop} {I : Addr} {fp wr : List Addr} {n : Nat} {P : Nat → Value → Prop} {St : Nat → Heap → Prop} {h0 : Heap}
end
section
variable {prog : Program} {w : World} {A : Around} {E : Value → Shared → Prop} {s : Shared} {l b0 : Addr} {items : List Value}
end
/-- lists of lists -/
def isL : D → Bool
  | .list _ => true
  | _ => false
def lOf : D → List D
  | .list xs => xs
  | _ => []
def rSumL (K : PySem.W.Frag) : List V → Hp → VK → Prop := fun vs H Q => ∃ (a b0 : Addr) (ys : List V) (ls : List (Addr × List V)), vs = [.ref a, .ref b0] ∧ SqL K H a (ls.map fun p => V.ref p.1) ∧ H b0 = some (.lst ys) ∧ (∀ p, p ∈ ls → H p.1 = some (.lst p.2)) ∧ (accL ys ls ls.length).length ≤ sizeLine ∧
  (ls = [] → Q (.ref b0) H) ∧ ∀ p, H p = none → Q (.ref p) (upd H p (.lst (accL ys ls ls.length)))
def fSumL : CallD
  | [.list xs, .list ys], Q => xs.all isL = true ∧ ys.length + (xs.map lOf).flatten.length ≤ sizeLine ∧ Q (.list (ys ++ (xs.map lOf).flatten))
  | _, _ => False
end DL

/-! DLe1: C(v): an exception class of the program whose __init__ says super().__init__(text) and keeps its argument in a field. -/
namespace DL
open PySem PySem.Spec PyProof.Rows L2
/-- what the written part says of such a class -/
structure ExFacts (P : Program) (K : PySem.W.Frag) (B newId initId : String) (bmB : List Value) (C : Addr) (fld : Str) (fI cc cda : Addr) (q : Str) (params : Arguments) (body : List Stmt) (scope : Scope) (fd : FuncData) : Prop where
  base : ExcBaseFacts B newId initId bmB
  kxs : PySem.W.KxsFacts B initId
  sto : StoreFacts B bmB "object.__setattr__" "object"
  cls : PySem.W.excInitIn K C bmB newId = true
  over : PySem.W.excOver K C bmB = true
  ini : PySem.W.findIn K (.ref C) "__init__" = some (some (.ref fI))
  iniT : PySem.W.typeIn K (.ref fI) = some (.type "function")
  fn : ∃ oc od osl, K.lookup fI = some ⟨oc, od, .func fd, osl⟩
  fdE : ∃ dV kV doc pm an ct, fd = PySem.W.ksFn "__init__" q params body scope dV kV doc pm an (.ref cda) ct cc
  code : PySem.W.codeIn K (.ref cda) q = true
  file : ∃ ccl cdd vs ccs f tf, K.lookup cda = some ⟨ccl, cdd, .fields vs, ccs⟩ ∧ vs[2]? = some (.str f tf) ∧ ((P.main.file : Str) == f) = true
  cell : ∃ cl cld csl, K.lookup cc = some ⟨cl, cld, .cell (some (.ref C)), csl⟩
  sub : PySem.W.mroIn K C (.ref C) = some true
  sup : PySem.W.ks_superIn K C C "__init__" = some (some (.builtin initId))
  subB : PySem.W.subIn K (.ref C) (.type B) = some true
  noAny : PySem.W.nsIn K cStatics "thirdparty.any" = some none
  noSuper : (P.main.scope.names.lookup ("super" : Str)).isSome = false
  sa : PySem.W.findIn K (.ref C) "__setattr__" = some (some (.builtin "object.__setattr__"))
  noF : PySem.W.takerIn K C fld = some none
  hasD : PySem.W.hasDictIn K C = true
  exC : PySem.W.subIn K (.ref C) (.type "BaseException") = some true
  tyC : PySem.W.typeIn K (.ref C) = some (.type "type")
  kC : PySem.W.keepIn K (.ref C) = true
abbrev exObj (C t : Addr) (dd : Option Addr) : Obj := { cls := .ref C, dict := dd, data := .fields #[.ref t, .none, .none, .none, .bool false, .none] }
/-- the body of such an __init__ -/
abbrev exBody (fld msg : Str) (j : Nat) (p0 p1 p2 p3 p4 p5 p6 p7 p8 p9 : Pos) : List Stmt :=
  [.Expr (.Call (.Attribute (.Call (.Name "super" p0) [] [] p1) "__init__" p2) [.Constant (.str msg) j p3] [] p4) p5, .Assign [.Attribute (.Name "self" p6) fld p7] (.Name fld p8) p9]
def SuperCall (msg : Str) (j : Nat) (p0 p1 p2 p3 p4 : Pos) : Prop := ∀ env : Env, ∃ pl : Sem Bool, eval (.Call (.Attribute (.Call (.Name "super" p0) [] [] p1) "__init__" p2) [.Constant (.str msg) j p3] [] p4) env = (do
      let ov ← attributeBase (.Call (.Name "super" p0) [] [] p1) "__init__" env (eval (.Call (.Name "super" p0) [] [] p1) env)
      standAt p2.atName
      let (f, first) ← holding [ov] (getMethod ov "__init__" pl)
      callWith p4 f first (backTo p4 (starEach [.Constant (.str msg) j p3] env)) [])
/-- no store of it is swapped with another -/
def NoSwap (fld msg : Str) (j : Nat) (p0 p1 p2 p3 p4 p5 p6 p7 p8 p9 : Pos) : Prop := ∀ env : Env,
  swapsWith (.Call (.Attribute (.Call (.Name "super" p0) [] [] p1) "__init__" p2) [.Constant (.str msg) j p3] [] p4) none p5.line env = pure false ∧ swapsWith (.Name fld p8) (some (.Attribute (.Name "self" p6) fld p7)) p9.line env = pure false
structure ExScope (scope : Scope) (fld : Str) : Prop where
  kind : scope.kind = .function
  co : scope.isCoroutine = false
  gen : scope.isGenerator = false
  cells : ∀ x ∈ scope.names, x.2 ≠ .cell
  self : scope.names.lookup ("self" : Str) = some .local
  fldL : scope.names.lookup fld = some .local
  sup : scope.names.lookup ("super" : Str) = some .globalImplicit
  cls : scope.names.lookup ("__class__" : Str) = some .free
  ne : fld ≠ "self"
  dbg : (fld == ("__debug__" : Str)) = false
section
variable {prog : Program} {w : World} {A : Around} {E : Value → Shared → Prop} {s : Shared} {K : PySem.W.Frag} {B newId initId : String} {bmB : List Value} {C u x t0 : Addr}
theorem mw_call {Q : Value → Shared → Prop} {msg : Str} {tk : Tok} (FB : ExcBaseFacts B newId initId bmB) (X : K.In s.heap) (q : PySem.W.excInitIn K C bmB newId = true) (hu : s.heap.get? u = some (PySem.W.kxs_mw initId x)) (he : s.heap.get? x = some (exObj C t0 none))
    (h : ∀ h', (∀ b o, b ≠ x → s.heap.get? b = some o → h'.get? b = some o) → h'.get? x = some (exObj C s.heap.objs.size none) → Q .none { s with heap := h' }) : wpAny (model prog w) A (call (.ref u) [.str msg tk]) Q E s := by
  obtain ⟨nm, N', qn, bs, bm, hdct, sn, sub, ab, col, dd, k0, k1, k2, k3, k5, hC, hT⟩ := PySem.W.excInit_of X q
  obtain ⟨hh, g, d, tk', os⟩ := s
  refine wpAny_call (codeAny_of_tree ?_)
  show wpAny _ A.in1 (callAny (.ref u) ⟨[.str msg tk], []⟩) _ _ _
  simp only [callAny]
  refine wpAny_bind (wpAny_load hu ?_)
  simp only [PySem.W.kxs_mw, show (Value.type "method-wrapper" == Value.type "method" || Value.type "method-wrapper" == Value.type "builtin_function_or_method" || Value.type "method-wrapper" == Value.type "method-wrapper") = true by decide, if_true]
  refine PySem.W.KFB.if_so (by decide) ?_
  refine wpAny_bind (PySem.W.check_bound_init FB.toExcCallFacts hC he rfl ?_)
  refine wpAny_bind (wpAny_pure (wpAny_pure ?_))
  refine ⟨plainId_quiet FB.init.plain _, codeAny_builtin FB.initEntry ?_⟩
  exact PySem.W.exc_init_tree (cls := .ref C) (t0 := t0) (dv := none) (c2 := .none) (c3 := .none) (b4 := .bool false) he (show 1 ≤ sizeLine by rw [sizeLine_eq]; decide) fun h4 k4 e4 t4 => h h4 k4 e4
end
section
variable {prog : Program} {w : World} {A : Around} {K : PySem.W.Frag} {B newId initId : String} {bmB : List Value} {C fI cc cda : Addr} {fld msg q : Str} {scope : Scope} {p0 p1 p2 p3 p4 p5 p6 p7 p8 p9 : Pos} {j : Nat} {params : Arguments} {fd : FuncData}
theorem ex_init {R : Result → Shared → Prop} {hp : Heap} {g : Array GenState} {d : Drawn} {t : Nat} {os : OsState} {e t0 : Addr} {v : Value} {mg mb : Str → Option Value}
    (F : ExFacts prog K B newId initId bmB C fld fI cc cda q params (exBody fld msg j p0 p1 p2 p3 p4 p5 p6 p7 p8 p9) scope fd) (S : ExScope scope fld) (hc : SuperCall msg j p0 p1 p2 p3 p4) (hsw : NoSwap fld msg j p0 p1 p2 p3 p4 p5 p6 p7 p8 p9) (hpar : (params.posonlyargs ++ params.args).head?.map (·.arg) = some ("self" : Str))
    (X : K.In hp) (hKe : K.lookup e = none) (he : hp.get? e = some (exObj C t0 none)) (hG : hp.Ns mainGlobals mg) (hs : mg "super" = none) (hB : hp.Ns builtinsNs mb) (hb : mb "super" = some (.type "super")) (lim : hp.NoLimit) (room : A.depth < recursionLimit)
    (hbind : BindsTo ⟨hp, g, d, t, os⟩ fd ⟨[.ref e, v], []⟩ [("self", .ref e), (fld, v)])
    (hq : ∀ h' dx t1 tk, (∀ b o, b ≠ e → hp.get? b = some o → h'.get? b = some o) → hp.objs.size ≤ dx → dx ≠ e → h'.get? e = some (exObj C t1 (some dx)) → h'.Ns1 dx (fun y => if y = fld then some v else none) → R (.ok (.ret .none)) ⟨h', g, d, tk, os⟩) :
    codeAny (model prog w) A (.call (.ref fI) ⟨[.ref e, v], []⟩) R ⟨hp, g, d, t, os⟩ := by
  obtain ⟨oc, od, osl, lk⟩ := F.fn
  obtain ⟨dV, kV, doc, pm, an, ct, hfd⟩ := F.fdE
  subst hfd
  obtain ⟨ccl, cdd, vs, ccs, f, tf, lc, hvs, hfile⟩ := F.file
  obtain ⟨cl, cld, csl, lcell⟩ := F.cell
  obtain ⟨ar, har, hself⟩ := Option.map_eq_some_iff.mp hpar
  refine ks_codeAny_call_defAt (fd := PySem.W.ksFn "__init__" q params (exBody fld msg j p0 p1 p2 p3 p4 p5 p6 p7 p8 p9) scope dV kV doc pm an (.ref cda) ct cc) (binds := [("self", .ref e), (fld, v)]) room (X _ _ lk) rfl lim (PySem.W.codeRec_of X F.code) rfl hbind S.cells ?_ (fun h1 hns k1 => ?_) S.co S.gen S.kind
  · intro y hy
    simp only [List.mem_cons, List.not_mem_nil, or_false] at hy
    rcases hy with rfl | rfl
    · exact S.self
    · exact S.fldL
  have X1 : K.In h1 := X.keeps k1
  have e1 := k1 _ _ he
  have hL : e ≠ hp.objs.size := Nat.ne_of_lt (Heap.lt_size he)
  obtain ⟨cdD, hcd⟩ : ∃ cd, PySem.W.clsIn K C = some cd := by
    have := F.sup
    unfold PySem.W.ks_superIn at this
    cases h : PySem.W.clsIn K C with
    | none => rw [h] at this; cases this
    | some cd => exact ⟨cd, rfl⟩
  obtain ⟨oD, hD1, hD2⟩ : ∃ oD, h1.get? C = some oD ∧ oD.data = .cls cdD := by
    have hD := hcd
    unfold PySem.W.clsIn at hD
    split at hD
    · rename_i c d cd' sl ho
      cases hD
      exact ⟨_, X1 _ _ ho, rfl⟩
    · cases hD
  have hsup : PySem.W.alongIn K "__init__" ((cdD.mro.dropWhile (· != .ref C)).drop 1) = some (some (.builtin initId)) := by
    have := F.sup
    unfold PySem.W.ks_superIn at this
    rw [hcd] at this
    exact this
  have I1 : PySem.W.InstAt h1 e (exObj C t0 none) C none := ⟨e1, rfl, rfl, trivial⟩
  obtain ⟨pl, hc⟩ := hc (callEnv (PySem.W.ksFn "__init__" q params (exBody fld msg j p0 p1 p2 p3 p4 p5 p6 p7 p8 p9) scope dV kV doc pm an (.ref cda) ct cc) hp.objs.size fI)
  have hint : interactive (callEnv (PySem.W.ksFn "__init__" q params (exBody fld msg j p0 p1 p2 p3 p4 p5 p6 p7 p8 p9) scope dV kV doc pm an (.ref cda) ct cc) hp.objs.size fI) = false := by
    unfold interactive
    show (scope.kind == _ && _) = false
    rw [S.kind]
    rfl
  have look1 : List.lookup ("self" : Str) ([("self", Value.ref e), (fld, v)] : List (Str × Value)).reverse = some (.ref e) := by
    show List.lookup ("self" : Str) [(fld, v), ("self", Value.ref e)] = _
    have : (("self" : Str) == fld) = false := beq_eq_false_iff_ne.mpr (Ne.symm S.ne)
    simp [List.lookup, this]
  have look2 : List.lookup fld ([("self", Value.ref e), (fld, v)] : List (Str × Value)).reverse = some v := by
    show List.lookup fld [(fld, v), ("self", Value.ref e)] = _
    simp [List.lookup]
  refine ks_wpAt_execs_cons (ks_wpAt_Expr_any (ks_wpAt_MethodCall (pl := pl) ?_ hc) hint (hsw _).1)
  refine ks_wpAt_super_base (env := PySem.W.ksEnv q scope hp.objs.size fI (.ref cda) cc) S.sup S.cls (by decide) rfl (k1 _ _ (X _ _ lk)) rfl har rfl (k1 _ _ (X _ _ lc)) rfl hvs hfile F.noSuper ?_
  refine PySem.W.ks_loadName_global S.kind S.sup (Calls.loadGlobal_builtin (env := PySem.W.ksEnv q scope hp.objs.size fI (.ref cda) cc) (hG.keeps k1) hs (hB.keeps k1) hb ⟨rfl, ?_⟩)
  refine wpAny_loadName_free S.kind S.cls rfl ⟨_, X1 _ _ lcell, rfl⟩ ?_
  refine wpAny_loadName_local S.kind (by show scope.names.lookup ar.arg = some .local; rw [hself]; exact S.self) hns (v := .ref e) (by rw [hself]; exact look1) ?_
  refine ks_wpAny_isType_cls hD1 hD2 ⟨rfl, ?_⟩
  refine ks_wpAny_call_super hD1 hD2 e1 rfl (fun c z => by cases z) (PySem.W.looks_mroIn X1 F.sub) (fun h2 e2 k2 => ?_)
  have X2 : K.In h2 := X1.keeps k2
  have I2 : PySem.W.InstAt h2 e (exObj C t0 none) C none := ⟨k2 _ _ e1, rfl, rfl, trivial⟩
  refine PySem.W.kxs_getMethod F.kxs e2 (PySem.W.looks_opaque X2 F.noAny) (l₀ := cdD.mro) (fun A Q E s k q => wpAny_bind ((PySem.W.looks_clsIn X2 hcd) A _ E s k (wpAny_pure q))) rfl X2 hsup (I2.type.andThen (PySem.W.looks_subIn X2 F.subB)) (PySem.W.ks_ne X2 I2 hcd) (by decide) ?_
  have e3 : (h2.push (PySem.W.kxs_mw initId e)).get? h2.objs.size = some (PySem.W.kxs_mw initId e) := Heap.get?_push_at rfl rfl
  have k3 : ∀ b o, h2.get? b = some o → (h2.push (PySem.W.kxs_mw initId e)).get? b = some o := fun b o z => Heap.get?_push_of_some _ z
  refine PySem.W.kxs_callWith (i := initId) (x := e) (by rfl) (Calls.evalArgs_plain (Calls.spliced_cons (Calls.Constant_str (k := j) (pos := p3) ?_)))
  refine Calls.spliced_nil ⟨e3, ?_⟩
  have he3 : (h2.push (PySem.W.kxs_mw initId e)).get? e = some (exObj C t0 none) := k3 _ _ (k2 _ _ e1)
  refine mw_call F.base (X2.keeps k3) F.cls e3 he3 fun h4 k4 e4 => ?_
  have k4' : ∀ b o, b ≠ e → hp.get? b = some o → h4.get? b = some o := fun b o n z => k4 b o n (k3 _ _ (k2 _ _ (k1 _ _ z)))
  have X4 : K.In h4 := fun b o z => k4 b o (fun y => by rw [y, hKe] at z; cases z) (X2.keeps k3 b o z)
  have hns4 : h4.Ns hp.objs.size (fun y => List.lookup y ([("self", Value.ref e), (fld, v)] : List (Str × Value)).reverse) := by
    obtain ⟨oL, esL, epL, hoL, r⟩ := hns
    exact ⟨oL, esL, epL, k4 _ _ (Ne.symm hL) (k3 _ _ (k2 _ _ hoL)), r⟩
  have zL : hp.objs.size < h4.objs.size := by
    obtain ⟨oL, esL, epL, hoL, r⟩ := hns4
    exact Heap.lt_size hoL
  show PySem.wpAt _ _ _ (execs _ _) _ _ _
  refine ks_wpAt_execs_cons (wpAt_of_wpAny (plainObj_wpAny_Assign_Attribute ?_ (hsw _).2))
  refine wpAny_Name (wpAny_loadName_local S.kind S.fldL hns4 look2 ?_) S.dbg
  refine wpAny_Name (wpAny_loadName_local S.kind S.self hns4 look1 ?_) (by decide)
  have I4 : PySem.W.InstAt h4 e (exObj C _ none) C none := ⟨e4, rfl, rfl, trivial⟩
  refine PySem.W.set_plain X4 I4 F.sa ?_
  refine PySem.W.osa_openX (od := none) F.sto X4 I4 F.over F.noF fun b => ?_
  obtain ⟨cd9, hc9, hd9⟩ := PySem.W.any_some F.hasD
  have hxs : e < h4.objs.size := Heap.lt_size e4
  refine wpAny_bind (wpAny_pure (wpAny_bind (PySem.W.instanceDict_exc e4 (PySem.W.looks_clsIn X4 hc9) hd9 ?_)))
  show wpAny _ _ (Builtin.ObjectAttr.storeInDict h4.objs.size (.str fld _) fld v) _ _ _
  refine HandSPX.store_in_new ?_ fun h5 tk5 hn5 hs5 => ?_
  · have hdn := (Heap.get?_update_ne (h4.push (PySem.W.dictOf [] 0)) h4.objs.size e (fun o => { o with dict := some h4.objs.size }) (Nat.ne_of_gt hxs)).trans (Heap.get?_push_at rfl rfl)
    exact ⟨_, #[], 0, hdn, rfl, fun e he => absurd he (by simp), fun _ => rfl⟩
  · refine wpAt_of_wpAny (wpAny_execs_nil ?_)
    refine hq h5 h4.objs.size (h2.push (PySem.W.kxs_mw initId e)).objs.size _ (fun b o n z => ?_) (Nat.le_of_lt zL) (Nat.ne_of_gt hxs) ?_ hn5
    · have z4 := k4' b o n z
      exact (hs5.2 b (Nat.ne_of_lt (Heap.lt_size z4))).trans ((Heap.get?_update_ne _ _ _ _ n).trans (Heap.get?_push_of_some _ z4))
    · exact (hs5.2 e (Nat.ne_of_lt hxs)).trans (Heap.get?_update_self _ (Heap.get?_push_of_some _ e4) rfl)
end
end DL

/-! DLe2: C(v), raise, raising calls. -/
namespace DL
open PySem PySem.Spec PyProof.Rows L2
def tMkS (C : Addr) (f : Str) (ta : TA) : L2.St → Hp → XK → Prop := fun σ H Q => ta σ H fun vs H1 => ∃ v, vs = [v] ∧ ∀ dx, H1 dx = none → Q (.ref C) (some dx) (upd H1 dx (.xd [(f, v)]))
section
variable {X : Cx} {B newId initId : String} {bmB : List Value} {C fI cc cda : Addr} {fld msg q : Str} {scope : Scope} {p0 p1 p2 p3 p4 p5 p6 p7 p8 p9 : Pos} {j : Nat} {params : Arguments} {fd : FuncData} {x : Str} {e : Expr} {ta : TA} {p pos : Pos}
theorem pmk_super (F : ExFacts X.prog X.K B newId initId bmB C fld fI cc cda q params (exBody fld msg j p0 p1 p2 p3 p4 p5 p6 p7 p8 p9) scope fd) (S : ExScope scope fld) (hc : SuperCall msg j p0 p1 p2 p3 p4) (hsw : NoSwap fld msg j p0 p1 p2 p3 p4 p5 p6 p7 p8 p9)
    (hpar : (params.posonlyargs ++ params.args).head?.map (·.arg) = some ("self" : Str)) (hr : Room 1 X.A) (hb : Binds X.K fd ["self", fld] []) (hs : X.mg "super" = none) (hg : Gl X x) (hm : X.mg x = some (.ref C)) (ha : PA X [e] ta)
    (hdb : (x == ("__debug__" : Str)) = false := by decide) (he : starEach [e] X.env = (false, eval e X.env) :: starEach [] X.env := by rfl) (hpl : (backTo pos (starEach [] X.env)).any (·.1) = false := by rfl) : PMk X (.Call (.Name x p) [e] [] pos) (tMkS C fld ta) := by
  intro pins s σ H Q I h
  refine wpAny_Call_Name_kw (ld_glob I hg hm ?_ hdb)
  refine PySem.W.callWith_K (h₀ := X.base) I.ok.mod.kin F.kC (thn (ha.run pos pins s σ H _ I h) fun us s1 ⟨vs, H1, I1, r1, v, ev, q1⟩ => ⟨I1.kIn, ?_⟩) he hpl
  subst ev
  obtain ⟨u, rfl, ru⟩ := r1.one
  show wpAny _ _ (call (.ref C) [u]) _ _ _
  obtain ⟨hp, g, dr, tk, os⟩ := s1
  obtain ⟨nm, N', qn, bs, bm, hdct, sn, sub, ab, col, dd, k0, k1, k2, k3, k5, hC, hT⟩ := PySem.W.excInit_of I1.kIn F.cls
  have kk : ∀ b o, hp.get? b = some o → ((hp.push (PySem.W.kdv_tup [u])).push (PySem.HandSPX.excO C hp.objs.size)).get? b = some o := fun b o e => Heap.get?_push_of_some _ (Heap.get?_push_of_some _ e)
  have hget : ((hp.push (PySem.W.kdv_tup [u])).push (PySem.HandSPX.excO C hp.objs.size)).get? (hp.objs.size + 1) = some (PySem.HandSPX.excO C hp.objs.size) := by heap_get
  have hz2 : ((hp.push (PySem.W.kdv_tup [u])).push (PySem.HandSPX.excO C hp.objs.size)).objs.size = hp.objs.size + 2 := by rw [Heap.size_push, Heap.size_push]
  have KI : X.K.In hp := I1.kIn
  obtain ⟨mb, hB, hB2⟩ := I1.mod.blt
  have glob : hp.Ns mainGlobals X.mg := I1.mod.glob.keeps I1.bk
  have bl : hp.Ns builtinsNs mb := hB.keeps I1.bk
  have lim : hp.NoLimit := I1.mod.nolimit.keeps I1.bk
  refine wpAny_call (PySem.HandSPX.call_own F.base hT hC (PySem.W.looks_findIn I1.kIn F.ini) (fun self => PySem.W.bind_fn I1.kIn self F.iniT) (show 1 ≤ sizeLine by rw [sizeLine_eq]; decide) ?_)
  generalize (hp.push (PySem.W.kdv_tup [u])).push (PySem.HandSPX.excO C hp.objs.size) = h3 at *
  have hKe : X.K.lookup (hp.objs.size + 1) = none := by
    cases z : X.K.lookup (hp.objs.size + 1) with
    | none => rfl
    | some o => exact absurd (Heap.lt_size (KI _ _ z)) (Nat.not_lt_of_le (Nat.le_succ _))
  refine ex_init F S hc hsw hpar (KI.keeps kk) hKe hget (glob.keeps kk) hs (bl.keeps kk) ((hB2 "super" (by decide)).trans (by decide +kernel)) (lim.keeps kk) (hr.make C [u] []).depth (hb _ [_, u] (KI.keeps kk) rfl) fun h' dx t1 tk' k hdx hne hex hns => ?_
  obtain ⟨G, gk1, gk2⟩ := restrict h' fun b => decide (b ≠ hp.objs.size + 1)
  have gk : ∀ b, b ≠ hp.objs.size + 1 → G.get? b = h'.get? b := fun b hb => gk1 b (decide_eq_true hb)
  have ge : G.get? (hp.objs.size + 1) = none := gk2 _ (by simp)
  have nha : ∀ {b : Addr} {o : Obj}, hp.get? b = some o → b ≠ hp.objs.size + 1 := fun {b o} z e => by
    rw [e] at z
    exact absurd (Heap.lt_size z) (Nat.not_lt_of_le (Nat.le_succ _))
  have hd1 : hp.objs.size ≤ dx := Nat.le_trans (by rw [hz2]; exact Nat.le_add_right _ _) hdx
  have J : Inv X pins σ (upd H1 dx (.xd [(fld, v)])) { ({ heap := hp, gens := g, drawn := dr, toks := tk, os := os } : Shared) with heap := G, toks := tk' } := by
    refine I1.laid (t' := tk') (fun b o z => ?_) hd1 ?_
    · rw [gk b (nha z)]
      exact k b o (nha z) (kk b o z)
    · refine ⟨_, hns.at fun o y => (gk dx hne).trans y, fun f => ?_⟩
      by_cases ef : f = fld
      · subst ef
        simp [List.lookup]
        exact ru
      · have : (f == fld) = false := beq_eq_false_iff_ne.mpr ef
        simp [List.lookup, this, ef]
        trivial
  refine ⟨rfl, hp.objs.size + 1, _, _, _, _, .ref C, some dx, rfl, J, fun b o z => ?_, ge, hex, ⟨rfl, rfl⟩, rfl, rfl, ?_, rfl, I1.bare, raises_own F.exC F.tyC, q1 dx (I1.hok.fresh hd1)⟩
  · by_cases hb' : b = hp.objs.size + 1
    · rw [hb', ge] at z
      cases z
    · exact (gk b hb').symm.trans z
  · rw [upd_ne (Ne.symm hne)]
    exact I1.hok.fresh (Nat.le_succ _)
end
end DL
namespace DL
open PySem PySem.Spec PyProof.Rows L2
/-! raise -/
def one1 (k : D → Prop) (ds : List D) : Prop := match ds with | [d] => k d | _ => False
def sRaise (nm f : Str) (t : ET) : SD := fun E _ η => t E (lend η) fun d => E nm [(f, d)]
section
variable {X : Cx} {e : Expr} {t : ET} {nm f : Str} {C : Addr} {pos : Pos}
theorem ds_raise (hc : X.calm = true) (hm : X.mg nm = some (.ref C)) (mk : PMk X e (tMkS C f (liftA X (aCons t aNil)))) : DS X (.Raise (some e) none pos) (sRaise nm f t) := ⟨fun pins s σ H c O η E z I g h => by
  refine (ps_raise hc g.er mk).run pins s σ H _ I ?_
  refine ⟨c, c.B, lend η, E, one1 fun d => E nm [(f, d)], g.lend, h, fun ds vs H' st rp q => ?_⟩
  match ds, vs, rp, q with
  | [d], [v], .cons r .nil, q =>
    refine ⟨v, rfl, fun dx hdx => ?_⟩
    have sa := Step.alloc (o := .xd [(f, v)]) st.draw hdx
    refine ⟨nm, [(f, d)], dx, [(f, v)], q, hm, rfl, upd_same, rfl, .cons (r.same (same_upd hdx)) .nil, fun a o w e => ?_, sa.draw, fun a hb => ?_⟩
    · exact sa.keep a o w (st.keep a o w (g.keep a o w e))
    · by_cases ea : a = dx
      · rw [ea, upd_same]
        exact nofun
      · rw [upd_ne ea]
        exact (g.step st).hT a (g.hB a hb)⟩
end
/-! defs that may raise -/
def spE (K : PySem.W.Frag) (mg : Str → Option Value) (n : Nat) (wf : FT) : Sp := fun vs H Q E => vs.length = n ∧ ∃ B G cs W R, (∀ a, B a → H a ≠ none) ∧ (∀ a, Wr G a → B a) ∧ DrawOk G H ∧ ArgsOk K B G H vs cs ∧ wf W cs R ∧ (∀ d v H', Step G H H' → Rep K B H' v d → R d → Q v H') ∧
  ∀ cls dd H', ErrG K mg B G H W cls dd H' → E cls dd H'
abbrev FnE (P : Program) (w : World) (K : PySem.W.Frag) (mg : Str → Option Value) (base : Heap) (k : Nat) (f : Addr) (fd : FuncData) (ps : List Str) (wf : FT) : Prop := FnG P w K mg base (L2.CX P w) k f fd ps (spE K mg ps.length wf)
theorem fnE_of {P : Program} {w : World} {K : PySem.W.Frag} {mg : Str → Option Value} {base : Heap} {k : Nat} {f : Addr} {fd : FuncData} {ps N : List Str} {x qual : Str} {st : Stmt} {t : SD} (F : Fun K x qual st f fd) (S : FnScope N ps (defScope st))
    (hbody : ∀ (cdv : Value) (A : Around) (outer : List Env) (s : Shared) (H : Hp) (E : XK), A.guards = some [] → Room k (A.deeper (envOfC qual (defScope st) s.heap.objs.size f cdv)) → DSs (cxOf (L2.CX P w) P w K mg base N qual (defScope st) f cdv A outer s H E) (defBody st) t) :
    FnE P w K mg base (k + 1) f fd ps (bodyD ps.length N.length t) := by
  refine fnG_of F S (fun vs H Q E h => h.1) fun cdv A outer s H vs Q E hg hr h => ?_
  obtain ⟨hl, B, G, cs, W, R, hB, hW, hd, ha, hw, kk, ke⟩ := h
  refine ⟨_, (hbody cdv A outer s H E hg hr).pss, ⟨B, G, H, [], []⟩, B, _, W, _, ⟨start_good (N := N) hB hW hd ha, ?_⟩, hw.2, fun σ' H' ⟨O, η, g, q⟩ => ?_, fun v H' ⟨d, h1, h2, h3, h4⟩ => kk d v H' ⟨h1, h2⟩ (no_mret rfl h3) h4, fun σ' H' ⟨O, η, g, q⟩ => q.elim, fun σ' H' ⟨O, η, g, q⟩ => q.elim⟩
  · exact (takes_of rfl rfl rfl rfl).imp fun cls d _ H' w => ke cls d H' w
  · exact kk .none .non H' ⟨g.keep, g.draw⟩ .non q
def dCallE (wf : FT) (ts : CT) : ET := fun E η Q => ts E η fun cs => wf E cs Q
section
variable {X : Cx} {e : Expr} {es : List Expr} {ts : CT} {p pos : Pos} {k : Nat} {f : Addr} {fd : FuncData} {ps : List Str} {wf : FT} {x : Str}
theorem de_callE (F : FnE X.prog X.w X.K X.mg X.base k f fd ps wf) (hn : ∀ W cs R, wf W cs R → cs.length = ps.length) (hgd : X.A.guards = some []) (hr : Room k X.A) (hg : Gl X x) (hm : X.mg x = some (.ref f)) (hk : PySem.W.keepIn X.K (.ref f) = true) (hb : Binds X.K fd ps [])
    (ha : DC X (e :: es) ts) (hdb : (x == ("__debug__" : Str)) = false := by decide) (he : starEach (e :: es) X.env = (false, eval e X.env) :: starEach es X.env := by rfl) (hpl : (backTo pos (starEach es X.env)).any (·.1) = false := by rfl) : DE X (.Call (.Name x p) (e :: es) [] pos) (dCallE wf ts) := ⟨fun pins s σ H c O η E Q I g h => by
  refine thn ((pe_callG (E := fun cls d H' => ErrG X.K X.mg c.B c.G c.H0 E cls d H') F hgd hr hg hm hk hb (passes_call g.er fun _ _ _ _ h => h) ha.pa hdb he hpl).run pins s σ H (fun v H' => ∃ d, Step c.G H H' ∧ Rep X.K O H' v d ∧ Q d) I ?_) fun u s' ⟨v, H', I', r, d, st, rp, q⟩ => ⟨d, v, H', I', r, st, rp, q⟩
  refine ⟨c, O, η, E, _, g, h, fun cs vs H1 s1 r1 q => ⟨(Paired.length r1).trans (hn _ _ _ q), O, c.G, cs, E, Q, (g.step s1).hT, g.wO, s1.draw, r1, q, fun d v H' s r q => ⟨d, s1.trans s, r, q⟩, ?_⟩⟩
  rintro cls dd H' ⟨nm, fs, dx, vs', e1, e2, e3, e4, e5, e6, e7, e8, e9⟩
  exact ⟨nm, fs, dx, vs', e1, e2, e3, e4, e5, e6.weak g.hB, fun a o w e => e7 a o w ((g.step s1).keep a o w e), e8, fun a hb => e9 a (g.hB a hb)⟩⟩
end
end DL

/-! DLe3: try: return e; except C as n: return n.f, or [n.f]. -/
namespace DL
open PySem PySem.Spec PyProof.Rows L2
def tbD (K : PySem.W.Frag) (mg : Str → Option Value) (n : Nat) (t : SD) (W : WX) : TS := fun D σ H => ∃ (c : Ctx) (O : Addr → Prop) (η : EnvD) (E : XP) (z : EndsD), Good K c O η σ H ∧ t E z η ∧ (∀ cls d σ' H', σ'.length = n → ErrG K mg c.B c.G c.H0 E cls d H' → W cls d σ' H') ∧
  (∀ σ' H', (∃ O η, Good K c O η σ' H' ∧ z.nx η) → D.nx σ' H') ∧ (∀ v H', (∃ d, (∀ a o, ¬ Wr c.G a → c.H0 a = some o → H' a = some o) ∧ DrawOk c.G H' ∧ (Rep K c.B H' v d ∨ MRet K c H' v d) ∧ z.rt d) → D.rt v H') ∧
  (∀ σ' H', (∃ O η, Good K c O η σ' H' ∧ z.bk η) → D.bk σ' H') ∧ (∀ σ' H', (∃ O η, Good K c O η σ' H' ∧ z.ct η) → D.ct σ' H')
theorem takes_len {X : Cx} {W : WX} (t : Takes X W) : Takes X (fun cls d σ H => σ.length = X.N.length → W cls d σ H) := fun u s' ⟨a, B, sI, pins, σ, H, cls, d, e, I, nb, up, sky, na, os, ag, w⟩ =>
  t u s' ⟨a, B, sI, pins, σ, H, cls, d, e, I, nb, up, sky, na, os, ag, w I.len⟩
/-- the suite's term: return n.f -/
def sTry1 (t : SD) (cn f : Str) (k : D → D) : SD := fun E z η => t (fun nm fs => nm = cn ∧ ∃ d, fs = [(f, d)] ∧ z.rt (k d)) z η
section
variable {X : Cx} {x n f : Str} {C : Addr} {i : Nat} {body : List Stmt} {np pos pos' p1 p2 p3 p4 : Pos} {t : SD} {lj : Nat}
end
end DL

/-! DLe4: an exception class of the program, all that is needed of it. -/
namespace DL
open PySem PySem.Spec PyProof.Rows L2
structure ClsIn (P : Program) (K : PySem.W.Frag) (mg : Str → Option Value) (nm fld : Str) : Prop where
  ex : ∃ (C fI cc cda : Addr) (B newId initId : String) (bmB : List Value) (q : Str) (params : Arguments) (scope : Scope) (fd : FuncData) (msg : Str) (j : Nat) (p0 p1 p2 p3 p4 p5 p6 p7 p8 p9 : Pos),
    ExFacts P K B newId initId bmB C fld fI cc cda q params (exBody fld msg j p0 p1 p2 p3 p4 p5 p6 p7 p8 p9) scope fd ∧ ExScope scope fld ∧ SuperCall msg j p0 p1 p2 p3 p4 ∧ NoSwap fld msg j p0 p1 p2 p3 p4 p5 p6 p7 p8 p9 ∧
    (params.posonlyargs ++ params.args).head?.map (·.arg) = some ("self" : Str) ∧ L2.Binds K fd ["self", fld] [] ∧ mg "super" = none ∧ mg nm = some (.ref C) ∧ XfC K C ∧ PySem.W.findIn K (.ref C) fld = some none ∧ PySem.W.exmOne K (.ref C) (.ref C) = some true
/-- what the written part says of the class, as the law's end finds it -/
def exI1 (cd : ClassData) (sl : Array (Option Value)) (C : Addr) (bmB : List Value) (newId : String) : Bool := match cd.mro, sl.toList with
  | .ref C' :: bm, [_, _, _, _, some (.builtin n), _] => C' == C && n == newId && !cd.hasDel && PySem.W.excTail bmB bm
  | _, _ => false
def exO1 (cd : ClassData) (C : Addr) (bmB : List Value) : Bool := match cd.mro with | .ref C' :: bm => C' == C && PySem.W.excTail bmB bm | _ => false
def bmVE : List Value := [.type "ValueError", .type "Exception", .type "BaseException", .type "object"]
def ClsAt (P : Program) (K : PySem.W.Frag) (nm fld : Str) : Prop := ∀ mg : Str → Option Value, (∀ (n : Str) (v : Value), PySem.W.nsIn K mainGlobals n = some (some v) → mg n = some v) → (∀ n : Str, PySem.W.nsIn K mainGlobals n = some none → mg n = none) → ClsIn P K mg nm fld
theorem clsIn_of {P : Program} {K : PySem.W.Frag} {h : Heap} {mg : Str → Option Value} {nm fld : Str} (X : K.In h) (G : h.Ns mainGlobals mg) (c : ClsAt P K nm fld) : ClsIn P K mg nm fld := c mg (fun _ _ e => PySem.W.mg_of X G e) fun _ e => PySem.W.mg_none_of X G e
theorem clsAt {P : Program} {K : PySem.W.Frag} {nm fld msg q f : Str} {C fI cda cc S : Addr} {oc : Value} {od : Option Addr} {osl : Array (Option Value)} {params : Arguments} {scope : Scope} {dV kV doc pm ct : Value} {an : Option Addr} {odc : Option Addr} {sl : Array (Option Value)} {cd cdS : ClassData}
    {bmS : List Value} {ccl : Value} {cdd : Option Addr} {vs : Array Value} {ccs csl ssl : Array (Option Value)} {cl : Value} {cld sod : Option Addr} {soc : Value} {tf : Tok} {j : Nat} {p0 p1 p2 p3 p4 p5 p6 p7 p8 p9 : Pos}
    (a : PySem.W.nsIn K mainGlobals nm = some (some (.ref C))) (lc : K.lookup C = some ⟨.type "type", odc, .cls cd, sl⟩) (i : PySem.W.findIn K (.ref C) "__init__" = some (some (.ref fI)))
    (l : K.lookup fI = some ⟨oc, od, .func (PySem.W.ksFn "__init__" q params (exBody fld msg j p0 p1 p2 p3 p4 p5 p6 p7 p8 p9) scope dV kV doc pm an (.ref cda) ct cc), osl⟩) (lcode : K.lookup cda = some ⟨ccl, cdd, .fields vs, ccs⟩) (lcell : K.lookup cc = some ⟨cl, cld, .cell (some (.ref C)), csl⟩)
    (lS : K.lookup S = some ⟨soc, sod, .cls cdS, ssl⟩) (fS : PySem.W.findIn K (.ref S) "__init__" = some (some (.builtin "ValueError.__init__"))) (hm : cd.mro = .ref C :: .ref S :: bmS) (hm2 : cdS.mro = .ref S :: bmS)
    (co : PySem.W.codeIn K (.ref cda) q = true) (t : PySem.W.typeIn K (.ref fI) = some (.type "function")) (c1 : exI1 cd sl C bmVE "ValueError.__new__" = true) (c2 : exO1 cd C bmVE = true) (c3 : PySem.W.mroIn K C (.ref C) = some true) (c5 : PySem.W.subIn K (.ref C) (.type "ValueError") = some true)
    (c6 : PySem.W.nsIn K cStatics "thirdparty.any" = some none) (c7 : PySem.W.findIn K (.ref C) "__setattr__" = some (some (.builtin "object.__setattr__"))) (c8 : PySem.W.takerIn K C fld = some none) (c9 : PySem.W.hasDictIn K C = true) (c10 : PySem.W.keepIn K (.ref C) = true)
    (c11 : PySem.W.findIn K (.ref C) "__getattribute__" = some (some (.builtin "BaseException.__getattribute__"))) (c12 : PySem.W.findIn K (.ref C) "__getattr__" = some none) (c14 : PySem.W.findIn K (.ref C) fld = some none) (c15 : PySem.W.nsIn K mainGlobals "super" = some none)
    (c16 : PySem.W.subIn K (.ref C) (.type "BaseException") = some true) (c17 : PySem.W.typeIn K (.ref C) = some (.type "type")) (c18 : PySem.W.subIn K (.ref C) (.ref C) = some true)
    (hv : vs[2]? = some (.str f tf)) (hfile : ((P.main.file : Str) == f) = true) (ns : (P.main.scope.names.lookup ("super" : Str)).isSome = false) (Sc : ExScope scope fld) (h1 : SuperCall msg j p0 p1 p2 p3 p4) (h2 : NoSwap fld msg j p0 p1 p2 p3 p4 p5 p6 p7 p8 p9)
    (h3 : (params.posonlyargs ++ params.args).head?.map (·.arg) = some ("self" : Str))
    (h4 : ∀ us : List Value, us.length = 2 → bindArgs (PySem.W.ksFn "__init__" q params (exBody fld msg j p0 p1 p2 p3 p4 p5 p6 p7 p8 p9) scope dV kV doc pm an (.ref cda) ct cc) ⟨us, []⟩ = pure ((["self", fld] : List Str).zip us)) : ClsAt P K nm fld := fun mg hg hn => by
  have hcls : PySem.W.clsIn K C = some cd := by unfold PySem.W.clsIn; rw [lc]
  have hsup : PySem.W.ks_superIn K C C "__init__" = some (some (.builtin "ValueError.__init__")) := by
    unfold PySem.W.findIn at fS
    simp only [lS] at fS
    unfold PySem.W.ks_superIn
    rw [hcls]
    show PySem.W.alongIn K "__init__" ((cd.mro.dropWhile (· != .ref C)).drop 1) = _
    rw [hm]
    rw [hm2] at fS
    simpa [List.dropWhile] using fS
  have hex : PySem.W.exmOne K (.ref C) (.ref C) = some true := by
    unfold PySem.W.exmOne PySem.W.kitCls
    rw [c16]
    show (if (some true == some true) = true then (if ((PySem.W.clsIn K C).isSome && PySem.W.typeIn K (.ref C) == some (.type "type")) = true then PySem.W.subIn K (.ref C) (.ref C) else none) else none) = _
    rw [hcls, c17, c18]
    rfl
  refine ⟨⟨C, fI, cc, cda, "ValueError", "ValueError.__new__", "ValueError.__init__", bmVE, q, params, scope, _, msg, j, p0, p1, p2, p3, p4, p5, p6, p7, p8, p9, ?_, Sc, h1, h2, h3, Binds.all fun us hl => h4 us hl, hn _ c15, hg _ _ a, ⟨c11, c12, c16, c9⟩, c14, hex⟩⟩
  have k1 : PySem.W.excInitIn K C bmVE "ValueError.__new__" = true := by
    unfold PySem.W.excInitIn
    rw [lc]
    exact c1
  have k2 : PySem.W.excOver K C bmVE = true := by
    unfold PySem.W.excOver
    rw [hcls]
    exact c2
  exact ⟨PySem.F.excBase_ValueError, PySem.W.kxs_ValueError, PySem.F.store_ValueError, k1, k2, i, t, ⟨oc, od, osl, l⟩, ⟨dV, kV, doc, pm, an, ct, rfl⟩, co, ⟨ccl, cdd, vs, ccs, f, tf, lcode, hv, hfile⟩, ⟨cl, cld, csl, lcell⟩, c3, hsup, c5, c6, ns, c7, c8, c9, c16, c17, c10⟩
section
variable {X : Cx} {nm fld : Str} {e : Expr} {t : ET} {p pos pos' : Pos}
theorem ds_raiseC (Cl : ClsIn X.prog X.K X.mg nm fld) (hc : X.calm = true) (hr : Room 1 X.A) (hg : Gl X nm) (he : DE X e t) (hdb : (nm == ("__debug__" : Str)) = false := by decide) (hst : starEach [e] X.env = (false, eval e X.env) :: starEach [] X.env := by rfl) (hpl : (backTo pos (starEach [] X.env)).any (·.1) = false := by rfl) :
    DS X (.Raise (some (.Call (.Name nm p) [e] [] pos)) none pos') (sRaise nm fld t) := by
  obtain ⟨C, fI, cc, cda, B, newId, initId, bmB, q, params, scope, fd, msg, j, p0, p1, p2, p3, p4, p5, p6, p7, p8, p9, F, S, h1, h2, h3, h4, h5, h6, T, h7, h8⟩ := Cl.ex
  exact ds_raise hc h6 (pmk_super F S h1 h2 h3 hr h4 h5 hg h6 (da_cons he da_nil hst).pa hdb hst hpl)
end
section
variable {X : Cx} {x n f : Str} {i : Nat} {body : List Stmt} {np pos pos' p1 p2 p3 p4 : Pos} {t : SD}
end
end DL

/-! DLe5: defs that may raise, as the printed walk names them. -/
namespace DL
open PySem PySem.Spec PyProof.Rows L2
structure HasE (P : Program) (w : World) (K : PySem.W.Frag) (mg : Str → Option Value) (base : Heap) (x : Str) (k : Nat) (ps : List Str) (wf : FT) : Prop where
  ex : ∃ f fd, mg x = some (.ref f) ∧ PySem.W.keepIn K (.ref f) = true ∧ L2.Binds K fd ps [] ∧ FnE P w K mg base k f fd ps wf
  len : ∀ W cs R, wf W cs R → cs.length = ps.length
theorem hasE_of {P : Program} {w : World} {K : PySem.W.Frag} {mg : Str → Option Value} {base : Heap} {k : Nat} {x : Str} {st : Stmt} {ps N : List Str} {t : SD} (Df : DefIn K mg x st ps) (S : FnScope N ps (defScope st))
    (hbody : ∀ (f : Addr) (cdv : Value) (A : Around) (outer : List Env) (s : Shared) (H : Hp) (E : XK), A.guards = some [] → Room k (A.deeper (envOfC x (defScope st) s.heap.objs.size f cdv)) → PassesOwn (model P w) (A.deeper (envOfC x (defScope st) s.heap.objs.size f cdv)) (cxOf (L2.CX P w) P w K mg base N x (defScope st) f cdv A outer s H E).env (cxOf (L2.CX P w) P w K mg base N x (defScope st) f cdv A outer s H E).xe → DSs (cxOf (L2.CX P w) P w K mg base N x (defScope st) f cdv A outer s H E) (defBody st) t) :
    HasE P w K mg base x (k + 1) ps (bodyD ps.length N.length t) := by
  obtain ⟨f, fd, F, hm, hb⟩ := Df.ex
  exact ⟨⟨f, fd, hm, F.kp, hb, fnE_of F S fun cdv A outer s H E hg hr => hbody f cdv A outer s H E hg hr (passes_of (X := cxOf (L2.CX P w) P w K mg base N x (defScope st) f cdv A outer s H E) rfl)⟩, fun _ _ _ h => h.1⟩
section
variable {X : Cx} {e : Expr} {es : List Expr} {ts : CT} {pos p : Pos} {k j : Nat} {ps : List Str} {wf : FT} {x : Str}
theorem de_e (F : HasE X.prog X.w X.K X.mg X.base x j ps wf) (hgd : X.A.guards = some []) (hr : Room k X.A) (ha : DC X (e :: es) ts) (hj : j ≤ k := by decide) (hg : Gl X x := by rfl) (hdb : (x == ("__debug__" : Str)) = false := by decide) (he : starEach (e :: es) X.env = (false, eval e X.env) :: starEach es X.env := by rfl)
    (hpl : (backTo pos (starEach es X.env)).any (·.1) = false := by rfl) : DE X (.Call (.Name x p) (e :: es) [] pos) (dCallE wf ts) := by
  obtain ⟨f, fd, hm, hk, hb, G⟩ := F.ex
  exact de_callE G F.len hgd (hr.mono hj) hg hm hk hb ha hdb he hpl
end
end DL

/-! DLe6: an exception class of the program over OverflowError itself, all that is needed of it. -/
namespace DL
open PySem PySem.Spec PyProof.Rows L2
def bmOE : List Value := [.type "OverflowError", .type "ArithmeticError", .type "Exception", .type "BaseException", .type "object"]
end DL

/-! DL25: list.insert on an own list. -/
namespace DL
open PySem PySem.Spec PyProof.Rows L2
section
variable {X : Cx} {e1 e2 : Expr} {pos p apos npos : Pos} {t1 t2 : ET}
def sIns (i : Nat) (t1 t2 : ET) : SD := fun E z η => onOwn η[i]? fun ds => t1 E (lend η) fun d1 => onInt d1 fun k => t2 E η fun d2 => (0 ≤ k ∧ k < 2 ^ 63 ∧ ds.length < sizeLine) ∧ z.nx (η.set i (.own (ds.take k.toNat ++ [d2] ++ ds.drop k.toNat)))
/-! x[e1] = e2 on an own list -/
def sPut (i : Nat) (t1 t2 : ET) : SD := fun E z η => onOwn η[i]? fun ds => t2 E η fun d2 => t1 E (lend η) fun d1 => onInt d1 fun k => ∃ j, ixN ds.length k = some j ∧ z.nx (η.set i (.own (ds.set j d2)))
theorem RepAll.set {K : PySem.W.Frag} {O : Addr → Prop} {H : Hp} : ∀ {vs : List V} {ds : List D} (j : Nat) {v : V} {d : D}, RepAll K O H vs ds → Rep K O H v d → RepAll K O H (vs.set j v) (ds.set j d)
  | _, _, _, _, _, .nil, _ => .nil
  | _, _, 0, _, _, .cons _ t, r => .cons r t
  | _, _, j + 1, _, _, .cons r0 t, r => .cons r0 (RepAll.set j t r)
end
end DL

/-! DL26: {} . -/
namespace DL
open PySem PySem.Spec PyProof.Rows L2
def dDict0 : ET := fun _ _ Q => Q (.dict [])
def tDict0 : TE := fun _ H Q => ∀ p, H p = none → (p == sysModules) = false → Q (.ref p) (upd H p (dictO p #[] 0))
section
variable {X : Cx} {pos : Pos}
end
end DL

/-! DL27: is True, is not True. -/
namespace DL
open PySem PySem.Spec PyProof.Rows L2
def oIsB (neg : Bool) : OpD
  | .bool a, .bool b, Q => Q (.bool (decide (a = b) != neg))
  | _, _, _ => False
theorem x_isB {a b : Bool} {neg : Bool} {QD : D → Prop} : oIsB neg (.bool a) (.bool b) QD = QD (.bool (decide (a = b) != neg)) := id rfl
section
variable {X : Cx}
end
end DL

/-! DL28: repr of data with dicts in it. -/
namespace DL
open PySem PySem.Spec PyProof.Rows L2
theorem ents_maps : ∀ {kvs : List (D × D)} {us xs : List Value}, us.length = kvs.length → xs.length = kvs.length → (entsOf kvs us xs).map (·.key) = us ∧ (entsOf kvs us xs).map (·.val) = xs
  | [], [], [], _, _ => ⟨rfl, rfl⟩
  | p :: kvs, u :: us, x :: xs, h1, h2 => by
    have ih := ents_maps (kvs := kvs) (us := us) (xs := xs) (by simpa using h1) (by simpa using h2)
    exact ⟨by rw [entsOf, List.map_cons, ih.1], by rw [entsOf, List.map_cons, ih.2]⟩
  | [], _ :: _, _, h, _ => by cases h
  | [], [], _ :: _, _, h => by cases h
  | _ :: _, [], _, h, _ => by cases h
  | _ :: _, _ :: _, [], _, h => by cases h
section
variable {X : Cx} {pins : List (Addr × Obj)} {σ : L2.St} {H : Hp} {s : Shared} {O : Addr → Prop}
mutual
/-- what a value reads as, in the heap; the interpreter's own dict is none of it -/
theorem Rep.reads (I : Inv X pins σ H s) (hm : ∃ o, H sysModules = some (.frz o (.own 0))) : ∀ {d : D} {v : V}, Rep X.K O H v d → ∀ u, RelV v u → ∃ as, Reads s.heap u d as ∧ sysModules ∉ as
  | _, _, .non, u, r => by cases r; exact ⟨_, Reads.none, by simp⟩
  | _, _, .bl b, u, r => by cases r; exact ⟨_, Reads.bool b, by simp⟩
  | _, _, .int i, u, r => by obtain ⟨t, rfl⟩ := r; exact ⟨_, Reads.int i t, by simp⟩
  | _, _, .str x, u, r => by obtain ⟨t, rfl⟩ := r; exact ⟨_, Reads.str x t, by simp⟩
  | _, _, .lst (a := a) o h rr, u, r => by
    cases r
    obtain ⟨its, rv, ⟨ob, n, ho, hc, _, hd⟩, _⟩ := I.list (.of h)
    obtain ⟨as, hr, nm⟩ := RepAll.reads I hm rr its rv
    refine ⟨_, Reads.list ho hc hd hr, fun z => ?_⟩
    rcases List.mem_cons.mp z with z | z
    · obtain ⟨q, e⟩ := hm
      rw [z, h] at e
      cases e
    · exact nm z
  | _, _, .tup h rr, u, r => by
    cases r
    obtain ⟨its, rv, ⟨ob, ho, hc, n, hd⟩, _⟩ := I.tuple h.sq
    obtain ⟨as, hr, nm⟩ := RepAll.reads I hm rr its rv
    exact ⟨_, Reads.tuple ho hc hd hr, nm⟩
  | _, _, .dct (a := a) (es := es) (kvs := kvs) o h hne ok rk rx, u, r => by
    cases r
    obtain ⟨⟨ob, ho, hx, hd⟩, _, _⟩ := I.hok a _ h
    obtain ⟨us, xs, vk, vx, ee⟩ := ok.ents
    have lk : us.length = kvs.length := by rw [← vk.length, rk.length, List.length_map]
    have lx : xs.length = kvs.length := by rw [← vx.length, rx.length, List.length_map]
    obtain ⟨m1, m2⟩ := ents_maps lk lx
    obtain ⟨as, hr, n1⟩ := RepAll.reads I hm rk us vk
    obtain ⟨bs, hr2, n2⟩ := RepAll.reads I hm rx xs vx
    refine ⟨a :: as ++ bs, Reads.dict ho hx.1 hd (by rw [ee, m1]; exact hr) (by rw [ee, m2]; exact hr2), fun z => ?_⟩
    rcases List.mem_append.mp z with z | z
    · rcases List.mem_cons.mp z with z | z
      · exact absurd z.symm (beq_eq_false_iff_ne.mp hne)
      · exact n1 z
    · exact n2 z
theorem RepAll.reads (I : Inv X pins σ H s) (hm : ∃ o, H sysModules = some (.frz o (.own 0))) : ∀ {ds : List D} {vs : List V}, RepAll X.K O H vs ds → ∀ us, Vals vs us → ∃ as, ReadsAll s.heap us ds as ∧ sysModules ∉ as
  | _, _, .nil, us, r => by cases r; exact ⟨_, ReadsAll.nil, by simp⟩
  | _, _, .cons h t, us, r => by
    cases r with
    | cons r1 r2 =>
      obtain ⟨as, q1, n1⟩ := Rep.reads I hm h _ r1
      obtain ⟨bs, q2, n2⟩ := RepAll.reads I hm t _ r2
      exact ⟨_, ReadsAll.cons q1 q2, fun z => (List.mem_append.mp z).elim n1 n2⟩
end
end
section
variable {X : Cx}
/-- repr(e), dicts allowed -/
def fReprD : CallD
  | [d], Q => reprOk d ∧ Q (.str d.shown)
  | _, _ => False
end
end DL

/-! DL29: t == () for any tuple t. -/
namespace DL
open PySem PySem.Spec PyProof.Rows L2
section
variable {X : Cx}
def oEqT0 : OpD
  | .tuple xs, .tuple [], Q => Q (.bool xs.isEmpty)
  | _, _, _ => False
end
end DL

/-! DL30: dict comprehensions whose keys are tuples of ints, nested; sorted of a dict. -/
namespace DL
open PySem PySem.Spec PyProof.Rows L2
/-- d[k] = v -/
def putD (kvs : List (D × D)) (k v : D) : List (D × D) := if kvs.any (fun p => PyData.eqv p.1 k) then kvs.map (fun p => if PyData.eqv p.1 k then (p.1, v) else p) else kvs ++ [(k, v)]
/-- what stands at a dict's address -/
def DictAt (K : PySem.W.Frag) (O : Addr → Prop) (H : Hp) (a : Addr) (kvs : List (D × D)) : Prop := ∃ es ep ks vs, H a = some (dictO a es ep) ∧ DictOk es ks vs kvs ∧ RepAll K O H ks (kvs.map (·.1)) ∧ RepAll K O H vs (kvs.map (·.2))
section
variable {K : PySem.W.Frag} {c : Ctx} {O : Addr → Prop} {η : EnvD} {σ : L2.St} {H H1 H' : Hp}
end
/-! ### a dict's table is written -/
section
variable {X : Cx} {pins : List (Addr × Obj)} {σ : L2.St} {H : Hp} {s : Shared} {O : Addr → Prop}
end
end DL

/-! DL31: {k: v for ..} as an expression. -/
namespace DL
open PySem PySem.Spec PyProof.Rows L2
section
variable {X : Cx}
/-- the raw reading: D the new dict -/
def tDcT (K : PySem.W.Frag) (wi : TI) (g : TG) (tt : TT) (tk tv : TE) (vs : List Nat) : TE := fun σ H Q => wi σ H fun J H1 => ∀ D, H1 D = none → (D == sysModules) = false → Real D #[] 0 → ∃ W : Nat → Nat → Hp → Prop, (∃ m, W 0 m (upd H1 D (dictO D #[] 0))) ∧ ∀ i m H, W i m H →
  (J.stop i H ∧ Q (.ref D) H) ∨ (J.go i H ∧ ∃ Nx : Hp → Prop, (∀ H', Nx H' → ∃ m', m' < m ∧ W (i + 1) m' H') ∧ ∀ x H', J.yld i H x H' → g x (wipe σ vs) H' fun σ2 H2 => wipe σ2 vs = wipe σ vs ∧ tt σ2 H2 fun b H3 =>
    if b = true then tk σ2 H3 fun y H4 => tv σ2 H4 fun z H5 => ∃ (O : Addr → Prop) (kvs : List (DL.D × DL.D)) (k v : DL.D), Rep K O H5 y k ∧ keyOk k = true ∧ Rep K O H5 z v ∧ O D ∧ DictAt K O H5 D kvs ∧ kvs.length < sizeLine ∧
      ∀ es ep, Real D es ep → DictAt K O (upd H5 D (dictO D es ep)) D (putD kvs k v) → Nx (upd H5 D (dictO D es ep)) else Nx H3)
end
/-! ### over data -/
def compDD (g : GT) (tt : BT) (tk tv : ET) (η0 : EnvD) : List D → List (D × D) → (List (D × D) → Prop) → Prop
  | [], acc, Q => Q acc
  | d :: ds, acc, Q => g d η0 fun η1 => tt never η1 fun b => if b = true then tk never η1 fun k => tv never η1 fun v => keyOk k = true ∧ acc.length < sizeLine ∧ compDD g tt tk tv η0 ds (putD acc k v) Q else compDD g tt tk tv η0 ds acc Q
def dDc (own : List Nat) (ti : IT) (g : GT) (tt : BT) (tk tv : ET) : ET := fun E η Q => ti E η fun ds => compDD g tt tk tv (wipeD η own) ds [] fun kvs => kvs.length ≤ sizeLine ∧ Q (.dict kvs)
section
variable {X : Cx} {kx vx tg iter : Expr} {ifs : List Expr} {scope : Scope} {own : List (Str × Nat)} {is : List Nat} {pos : Pos} {ti : IT} {g : GT} {tt : BT} {tk tv : ET}
end
end DL

/-! DL37: comprehensions with two generators. -/
namespace DL
open PySem PySem.Spec PyProof.Rows L2
section
variable {K : PySem.W.Frag} {c : Ctx} {O : Addr → Prop} {η : EnvD} {σ : L2.St} {H : Hp}
/-- an address that no slot owns is kept from all that follows -/
def Ctx.guard (c : Ctx) (D : Addr) : Ctx := { c with B := fun b => c.B b ∨ b = D }
theorem Good.guard (g : Good K c O η σ H) {D : Addr} (oD : O D) (no : ∀ (i : Nat) (x : Cell), η[i]? = some x → ¬ foot x (σ[i]?.join) D) : Good K (c.guard D) O η σ H where
  len := g.len
  hB := fun b h => h.elim (g.hB b) fun z => z ▸ oD
  hW := fun b h => .inl (g.hW b h)
  hT := g.hT
  keep := g.keep
  draw := g.draw
  cell := fun i x hx => by
    have q := g.cell i x hx
    cases x with
    | own ds =>
      obtain ⟨a, xs, e, ha, oa, nb, h0, r⟩ := q
      exact ⟨a, xs, e, ha, oa, fun z => z.elim nb fun z => no i _ hx (show σ[i]?.join = some (.ref D) by rw [e, z]), h0, r⟩
    | mtb p d fp =>
      obtain ⟨x, e, r, h1, h2, h3, h4⟩ := q
      exact ⟨x, e, r, h1, h2, fun b hb => ⟨(h3 b hb).1, fun z => z.elim (h3 b hb).2.1 fun z => no i _ hx (show D ∈ fp from z ▸ hb), (h3 b hb).2.2⟩, h4⟩
    | ist p nm fs fp =>
      obtain ⟨x, e, r, h1, h2, h3, h4⟩ := q
      exact ⟨x, e, r, h1, h2, fun b hb => ⟨(h3 b hb).1, fun z => z.elim (h3 b hb).2.1 fun z => no i _ hx (show D ∈ fp from z ▸ hb), (h3 b hb).2.2⟩, h4⟩
    | _ => exact q
  dis := g.dis
  fr := g.fr
/-- what may not be reached is owned by no slot -/
theorem Good.noB (g : Good K c O η σ H) {D : Addr} (hD : c.B D) (i : Nat) (x : Cell) (hx : η[i]? = some x) : ¬ foot x (σ[i]?.join) D := fun z => by
  have q := g.cell i x hx
  cases x with
  | own ds =>
    obtain ⟨a, xs, e, ha, oa, nb, h0, r⟩ := q
    have z : σ[i]?.join = some (.ref D) := z
    rw [e] at z
    cases z
    exact nb hD
  | mtb p d fp =>
    obtain ⟨x, e, r, h1, h2, h3, h4⟩ := q
    exact (h3 D z).2.1 hD
  | ist p nm fs fp =>
    obtain ⟨x, e, r, h1, h2, h3, h4⟩ := q
    exact (h3 D z).2.1 hD
  | _ => exact z.elim
end
/-- where no error may leave -/
def liftI0 (K : PySem.W.Frag) (t : IT) : TI := fun σ H R => ∃ (c : Ctx) (O : Addr → Prop) (η : EnvD) (Q : List D → Prop), Good K c O η σ H ∧ t never η Q ∧ ∀ J H' ds F, Step c.G H H' → (∀ p ∈ F, Rep K O H' p.1 p.2) → WalkD K J F ds → Q ds → R J H'
def compD2 (vs1 : List Nat) (g : GT) (tt : BT) (ti1 : IT) (g1 : GT) (tt1 : BT) (te : ET) (η0 : EnvD) : List D → List D → (List D → Prop) → Prop
  | [], acc, Q => Q acc
  | d :: ds, acc, Q => g d η0 fun η1 => tt never η1 fun b => if b = true then ti1 never η1 fun es => compD g1 tt1 te (wipeD η1 vs1) es acc fun acc' => compD2 vs1 g tt ti1 g1 tt1 te η0 ds acc' Q else compD2 vs1 g tt ti1 g1 tt1 te η0 ds acc Q
def nComp2 (own vs1 : List Nat) (ti : IT) (g : GT) (tt : BT) (ti1 : IT) (g1 : GT) (tt1 : BT) (te : ET) : NT := fun E η Q => ti E η fun ds => compD2 vs1 g tt ti1 g1 tt1 te (wipeD η own) ds [] Q
section
variable {X : Cx} {elt tg iter tg1 iter1 : Expr} {ifs ifs1 : List Expr} {scope : Scope} {own : List (Str × Nat)} {is is1 vs1 : List Nat} {pos : Pos} {ti ti1 : IT} {g g1 : GT} {tt tt1 : BT} {te : ET}
end
end DL

/-! DL32: sorted of a dict. -/
namespace DL
open PySem PySem.Spec PyProof.Rows L2
section
variable {prog : Program} {w : World} {A : Around} {E : Value → Shared → Prop} {s : Shared}
end
section
variable {X : Cx} {e : Expr} {t : ET} {ts : AT} {p pos : Pos}
def rSortDict (K : PySem.W.Frag) : List V → Hp → VK → Prop := fun vs H Q => ∃ (O : Addr → Prop) (v : V) (kvs : List (D × D)), vs = [v] ∧ Rep K O H v (.dict kvs) ∧ SrtOk (kvs.map (·.1)) ∧ ∀ p ys, H p = none → RepAll K O H ys (sortD (kvs.map (·.1))) → Q (.ref p) (upd H p (.lst ys))
def fSortedD : List D → (List D → Prop) → Prop
  | [.dict kvs], Q => SrtOk (kvs.map (·.1)) ∧ Q (sortD (kvs.map (·.1)))
  | _, _ => False
end
end DL

/-! DL33: xs != [] for any list xs. -/
namespace DL
open PySem PySem.Spec PyProof.Rows L2
section
variable {X : Cx}
def oNeL0 : OpD
  | .list xs, .list [], Q => Q (.bool (!xs.isEmpty))
  | _, _, _ => False
end
end DL

/-! DL34: a comprehension over the keys of a dict. -/
namespace DL
open PySem PySem.Spec PyProof.Rows L2
/-- the keys of a dict whose object stays -/
def ItX (a : Addr) (es : Array DictEntry) (ep : Nat) (ks : List V) : It :=
  ⟨fun i H => H a = some (dictO a es ep) ∧ i < es.size, fun i H x H' => H' = H ∧ ks[i]? = some x, fun i H => H a = some (dictO a es ep) ∧ es.size ≤ i⟩
/-- what is walked, with something that stays as long as nothing is written -/
def liftIS (X : Cx) (t : IT) : TI := fun σ H R => ∃ (c : Ctx) (O : Addr → Prop) (η : EnvD) (E : XP) (Q : List D → Prop), Gd X c E O η σ H ∧ t E η Q ∧ ∀ (J : It) (H' : Hp) (ds : List D) (F : List (V × D)) (S : Hp → Prop), Step c.G H H' → (∀ p ∈ F, Rep X.K O H' p.1 p.2) → S H' → (∀ H2, Step c.G H' H2 → S H2) →
  Walk J ds.length (fun H => Std X.K F H ∧ S H) (YD X.K F ds) → Q ds → R J H'
structure DIS (X : Cx) (tg iter : Expr) (t : IT) : Prop where
  pi : PI X tg iter (liftIS X t)
def iSeqD (t : ET) : IT := fun E η Q => t E η fun d => match d with
  | .dict kvs => Q (kvs.map (·.1))
  | _ => False
section
variable {X : Cx} {elt tg iter : Expr} {ifs : List Expr} {scope : Scope} {own : List (Str × Nat)} {is : List Nat} {pos : Pos} {ti : IT} {g : GT} {tt : BT} {te : ET}
end
end DL

/-! DLsetE: sorted(set(xs)), xs a list of tuples, the empty one among them. -/
namespace DL
open PySem PySem.Spec PyProof.Rows L2 PySem.W PySem.SeqAt
section
variable {prog : Program} {w : World} {A : Around} {s : Shared} {E : Value → Shared → Prop}
theorem firsts_all : ∀ {vs : List Value} {ds : List PyData} {Q : List (Option Value) → Shared → Prop}, EachIs (fun v d => ∃ as, Reads s.heap v d as) vs ds → (∀ d, d ∈ ds → ∃ xs, d = .tuple xs) →
    (∀ rs : List (Option Value), (∀ j : Nat, rs[j]? = some none ↔ ds[j]? = some (.tuple [])) → rs.length = ds.length → Q rs s) → wpAny (model prog w) A (vs.mapM firstOfTuple') Q E s
  | _, _, Q, .nil, _, h => by
    rw [List.mapM_nil]
    exact wpAny_pure (h [] (fun j => by simp) rfl)
  | v :: vs, d :: ds, Q, .cons ⟨as, r⟩ t, ht, h => by
    obtain ⟨xs, rfl⟩ := ht d List.mem_cons_self
    rw [List.mapM_cons]
    refine wpAny_bind (first_tuple r fun o ho => wpAny_bind (firsts_all t (fun d hd => ht d (List.mem_cons_of_mem _ hd)) fun rs hr hl => wpAny_pure (h (o :: rs) (fun j => ?_) ?_)))
    · cases j with
      | zero =>
        simp only [List.getElem?_cons_zero, Option.some.injEq, PyData.tuple.injEq]
        exact ho
      | succ j =>
        simp only [List.getElem?_cons_succ]
        exact hr j
    · rw [List.length_cons, List.length_cons, hl]
theorem SortsAt.mixed {vs : List Value} {ds : List PyData} (e : EachIs (fun v d => ∃ as, Reads s.heap v d as) vs ds) (hal : AllAlike ds) (ht : ∀ d, d ∈ ds → ∃ xs, d = .tuple xs) (h0 : ds[0]? ≠ some (.tuple [])) (hm : PyData.tuple [] ∈ ds) (hu : ∀ d, d ∈ ds → A.units + d.depth < cLine) :
    SortsAt prog w A s (dataKind s.heap ds) vs := by
  have room : ∀ {d d' : PyData}, d ∈ ds → A.units + min d.depth d'.depth < cLine := fun {d d'} hd => Nat.lt_of_le_of_lt (Nat.add_le_add_left (Nat.min_le_left _ _) _) (hu d hd)
  refine ⟨fun v hv => ?_, general', fun E x y a b Q ha hb hq => ?_, fun h2 E Q hq => ?_⟩
  · obtain ⟨d, hd, as, r⟩ := e.left v hv
    exact ⟨_, dataKind_some hal hd r⟩
  · obtain ⟨d, as, hd, ra, rfl⟩ := dataKind_inv ha
    obtain ⟨d', as', hd', rb, rfl⟩ := dataKind_inv hb
    obtain ⟨xs, rfl⟩ := ht d hd
    obtain ⟨ys, rfl⟩ := ht d' hd'
    show wpAny _ _ (oneLt' false x y) _ _ _
    rw [oneLt'_eq]
    simp only [Bool.false_eq_true, if_false]
    exact wpAny_bind (rcLt_alike (.tuple xs) (.tuple ys) A s x y _ _ ra rb (hal _ hd _ hd') (fun z => by cases z) (room hd) prog w _ _ (wpAny_truthy_bool hq))
  · rw [keyKind'_eq, List.mapM_toArray, map_eq_pure_bind]
    refine wpAny_bind (wpAny_bind (firsts_all e ht fun rs hr hl => wpAny_pure ?_))
    obtain ⟨k, hk⟩ := List.getElem?_of_mem hm
    have e0 : rs[k]? = some none := (hr k).mpr hk
    have e1 : (rs.toArray.all fun x => x.isSome) = false := by
      rw [← Bool.not_eq_true, Array.all_eq_true_iff_forall_mem]
      intro z
      have := z none (by simpa using List.mem_of_getElem? e0)
      cases this
    rw [if_neg (by rw [e1]; decide)]
    have e2 : (rs.toArray[0]?.bind id).isSome = true := by
      have n0 : rs[0]? ≠ some none := fun z => h0 ((hr 0).mp z)
      cases c : rs with
      | nil => rw [c] at e0; simp at e0
      | cons a r =>
        rw [c] at n0
        cases a with
        | none => exact absurd rfl n0
        | some v => simp
    rw [if_pos e2]
    exact wpAny_pure hq
end
end DL
namespace DS
open PySem PySem.Spec PyProof.Rows L2 DL
section
variable {P : Program} {w : World} {A : Around} {E : Value → Shared → Prop} {s : Shared} {a : Addr} {L : List Row} {es : Array (Int × Value)} {ep : Nat} {t : SetTable}
end
end DS
namespace DL
open PySem PySem.Spec PyProof.Rows L2
def SetOkE (xs : List D) : Prop := xs.length < 64 ∧ xs.all itup = true ∧ PySem.W.AllAlike xs ∧ (∀ d, d ∈ xs → ∃ r, d = .tuple r) ∧ ∀ d, d ∈ xs → d.depth ≤ 8
def nSortSetE (t : ET) : NT := fun E η Q => t E η fun d => match d with
  | .list xs => SetOkE xs ∧ ∀ ys, ys.Pairwise (fun a b => PySem.W.dataLt a b = true) → (∀ d, d ∈ ys ↔ d ∈ xs) → Q ys
  | _ => False
def tSortSetE (K : PySem.W.Frag) (ta : TE) : TE := fun σ H Q => ta σ H fun x H1 => ∃ (l : Addr) (xs : List V) (ds : List D) (O : Addr → Prop), x = V.ref l ∧ H1 l = some (.lst xs) ∧ RepAll K O H1 xs ds ∧ SetOkE ds ∧
  ∀ p ys es, H1 p = none → RepAll K O H1 ys es → es.Pairwise (fun a b => PySem.W.dataLt a b = true) → (∀ d, d ∈ es ↔ d ∈ ds) → ys.length ≤ sizeLine → Q (.ref p) (upd H1 p (.lst ys))
section
variable {X : Cx} {e : Expr} {t : ET} {p p2 q2 pos : Pos}
end
end DL

set_option maxHeartbeats 4000000
/-! DLsetT: sorted(set(xs)), xs a tuple of tuples of ints, nested (DLset's texts, turned from lists to tuples). -/
namespace DS
open PySem PySem.Spec PyProof.Rows L2
variable {P : Program} {w : World} {A : Around} {E : Value → Shared → Prop} {s : Shared}
theorem call_set_kT {l : Addr} {items : Array Value} (ks : List Row) {Q : Value → Shared → Prop} (hh : A.handled = none) (hl : s.heap.IsTuple l items) (hit : items.toList = ks.map fun p => Value.ref p.1) (hk : ∀ p ∈ ks, At s.heap p.2 p.1) (few : ks.length < 64) (hu : A.units + 11 < cLine)
    (q : ∀ (h' : Heap) (tk : Nat) L es ep t, SetK w h' s.heap.objs.size L es ep t → From ks ks.length L → (∀ c o, s.heap.get? c = some o → h'.get? c = some o) → Q (.ref s.heap.objs.size) { s with heap := h', toks := tk }) : wpAny (model P w) A (call (.type "set") [.ref l]) Q E s := by
  have isz : items.size = ks.length := by
    have := congrArg List.length hit
    rwa [Array.length_toList, List.length_map] at this
  obtain ⟨c0, tl, hmro⟩ := F.called_set.mro
  have f1 := F.called_set.made
  have f2 := F.called_set.sub
  refine wpAny_call (codeAny_of_tree ?_)
  show wpAny _ _ (callAny (.type "set") _) _ _ _
  refine wpAny_pure ⟨Code.quiet_builtin _ (by decide +kernel), codeAny_builtin F.entry_type_call ?_⟩
  rw [Around.under_plain (weight_type_call_type "set" [.ref l] []) rfl]
  have f3 := F.called_set.notType
  have f4 := F.called_set.canCreate
  have f5 := F.typeCall_set_1 (.ref l)
  repeat (any_goals (first | assumption | wp_step))
  refine codeAny_mono (code_set_led1 (.ref l) (E := E) (Q₁ := fun ob s1 => ob = .ref s.heap.objs.size ∧ s1 = { s with heap := s.heap.push (newSet w) }) ⟨rfl, rfl⟩) fun r s1 hr => ?_
  match r, hr with
  | .error e, hr => exact hr
  | .ok (.ret ob), ⟨e1, e2⟩ =>
    subst e1
    subst e2
    have gS : (s.heap.push (newSet w)).get? s.heap.objs.size = some (newSet w) := Heap.get?_push_size _ rfl
    have tS : Shared.TypeIs { s with heap := s.heap.push (newSet w) } (.ref s.heap.objs.size) "set" := ⟨_, gS, rfl⟩
    have f6 := F.called_set.init.lookup
    have f7 := F.called_set.init.bind (.ref s.heap.objs.size)
    repeat (any_goals (first | assumption | wp_step))
    refine codeAny_mono (codeAny_call_builtin (R := wants (fun r s2 => r = .none ∧ ∃ h' tk L es ep t, s2 = { s with heap := h', toks := tk } ∧ SetK w h' s.heap.objs.size L es ep t ∧ From ks ks.length L ∧ ∀ c o, s.heap.get? c = some o → h'.get? c = some o) E) F.called_set.init.plain F.entry_set_init (check_set_init_1 tS ?_)) fun r2 s2 h2 => ?_
    · obtain ⟨⟨ocls, odict, odata, oslots⟩, hol, hcl, nl, hdl⟩ := hl
      simp only at hcl hdl
      subst hcl
      subst hdl
      have g1 : (s.heap.push (newSet w)).get? l = some { cls := .type "tuple", dict := odict, data := .seq items nl, slots := oslots } := Heap.get?_push_of_some _ hol
      have f8 := F.sub_tuple_set
      have f9 := F.sub_tuple_frozenset
      have ne0 : (Value.type "tuple" == Value.type "dict") = false := by decide
      have l1 : (s.heap.push (newSet w)).IsTuple l items := ⟨_, g1, rfl, nl, rfl⟩
      unfold Builtin.«set.__init__» noKeywords Builtin.Frozenset.updateFrom
      generalize hPI : pyIter = PI
      wp_walk
      subst hPI
      refine wpAny_pyIter_tuple l1 ?_
      refine wpAny_bind (wpAny_runValue ?_)
      have llt : l < s.heap.objs.size := Heap.lt_size hol
      have hh3 : A.in1.in1.in1.handled = none := by simp [hh]
      have psz : (s.heap.push (newSet w)).objs.size = s.heap.objs.size + 1 := Heap.size_push ..
      have lne : l ≠ (s.heap.push (newSet w)).objs.size := by rw [psz]; exact Nat.ne_of_lt (Nat.lt_succ_of_lt llt)
      have nofp : s.heap.objs.size ∉ [(s.heap.push (newSet w)).objs.size, l] := by
        rw [psz]
        simp only [List.mem_cons, List.not_mem_nil, or_false, not_or]
        exact ⟨Nat.ne_of_lt (Nat.lt_succ_self _), Nat.ne_of_gt llt⟩
      have val : ∀ (i : Nat) (v : Value), items[i]? = some v → ∃ p, ks[i]? = some p ∧ v = .ref p.1 := fun i v hv => by
        rw [← Array.getElem?_toList, hit, List.getElem?_map] at hv
        obtain ⟨p, hp, e⟩ := Option.map_eq_some_iff.mp hv
        exact ⟨p, hp, e.symm⟩
      have none_of : ∀ c, s.heap.objs.size ≤ c → s.heap.get? c = none := fun c hc => by
        cases e : s.heap.get? c with
        | none => rfl
        | some o => exact absurd (Nat.lt_of_lt_of_le (Heap.lt_size e) hc) (Nat.lt_irrefl _)
      refine turns_k ((Walks.tuple hh3 _ l lne items).toS) s.heap.objs.size nofp ks isz few val s.heap hk (none_of _ (Nat.le_refl _)) (fun c hc => none_of c (by rw [List.mem_singleton.mp hc, psz]; exact Nat.le_succ _)) (by show A.units + 3 + 8 < cLine; omega) (items.size - 0) 0 _ (by omega) (Nat.zero_le _)
        ⟨⟨_, Heap.get?_push_size _ rfl, rfl, rfl⟩, l1.push _⟩ (fun c o e => Heap.get?_push_of_some _ (Heap.get?_push_of_some _ e)) ?start ?fin
      case start => exact ⟨[], #[], 0, _, setK_new (Heap.get?_push_of_some _ gS), ⟨fun p z => (by cases z), fun p z => (by simp at z), Nat.le_refl _⟩⟩
      case fin =>
        rintro ⟨h', g2, d', tk', os'⟩ L es ep t m S g k
        have eg : g2 = s.gens := m.gens
        have ed : d' = s.drawn := m.drawn
        have eo : os' = s.os := m.os
        subst eg
        subst ed
        subst eo
        show wpAny _ _ _ _ _ _
        refine wpAny_pure ?_
        show wpAny _ _ (ret Value.none) _ _ _
        rw [isz] at g
        exact wpAny_pure ⟨rfl, h', tk', L, es, ep, t, rfl, S, g, k⟩
    · match r2, h2 with
      | .error e, h2 => exact h2
      | .ok (.ret u), ⟨e3, h', tk, L, es, ep, t, e4, S, g, k⟩ =>
        subst e3
        subst e4
        repeat (any_goals (first | assumption | wp_step))
        exact q _ _ _ _ _ _ S g k
end DS
namespace DL
open PySem PySem.Spec PyProof.Rows L2
def nSortSetT (t : ET) : NT := fun E η Q => t E η fun d => match d with
  | .tuple xs => SetOk xs ∧ ∀ ys, ys.Pairwise (fun a b => PySem.W.dataLt a b = true) → (∀ d, d ∈ ys ↔ d ∈ xs) → Q ys
  | _ => False
def tSortSetT (K : PySem.W.Frag) (ta : TE) : TE := fun σ H Q => ta σ H fun x H1 => ∃ (l : Addr) (xs : List V) (ds : List D) (O : Addr → Prop), x = V.ref l ∧ SqT K H1 l xs ∧ RepAll K O H1 xs ds ∧ SetOk ds ∧
  ∀ p ys es, H1 p = none → RepAll K O H1 ys es → es.Pairwise (fun a b => PySem.W.dataLt a b = true) → (∀ d, d ∈ es ↔ d ∈ ds) → ys.length ≤ sizeLine → Q (.ref p) (upd H1 p (.lst ys))
section
variable {X : Cx} {e : Expr} {t : ET} {p p2 q2 pos : Pos}
theorem pe_sortSetT {ta : TE} (hc : X.calm = true) (hu : X.A.units + 65 < cLine) (hg : Gl X "sorted") (hm : X.mg "sorted" = none) (hg2 : Gl X "set") (hm2 : X.mg "set" = none) (ha : PE X e ta) (na : starEach [e] X.env = (false, eval e X.env) :: starEach [] X.env)
    (nb : starEach [.Call (.Name "set" p2) [e] [] q2] X.env = (false, eval (.Call (.Name "set" p2) [e] [] q2) X.env) :: starEach [] X.env) : PE X (.Call (.Name "sorted" p) [.Call (.Name "set" p2) [e] [] q2] [] pos) (tSortSetT X.K ta) := by
  refine ⟨fun pins s σ H Q I h => ?_⟩
  refine Call_ (ld_blt I hg hm (show bootBuiltins "sorted" = some (.builtin "sorted") by decide +kernel) ?_)
  refine PyProof.Rows.callWith_builtin1 (PyProof.Rows.args_cons ?_ nb) nb rfl
  refine Call_ (ld_blt I hg2 hm2 PyProof.Rows.boot_set ?_)
  refine PyProof.Rows.callWith_type1 (PyProof.Rows.args_cons (thn (ha.run pins s σ H _ I h) fun v s1 ⟨x, H1, I1, r1, q1⟩ => PyProof.Rows.args_nil ?_) na) na rfl
  obtain ⟨l, xs, ds, O, rfl, hl, rx, ⟨few, hit, hal, hne, hdp⟩, q1⟩ := q1
  cases r1
  rw [List.all_eq_true] at hit
  obtain ⟨ks, rfl, rfl, hks⟩ := rows_of rx fun d hd => ⟨hit d hd, hne d hd⟩
  obtain ⟨its, rv, pl, hz⟩ := I1.tuple hl
  rw [List.length_map] at few
  have eI := refsV rv
  have inD : ∀ p ∈ ks, DS.datK p.2 ∈ ks.map fun p => DS.datK p.2 := fun p hp => List.mem_map.mpr ⟨p, hp, rfl⟩
  have rd1 : ∀ p ∈ ks, Reads s1.heap (.ref p.1) (DS.datK p.2) [] ∧ DS.At s1.heap p.2 p.1 := fun p hp => by
    obtain ⟨r, hi, ek⟩ := hks p hp
    obtain ⟨as, rd⟩ := Dp.reads I1 _ _ (.ref p.1) (r.dp (nd_alike _ (hal _ (inD p hp) _ (inD p hp)))) rfl
    obtain ⟨e0, n0⟩ := DS.reads_key _ _ _ hi rd
    subst e0
    obtain ⟨_, k2, k3⟩ := DS.dat_key _ hi
    rw [ek] at n0 k2 k3
    exact ⟨rd, n0, by rw [k3]; exact hdp _ (inD p hp), k2⟩
  refine DS.call_set_kT (P := X.prog) (w := X.w) ks (I1.ok.hd hc) pl (by simpa using eI) (fun p hp => (rd1 p hp).2) few (by omega) fun h' tk L es ep t S g k => PyProof.Rows.args_nil ?_
  have I2 : Inv X pins σ H1 { s1 with heap := h', toks := tk } := I1.kept k
  have sub : ∀ p ∈ L, p ∈ ks := fun p hp => List.mem_of_mem_take (g.sub p hp)
  have inL : ∀ p ∈ L, DS.datK p.2 ∈ ks.map fun p => DS.datK p.2 := fun p hp => inD p (sub p hp)
  refine DS.sorted_k (s := { s1 with heap := h', toks := tk }) S (I1.ok.hd hc) (fun p hp => PyProof.Rows.Reads.keeps k (rd1 p (sub p hp)).1) ?_ (fun p hp => hne _ (inL p hp)) (fun p hp => hdp _ (inL p hp)) (by omega) fun s' b out c bs k2 g2 o2 hb hout pm eo => ?_
  · intro d hd d' hd'
    obtain ⟨p, hp, rfl⟩ := List.mem_map.mp hd
    obtain ⟨p', hp', rfl⟩ := List.mem_map.mp hd'
    exact hal _ (inL p hp) _ (inL p' hp')
  · have eo2 : PySem.W.EachIs (fun u d => ∃ x, RelV x u ∧ Rep X.K O H1 x d) out (sortD bs) := eo.mono fun v d ⟨r, hr, e1, e2⟩ => by
      subst e1
      subst e2
      exact ⟨.ref r.1, rfl, (hks r (sub r hr)).1⟩
    obtain ⟨ys, hv, hy⟩ := each_out eo2
    have pmS : (sortD bs).Perm (L.map fun p => DS.datK p.2) := (List.mergeSort_perm _ _).trans pm
    have hlen : ys.length ≤ sizeLine := by
      have := S.lt
      rw [hy.length, pmS.length_eq, List.length_map, sizeLine_eq]
      omega
    have hn : H1 b = none := I2.hok.fresh hb
    have J : Inv X pins σ (upd H1 b (.lst ys)) { ({ s1 with heap := h', toks := tk } : Shared) with heap := s'.heap, gens := s'.gens, drawn := s'.drawn, toks := s'.toks } :=
      I2.call (ch := []) (Un.laid k2 hb hn) (I2.hok.laid k2 hb ⟨hlen, out, c, hv, hout⟩) (by rw [g2]; exact I2.bare) (fun _ z => nomatch z)
    have e9 : s' = { ({ s1 with heap := h', toks := tk } : Shared) with heap := s'.heap, gens := s'.gens, drawn := s'.drawn, toks := s'.toks } := by
      cases s'
      cases s1
      cases o2
      rfl
    rw [e9]
    refine ⟨.ref b, _, J, rfl, q1 b ys (sortD bs) hn hy ?_ ?_ hlen⟩
    · have nd : (L.map fun p => DS.datK p.2).Nodup := by
        refine List.pairwise_map.mpr (List.Pairwise.imp_of_mem (fun {x y} hx hy ne e => ne ?_) (List.pairwise_map.mp S.one))
        have ex := (hks x (sub x hx)).2.2
        have ey := (hks y (sub y hy)).2.2
        rw [← ex, ← ey, e]
      have nd2 : (sortD bs).Nodup := pmS.nodup_iff.mpr nd
      have le := PySem.W.sort_pairwise (PySem.W.sortLe_total (PyProof.Rows.listOrd PyProof.Rows.itemOrd) false fun b : D => PySem.W.keyToks (id b)) bs
      refine List.Pairwise.imp_of_mem (fun {x y} hx hy ⟨h1, h2⟩ => ?_) (List.Pairwise.and nd2 le)
      obtain ⟨px, hpx, rfl⟩ := List.mem_map.mp (pmS.mem_iff.mp hx)
      obtain ⟨py, hpy, rfl⟩ := List.mem_map.mp (pmS.mem_iff.mp hy)
      refine DS.lt_of_ne (hal _ (inL px hpx) _ (inL py hpy)) (hit _ (inL px hpx)) (hit _ (inL py hpy)) h1 ?_
      have h3 : (!PySem.W.dataLt (DS.datK py.2) (DS.datK px.2)) = true := h2
      simpa using h3
    · intro d
      rw [pmS.mem_iff]
      constructor
      · intro hd
        obtain ⟨p, hp, rfl⟩ := List.mem_map.mp hd
        exact inL p hp
      · intro hd
        obtain ⟨p, hp, rfl⟩ := List.mem_map.mp hd
        obtain ⟨r, hr, er⟩ := List.mem_map.mp (g.all p (by rw [List.take_length]; exact hp))
        exact List.mem_map.mpr ⟨r, hr, by rw [er]⟩
theorem dn_sortSetT (hc : X.calm = true) (hu : X.A.units + 65 < cLine) (hg : Gl X "sorted") (hm : X.mg "sorted" = none) (hg2 : Gl X "set") (hm2 : X.mg "set" = none) (h : DE X e t) (na : starEach [e] X.env = (false, eval e X.env) :: starEach [] X.env := by rfl)
    (nb : starEach [.Call (.Name "set" p2) [e] [] q2] X.env = (false, eval (.Call (.Name "set" p2) [e] [] q2) X.env) :: starEach [] X.env := by rfl) :
    DN X (.Call (.Name "sorted" p) [.Call (.Name "set" p2) [e] [] q2] [] pos) (nSortSetT t) := by
  refine .of (pe_sortSetT hc hu hg hm hg2 hm2 h.pe na nb) fun σ H c O η E Q R g ht k => ?_
  refine ⟨c, O, η, E, _, g, ht, fun d v H1 s1 r1 q => ?_⟩
  cases r1 with
  | @tup a xs ds h0 rr =>
    exact ⟨a, xs, ds, O, rfl, h0.sq, rr, q.1, fun b ys es hn ry hp hm hl => newk g s1 ry (q.2 es hp hm) k b hn⟩
  | _ => exact q.elim
end
end DL

/-! DLl1: a lambda without parameters is made. -/
namespace DL
open PySem PySem.Spec PyProof.Rows L2
section
variable {X : Cx} {pins : List (Addr × Obj)} {σ : L2.St} {H : Hp} {s : Shared} {G : Option (Addr × Addr)}
/-- the table is written, the code's object is new -/
theorem tab_step {P c' : Addr} {q : Str} {ps more : Array Value} (dr : DrawOk G H) (hq : (P, q) ∈ lawTabs) (hP : H P = some (.tbl ps)) (hc : H c' = none) (T : TabM (upd (upd H P (.tbl (ps ++ more))) c' (LamX.CodeO c' q))) :
    Step G H (upd (upd H P (.tbl (ps ++ more))) c' (LamX.CodeO c' q)) := by
  have ne : ∀ b o, b ≠ P → H b = some o → (upd (upd H P (.tbl (ps ++ more))) c' (LamX.CodeO c' q)) b = some o := fun b o h e => by
    rw [upd_ne (fun z => by rw [z, hc] at e; cases e), upd_ne h]
    exact e
  refine ⟨fun b o nw e => ne b o (fun z => nw (.inr ⟨q, by rw [z]; exact hq⟩)) e, ?_, T⟩
  have d := dr.1
  cases G with
  | none => trivial
  | some p =>
    obtain ⟨p1, p2⟩ := p
    obtain ⟨n, m, t, ns, e1, x1, x2, e2, x3⟩ := d
    refine ⟨n, m, t, ns, ne _ _ (fun z => ?_) e1, x1, x2, ne _ _ (fun z => ?_) e2, x3⟩
    · rw [z, hP] at e1; cases e1
    · rw [z, hP] at e2; cases e2
theorem lam_make3 {c P : Addr} {params : Arguments} {body : Expr} {scope : Scope} {pos : Pos} {E Q : Value → Shared → Prop} (I : Inv X pins σ H s) (dr : DrawOk G H) (TB : LamX.TabB X.base X.mg c P) (hcode : X.env.code = .ref c)
    (hm : (P, X.env.qual ++ "<lambda>") ∈ lawTabs) (hu : ∀ p ∈ lawTabs, p.1 = P → p.2 = X.env.qual ++ "<lambda>") (hdef : defaultsOf params X.env = ([], [])) (hfree : ∀ y ∈ scope.names, y.2 = .free → ∃ c, X.env.cells.lookup y.1 = some c)
    (h : ∀ (f c' : Addr) (pm ctv : Value) (H1 : Hp) (s' : Shared), Inv X pins σ H1 s' → Step G H H1 →
      s'.heap.get? f = some (PySem.W.kla_obj "<lambda>" (X.env.qual ++ "<lambda>") params body scope (cloFrom X.env.cells scope.names []) pm c' ctv) → H1 f = none → f ∉ frs X.stack → H1 c' = some (LamX.CodeO c' (X.env.qual ++ "<lambda>")) → Q (.ref f) s') :
    wpAny (model X.prog X.w) X.A (eval (.Lambda params body scope pos) X.env) Q E s := by
  obtain ⟨ps, hP, ht, ha⟩ := dr.2.t _ hm
  have hP : H P = some (.tbl ps) := hP
  refine PySem.W.kla_eval hdef ?_
  have bP : s.heap.BuiltinsAt X.mg P := TB.bm.keeps I.bk
  have tP : s.heap.get? P = some { cls := .none, data := .fields ps } := I.hok P _ hP
  have off : ∀ f, s.heap.objs.size ≤ f → f ∉ frs X.stack := by
    intro f hf z
    rcases List.mem_cons.mp (I.stkSub _ z) with e | e
    · subst e
      exact absurd I.lt (Nat.not_lt.mpr hf)
    · exact I.nofs hf e
  cases hc : codeAmong pos ps.toList with
  | some cv =>
    obtain ⟨c', rfl, hco⟩ := ha pos cv hc
    refine PySem.W.kla_makeFunctionHit (mg := X.mg) (c := c) (P := P) (ps := ps) (closure_ok hfree) I.ok.glob (I.mod.glob.keeps I.bk) hcode (TB.code.keeps I.bk) tP ht hc bP fun ctv h' tk hx hsz => ?_
    exact h h'.objs.size c' ((X.mg "__name__").getD .none) ctv H _ (I.kept fun b o e => Heap.get?_push_of_some _ (hx b o e)) (.refl dr) (Heap.get?_push_size _ rfl) (I.hok.fresh hsz) (off _ hsz) hco
  | none =>
    refine PySem.W.kla_makeFunction (mg := X.mg) (c := c) (P := P) (ps := ps) (closure_ok hfree) I.ok.glob (I.mod.glob.keeps I.bk) hcode (TB.code.keeps I.bk) tP ht hc TB.gP bP fun c' ctv h' tk hx hge hlt hrec htb => ?_
    obtain ⟨c2, oc, vs, t, e2, hoc, hd, hv⟩ := hrec
    cases e2
    have big : s.heap.objs.size ≤ h'.objs.size := Nat.le_trans hge (Nat.le_of_lt hlt)
    have nC : H c' = none := I.hok.fresh hge
    have J := LamX.inv_table (t' := tk) (more := #[rawInt pos.line, rawInt pos.col, .ref c']) (h' := h'.push (PySem.W.kla_obj "<lambda>" (X.env.qual ++ "<lambda>") params body scope (cloFrom X.env.cells scope.names []) ((X.mg "__name__").getD .none) c' ctv)) I hP
      (fun b o hb e => Heap.get?_push_of_some _ (hx b o hb e)) (Heap.get?_push_of_some _ htb) hge ⟨oc, vs, t, Heap.get?_push_of_some _ hoc, hd, hv⟩
    have keepCode : ∀ {b : Addr} {q : Str}, H b = some (LamX.CodeO b q) → (upd (upd H P (.tbl (ps ++ #[rawInt pos.line, rawInt pos.col, .ref c']))) c' (LamX.CodeO c' (X.env.qual ++ "<lambda>"))) b = some (LamX.CodeO b q) := by
      intro b q e
      rw [upd_ne (ne_of_none e nC), upd_ne (fun z => by rw [z, hP] at e; exact LamX.codeO_ne ps (Option.some.inj e).symm)]
      exact e
    have atP : (upd (upd H P (.tbl (ps ++ #[rawInt pos.line, rawInt pos.col, .ref c']))) c' (LamX.CodeO c' (X.env.qual ++ "<lambda>"))) P = some (.tbl (ps ++ #[rawInt pos.line, rawInt pos.col, .ref c'])) := by
      rw [upd_ne (ne_of_none hP nC), upd_same]
    have T : LamX.Tabs lawTabs (upd (upd H P (.tbl (ps ++ #[rawInt pos.line, rawInt pos.col, .ref c']))) c' (LamX.CodeO c' (X.env.qual ++ "<lambda>"))) := by
      intro p hp
      by_cases hb : p.1 = P
      · rw [hb, hu p hp hb]
        have eL : (ps ++ #[rawInt pos.line, rawInt pos.col, Value.ref c']).toList = ps.toList ++ [rawInt pos.line, rawInt pos.col, .ref c'] := by simp
        refine ⟨_, atP, ?_, fun p' cv hcv => ?_⟩
        · rw [eL]
          exact PySem.TriplesOk_snoc _ _ _ _ ht
        · rw [eL] at hcv
          rcases LamX.among_app _ ht hcv with z | z
          · obtain ⟨c0, e1, e2⟩ := ha p' cv z
            exact ⟨c0, e1, keepCode e2⟩
          · exact ⟨c', z, upd_same⟩
      · obtain ⟨ps', a1, a2, a3⟩ := dr.2.t p hp
        refine ⟨ps', by rw [upd_ne (ne_of_none a1 nC), upd_ne hb]; exact a1, a2, fun p' cv hcv => ?_⟩
        obtain ⟨c0, e1, e2⟩ := a3 p' cv hcv
        exact ⟨c0, e1, keepCode e2⟩
    refine h h'.objs.size c' ((X.mg "__name__").getD .none) ctv _ _ J (tab_step dr hm hP nC ⟨T, by
      obtain ⟨o, e⟩ := dr.2.m
      refine ⟨o, ?_⟩
      rw [upd_ne (fun z => by rw [z, nC] at e; cases e), upd_ne (fun z => by rw [z, hP] at e; cases e)]
      exact e⟩) (Heap.get?_push_size _ rfl) ?_ (off _ big) upd_same
    rw [upd_ne (Nat.ne_of_gt hlt), upd_ne (Nat.ne_of_gt (Nat.lt_of_lt_of_le (Heap.lt_size tP) big))]
    exact I.hok.fresh big
end
end DL

/-! DLl2: try: ..; except (C1, C2) as n: ..; what stands behind it knows the exception. -/
namespace DL
open PySem PySem.Spec PyProof.Rows L2
/-- an exception in flight stays so where only new things are laid -/
theorem fly_more {B h h' : Heap} {l : List Env} {e : Addr} {Z : Obj → Prop} (x : HandSPX.FlyingZ B l e Z h) (k : ∀ b o, h.get? b = some o → h'.get? b = some o) : HandSPX.FlyingZ B l e Z h' := by
  obtain ⟨h1, h2, h3, oe, vs, T, oT, ts, he, hz, hd, q1, q2, q3, hT, hdT, q4⟩ := x
  exact ⟨fun b o e => k b o (h1 b o e), h2, h3.of_keeps fun b o e _ => ⟨o, k b o e, rfl⟩, oe, vs, T, oT, ts, k _ _ he, hz, hd, q1, q2, q3, k _ _ hT, hdT, q4⟩
/-- what the clause wishes -/
def w2 (K : PySem.W.Frag) (c1 c2 : Value) (i : Nat) (ts ts2 : Addr → Value → Option Addr → TS) (D : Ends) : WX := fun cls d σ H =>
  PySem.W.exmAny K cls [c1, c2] = some true ∧ ∀ a, H a = none → ts a cls d { nx := fun σ' H' => ts2 a cls d D (σ'.set i none) H', rt := fun _ _ => False, bk := fun _ _ => False, ct := fun _ _ => False } (σ.set i (some (.ref a))) H
section
variable {X : Cx} {pins : List (Addr × Obj)} {σ : L2.St} {H : Hp} {s : Shared}
theorem inv_pinned {a : Addr} {q : Addr × Obj} (I : Inv (X.suite a (q :: (X.pn ++ pins))) [] σ H s) (ok : X.Ok) : Inv (X.tr (q :: (X.pn ++ pins)) X.xe) [] σ H s :=
  ⟨ok.toTry _ _, I.os, I.bare, I.base, I.loc, I.cell, I.free, I.freeC, I.pin, I.hok, I.len⟩
theorem inv_unpin {q : Addr × Obj} {pn' : List (Addr × Obj)} (I : Inv (X.tr (q :: (X.pn ++ pins)) X.xe) pn' σ H s) (ok : X.Ok) : Inv X pins σ H s :=
  ⟨ok, I.os, I.bare, I.base, I.loc, I.cell, I.free, I.freeC, fun p hp => I.pin p (List.mem_append_left _ (List.mem_cons_of_mem _ hp)), I.hok, I.len⟩
variable {x1 x2 n : Str} {c1 c2 : Value} {i kk : Nat} {body suite rest : List Stmt} {b₀ : Stmt} {q1 q2 q3 pos pos' : Pos} {tb : WX → TS} {ts ts2 : Addr → Value → Option Addr → TS} {ur : TS}
theorem name_ok {A : Around} {x : Str} {c : Value} {p : Pos} {E Q : Value → Shared → Prop} {a : Addr} {pn : List (Addr × Obj)} (hc : Names X x c) (S : Inv (X.suite a pn) pins σ H s) (q : Q c s) : wpAny (model X.prog X.w) (X.A.mark (some (.ref a))) (eval (.Name x p) X.env) Q E s := by
  obtain ⟨hg, hd, hm | ⟨hm, hv, hn⟩⟩ := hc
  · exact ld_glob (X := X.suite a pn) S hg hm q hd
  · exact ld_blt (X := X.suite a pn) S hg hm hv q hn hd
theorem pss_try2 (hs : X.stack = X.env :: X.outer) (hf : X.env.frame = some X.env.locals) (hN : X.N.Nodup) (hi : X.N[i]? = some n) (hln : X.env.kindOf n = some .local) (hc1 : Names X x1 c1) (hc2 : Names X x2 c2)
    (hb : ∀ (W : WX) (pn : List (Addr × Obj)) (xe : Value → Shared → Prop), Takes (X.tr pn xe) W → PassesOwn (model X.prog X.w) X.A X.env xe → PSs (X.tr pn xe) body (tb W))
    (hsu : ∀ (a : Addr) (oe : Obj) (cls : Value) (d : Option Addr) (pn : List (Addr × Obj)), Zc cls d oe → (∃ vs, oe.data = .fields vs) → PSs (X.suite a ((a, oe) :: pn)) (b₀ :: suite) (ts a cls d))
    (hr : PSs X rest ur) (hr2 : ∀ (a : Addr) (oe : Obj) (cls : Value) (d : Option Addr) (pn : List (Addr × Obj)), Zc cls d oe → (∃ vs, oe.data = .fields vs) → PSs (X.tr ((a, oe) :: pn) X.xe) rest (ts2 a cls d))
    (ht : starEach [.Name x1 q1, .Name x2 q2] X.env = (false, eval (.Name x1 q1) X.env) :: starEach [.Name x2 q2] X.env := by rfl) (ht2 : starEach [.Name x2 q2] X.env = (false, eval (.Name x2 q2) X.env) :: starEach [] X.env := by rfl) :
    PSs X (.Try body [.ExceptHandler (some (.Tuple [.Name x1 q1, .Name x2 q2] kk q3)) (some n) (b₀ :: suite) pos'] [] [] pos :: rest) (fun D σ H => tb (w2 X.K c1 c2 i ts ts2 D) { D with nx := ur D } σ H) := by
  refine ⟨fun pins s σ H D I h => ?_⟩
  have ok := I.ok
  have hfr : X.A.frames = some (X.env :: X.outer) := by rw [ok.frames, hs]
  have behind : ∀ {f : Flow} {s1 : Shared}, SP X pins { D with nx := ur D } f s1 → (match f with | .next => wpAny (model X.prog X.w) X.A (execs rest X.env) (SP X pins D) X.xe s1 | f => SP X pins D f s1) := by
    intro f s1 q
    cases f with
    | next =>
      obtain ⟨σ', H', I', q⟩ := q
      exact hr.run pins s1 σ' H' D I' q
    | ret v => exact q
    | brk => exact q
    | cont => exact q
  refine wpAny_execs_cons ?_
  refine wpAny_Try_except ?_
  refine wpAny_mono ((hb (w2 X.K c1 c2 i ts ts2 D) (X.pn ++ pins) (fun e s₁ => wpAny (model X.prog X.w) X.A (noteFrame e X.env) (fun _ s₂ => wpAny (model X.prog X.w) X.A (setFlight e none) (fun _ s₃ =>
    wpAny (model X.prog X.w) X.A (handleBy e X.env [.ExceptHandler (some (.Tuple [.Name x1 q1, .Name x2 q2] kk q3)) (some n) (b₀ :: suite) pos']) (fun f s1 => match f with | .next => wpAny (model X.prog X.w) X.A (execs rest X.env) (SP X pins D) X.xe s1 | f => SP X pins D f s1) X.xe s₃) X.xe s₂) X.xe s₁) (fun u s' xx => ?_) PassesOwn.looking).run [] s σ H _ (I.toTry _) h) (fun f s1 hsp => ?_) (fun e s1 he => he)
  · obtain ⟨a, B, sI, pins', σ', H', cls, d, rfl, J', nb, up, sky, na, os, ag, hx, wish⟩ := xx
    have J : Inv X pins σ' H' sI := J'.ofTry ok
    rw [hs] at sky
    show wpAny (model X.prog X.w) X.A (noteFrame (.ref a) X.env) _ _ _
    refine Sky.land Zc.steady hfr hf sky fun h3 fl3 up3 => ?_
    have J3 : Inv X pins σ' H' { s' with heap := h3 } := J.landed nb fl3.1 (up.trans up3) os ag
    have offFrames : ∀ {h : Heap} {o : Obj} {vs : Array Value}, h.FunFrames B (X.env :: X.outer) → h.get? a = some o → o.data = .fields vs → a ∉ frs (X.env :: X.outer) := by
      intro h o vs ff e dd hm
      obtain ⟨_, o', e', hnf⟩ := ff.mem hm
      cases e.symm.trans e'
      exact hnf _ dd
    obtain ⟨oe3, vs3, he3, hz3, hd3⟩ := fl3.there
    have nfr := offFrames fl3.2.2.1 he3 hd3
    have nL : a ≠ X.env.locals := fun z => nfr (List.mem_filterMap.mpr ⟨X.env, List.mem_cons_self, by rw [hf, z]⟩)
    have nF : a ∉ X.fs := fun hm => by
      obtain ⟨e, he, q⟩ := List.mem_filterMap.mp hm
      exact nfr (List.mem_filterMap.mpr ⟨e, List.mem_cons_of_mem _ he, q⟩)
    have S3 := J3.suite he3 hd3 na nL nF
    refine wpAny_handleBy_cons (codeAny_handlers_test ?_) (by intro q; cases q)
    -- the tuple of the classes is made
    refine wpAny_Tuple (wpAny_items_cons (name_ok (A := X.A) hc1 S3 (wpAny_items_cons (name_ok (A := X.A) hc2 S3 (wpAny_items_nil ⟨(show 2 ≤ sizeLine by rw [sizeLine_eq]; decide), ?_⟩)) ht2)) ht)
    have kp : ∀ q o, h3.get? q = some o → (h3.push { cls := .type "tuple", data := .seq [c1, c2].toArray }).get? q = some o := fun _ _ z => Heap.get?_push_of_some _ z
    have LT : PySem.W.Looks (model X.prog X.w) (h3.push { cls := .type "tuple", data := .seq [c1, c2].toArray }) (typeOf (.ref a)) cls := fun A Q E s k q => wpAny_typeOf_ref (k _ _ (kp _ _ he3)) (by rw [hz3.1]; exact q)
    refine (PySem.W.exm_tup2 (M := model X.prog X.w) (J3.kIn.keeps kp) LT (Heap.get?_push_size h3 rfl) hx).here ?_
    have J3' : Inv X pins σ' H' { s' with heap := h3.push { cls := .type "tuple", data := .seq [c1, c2].toArray } } := J3.kept (t' := s'.toks) kp
    have fl3' := fly_more fl3 kp
    refine codeAny_handlers_suite_as ?_
    refine HandSPX.lands_againZ fl3' fun h4 fl4 up4 => ?_
    have up5 : sI.heap.UpToSlots h4 := (up.trans up3).trans fun b o e hb => by
      exact up4 b o (kp b o e) hb
    have J4 : Inv X pins σ' H' { s' with heap := h4 } := J.landed nb fl4.1 up5 os ag
    obtain ⟨oe4, vs4, he4, hz4, hd4⟩ := fl4.there
    have S4 := J4.suite he4 hd4 na nL nF
    refine store_ok (X := X.suite a ((a, oe4) :: (X.pn ++ pins))) (v := .ref a) S4 hN hi (.inl hln) rfl (fun s5 S5 => ?_) (.inr hln)
    refine wpAny_mono ((hsu a oe4 cls d (X.pn ++ pins) hz4 ⟨_, hd4⟩).run [] s5 _ H' _ S5 (wish a na)) (fun f s6 hsp => ?_) (fun _ _ z => False.elim z)
    cases f with
    | next =>
      obtain ⟨σ6, H6, S6, q6⟩ := hsp
      refine gone_ok (X := X.tr ((a, oe4) :: (X.pn ++ pins)) X.xe) (pins := []) (inv_pinned S6 ok) hN hi hln fun s7 J7 => ?_
      refine wpAny_mono ((hr2 a oe4 cls d (X.pn ++ pins) hz4 ⟨_, hd4⟩).run [] s7 _ H6 D J7 q6) (fun f s8 hsp => ?_) (fun _ _ z => z)
      cases f with
      | next => obtain ⟨σ8, H8, J8, q8⟩ := hsp; exact ⟨σ8, H8, inv_unpin J8 ok, q8⟩
      | brk => obtain ⟨σ8, H8, J8, q8⟩ := hsp; exact ⟨σ8, H8, inv_unpin J8 ok, q8⟩
      | cont => obtain ⟨σ8, H8, J8, q8⟩ := hsp; exact ⟨σ8, H8, inv_unpin J8 ok, q8⟩
      | ret u => obtain ⟨v8, σ8, H8, J8, r8, q8⟩ := hsp; exact ⟨v8, σ8, H8, inv_unpin J8 ok, r8, q8⟩
    | brk => obtain ⟨_, _, _, z⟩ := hsp; exact z.elim
    | cont => obtain ⟨_, _, _, z⟩ := hsp; exact z.elim
    | ret u => obtain ⟨_, _, _, _, _, z⟩ := hsp; exact z.elim
  · cases f with
    | next =>
      obtain ⟨σ', H', J', q⟩ := hsp
      exact wpAny_execs_nil (behind (f := .next) ⟨σ', H', J'.ofTry ok, q⟩)
    | brk =>
      obtain ⟨σ', H', J', q⟩ := hsp
      exact ⟨σ', H', J'.ofTry ok, q⟩
    | cont =>
      obtain ⟨σ', H', J', q⟩ := hsp
      exact ⟨σ', H', J'.ofTry ok, q⟩
    | ret u =>
      obtain ⟨v, σ', H', J', r, q⟩ := hsp
      exact ⟨v, σ', H', J'.ofTry ok, r, q⟩
end
end DL

/-! DLl3: an exception that is known by its address: isinstance, its field, is None. -/
namespace DL
open PySem PySem.Spec PyProof.Rows L2
/-- the context knows the exception at a: of the class C, its dict at dx -/
def PinX (X : Cx) (a dx C : Addr) : Prop := ∃ oe : Obj, (a, oe) ∈ X.pn ∧ Zc (.ref C) (some dx) oe ∧ ∃ vs, oe.data = .fields vs
/-- what has to be known of its class -/
structure ToldK (K : PySem.W.Frag) (C : Addr) : Prop extends XfC K C where
  cl : (PySem.W.clsIn K C).isSome = true
  at_ : PySem.W.findIn K (.ref C) "__class__" = some (some (.builtin "object.__class__"))
  gs : PySem.W.specialIn K (.builtin "object.__class__") "__get__" = some (some (.builtin "getset_descriptor.__get__"))
  tk : PySem.W.takesIn K (.builtin "object.__class__") = some true
  ob : PySem.W.mroIn K C (.type "object") = some true
  no : ∀ f ∈ (["place", "value", "word", "most"] : List Str), PySem.W.findIn K (.ref C) f = some none
section
variable {X : Cx} {a dx C : Addr} {p pos p1 p2 : Pos} {x cn f : Str} {i : Nat}
theorem pe_gref {u : Addr} (hg : Gl X x) (hm : X.mg x = some (.ref u)) (hd : (x == ("__debug__" : Str)) = false := by decide) : PE X (.Name x p) (fun σ H Q => Q (.ref u) H) :=
  ⟨fun pins s σ H Q I h => ld_glob I hg hm ⟨.ref u, H, I, rfl, h⟩ hd⟩
def rIsP (K : PySem.W.Frag) (C a dx : Addr) (b : Bool) : List V → Hp → VK → Prop := fun xs H Q => ∃ (Dd : Addr) (fs : List (Str × V)), xs = [.ref a, .ref Dd] ∧ H dx = some (.xd fs) ∧ PySem.W.kitOne K (.ref C) (.ref Dd) = some b ∧ Q (.bl b) H
theorem pin_at {pins : List (Addr × Obj)} {σ : L2.St} {H : Hp} {s : Shared} {fs : List (Str × V)} (P : PinX X a dx C) (I : Inv X pins σ H s) (hd : H dx = some (.xd fs)) :
    ∃ (oe od : Obj) (mA : Str → Option Value), PySem.W.InstAt s.heap a oe C (some od) ∧ (∀ n, PySem.W.lookIn n od = some (mA n)) ∧ ∀ n, RelO (fs.lookup n) (mA n) := by
  obtain ⟨oe, hp, hz, vs, hv⟩ := P
  obtain ⟨ha, _⟩ := I.pin (a, oe) (List.mem_append_left _ hp)
  have hx : ObjOk X.prog X.w H s.heap dx (.xd fs) := I.hok dx _ hd
  obtain ⟨mA, hns, hr⟩ := hx
  obtain ⟨od, ho, hl⟩ := lookIn_ns hns
  exact ⟨oe, od, mA, ⟨ha, hz.1, by unfold PySem.W.notCls; rw [hv] <;> rfl, by rw [hz.2]; exact ho⟩, hl, hr⟩
theorem call_isP {b : Bool} (P : PinX X a dx C) (T : ToldK X.K C) : CallR X (.builtin "isinstance") (rIsP X.K C a dx b) := by
  intro pins s σ H xs us Q I r h
  obtain ⟨Dd, fs, rfl, hd, hk, q⟩ := h
  cases r with
  | cons r1 r2 =>
    cases r2 with
    | cons r2 r3 =>
      cases r3
      cases r1
      cases r2
      obtain ⟨oe, od, mA, J, _, _⟩ := pin_at P I hd
      exact PySem.W.kia_one (PySem.W.kitx_exc T.cl T.ga T.gg T.exC T.at_ T.gs T.tk T.ob) I.kIn J hk (fun z => nomatch z) fun tk => ⟨.bl b, H, I.kept (t' := tk) fun _ _ z => z, rfl, q⟩
/-- isinstance(e, C) -/
def dIsE (i : Nat) (a dx : Addr) (b : Bool) : ET := fun _ η Q => (∃ f d, η[i]? = some (.obj a (some (dx, f, d)))) ∧ Q (.bool b)
theorem obj_at {K : PySem.W.Frag} {c : Ctx} {O : Addr → Prop} {η : EnvD} {σ : L2.St} {H : Hp} {o : Option (Addr × Str × D)} (g : Good K c O η σ H) (h : η[i]? = some (.obj a o)) : σ[i]? = some (some (.ref a)) ∧ ∀ p, o = some p → ∃ y, H p.1 = some (.xd [(p.2.1, y)]) ∧ Rep K O H y p.2.2 := by
  obtain ⟨e, q⟩ := g.cell i _ h
  refine ⟨?_, q⟩
  cases z : σ[i]? with
  | none => rw [z] at e; cases e
  | some w => rw [z] at e; exact congrArg some e
theorem de_isE {Dd : Addr} {b : Bool} (P : PinX X a dx C) (T : ToldK X.K C) (hg : Gl X "isinstance") (hm : X.mg "isinstance" = none) (hgc : Gl X cn) (hmc : X.mg cn = some (.ref Dd)) (hk : PySem.W.kitOne X.K (.ref C) (.ref Dd) = some b) (hN : X.N[i]? = some x := by rfl) (hv : Vis X.env.scope x := by first | exact Or.inl rfl | exact Or.inr (Or.inl rfl) | exact Or.inr (Or.inr rfl))
    (hd : (x == ("__debug__" : Str)) = false := by decide) (hcd : (x == ("__classdict__" : Str)) = false := by decide) (hdc : (cn == ("__debug__" : Str)) = false := by decide)
    (h1 : starEach [.Name x p1, .Name cn p2] X.env = (false, eval (.Name x p1) X.env) :: starEach [.Name cn p2] X.env := by rfl) (h2 : starEach [.Name cn p2] X.env = (false, eval (.Name cn p2) X.env) :: starEach [] X.env := by rfl) :
    DE X (.Call (.Name "isinstance" p) [.Name x p1, .Name cn p2] [] pos) (dIsE i a dx b) :=
  .of (pe_callB (call_isP (b := b) P T) hg hm (by decide +kernel) (pa_cons (pe_var hN hv hd hcd) (pa_cons (pe_gref hgc hmc hdc) pa_nil h2) h1)) fun σ H c O η E Q g h => by
    obtain ⟨⟨f, d, hi⟩, q⟩ := h
    obtain ⟨e, o⟩ := obj_at g.toGood hi
    obtain ⟨y, hx, _⟩ := o _ rfl
    exact ⟨.ref a, e, Dd, _, rfl, hx, hk, .bool b, .refl g.draw, .bl b, q⟩
/-- e.f -/
def dFldE (i : Nat) (a dx : Addr) (f : Str) : ET := fun _ η Q => ∃ d, η[i]? = some (.obj a (some (dx, f, d))) ∧ Q d
theorem de_fldE (P : PinX X a dx C) (T : ToldK X.K C) (hf : f ∈ (["place", "value", "word", "most"] : List Str)) (hN : X.N[i]? = some x := by rfl) (hv : Vis X.env.scope x := by first | exact Or.inl rfl | exact Or.inr (Or.inl rfl) | exact Or.inr (Or.inr rfl))
    (hd : (x == ("__debug__" : Str)) = false := by decide) (hcd : (x == ("__classdict__" : Str)) = false := by decide) (hb : attributeBase (.Name x p1) f X.env (eval (.Name x p1) X.env) = eval (.Name x p1) X.env := by rfl) :
    DE X (.Attribute (.Name x p1) f pos) (dFldE i a dx f) := ⟨fun pins s σ H c O η E Q I g h => by
  obtain ⟨d, hi, q⟩ := h
  obtain ⟨e, o⟩ := obj_at g.toGood hi
  obtain ⟨y, hx, ry⟩ := o _ rfl
  refine attr_of hb (thn ((pe_var hN hv hd hcd).run pins s σ H (fun v H1 => v = .ref a ∧ H1 = H) I ⟨.ref a, e, rfl, rfl⟩) fun u s1 hh => ?_)
  obtain ⟨v, H1, I1, r1, e1, e2⟩ := hh
  subst e1 e2
  obtain rfl : u = Value.ref a := r1
  obtain ⟨oe, od, mA, J, hl, hr⟩ := pin_at P I1 hx
  obtain ⟨w, hw, rw'⟩ := RelO.some_of (v := y) (o := mA f) (by have := hr f; simpa [List.lookup] using this)
  exact HandSPX.exc_get I1.kIn J T.ga T.gg T.exC (PySem.W.findObj_own T.hdC (T.no f hf) rfl (by rw [hl, hw])) (handed_of rw') ⟨d, y, _, I1.tok _, rw', .refl g.draw, ry, q⟩⟩
/-- e is None -/
def dObjN (i : Nat) (a : Addr) : ET := fun _ η Q => (∃ o, η[i]? = some (.obj a o)) ∧ Q (.bool false)
theorem de_objN {j : Nat} {p3 : Pos} (hN : X.N[i]? = some x := by rfl) (hv : Vis X.env.scope x := by first | exact Or.inl rfl | exact Or.inr (Or.inl rfl) | exact Or.inr (Or.inr rfl))
    (hd : (x == ("__debug__" : Str)) = false := by decide) (hcd : (x == ("__classdict__" : Str)) = false := by decide) : DT X (.Compare (.Name x p1) [.Is] [.Constant .none j p2] p3) (fun E η Q => (∃ o, η[i]? = some (.obj a o)) ∧ Q false) :=
  .of (pt_cmpR op_isN (pe_var hN hv hd hcd) pe_non (nomark _)) fun σ H c O η E Q g h => by
    obtain ⟨⟨o, hi⟩, q⟩ := h
    obtain ⟨e, _⟩ := obj_at g.toGood hi
    exact ⟨.ref a, e, rfl, false, rfl, .refl g.draw, q⟩
end
end DL

/-! DLl4: a def called with an exception that the caller knows. -/
namespace DL
open PySem PySem.Spec PyProof.Rows L2
/-- a block's term where no error may leave -/
def lift0S (K : PySem.W.Frag) (t : SD) : TS := fun D σ H => ∃ (c : Ctx) (O : Addr → Prop) (η : EnvD) (z : EndsD), Good K c O η σ H ∧ t never z η ∧
  (∀ σ' H', (∃ O η, Good K c O η σ' H' ∧ z.nx η) → D.nx σ' H') ∧ (∀ v H', (∃ d, (∀ a o, ¬ Wr c.G a → c.H0 a = some o → H' a = some o) ∧ DrawOk c.G H' ∧ (Rep K c.B H' v d ∨ MRet K c H' v d) ∧ z.rt d) → D.rt v H') ∧
  (∀ σ' H', (∃ O η, Good K c O η σ' H' ∧ z.bk η) → D.bk σ' H') ∧ (∀ σ' H', (∃ O η, Good K c O η σ' H' ∧ z.ct η) → D.ct σ' H')
theorem DSs.pss0 {X : Cx} {st : List Stmt} {t : SD} (h : DSs X st t) : PSs X st (lift0S X.K t) := ⟨fun pins s σ H D I ⟨c, O, η, z, g, ht, k1, k2, k3, k4⟩ =>
  h.pss.run pins s σ H D I ⟨c, O, η, never, z, ⟨g, eok_never⟩, ht, fun σ' H' ⟨O', η', g', q⟩ => k1 σ' H' ⟨O', η', g'.toGood, q⟩, k2, fun σ' H' ⟨O', η', g', q⟩ => k3 σ' H' ⟨O', η', g'.toGood, q⟩, fun σ' H' ⟨O', η', g', q⟩ => k4 σ' H' ⟨O', η', g'.toGood, q⟩⟩⟩
/-- what is known at the entry of a def is known in it -/
theorem pin_pss {P : Program} {w : World} {K : PySem.W.Frag} {mg : Str → Option Value} {base : Heap} {N : List Str} {qual : Str} {scope : Scope} {f : Addr} {cdv : Value} {A : Around} {outer : List Env} {s : Shared} {H : Hp} {E : XK} {body : List Stmt} {T : TS} {a : Addr} {oe : Obj} {vs : Array Value}
    (h : ∀ (pn : List (Addr × Obj)), PSs ((cxOf CX0 P w K mg base N qual scope f cdv A outer s H E).nox.tr ((a, oe) :: pn) (cxOf CX0 P w K mg base N qual scope f cdv A outer s H E).nox.xe) body T) (ha : s.heap.get? a = some oe) (hd : oe.data = .fields vs) (n0 : H a = none) (nf : a ∉ frs outer) :
    PSs (cxOf CX0 P w K mg base N qual scope f cdv A outer s H E).nox body T := by
  refine ⟨fun pins s1 σ H1 D I ht => ?_⟩
  have ok := I.ok
  have hg : s1.heap.get? a = some oe := I.base.keep a oe ha n0 nf (fun z => nomatch z)
  have nH : H1 a = none := I.base.free a oe ha n0 (fun z => nomatch z)
  have nL : a ≠ s.heap.objs.size := Nat.ne_of_lt (Heap.lt_size ha)
  have J : Inv ((cxOf CX0 P w K mg base N qual scope f cdv A outer s H E).nox.tr ((a, oe) :: ((cxOf CX0 P w K mg base N qual scope f cdv A outer s H E).nox.pn ++ pins)) (cxOf CX0 P w K mg base N qual scope f cdv A outer s H E).nox.xe) [] σ H1 s1 :=
    ⟨ok.toTry _ _, I.os, I.bare, I.base, I.loc, I.cell, I.free, I.freeC, fun p hp => by
      have hp' : p ∈ (a, oe) :: ((cxOf CX0 P w K mg base N qual scope f cdv A outer s H E).nox.pn ++ pins) := by rw [List.append_nil] at hp; exact hp
      rcases List.mem_cons.mp hp' with e | z
      · rw [e]
        exact ⟨hg, nH, nL, nf, fun v z => by have z' : oe.data = .cell v := z; rw [hd] at z'; cases z'⟩
      · exact I.pin p z, I.hok, I.len⟩
  refine wpAny_mono ((h _).run [] s1 σ H1 D J ht) (fun fl s2 hsp => ?_) fun _ _ z => z
  cases fl with
  | next => obtain ⟨σ8, H8, J8, q8⟩ := hsp; exact ⟨σ8, H8, inv_unpin J8 ok, q8⟩
  | brk => obtain ⟨σ8, H8, J8, q8⟩ := hsp; exact ⟨σ8, H8, inv_unpin J8 ok, q8⟩
  | cont => obtain ⟨σ8, H8, J8, q8⟩ := hsp; exact ⟨σ8, H8, inv_unpin J8 ok, q8⟩
  | ret u => obtain ⟨v8, σ8, H8, J8, r8, q8⟩ := hsp; exact ⟨v8, σ8, H8, inv_unpin J8 ok, r8, q8⟩
/-- f(e): the term of f's body is run with what is known of e -/
def dRef (i : Nat) (a dx : Addr) (m : Nat) (t : SD) : ET := fun _ η Q => ∃ f d, η[i]? = some (.obj a (some (dx, f, d))) ∧ t never { nx := fun _ => Q .none, rt := Q } (.obj a (some (dx, f, d)) :: List.replicate m .un)
section
variable {X : Cx} {a dx C : Addr} {p pos p1 : Pos} {x y e : Str} {i k m : Nat} {st : Stmt} {N : List Str} {t : SD}
theorem de_ref (P : PinX X a dx C) (hs : X.stack = X.env :: X.outer) (hf : X.env.frame = some X.env.locals) (Df : DefIn X.K X.mg y st [e]) (S : FnScope N [e] (defScope st)) (hm : N.length = m + 1) (hr : Room (k + 1) X.A) (hgd : X.A.guards = some [])
    (hb : ∀ (f : Addr) (cdv : Value) (A : Around) (outer : List Env) (s : Shared) (H : Hp) (E : XK) (oe : Obj) (pn : List (Addr × Obj)), A.guards = some [] → Room k (A.deeper (envOfC y (defScope st) s.heap.objs.size f cdv)) → Zc (.ref C) (some dx) oe → (∃ vs, oe.data = .fields vs) →
      DSs ((cxOf CX0 X.prog X.w X.K X.mg X.base N y (defScope st) f cdv A outer s H E).nox.tr ((a, oe) :: pn) (cxOf CX0 X.prog X.w X.K X.mg X.base N y (defScope st) f cdv A outer s H E).nox.xe) (defBody st) t)
    (hgy : Gl X y) (hN : X.N[i]? = some x := by rfl) (hv : Vis X.env.scope x := by first | exact Or.inl rfl | exact Or.inr (Or.inl rfl) | exact Or.inr (Or.inr rfl)) (hdx : (x == ("__debug__" : Str)) = false := by decide) (hcd : (x == ("__classdict__" : Str)) = false := by decide) (hdy : (y == ("__debug__" : Str)) = false := by decide)
    (he : starEach [.Name x p1] X.env = (false, eval (.Name x p1) X.env) :: starEach [] X.env := by rfl) (hpl : (backTo pos (starEach [] X.env)).any (·.1) = false := by rfl) :
    DE X (.Call (.Name y p) [.Name x p1] [] pos) (dRef i a dx m t) := ⟨fun pins s σ H c O η E Q I g h => by
  obtain ⟨f, fd, F, hmy, hbd⟩ := Df.ex
  obtain ⟨fld, d, hi, ht⟩ := h
  obtain ⟨ei, oi⟩ := obj_at g.toGood hi
  obtain ⟨yv, hx, ry⟩ := oi _ rfl
  refine wpAny_Call_Name_kw (ld_glob I hgy hmy (PySem.W.callWith_K (h₀ := X.base) I.ok.mod.kin F.kp (thn ((pa_cons (pe_var hN hv hdx hcd) pa_nil he).run pos pins s σ H (fun vs H1 => vs = [.ref a] ∧ H1 = H) I ⟨.ref a, ei, rfl, rfl⟩) fun us s1 hu => ?_) he hpl) hdy)
  obtain ⟨vs, H1, I1, r1, e1, e2⟩ := hu
  subst e1 e2
  refine ⟨I1.kIn, ?_⟩
  obtain ⟨oe, hp, hz, dv, hdv⟩ := P
  obtain ⟨hga, hna, hnL, hnF, _⟩ := I1.pin (a, oe) (List.mem_append_left _ hp)
  have nfr : a ∉ frs X.stack := by
    rw [hs]
    intro z
    obtain ⟨en, hen, q⟩ := List.mem_filterMap.mp z
    rcases List.mem_cons.mp hen with w | w
    · subst w
      rw [hf] at q
      exact hnL (Option.some.inj q).symm
    · exact hnF (List.mem_filterMap.mpr ⟨en, w, q⟩)
  have eu : us = [.ref a] := by
    cases r1 with
    | cons q1 q2 => cases q2; cases q1; rfl
  subst eu
  obtain ⟨oc, od, kV, doc, pm, an, cdv, ct, osl, rfl, lk, hcd'⟩ := F.ex
  have good : Good X.K ⟨O, c.G, H1, [], []⟩ O (.obj a (some (dx, fld, d)) :: List.replicate m .un) (start N [.ref a]) H1 := by
    refine ⟨?_, fun _ z => z, g.wO, g.hT, fun _ _ _ z => z, g.draw, fun j z hj => ?_, fun j l x y b h1 _ f _ => ?_, fun p hp => absurd hp (by simp)⟩
    · unfold L2.start
      simp [hm]
    · match j, hj with
      | 0, hj =>
        cases hj
        refine ⟨by unfold L2.start; rfl, fun p hp => ?_⟩
        cases hp
        exact ⟨yv, hx, ry⟩
      | j + 1, hj =>
        rw [List.getElem?_cons_succ, List.getElem?_replicate] at hj
        split at hj
        · cases hj; trivial
        · cases hj
    · match j, h1, f with
      | 0, h1, f => cases h1; exact f.elim
      | j + 1, h1, f =>
        rw [List.getElem?_cons_succ, List.getElem?_replicate] at h1
        split at h1 <;> cases h1
        exact f.elim
  have rc : codeAny (model X.prog X.w) X.A (.call (.ref f) ⟨[.ref a], []⟩) (CR CX0 X.stack X.prog X.w H1 s1 (fun v H' => ∃ d, Step c.G H1 H' ∧ Rep X.K O H' v d ∧ Q d) E0) s1 := by
    refine LamX.run_ofS (N := N) (ps := [e]) (us := [.ref a]) (vs := [.ref a]) lk hcd' S hr I1.env0 (hbd s1 [.ref a] I1.kIn rfl) (.cons rfl .nil) rfl fun hr' => ⟨_, (pin_pss (T := lift0S X.K t) (fun pn => (hb f cdv X.A X.stack s1 H1 E0 oe pn hgd hr' hz ⟨_, hdv⟩).pss0) hga hdv hna nfr).nox, ?_⟩
    exact ⟨⟨O, c.G, H1, [], []⟩, O, _, _, good, ht, fun σ' H' ⟨O', η', g', q⟩ => ⟨.none, ⟨g'.keep, g'.draw⟩, .non, q⟩, fun v H' ⟨d', q1, q2, q3, q4⟩ => ⟨d', ⟨q1, q2⟩, no_mret rfl q3, q4⟩, fun σ' H' ⟨_, _, _, q⟩ => q.elim, fun σ' H' ⟨_, _, _, q⟩ => q.elim⟩
  refine wpAny_call (codeAny_mono rc fun r s2 hq => ?_)
  match r, hq with
  | .error e, hq => exact (show False from hq).elim
  | .ok (.ret u), hq =>
    obtain ⟨v, H2, I2, rv, d', st, rp, q⟩ := I1.after hq
    exact ⟨d', v, H2, I2, rv, st, rp, q⟩⟩
end
end DL

/-! DLl5: a def that makes lambdas knows its own code. -/
namespace DL
open PySem PySem.Spec PyProof.Rows L2
section
variable {P : Program} {w : World} {K : PySem.W.Frag} {mg : Str → Option Value} {base : Heap} {CX : CXT} {k : Nat} {f : Addr} {fd : FuncData} {ps N : List Str} {sp : Sp}
theorem fnG_ofC {x qual : Str} {st : Stmt} (F : Fun K x qual st f fd) (S : FnScope N ps (defScope st)) (len : ∀ vs H Q E, sp vs H Q E → vs.length = ps.length)
    (hbody : ∀ (cdv : Value) (A : Around) (outer : List Env) (s : Shared) (H : Hp) (vs : List V) (Q : VK) (E : XK), fd.code = cdv → A.guards = some [] → Room k (A.deeper (envOfC qual (defScope st) s.heap.objs.size f cdv)) → sp vs H Q E →
      ∃ t, PSs (cxOf CX P w K mg base N qual (defScope st) f cdv A outer s H E) (defBody st) t ∧ t { nx := fun _ H' => Q .non H', rt := Q } (start N vs) H) : FnG P w K mg base CX (k + 1) f fd ps sp := by
  obtain ⟨oc, od, kV, doc, pm, an, cdv, ct, osl, rfl, lk, hcd⟩ := F.ex
  refine ⟨len, fun A outer s H args us vs Q E hg hr e0 hb r hsp => ?_⟩
  have hl := len _ _ _ _ hsp
  have inH : ∀ b o, base.get? b = some o → s.heap.get? b = some o := fun b o e => (e0.bs b o e).1
  have kinds : ∀ y ∈ ps.zip us, (defScope st).names.lookup y.1 = some .local ∨
      ((defScope st).names.lookup y.1 = some .cell ∧ ((cellsFrom (s.heap.objs.size + 1) (defScope st).names []).lookup y.1).isSome = true) := fun y hy =>
    (S.par y.1 (List.of_mem_zip (a := y.1) (b := y.2) hy).1).imp id fun q => ⟨q, PySem.W.cellsFrom_some _ _ _ (.inl q)⟩
  refine codeAny_call_function hr.depth (e0.mod.kin.keeps inH _ _ lk) rfl S.co S.gen rfl (PySem.W.codeRec_of (e0.mod.kin.keeps inH) hcd) (hb _ _ _ _ ?_)
  refine wpAny_newFunctionEnv_cells S.kind kinds fun env he s1 IC => ?_
  subst he
  refine ⟨(e0.mod.nolimit.keeps inH).keeps IC.toInCall.keep, codeAny_func ?_⟩
  obtain ⟨t, ht, hq⟩ := hbody cdv A outer s H vs Q E rfl hg (hr.deeper _) hsp
  refine wpAny_mono (ht.run [] s1 (start N vs) H _ (inv_start (CX := CX) (E := E) S hr.hd e0 hl r IC) hq) (fun fl s' hs => ?_) fun e s' hs => hs
  match fl, hs with
  | .ret u, ⟨v, σ', H', J, rv, q⟩ => exact ⟨v, H', J.os, J.bare, J.base, J.hok, rv, q⟩
  | .next, ⟨σ', H', J, q⟩ => exact ⟨.non, H', J.os, J.bare, J.base, J.hok, rfl, q⟩
  | .brk, ⟨_, _, _, q⟩ => exact q.elim
  | .cont, ⟨_, _, _, q⟩ => exact q.elim
/-- where the lambdas of the def x are noted -/
structure LamAt (K : PySem.W.Frag) (mg : Str → Option Value) (base : Heap) (x : Str) (c P : Addr) : Prop where
  tab : LamX.TabB base mg c P
  mem : (P, x ++ ".<locals>." ++ "<lambda>") ∈ lawTabs
  uni : ∀ p ∈ lawTabs, p.1 = P → p.2 = x ++ ".<locals>." ++ "<lambda>"
  code : ∀ (st : Stmt) (f : Addr) (fd : FuncData), Fun K x x st f fd → mg x = some (.ref f) → fd.code = .ref c
theorem hasF_ofL {x : Str} {st : Stmt} {t : SD} {c Pt : Addr} (La : LamAt K mg base x c Pt) (Df : DefIn K mg x st ps) (S : FnScope N ps (defScope st))
    (hbody : ∀ (f : Addr) (A : Around) (outer : List Env) (s : Shared) (H : Hp) (E : XK), A.guards = some [] → Room k (A.deeper (envOfC x (defScope st) s.heap.objs.size f (.ref c))) → DSs (cxOf CX0 P w K mg base N x (defScope st) f (.ref c) A outer s H E).nox (defBody st) t) :
    HasF P w K mg base x (k + 1) ps (bodyD ps.length N.length t) := by
  obtain ⟨f, fd, F, hm, hb⟩ := Df.ex
  refine ⟨⟨f, fd, hm, F.kp, hb, ?_⟩, bodyD_len⟩
  refine fnG_ofC F S (fun vs H Q E h => h.1) fun cdv A outer s H vs Q E hcdv hg hr h => ?_
  have ec := La.code st f fd F hm
  rw [hcdv] at ec
  subst ec
  obtain ⟨hl, B, G, cs, R, hB, hW, hd, ha, hw, kk⟩ := h
  refine ⟨_, (hbody f A outer s H E hg hr).pss.nox, ⟨B, G, H, [], []⟩, B, _, never, _, ⟨start_good (N := N) hB hW hd ha, eok_never⟩, hw.2, fun σ' H' ⟨O, η, g, q⟩ => ?_, fun v H' ⟨d, h1, h2, h3, h4⟩ => kk d v H' ⟨h1, h2⟩ (no_mret rfl h3) h4, fun σ' H' ⟨O, η, g, q⟩ => q.elim, fun σ' H' ⟨O, η, g, q⟩ => q.elim⟩
  exact kk .none .non H' ⟨g.keep, g.draw⟩ .non q
end
end DL

/-! DLl6: x(lambda: e), where x is the def that tells what a call returns, or of what class its refusal is. -/
namespace DL
open PySem PySem.Spec PyProof.Rows L2
abbrev N_told : List Str := ["_law_call", "_law_found", "_law_error", "e"]
def eight : List Str := ["BadSchema", "BadStore", "BadLot", "BadColumn", "BadCell", "BadNumber", "BadPaper", "TooMany"]
/-- what has to be known of a class that may be told -/
structure ToldN (K : PySem.W.Frag) (mg : Str → Option Value) (nm : Str) (C : Addr) : Prop extends ToldK K C where
  nam : mg nm = some (.ref C)
  is : ∀ cn ∈ eight, ∃ Dd, mg cn = some (.ref Dd) ∧ PySem.W.kitOne K (.ref C) (.ref Dd) = some (cn == nm)
/-- the told classes' bases -/
structure ToldB (K : PySem.W.Frag) (mg : Str → Option Value) (ok : Str → Prop) (S1 S2 : Addr) : Prop where
  s1 : mg "ShareError" = some (.ref S1)
  s2 : mg "TooMany" = some (.ref S2)
  cl : ∀ nm, ok nm → ∃ C, ToldN K mg nm C ∧ PySem.W.exmAny K (.ref C) [.ref S1, .ref S2] = some true
def dTold (rF : Addr → Addr → Str → SD) (m : Nat) (ok : Str → Prop) (tb : ET) : ET := fun _ η Q =>
  tb (fun nm fs => ∃ f d, fs = [(f, d)] ∧ ok nm ∧ ∀ a dx, rF a dx nm never { nx := fun _ => Q .none, rt := Q } (.obj a (some (dx, f, d)) :: List.replicate m .un)) η fun d => Q (.list [d])
/-- the lambda's body, read at the maker's slots -/
def tLamD (K : PySem.W.Frag) (mg : Str → Option Value) (tb : ET) (E : XK) : TE := fun σ H R => ∃ (c : Ctx) (O : Addr → Prop) (η : EnvD) (E' : XP) (Q : D → Prop), Good K c O η σ H ∧ (∀ cls d H', ErrG K mg c.B c.G c.H0 E' cls d H' → E cls d H') ∧ tb E' η Q ∧ ∀ d v H', Step c.G H H' → Rep K O H' v d → Q d → R v H'
theorem pe_lamD {X : Cx} {A : Around} {outer : List Env} {s : Shared} {H : Hp} {E : XK} {scope : Scope} {f c' : Addr} {body : Expr} {tb : ET} (h : DE (LamX.lamCx X A outer s H E scope f c') body tb) : PE (LamX.lamCx X A outer s H E scope f c') body (tLamD X.K X.mg tb E) :=
  ⟨fun pins s1 σ H1 R I ⟨c, O, η, E', Q, g, he, ht, k⟩ => thn (h.run pins s1 σ H1 c O η E' Q I ⟨g, (takes_of rfl rfl rfl rfl).imp fun cls d _ H' w => he cls d H' w⟩ ht) fun u s' ⟨d, v, H', I', r, st, rp, q⟩ => ⟨v, H', I', r, k d v H' st rp q⟩⟩
theorem de_false {X : Cx} {e : Expr} : DE X e (fun _ _ _ => False) := ⟨fun _ _ _ _ _ _ _ _ _ _ _ z => z.elim⟩
theorem DrawOk.ext_ {G : Option (Addr × Addr)} {H : Hp} (h : DrawOk G H) {a : Addr} {f : Heap → Prop} (e : H a = some (.ext f)) : ¬ Wr G a := by
  rintro (⟨⟨p1, p2⟩, rfl, h1⟩ | ⟨q, hq⟩)
  · obtain ⟨_, m, t, ns, e1, _, _, e2, _⟩ := h.1
    rcases h1 with h1 | h1 <;> (have h1 := h1; simp only at h1; subst h1)
    · rw [e1] at e; cases e
    · rw [e2] at e; cases e
  · obtain ⟨ps, e1, _⟩ := h.2.t _ hq
    have e1 : H a = some (.tbl ps) := e1
    rw [e1] at e; cases e
/-- what that def makes of the call's reading -/
def toldT (K : PySem.W.Frag) (mg : Str → Option Value) (rF : Addr → Addr → Str → SD) (m : Nat) (ok : Str → Prop) (tl : XK → Hp → VK → Prop) (f c' : Addr) (q : Str) : TS := fun Dz σ H0 => ∃ (O : Addr → Prop) (G : Option (Addr × Addr)) (Q : D → Prop),
  Good K ⟨O, G, H0, [], []⟩ O [.obj f none, .un, .un, .un] σ H0 ∧ H0 c' = some (LamX.CodeO c' q) ∧
  (∀ HZ, Step G H0 HZ → ∀ (E' : XK) (Q' : VK), (∀ cls d H', ErrG K mg O G H0 (fun nm fs => ∃ f d, fs = [(f, d)] ∧ ok nm ∧ ∀ a dx, rF a dx nm never { nx := fun _ => Q .none, rt := Q } (.obj a (some (dx, f, d)) :: List.replicate m .un)) cls d H' → E' cls d H') → (∀ v d H', Step G HZ H' → Rep K O H' v d → Q (.list [d]) → Q' v H') → tl E' HZ Q') ∧
  ∀ v d H', Step G H0 H' → Rep K O H' v d → Q d → Dz.rt v H'
section
variable {Z : Cx} {k m : Nat} {NR : List Str} {stR : Stmt} {rF : Addr → Addr → Str → SD} {ok : Str → Prop} {S1 S2 : Addr} {tl : XK → Hp → VK → Prop} {f c' : Addr} {q : Str} {t0 : SD}
variable {k1 k2 k3 j1 j2 j3 : Nat} {a1 a2 a3 a4 a5 a6 a7 b1 b2 b3 b4 b5 b6 b7 b8 b9 b10 b11 b12 d1 d2 d3 d4 d5 d6 d7 d8 d9 d10 : Pos}
/-- the reading of the call in the try -/
def tAct (tl : XK → Hp → VK → Prop) (f c' : Addr) (q : Str) (n : Nat) (W : WX) : TS := fun D σ H => σ[0]? = some (some (.ref f)) ∧ H c' = some (LamX.CodeO c' q) ∧ tl (fun cls d H' => ∀ σ' : L2.St, σ'.length = n → W cls d σ' H') H fun v H' => D.nx (σ.set 1 (some v)) H'
theorem told_pss (hZ : Z.N = N_told) (hs : Z.stack = Z.env :: Z.outer) (hf : Z.env.frame = some Z.env.locals) (hc : Z.calm = true) (hgd : Z.A.guards = some []) (hr : Room (k + 1) Z.A) (B : ToldB Z.K Z.mg ok S1 S2) (DR : DefIn Z.K Z.mg "_law_refusal" stR ["_law_error"]) (SR : FnScope NR ["_law_error"] (defScope stR)) (lR : NR.length = m + 1)
    (bR : ∀ (a dx C : Addr) (nm : Str), ToldN Z.K Z.mg nm C → ∀ (f : Addr) (cdv : Value) (A : Around) (outer : List Env) (s : Shared) (H : Hp) (E : XK) (oe : Obj) (pn : List (Addr × Obj)), A.guards = some [] → Room k (A.deeper (envOfC "_law_refusal" (defScope stR) s.heap.objs.size f cdv)) →
      Zc (.ref C) (some dx) oe → (∃ vs, oe.data = .fields vs) → DSs ((cxOf CX0 Z.prog Z.w Z.K Z.mg Z.base NR "_law_refusal" (defScope stR) f cdv A outer s H E).nox.tr ((a, oe) :: pn) (cxOf CX0 Z.prog Z.w Z.K Z.mg Z.base NR "_law_refusal" (defScope stR) f cdv A outer s H E).nox.xe) (defBody stR) (rF a dx nm))
    (act : ∀ (W : WX) (pn : List (Addr × Obj)) (xe : Value → Shared → Prop) (E : XK), Takes (Z.tr pn xe) W → (∀ cls d σ' H', E cls d H' → W cls d σ' H') → PE (Z.tr pn xe) (.Call (.Name "_law_call" b2) [] [] b3) (fun σZ HZ Q => σZ[0]? = some (some (.ref f)) ∧ HZ c' = some (LamX.CodeO c' q) ∧ tl E HZ Q))
    (h0 : DS Z (.Assign [.Tuple [.Name "_law_found" a1, .Name "_law_error" a2] k1 a3] (.Tuple [.Constant .none j1 a4, .Constant .none j2 a5] k2 a6) a7) t0)
    (k0 : ∀ P : EnvD → Prop, P [.obj f none, .dat .none, .dat .none, .un] → t0 never { nx := P, rt := fun _ => False } [.obj f none, .un, .un, .un])
    (l1 : Z.env.scope.names.lookup ("_law_found" : Str) = some .local) (l2 : Z.env.scope.names.lookup ("_law_error" : Str) = some .local) (l3 : Z.env.scope.names.lookup ("e" : Str) = some .local) (g1 : Gl Z "ShareError") (g2 : Gl Z "TooMany") (g3 : Gl Z "_law_refusal")
    (hw1 : swapsWith (.Call (.Name "_law_call" b2) [] [] b3) (some (.Name "_law_found" b1)) b4.line Z.env = pure false) (hw2 : swapsWith (.Name "e" b9) (some (.Name "_law_error" b8)) b10.line Z.env = pure false)
    (ht : starEach [.Name "ShareError" b5, .Name "TooMany" b6] Z.env = (false, eval (.Name "ShareError" b5) Z.env) :: starEach [.Name "TooMany" b6] Z.env) (ht2 : starEach [.Name "TooMany" b6] Z.env = (false, eval (.Name "TooMany" b6) Z.env) :: starEach [] Z.env)
    (hf1 : DSs Z [.Return (some (.IfExp (.Compare (.Name "_law_error" d1) [.Is] [.Constant .none j3 d2] d3) (.List [.Name "_law_found" d4] d5) (.Call (.Name "_law_refusal" d6) [.Name "_law_error" d7] [] d8) d9)) d10] (sRet (dIf (bVal (dOp (oIs false) (dV 2) (dK .none))) (dNew (nLst (aCons (dV 1) aNil))) (fun _ _ _ => False))))
    (hst : starEach [.Name "_law_error" d7] Z.env = (false, eval (.Name "_law_error" d7) Z.env) :: starEach [] Z.env) :
    PSs Z [.Assign [.Tuple [.Name "_law_found" a1, .Name "_law_error" a2] k1 a3] (.Tuple [.Constant .none j1 a4, .Constant .none j2 a5] k2 a6) a7,
      .Try [.Assign [.Name "_law_found" b1] (.Call (.Name "_law_call" b2) [] [] b3) b4] [.ExceptHandler (some (.Tuple [.Name "ShareError" b5, .Name "TooMany" b6] k3 b7)) (some "e") [.Assign [.Name "_law_error" b8] (.Name "e" b9) b10] b11] [] [] b12,
      .Return (some (.IfExp (.Compare (.Name "_law_error" d1) [.Is] [.Constant .none j3 d2] d3) (.List [.Name "_law_found" d4] d5) (.Call (.Name "_law_refusal" d6) [.Name "_law_error" d7] [] d8) d9)) d10] (toldT Z.K Z.mg rF m ok tl f c' q) := by
  have hN : Z.N.Nodup := by rw [hZ]; decide
  have n1 : Z.N[1]? = some ("_law_found" : Str) := by rw [hZ]; rfl
  have n2 : Z.N[2]? = some ("_law_error" : Str) := by rw [hZ]; rfl
  have n3 : Z.N[3]? = some ("e" : Str) := by rw [hZ]; rfl
  have hr2 : ∀ (a : Addr) (oe : Obj) (cls : Value) (d : Option Addr) (pn : List (Addr × Obj)), Zc cls d oe → (∃ vs, oe.data = .fields vs) → PSs (Z.tr ((a, oe) :: pn) Z.xe) [.Return (some (.IfExp (.Compare (.Name "_law_error" d1) [.Is] [.Constant .none j3 d2] d3) (.List [.Name "_law_found" d4] d5) (.Call (.Name "_law_refusal" d6) [.Name "_law_error" d7] [] d8) d9)) d10]
      (fun D σ H => ∃ C dx nm, cls = .ref C ∧ d = some dx ∧ ToldN Z.K Z.mg nm C ∧ lift0S Z.K (sRet (dRef 2 a dx m (rF a dx nm))) D σ H) := by
    refine fun a oe cls d pn hz hv => ⟨fun pins s σ H D I h => ?_⟩
    obtain ⟨C, dx, nm, e1, e2, T, ht'⟩ := h
    subst e1 e2
    have PX : PinX (Z.tr ((a, oe) :: pn) Z.xe) a dx C := ⟨oe, List.mem_cons_self, hz, hv⟩
    have vis2 : Vis Z.env.scope "_law_error" := .inl l2
    have dsR : DSs (Z.tr ((a, oe) :: pn) Z.xe) [.Return (some (.IfExp (.Compare (.Name "_law_error" d1) [.Is] [.Constant .none j3 d2] d3) (.List [.Name "_law_found" d4] d5) (.Call (.Name "_law_refusal" d6) [.Name "_law_error" d7] [] d8) d9)) d10]
        (sRet (dIf (fun E η Q => (∃ o, η[2]? = some (.obj a o)) ∧ Q false) (fun _ _ _ => False) (dRef 2 a dx m (rF a dx nm)))) :=
      dss_one (ds_ret (de_if (de_objN (i := 2) n2 vis2) de_false (de_ref (X := Z.tr ((a, oe) :: pn) Z.xe) (i := 2) PX hs hf DR SR lR hr hgd (fun f cdv A outer s H E oe' pn' h1 h2 h3 h4 => bR a dx C nm T f cdv A outer s H E oe' pn' h1 h2 h3 h4) g3 n2 vis2 (he := hst))))
    refine dsR.pss0.run pins s σ H D I ?_
    obtain ⟨c, O, η, z, g, ht1, k⟩ := ht'
    refine ⟨c, O, η, z, g, ⟨?_, ht1⟩, k⟩
    obtain ⟨f, d, hη, _⟩ := ht1
    exact ⟨_, hη⟩
  have tryP := pss_try2 (X := Z) (c1 := .ref S1) (c2 := .ref S2) (i := 3) (kk := k3) (pos := b12) (pos' := b11) (q3 := b7) (tb := tAct tl f c' q Z.N.length) hs hf hN n3 l3 ⟨g1, by decide, .inl B.s1⟩ ⟨g2, by decide, .inl B.s2⟩
    (body := [.Assign [.Name "_law_found" b1] (.Call (.Name "_law_call" b2) [] [] b3) b4])
    (fun W pn xe tk po => ⟨fun pins s σ H D I h => ((pss_one (ps_set (X := Z.tr pn xe) (i := 1) hN n1 (.inl l1) (act (fun cls d σ H => σ.length = Z.N.length → W cls d σ H) pn xe (fun cls d H' => ∀ σ' : L2.St, σ'.length = Z.N.length → W cls d σ' H') (takes_len tk) fun cls d σ' H' w l => w σ' l) hw1 (.inr l1)))).run pins s σ H D I h⟩)
    (b₀ := .Assign [.Name "_law_error" b8] (.Name "e" b9) b10) (suite := [])
    (fun a oe cls d pn hz hv => pss_one (ps_set (X := Z.suite a ((a, oe) :: pn)) (i := 2) hN n2 (.inl l2) (pe_var (X := Z.suite a ((a, oe) :: pn)) (i := 3) n3 (.inl l3)) hw2 (.inr l2)))
    (ts2 := fun a cls d D σ H => ∃ C dx nm, cls = .ref C ∧ d = some dx ∧ ToldN Z.K Z.mg nm C ∧ lift0S Z.K (sRet (dRef 2 a dx m (rF a dx nm))) D σ H)
    hf1.pss0 hr2 ht ht2
  refine ⟨fun pins s σ H D I h => (pss_cons h0.ps tryP).run pins s σ H D I ?_⟩
  obtain ⟨O, G, Q, g, hc', htl, hfin⟩ := h
  refine ⟨⟨O, G, H, [], []⟩, O, _, never, { nx := fun η => η = [.obj f none, .dat .none, .dat .none, .un], rt := fun _ => False }, ⟨g, eok_never⟩, k0 _ rfl, ?_, fun v H' q => ?_, fun σ' H' q => ?_, fun σ' H' q => ?_⟩
  · rintro σ' HZ ⟨O', η', g', rfl⟩
    have st : Step G H HZ := ⟨g'.keep, g'.draw⟩
    obtain ⟨e0, _⟩ := obj_at g'.toGood (i := 0) rfl
    refine ⟨e0, g'.keep c' _ (g.draw.ext_ hc') hc', htl HZ st _ _ ?_ ?_⟩
    · rintro cls d H' ⟨nm, fs, dx, vs, ⟨fl, dd, rfl, okn, hq⟩, hm, rfl, hx, hn, hrp, hk, hdr, hT⟩ σ' hl
      obtain ⟨C, T, hE⟩ := B.cl nm okn
      obtain rfl : cls = .ref C := Option.some.inj (hm.symm.trans T.nam)
      have hl : σ'.length = 4 := by rw [hl, hZ]; rfl
      match σ', hl with
      | [x0, x1, x2, x3], _ =>
        refine ⟨hE, fun a ha => ⟨.ref a, rfl, C, dx, nm, rfl, rfl, T, ⟨O, G, H, [], []⟩, O, [.un, .un, .obj a (some (dx, fl, dd)), .un], { nx := fun _ => False, rt := Q }, ?_, ⟨fl, dd, rfl, hq a dx⟩, fun σ' H' q => ?_, fun v H' q => ?_, fun σ' H' q => ?_, fun σ' H' q => ?_⟩⟩
        · refine ⟨rfl, fun _ z => z, g.hW, hT, hk, hdr, fun j z hj => ?_, fun j l x y b h1 _ f _ => ?_, fun p hp => absurd hp (by simp)⟩
          · match j, hj with
            | 0, hj => cases hj; trivial
            | 1, hj => cases hj; trivial
            | 2, hj =>
              cases hj
              refine ⟨rfl, fun p hp => ?_⟩
              cases hp
              match vs, hn, hrp with
              | [(n0, y)], hn, hrp =>
                have hn : [n0] = [fl] := hn
                cases hn
                have hrp : RepAll Z.K O H' [y] [dd] := hrp
                cases hrp with
                | cons r _ => exact ⟨y, hx, r⟩
            | 3, hj => cases hj; trivial
          · match j, h1, f with
            | 0, h1, f => cases h1; exact f.elim
            | 1, h1, f => cases h1; exact f.elim
            | 2, h1, f => cases h1; exact f.elim
            | 3, h1, f => cases h1; exact f.elim
        · obtain ⟨_, _, _, z⟩ := q; exact z.elim
        · obtain ⟨d, q1, q2, q3, q4⟩ := q; exact hfin v d H' ⟨q1, q2⟩ (no_mret rfl q3) q4
        · obtain ⟨_, _, _, z⟩ := q; exact z.elim
        · obtain ⟨_, _, _, z⟩ := q; exact z.elim
    · intro v d H' st2 r q
      have gl : Good Z.K ⟨O, G, H, [], []⟩ O [.obj f none, .dat .none, .dat .none, .un] σ' HZ := g'.toGood.lend
      refine ⟨⟨O, G, H, [], []⟩, O, _, { nx := fun _ => False, rt := Q }, (gl.step st2).set 1 r, ⟨?_, q⟩, fun σ' H' q => ?_, fun v H' q => ?_, fun σ' H' q => ?_, fun σ' H' q => ?_⟩
      · show 1 ≤ sizeLine; rw [sizeLine_eq]; decide
      · obtain ⟨_, _, _, z⟩ := q; exact z.elim
      · obtain ⟨d, q1, q2, q3, q4⟩ := q; exact hfin v d H' ⟨q1, q2⟩ (no_mret rfl q3) q4
      · obtain ⟨_, _, _, z⟩ := q; exact z.elim
      · obtain ⟨_, _, _, z⟩ := q; exact z.elim
  · obtain ⟨_, _, _, _, z⟩ := q; exact z.elim
  · obtain ⟨_, _, _, z⟩ := q; exact z.elim
  · obtain ⟨_, _, _, z⟩ := q; exact z.elim
end
end DL

/-! DLl7: x(lambda: e) as an expression. -/
namespace DL
open PySem PySem.Spec PyProof.Rows L2
/-- what is owned is not seen -/
def dropC : Cell → Cell
  | .own _ => .un
  | .mtb _ _ _ => .un
  | .ist _ _ _ _ => .un
  | x => x
def drop (η : EnvD) : EnvD := η.map dropC
theorem Good.drop {K : PySem.W.Frag} {c : Ctx} {O : Addr → Prop} {η : EnvD} {σ : L2.St} {H H1 : Hp} (g : Good K c O η σ H) (st : Step c.G H H1) : Good K ⟨O, c.G, H1, [], []⟩ O (drop η) σ H1 where
  len := by unfold DL.drop; rw [List.length_map, g.len]
  hB := fun _ h => h
  hW := g.wO
  hT := (g.step st).hT
  keep := fun _ _ _ e => e
  draw := st.draw
  cell := fun i x h => by
    unfold DL.drop at h
    rw [List.getElem?_map] at h
    cases e : η[i]? with
    | none => rw [e] at h; cases h
    | some y =>
      rw [e] at h
      cases h
      have q := (g.step st).cell i y e
      cases y with
      | un => trivial
      | dat d => exact q
      | own ds => trivial
      | drw => exact q
      | obj a o => exact q
      | scr ns => exact q
      | mtb p d fp => trivial
      | lin nm fs => exact q
      | ist p nm fs fp => trivial
  dis := fun i j x y a h1 h2 h3 h4 => by
    unfold DL.drop at h1
    rw [List.getElem?_map] at h1
    cases e : η[i]? with
    | none => rw [e] at h1; cases h1
    | some y => rw [e] at h1; cases y <;> cases h1 <;> exact h3.elim
  fr := fun p hp => absurd hp (by simp)
section
variable {X : Cx} {pins : List (Addr × Obj)} {σ : L2.St} {H : Hp} {s : Shared}
/-- the lambda is called in the def that got it: what stands around is the maker's -/
theorem pe_lamcallG {Ng : List Str} {qg : Str} {sg : Scope} {g f c' : Addr} {cdg pm ctv : Value} {params : Arguments} {body : Expr} {scope : Scope} {k i : Nat} {a : Str} {pn : List (Addr × Obj)} {xe : Value → Shared → Prop} {W : WX} {E : XK} {tb : TE} {p1 p2 : Pos}
    (I : Inv X pins σ H s) (L : LamX.LamS X.env.scope scope) (hf : s.heap.get? f = some (PySem.W.kla_obj "<lambda>" (X.env.qual ++ "<lambda>") params body scope (cloFrom X.env.cells scope.names []) pm c' ctv)) (hfn : H f = none) (hfr : f ∉ frs X.stack)
    (hbind : bindArgs (PySem.W.kla_fn "<lambda>" (X.env.qual ++ "<lambda>") params body scope (cloFrom X.env.cells scope.names []) pm (.ref c') ctv) ⟨[], []⟩ = pure [])
    (tk : Takes ((cxOf CX0 X.prog X.w X.K X.mg X.base Ng qg sg g cdg X.A X.stack s H E0).nox.tr pn xe) W) (hW : ∀ cls d σ' H', E cls d H' → W cls d σ' H') (hr : Room (k + 1) (X.A.deeper (envOfC qg sg s.heap.objs.size g cdg)))
    (hbody : ∀ (s1 : Shared) (H1 : Hp), Room k ((X.A.deeper (envOfC qg sg s.heap.objs.size g cdg)).deeper (LamX.lamEnv X scope s1.heap.objs.size f c')) → PE (LamX.lamCx X (X.A.deeper (envOfC qg sg s.heap.objs.size g cdg)) (envOfC qg sg s.heap.objs.size g cdg :: X.stack) s1 H1 E scope f c') body tb)
    (hN : Ng[i]? = some a) (hv : Vis sg a) (hd : (a == ("__debug__" : Str)) = false := by decide) (hcd : (a == ("__classdict__" : Str)) = false := by decide) :
    PE ((cxOf CX0 X.prog X.w X.K X.mg X.base Ng qg sg g cdg X.A X.stack s H E0).nox.tr pn xe) (.Call (.Name a p1) [] [] p2) (fun σZ HZ Q => σZ[i]? = some (some (.ref f)) ∧ HZ c' = some (LamX.CodeO c' (X.env.qual ++ "<lambda>")) ∧ tb σ HZ Q) := by
  refine ⟨fun pz sz σz Hz Q Iz ⟨e0, ec, ht⟩ => wpAny_Call_Name_kw (thn ((pe_var (pos := p1) (i := i) hN hv hd hcd).run pz sz σz Hz (fun v H1 => v = .ref f ∧ H1 = Hz) Iz ⟨.ref f, e0, rfl, rfl⟩) fun u s1 hh => ?_)⟩
  obtain ⟨v, H1, I1, r1, ev, eH⟩ := hh
  subst ev eH
  obtain rfl : u = Value.ref f := r1
  have un : Un (frs X.stack) [] H H1 s.heap s1.heap := I1.base
  have lf := un.keep f _ hf hfn hfr (fun z => nomatch z)
  obtain ⟨⟨oc, vs, t, hoc, hdc, hvc⟩, _, _⟩ := I1.hok c' _ ec
  refine PySem.W.callWith_F0 ⟨_, _, _, _, lf⟩ (wpAny_call (codeAny_mono (?_ : codeAny (model X.prog X.w) (X.A.deeper (envOfC qg sg s.heap.objs.size g cdg)) (.call (.ref f) ⟨[], []⟩) (CR (L2.CX X.prog X.w) (envOfC qg sg s.heap.objs.size g cdg :: X.stack) X.prog X.w H1 s1 Q E) s1) fun r s' hq => ?_))
  · refine PySem.W.kla_callFunE hr.depth lf rfl L.co L.gen rfl ⟨c', oc, vs, t, rfl, hoc, hdc, hvc⟩ ?_
    rw [hbind]
    refine wpAny_pure (wpAny_newFunctionEnv (fun y hy => (L.own y hy).2) (fun y hy => absurd hy (by simp)) (fun h1 hns hsb => ⟨I1.nolimit.fresh _ hsb, ?_⟩) L.kind)
    have J := LamX.lam_start2 (tk := s1.toks + ([] : List (Str × Value)).length) (h₁ := h1) (E := E) (f := f) (c' := c') I L I1.env0 hr.hd un hns fun b o e => hsb.extBut b o (Nat.ne_of_lt (Heap.lt_size e)) (Heap.get?_push_of_some _ e)
    refine PySem.W.kla_codeExpr (wpAny_mono ((hbody s1 H1 (hr.deeper _)).run [] _ _ H1 Q J ht) (fun v s' hq => ?_) fun e s' hq => hq)
    obtain ⟨w', H', J', rv, q⟩ := hq
    exact ⟨w', H', J'.os, J'.bare, J'.base, J'.hok, rv, q⟩
  · match r, hq with
    | .error e, hq => exact passes_call tk hW pz σz H1 s1 e s' I1 hq
    | .ok (.ret u), hq => exact I1.after hq
end
/-- the def that tells -/
def ToldF (P : Program) (w : World) (K : PySem.W.Frag) (mg : Str → Option Value) (base : Heap) (k : Nat) (rF : Addr → Addr → Str → SD) (m : Nat) (ok : Str → Prop) : Prop := ∃ stT, DefIn K mg "_law_told" stT ["_law_call"] ∧ FnScope N_told ["_law_call"] (defScope stT) ∧ Vis (defScope stT) "_law_call" ∧
  ∀ (g : Addr) (cdg : Value) (A : Around) (outer : List Env) (s : Shared) (H : Hp), A.guards = some [] → Room k (A.deeper (envOfC "_law_told" (defScope stT) s.heap.objs.size g cdg)) → ∀ (tl : XK → Hp → VK → Prop) (f c' : Addr) (q : Str),
    (∀ (p1 p2 : Pos) (W : WX) (pn : List (Addr × Obj)) (xe : Value → Shared → Prop) (E : XK), Takes ((cxOf CX0 P w K mg base N_told "_law_told" (defScope stT) g cdg A outer s H E0).nox.tr pn xe) W → (∀ cls d σ' H', E cls d H' → W cls d σ' H') →
      PE ((cxOf CX0 P w K mg base N_told "_law_told" (defScope stT) g cdg A outer s H E0).nox.tr pn xe) (.Call (.Name "_law_call" p1) [] [] p2) (fun σZ HZ Q => σZ[0]? = some (some (.ref f)) ∧ HZ c' = some (LamX.CodeO c' q) ∧ tl E HZ Q)) →
    PSs (cxOf CX0 P w K mg base N_told "_law_told" (defScope stT) g cdg A outer s H E0).nox (defBody stT) (toldT K mg rF m ok tl f c' q)
/-- the wish in the lambda's body -/
def dTold' (rF : Addr → Addr → Str → SD) (m : Nat) (ok : Str → Prop) (tb : ET) : ET := fun _ η Q =>
  tb (fun nm fs => ∃ f d, fs = [(f, d)] ∧ ok nm ∧ ∀ a dx, rF a dx nm never { nx := fun _ => Q .none, rt := Q } (.obj a (some (dx, f, d)) :: List.replicate m .un)) (drop η) fun d => Q (.list [d])
section
variable {X : Cx} {P c : Addr} {k m : Nat} {rF : Addr → Addr → Str → SD} {ok : Str → Prop} {params : Arguments} {body : Expr} {scope : Scope} {lp p pos : Pos} {tb : ET}
theorem de_told (TF : ToldF X.prog X.w X.K X.mg X.base k rF m ok) (TB : LamX.TabB X.base X.mg c P) (hcode : X.env.code = .ref c) {q0 : Str} (hq : X.env.qual = q0) (hm : (P, q0 ++ "<lambda>") ∈ lawTabs) (hu : ∀ p ∈ lawTabs, p.1 = P → p.2 = q0 ++ "<lambda>") (hgd : X.A.guards = some []) (hr : Room (k + 1) X.A) (hk : 1 ≤ k) (hg : Gl X "_law_told") (L : LamX.LamS X.env.scope scope)
    (hbody : ∀ (f c' : Addr) (A : Around) (outer : List Env) (s : Shared) (H : Hp) (E : XK), A.guards = some [] → Room (k - 1) (A.deeper (LamX.lamEnv X scope s.heap.objs.size f c')) → DE (LamX.lamCx X A outer s H E scope f c') body tb)
    (hdef : defaultsOf params X.env = ([], []) := by rfl) (hbind : ∀ (q : Str) (cl : List (Str × Addr)) (pm cv ctv : Value), bindArgs (PySem.W.kla_fn "<lambda>" q params body scope cl pm cv ctv) ⟨[], []⟩ = pure [] := by intros; rfl)
    (hst : backTo pos (starEach [.Lambda params body scope lp] X.env) = (false, eval (.Lambda params body scope lp) X.env) :: backTo pos (starEach [] X.env) := by rfl) (hpl : (backTo pos (starEach [.Lambda params body scope lp] X.env)).any (·.1) = false := by rfl) :
    DE X (.Call (.Name "_law_told" p) [.Lambda params body scope lp] [] pos) (dTold' rF m ok tb) := ⟨fun pins s σ H c0 O η E Q I g h => by
  subst hq
  obtain ⟨stT, Df, S, hv, tell⟩ := TF
  obtain ⟨gT, fd, F, hmy, hbd⟩ := Df.ex
  obtain ⟨k, rfl⟩ := Nat.exists_eq_add_of_le' hk
  refine wpAny_Call_Name_kw (ld_glob I hg hmy (PySem.W.callWith_K (h₀ := X.base) I.ok.mod.kin F.kp ?_ (by first | exact hst | rfl) hpl) (by decide))
  refine Calls.spliced_cons (lam_make3 I g.draw TB hcode hm hu hdef (L.has I.ok) fun f c' pm ctv H1 s1 I1 st hf hfn hfr hco => ?_)
  refine Calls.spliced_nil ⟨I1.kIn, ?_⟩
  obtain ⟨oc, od, kV, doc, pm', an, cdv, ct, osl, rfl, lk, hcd'⟩ := F.ex
  have rc : codeAny (model X.prog X.w) X.A (.call (.ref gT) ⟨[.ref f], []⟩) (CR CX0 X.stack X.prog X.w H1 s1 (fun v H' => ∃ d, Step c0.G H1 H' ∧ Rep X.K O H' v d ∧ Q d) E0) s1 := by
    refine LamX.run_ofS (N := N_told) (ps := ["_law_call"]) (us := [.ref f]) (vs := [.ref f]) lk hcd' S hr I1.env0 (hbd s1 [.ref f] I1.kIn rfl) (.cons rfl .nil) rfl fun hr' => ⟨_, (tell gT cdv X.A X.stack s1 H1 hgd hr' (fun E' HZ Q' => tLamD X.K X.mg tb E' σ HZ Q') f c' (X.env.qual ++ "<lambda>") fun p1 p2 W pn xe E' tk hW => ?_).nox, ?_⟩
    · exact pe_lamcallG (i := 0) I1 L hf hfn hfr (hbind _ _ _ _ _) tk hW hr' (fun s2 H2 hr2 => pe_lamD (hbody f c' _ _ s2 H2 E' hgd hr2)) rfl hv
    · refine ⟨O, c0.G, Q, ?_, hco, fun HZ stZ E' Q' hE hQ => ⟨⟨O, c0.G, HZ, [], []⟩, O, drop η, _, _, g.toGood.drop (st.trans stZ), fun cls d H' he => hE cls d H' ?_, h, fun d v H' st' r q => hQ v d H' st' r q⟩, fun v d H' st' r q => ⟨d, st', r, q⟩⟩
      · refine ⟨rfl, fun _ z => z, g.wO, (g.step st).hT, fun _ _ _ z => z, st.draw, fun j z hj => ?_, fun j l x y b h1 _ f _ => ?_, fun p hp => absurd hp (by simp)⟩
        · match j, hj with
          | 0, hj => cases hj; exact ⟨rfl, fun p hp => by cases hp⟩
          | 1, hj => cases hj; trivial
          | 2, hj => cases hj; trivial
          | 3, hj => cases hj; trivial
        · match j, h1, f with
          | 0, h1, f => cases h1; exact f.elim
          | 1, h1, f => cases h1; exact f.elim
          | 2, h1, f => cases h1; exact f.elim
          | 3, h1, f => cases h1; exact f.elim
      · obtain ⟨nm, fs, dx, vs, q1, q2, q3, q4, q5, q6, q7, q8, q9⟩ := he
        exact ⟨nm, fs, dx, vs, q1, q2, q3, q4, q5, q6, fun a o nw e => q7 a o nw (stZ.keep a o nw e), q8, q9⟩
  refine wpAny_call (codeAny_mono rc fun r s2 hq => ?_)
  match r, hq with
  | .error e, hq => exact (show False from hq).elim
  | .ok (.ret u), hq =>
    obtain ⟨v, H2, I2, rv, d', st', rp, q⟩ := I1.after hq
    exact ⟨d', v, H2, I2, rv, st.trans st', rp, q⟩⟩
end
end DL

/-! DLl8: xs[::-1] of a list or a tuple. -/
namespace DL
open PySem PySem.Spec PyProof.Rows L2
section
variable {prog : Program} {w : World} {A : Around} {E : Value → Shared → Prop} {s : Shared}
end
def tRevT (K : PySem.W.Frag) (te : TE) : TE := fun σ H Q => te σ H fun x H1 => ∃ a xs, x = .ref a ∧ ((SqL K H1 a xs ∧ ∀ p, H1 p = none → Q (.ref p) (upd H1 p (.lst xs.reverse))) ∨ (SqT K H1 a xs ∧ ∀ p, H1 p = none → Q (.ref p) (upd H1 p (.tup xs.reverse))))
/-- xs[::-1] -/
def dRev (ta : ET) : ET := fun E η Q => ta E η fun x => match x with
  | .list ds => Q (.list ds.reverse)
  | .tuple ds => Q (.tuple ds.reverse)
  | _ => False
end DL

/-! DLl9: a def that calls itself; the classes that are told; the head's facts of tables and told classes. -/
namespace DL
open PySem PySem.Spec PyProof.Rows L2
section
variable {P : Program} {w : World} {K : PySem.W.Frag} {mg : Str → Option Value} {base h : Heap} {k : Nat} {ps : List Str} {x : Str} {st : Stmt}
/-- not called -/
def fNone : FT := fun _ _ _ => False
theorem de_isT {X : Cx} {a dx C : Addr} {nm cn y : Str} {i : Nat} {p p1 p2 pos : Pos} (P : PinX X a dx C) (T : ToldN X.K X.mg nm C) (hg : Gl X "isinstance") (hm : X.mg "isinstance" = none) (hgc : Gl X cn) (hcn : cn ∈ eight := by decide) (hN : X.N[i]? = some y := by rfl) (hv : Vis X.env.scope y := by first | exact Or.inl rfl | exact Or.inr (Or.inl rfl) | exact Or.inr (Or.inr rfl))
    (hd : (y == ("__debug__" : Str)) = false := by decide) (hcd : (y == ("__classdict__" : Str)) = false := by decide) (hdc : (cn == ("__debug__" : Str)) = false := by decide)
    (h1 : starEach [.Name y p1, .Name cn p2] X.env = (false, eval (.Name y p1) X.env) :: starEach [.Name cn p2] X.env := by rfl) (h2 : starEach [.Name cn p2] X.env = (false, eval (.Name cn p2) X.env) :: starEach [] X.env := by rfl) :
    DE X (.Call (.Name "isinstance" p) [.Name y p1, .Name cn p2] [] pos) (dIsE i a dx (cn == nm)) := by
  obtain ⟨Dd, e1, e2⟩ := T.is cn hcn
  exact de_isE P T.toToldK hg hm hgc e1 e2 hN hv hd hcd hdc h1 h2
/-! the head's facts -/
def ToldAt (K : PySem.W.Frag) (nm : Str) (S1 S2 : Addr) : Prop := ∃ C, PySem.W.nsIn K mainGlobals nm = some (some (.ref C)) ∧ ToldK K C ∧ (∀ cn ∈ eight, ∃ Dd, PySem.W.nsIn K mainGlobals cn = some (some (.ref Dd)) ∧ PySem.W.kitOne K (.ref C) (.ref Dd) = some (cn == nm)) ∧ PySem.W.exmAny K (.ref C) [.ref S1, .ref S2] = some true
theorem toldAt {nm : Str} {S1 S2 C D1 D2 D3 D4 D5 D6 D7 D8 : Addr} {b1 b2 b3 b4 b5 b6 b7 b8 : Bool} (a : PySem.W.nsIn K mainGlobals nm = some (some (.ref C)))
    (i1 : PySem.W.nsIn K mainGlobals "BadSchema" = some (some (.ref D1))) (i2 : PySem.W.nsIn K mainGlobals "BadStore" = some (some (.ref D2))) (i3 : PySem.W.nsIn K mainGlobals "BadLot" = some (some (.ref D3))) (i4 : PySem.W.nsIn K mainGlobals "BadColumn" = some (some (.ref D4)))
    (i5 : PySem.W.nsIn K mainGlobals "BadCell" = some (some (.ref D5))) (i6 : PySem.W.nsIn K mainGlobals "BadNumber" = some (some (.ref D6))) (i7 : PySem.W.nsIn K mainGlobals "BadPaper" = some (some (.ref D7))) (i8 : PySem.W.nsIn K mainGlobals "TooMany" = some (some (.ref D8)))
    (j1 : PySem.W.kitOne K (.ref C) (.ref D1) = some b1) (j2 : PySem.W.kitOne K (.ref C) (.ref D2) = some b2) (j3 : PySem.W.kitOne K (.ref C) (.ref D3) = some b3) (j4 : PySem.W.kitOne K (.ref C) (.ref D4) = some b4)
    (j5 : PySem.W.kitOne K (.ref C) (.ref D5) = some b5) (j6 : PySem.W.kitOne K (.ref C) (.ref D6) = some b6) (j7 : PySem.W.kitOne K (.ref C) (.ref D7) = some b7) (j8 : PySem.W.kitOne K (.ref C) (.ref D8) = some b8)
    (eb : [b1, b2, b3, b4, b5, b6, b7, b8] = eight.map (· == nm)) (ga : PySem.W.findIn K (.ref C) "__getattribute__" = some (some (.builtin "BaseException.__getattribute__"))) (gg : PySem.W.findIn K (.ref C) "__getattr__" = some none) (exC : PySem.W.subIn K (.ref C) (.type "BaseException") = some true) (hdC : PySem.W.hasDictIn K C = true)
    (cl : (PySem.W.clsIn K C).isSome = true) (at_ : PySem.W.findIn K (.ref C) "__class__" = some (some (.builtin "object.__class__"))) (gs : PySem.W.specialIn K (.builtin "object.__class__") "__get__" = some (some (.builtin "getset_descriptor.__get__"))) (tk : PySem.W.takesIn K (.builtin "object.__class__") = some true) (ob : PySem.W.mroIn K C (.type "object") = some true)
    (n1 : PySem.W.findIn K (.ref C) "place" = some none) (n2 : PySem.W.findIn K (.ref C) "value" = some none) (n3 : PySem.W.findIn K (.ref C) "word" = some none) (n4 : PySem.W.findIn K (.ref C) "most" = some none) (em : PySem.W.exmAny K (.ref C) [.ref S1, .ref S2] = some true) : ToldAt K nm S1 S2 := by
  refine ⟨C, a, { ga := ga, gg := gg, exC := exC, hdC := hdC, cl := cl, at_ := at_, gs := gs, tk := tk, ob := ob, no := fun f hf => ?_ }, fun cn hc => ?_, em⟩
  · simp only [List.mem_cons, List.mem_nil_iff, or_false] at hf
    rcases hf with rfl | rfl | rfl | rfl <;> assumption
  · simp only [eight, List.map, List.cons.injEq] at eb
    obtain ⟨q1, q2, q3, q4, q5, q6, q7, q8, _⟩ := eb
    simp only [eight, List.mem_cons, List.mem_nil_iff, or_false] at hc
    rcases hc with rfl | rfl | rfl | rfl | rfl | rfl | rfl | rfl
    · exact ⟨_, i1, by rw [j1, q1]⟩
    · exact ⟨_, i2, by rw [j2, q2]⟩
    · exact ⟨_, i3, by rw [j3, q3]⟩
    · exact ⟨_, i4, by rw [j4, q4]⟩
    · exact ⟨_, i5, by rw [j5, q5]⟩
    · exact ⟨_, i6, by rw [j6, q6]⟩
    · exact ⟨_, i7, by rw [j7, q7]⟩
    · exact ⟨_, i8, by rw [j8, q8]⟩
def ToldTop (K : PySem.W.Frag) (names : List Str) : Prop := ∃ S1 S2, PySem.W.nsIn K mainGlobals "ShareError" = some (some (.ref S1)) ∧ PySem.W.nsIn K mainGlobals "TooMany" = some (some (.ref S2)) ∧ ∀ nm ∈ names, ToldAt K nm S1 S2
theorem toldTop {names : List Str} {S1 S2 : Addr} (s1 : PySem.W.nsIn K mainGlobals "ShareError" = some (some (.ref S1))) (s2 : PySem.W.nsIn K mainGlobals "TooMany" = some (some (.ref S2))) (al : ∀ nm ∈ names, ToldAt K nm S1 S2) : ToldTop K names := ⟨S1, S2, s1, s2, al⟩
theorem told_nil {S1 S2 : Addr} : ∀ nm ∈ ([] : List Str), ToldAt K nm S1 S2 := fun _ h => (nomatch h)
theorem told_cons {nm : Str} {names : List Str} {S1 S2 : Addr} (h : ToldAt K nm S1 S2) (r : ∀ x ∈ names, ToldAt K x S1 S2) : ∀ x ∈ nm :: names, ToldAt K x S1 S2 := fun x hx => (List.mem_cons.mp hx).elim (fun e => e ▸ h) (r x)
theorem toldB_of {names : List Str} (X : K.In h) (G : h.Ns mainGlobals mg) (T : ToldTop K names) : ∃ S1 S2, ToldB K mg (· ∈ names) S1 S2 := by
  obtain ⟨S1, S2, e1, e2, hT⟩ := T
  refine ⟨S1, S2, PySem.W.mg_of X G e1, PySem.W.mg_of X G e2, fun nm hn => ?_⟩
  obtain ⟨C, a, tk, is, em⟩ := hT nm hn
  exact ⟨C, { toToldK := tk, nam := PySem.W.mg_of X G a, is := fun cn hc => let ⟨Dd, q1, q2⟩ := is cn hc; ⟨Dd, PySem.W.mg_of X G q1, q2⟩ }, em⟩
/-- a table, found at the head -/
def TabAt (K : PySem.W.Frag) (h : Heap) (p : Str × Addr × Addr) : Prop := PySem.W.tabIn K p.1 = some p.2 ∧ K.lookup p.2.2 = none ∧ PySem.W.codeHdIn K p.2.1 p.2.2 = true ∧ h.get? p.2.2 = some (PySem.W.tabObj #[])
theorem tabsC_of (X : K.In h) (hsys : K.lookup sysModules = none) (l : List (Str × Addr × Addr)) (hl : lawTabs = l.map fun p => (p.2.2, p.1 ++ (".<locals>." : Str) ++ ("<lambda>" : Str))) (hx : ∀ p ∈ l, TabAt K h p) : TabsC K h (l.map (·.2)) := by
  have f : ∀ p ∈ l.map (·.2), PySem.W.CodeHd h p.1 p.2 ∧ h.get? p.2 = some (PySem.W.tabObj #[]) ∧ K.lookup p.2 = none := fun p hp => by
    obtain ⟨t, ht, rfl⟩ := List.mem_map.mp hp
    obtain ⟨h1, h2, h3, h4⟩ := hx t ht
    exact ⟨PySem.W.codeHd_of_K X h3, h4, h2⟩
  refine ⟨hsys, ?_, fun p hp => (f p hp).2.1, fun p hp => (f p hp).2.2, fun p hp => (f p hp).1⟩
  rw [hl, List.map_map, List.map_map]
  rfl
theorem tabIn_of {f c Pt : Addr} {oc ccl : Value} {od cdd : Option Addr} {fd : FuncData} {osl ccs : Array (Option Value)} {vs : Array Value} (a : PySem.W.nsIn K mainGlobals x = some (some (.ref f))) (l : K.lookup f = some ⟨oc, od, .func fd, osl⟩) (hc : fd.code = .ref c)
    (lc : K.lookup c = some ⟨ccl, cdd, .fields vs, ccs⟩) (v : vs[11]? = some (.ref Pt)) : PySem.W.tabIn K x = some (c, Pt) := by
  unfold PySem.W.tabIn
  simp only [a, l, hc, lc, v]
theorem codeHdIn_of {c Pt : Addr} {o : Obj} (lc : K.lookup c = some o) (e : PySem.W.codeHdIn [(c, o)] c Pt = true) : PySem.W.codeHdIn K c Pt = true := by
  unfold PySem.W.codeHdIn at *
  rw [lc]
  rw [show List.lookup c [(c, o)] = some o by simp [List.lookup]] at e
  exact e
theorem lamAt_of {c Pt : Addr} (X : K.In h) (G : h.Ns mainGlobals mg) (ht : PySem.W.tabIn K x = some (c, Pt)) (tab : LamX.TabB base mg c Pt) (mem : (Pt, x ++ ".<locals>." ++ "<lambda>") ∈ lawTabs) (uni : ∀ p ∈ lawTabs, p.1 = Pt → p.2 = x ++ ".<locals>." ++ "<lambda>") : LamAt K mg base x c Pt :=
  ⟨tab, mem, uni, fun st f fd F hm => by
    obtain ⟨oc, od, kV, doc, pm, an, cdv, ct, osl, rfl, lk, _⟩ := F.ex
    exact PySem.W.law_code X G ht hm (X _ _ lk) rfl⟩
theorem law_finL {fa : Addr} {st : Stmt} {cs : List (Addr × Addr)} (X : K.In h) (G : h.Ns mainGlobals mg) (hmg : mg "law" = some (.ref fa)) (a : DefAt K "law" st) (hb : BindsAs "law" st ["_law_script"])
    (ok : ∀ (base : Heap) (f : Addr) (fd : FuncData), K.In base → base.Ns mainGlobals mg → (∀ p ∈ cs, LamX.TabB base mg p.1 p.2) → Fun K "law" "law" st f fd → FnG P w K mg base CX0 k f fd ["_law_script"] (spLaw K)) :
    ∃ fd : FuncData, (∀ (s : Shared) (u : Value), BindsTo s fd ⟨[u], []⟩ [("_law_script", u)]) ∧ ∀ base : Heap, K.In base → base.Ns mainGlobals mg → (∀ p ∈ cs, LamX.TabB base mg p.1 p.2) → FnG P w K mg base CX0 k fa fd ["_law_script"] (spLaw K) := by
  obtain ⟨f, oc, od, kV, doc, pm, an, cdv, ct, osl, a1, l1, c1, k1⟩ := a
  have e := hmg.symm.trans (PySem.W.mg_of X G a1)
  cases e
  have F := fun_mk (st := st) l1 c1 k1
  exact ⟨_, fun s u => .of_eq (hb kV doc pm an cdv ct [u] rfl), fun base b1 b2 b3 => ok base _ _ b1 b2 b3 F⟩
theorem with_tabs {A : FuncData → Prop} {B : FuncData → Heap → Prop} {C : Heap → Prop} {C2 : Heap → Prop} {cs : List (Addr × Addr)} (T : TabsC K h cs) (h' : ∃ fd, A fd ∧ ∀ base, C base → C2 base → (∀ p ∈ cs, LamX.TabB base mg p.1 p.2) → B fd base) :
    ∃ (fd : FuncData) (cs : List (Addr × Addr)), TabsC K h cs ∧ A fd ∧ ∀ base : Heap, C base → C2 base → (∀ p ∈ cs, LamX.TabB base mg p.1 p.2) → B fd base := let ⟨fd, h1, h2⟩ := h'; ⟨fd, cs, T, h1, h2⟩
/-- the goal that k_head leaves, the tables told -/
theorem walk_GL {l : PySem.W.OpenLaw} {n k : Nat} {q : Program} {loose : List Str} {XP : (Str → Option Value) → Heap → Prop} {YP : World → Heap → Prop} {d : DefRec} {K : Params → PySem.W.Frag} {sp : PySem.W.Frag → Sp} {x : Str} (hn : l.most = some n) (hn2 : n ≤ sizeLine) (hdf : d.params.defaults = []) (hr : Room k callerA) (him : importsNone q = true)
    (hY : ∀ (w : World) (h : Heap), YP w h → (K w.params).In h)
    (F : ∀ (w : World) (mg : Str → Option Value) (fa : Addr) (h : Heap), YP w h → (K w.params).In h → h.Ns mainGlobals mg → mg d.name = some (.ref fa) →
      ∃ (fd : FuncData) (cs : List (Addr × Addr)), TabsC (K w.params) h cs ∧ (∀ (s : Shared) (u : Value), BindsTo s fd ⟨[u], []⟩ [(x, u)]) ∧ ∀ base : Heap, (K w.params).In base → base.Ns mainGlobals mg → (∀ p ∈ cs, LamX.TabB base mg p.1 p.2) → FnG l.prog w (K w.params) mg base CX0 k fa fd [x] (sp (K w.params)))
    (hsp : ∀ (K : PySem.W.Frag) (H : Hp) (a : Addr) (ns : List Int), ns.length ≤ n → OnlyL H → SqL K H a (ns.map V.int) → sp K [.ref a] H (fun v _ => v = .bl true) fun _ _ _ => False) :
    PySem.W.WalkO q loose XP YP l.row.toRowW d [] (fun f vs => PySem.call f vs) := by
  refine Att.attach_call hn hdf fun w s₀ s₁ mg mb fa o pm cd doc a vs ns G Y ho hd hcd hmg hobj hints hlen hg => ?_
  obtain ⟨fd, cs, T, hb, hF⟩ := F w mg fa _ Y (hY w _ Y) G.T.g hmg
  exact law_callG (hY w _ Y) G.T.g G.T.b G.T.builtins G.T.nolimit hg T (let ⟨mm, q1, _⟩ := (G.T.seer him).mods; ⟨mm, q1⟩) G.T.bmain hobj hints (Nat.le_trans hlen hn2) hr hF hb fun H hO hS => hsp _ H a ns hlen hO hS
end
end DL

/-! DLl10: xs + ys as a new list. -/
namespace DL
open PySem PySem.Spec PyProof.Rows L2
def nCat2 (ta tb : ET) : NT := fun E η Q => ta E η fun x => tb E η fun y => match x, y with
  | .list xs, .list ys => xs.length + ys.length ≤ sizeLine ∧ Q (xs ++ ys)
  | _, _ => False
/-- ys = ys + e, ys owned -/
def sOwnCat (i : Nat) (t : ET) : SD := fun E z η => match η[i]? with
  | some (.own ds) => t E η fun y => match y with
    | .list ys => ds.length + ys.length ≤ sizeLine ∧ z.nx (η.set i (.own (ds ++ ys)))
    | _ => False
  | _ => False
end DL

/-! DLl11: x(lambda y=0: e): a lambda with one parameter, which has an integer as its default. -/
namespace DL
open PySem PySem.Spec PyProof.Rows L2
/-- what is asked of such a lambda's names; N: the maker's slots -/
structure LamD (N : List Str) (a : Str) (sc scope : Scope) : Prop where
  kind : scope.kind = .function
  co : scope.isCoroutine = false
  gen : scope.isGenerator = false
  own : ∀ y ∈ scope.names, y.2 ≠ .cell ∧ (y.2 = .local → y.1 ∉ N)
  free : ∀ y ∈ scope.names, y.2 = .free → sc.names.lookup y.1 = some .cell ∨ sc.names.lookup y.1 = some .free
  par : scope.names.lookup a = some .local
def lamDB (N : List Str) (a : Str) (sc scope : Scope) : Bool :=
  decide (scope.kind = .function) && !scope.isCoroutine && !scope.isGenerator && (scope.names.all fun y => !decide (y.2 = .cell) && (!decide (y.2 = .local) || !N.contains y.1) && (!decide (y.2 = .free) || decide (sc.names.lookup y.1 = some .cell) || decide (sc.names.lookup y.1 = some .free))) && decide (scope.names.lookup a = some .local)
theorem lamD_by {N : List Str} {a : Str} {sc scope : Scope} (h : lamDB N a sc scope = true) : LamD N a sc scope := by
  unfold lamDB at h
  simp only [Bool.and_eq_true, Bool.or_eq_true, Bool.not_eq_true', decide_eq_true_eq, decide_eq_false_iff_not, List.all_eq_true] at h
  obtain ⟨⟨⟨⟨h1, h2⟩, h3⟩, h4⟩, h5⟩ := h
  refine ⟨h1, h2, h3, fun y hy => ⟨(h4 y hy).1.1, fun e hm => ?_⟩, fun y hy e => ?_, h5⟩
  · rcases (h4 y hy).1.2 with z | z
    · exact z e
    · rw [List.contains_iff_mem.mpr hm] at z; cases z
  · rcases (h4 y hy).2 with (z | z) | z
    · exact absurd e z
    · exact .inl z
    · exact .inr z
theorem LamD.has {X : Cx} {N : List Str} {a : Str} {scope : Scope} (L : LamD N a X.env.scope scope) (ok : X.Ok) : ∀ y ∈ scope.names, y.2 = .free → ∃ c, X.env.cells.lookup y.1 = some c := fun y hy e => by
  rcases L.free y hy e with k | k
  · exact ok.has _ (.inl k)
  · exact ok.has _ (.inr k)
section
variable {X : Cx} {pins : List (Addr × Obj)} {σ : L2.St} {H HZ : Hp} {s s1 : Shared} {G : Option (Addr × Addr)}
theorem lam_startD {A : Around} {outer : List Env} {E : XK} {scope : Scope} {f c' : Addr} {h₁ : Heap} {tk : Nat} {a : Str} {m0 : Str → Option Value} (I : Inv X pins σ H s) (L : LamD X.N a X.env.scope scope) (e0 : Env0 X.prog X.w X.K X.mg X.base A outer s1 HZ) (hd : A.handled = none)
    (un : Un (frs X.stack) [] H HZ s.heap s1.heap) (hns : h₁.Ns s1.heap.objs.size m0) (kp : ∀ b o, s1.heap.get? b = some o → h₁.get? b = some o) :
    Inv (LamX.lamCx X A outer s1 HZ E scope f c') [] σ HZ { s1 with heap := h₁, toks := tk } := by
  have hfree := L.has I.ok
  have cm : ∀ {y c}, (cloFrom X.env.cells scope.names []).lookup y = some c → X.env.cells.lookup y = some c := fun {y c} e => by
    rcases cloFrom_mem (PySem.mem_of_lookup e) with hm | ⟨h1, h2⟩
    · cases hm
    · obtain ⟨c1, hc⟩ := hfree _ h1 rfl
      have hc : X.env.cells.lookup y = some c1 := hc
      have e2 : c = c1 := by
        rw [h2, hc] <;> rfl
      rw [e2]
      exact hc
  have look : ∀ {y}, scope.names.lookup y = some .free → ∃ c, (cloFrom X.env.cells scope.names []).lookup y = some c := fun {y} hl => by
    have hy : (y, NameKind.free) ∈ scope.names := PySem.mem_of_lookup hl
    exact mem_lookup (cloFrom_has (cells := X.env.cells) (acc := []) hy)
  have cellK : ∀ {c : Addr} {v : Option Value}, H c = none → s.heap.IsCell c v → h₁.IsCell c v := fun {c v} n ⟨o, ho, hd⟩ => by
    obtain ⟨sl, q⟩ := un.any ho n (by simp)
    exact ⟨_, kp _ _ q, hd⟩
  have noA : ∀ b : Addr, b ∉ (LamX.lamCx X A outer s1 HZ E scope f c').ex := fun b z => absurd (show b ∈ ([] : List Addr) from z) (by simp)
  refine ⟨⟨e0.mod, L.kind, rfl, rfl, Nat.le_refl _, fun y z c e1 e2 => I.ok.inj y z c (cm e1) (cm e2), fun y hy => ?_, fun y c z _ => ?_, fun _ => hd, Around.frames_deeper e0.frames, .inr ⟨rfl, rfl⟩, fun b z => absurd z (noA b), e0.bs, e0.bsz, fun b _ _ => noA b,
      fun b z => absurd z (noA b), e0.funs, e0.frf⟩,
    rfl, e0.bare, Un.kept kp, ⟨_, hns, fun i y v e1 e2 e3 => ?_⟩, fun y c e => ?_, e0.hok.fresh (Nat.le_refl _), fun y c e => ?_, fun q hq => absurd (show q ∈ ([] : List (Addr × Obj)) ++ [] from hq) (by simp), e0.hok.kept kp, I.len⟩
  · have hy : scope.names.lookup y = some .cell ∨ scope.names.lookup y = some .free := hy
    rcases hy with hy | hy
    · exact absurd rfl (L.own _ (PySem.mem_of_lookup hy)).1
    · exact look hy
  · have z : false = true := z
    cases z
  · have e3 : Vis scope y := e3
    have e1 : X.N[i]? = some y := e1
    rcases e3 with k | k | k
    · exact absurd (List.mem_of_getElem? e1) ((L.own _ (PySem.mem_of_lookup k)).2 rfl)
    · exact absurd rfl (L.own _ (PySem.mem_of_lookup k)).1
    · obtain ⟨m, hn, hl⟩ := I.loc
      have hvis : Vis X.env.scope y := (L.free _ (PySem.mem_of_lookup k) rfl).elim (fun k => .inr (.inl k)) (fun k => .inr (.inr k))
      obtain ⟨w', r, q⟩ := hl i y v e1 e2 hvis
      obtain ⟨c2, h2⟩ := look k
      refine ⟨w', r, .inr ⟨.inr k, c2, h2, ?_⟩⟩
      have c1 := cm h2
      rcases q with ⟨k', _⟩ | ⟨_, c3, e', z⟩
      · have k' : X.env.scope.names.lookup y = some .local := k'
        rcases L.free _ (PySem.mem_of_lookup k) rfl with k2 | k2 <;> rw [show X.env.scope.names.lookup y = _ from k2] at k' <;> cases k'
      · rw [c1] at e'
        cases e'
        exact cellK (I.freeC y _ c1) z
  · obtain ⟨w', z⟩ := I.cell y c (cm e)
    exact ⟨w', cellK (I.freeC y c (cm e)) z⟩
  · obtain ⟨v, o, ho, hd⟩ := I.cell y c (cm e)
    exact un.free c o ho (I.freeC y c (cm e)) (by simp)
theorem lam_makeD {c P : Addr} {params : Arguments} {body : Expr} {scope : Scope} {pos : Pos} {i : Int} {kc : Nat} {pc : Pos} {E Q : Value → Shared → Prop} (I : Inv X pins σ H s) (dr : DrawOk G H) (TB : LamX.TabB X.base X.mg c P) (hcode : X.env.code = .ref c)
    (hm : (P, X.env.qual ++ "<lambda>") ∈ lawTabs) (hu : ∀ p ∈ lawTabs, p.1 = P → p.2 = X.env.qual ++ "<lambda>") (hde : params.defaults.isEmpty = false) (hk0 : params.kw_defaults = []) (hdv : evalEach params.defaults X.env = [eval (.Constant (.int i) kc pc) X.env]) (hfree : ∀ y ∈ scope.names, y.2 = .free → ∃ c, X.env.cells.lookup y.1 = some c)
    (h : ∀ (f c' t : Addr) (tk : Tok) (pm ctv doc : Value) (H1 : Hp) (s' : Shared), Inv X pins σ H1 s' → Step G H H1 →
      s'.heap.get? f = some (PySem.W.kdv_obj "<lambda>" (X.env.qual ++ "<lambda>") params (.expr body) scope (cloFrom X.env.cells scope.names []) (.ref t) doc pm c' ctv) → H1 f = none → f ∉ frs X.stack →
      s'.heap.get? t = some (PySem.W.kdv_tup [.int i tk]) → H1 t = none → t ∉ frs X.stack → H1 c' = some (LamX.CodeO c' (X.env.qual ++ "<lambda>")) → Q (.ref f) s') :
    wpAny (model X.prog X.w) X.A (eval (.Lambda params body scope pos) X.env) Q E s := by
  obtain ⟨ps, hP, ht, ha⟩ := dr.2.t _ hm
  have hP : H P = some (.tbl ps) := hP
  refine PySem.W.kdv_lam hde hk0 ?_
  rw [hdv]
  refine evalAll_cons (wpAny_Constant_int (evalAll_nil ?_))
  rw [makeFunction_eq]
  simp only [List.zip_nil_right, List.filterMap_nil, List.isEmpty_nil, List.isEmpty_cons, if_true, Bool.false_eq_true, if_false, pure_bind]
  refine wpAny_bind (wpAny_newTextTuple ?_)
  have kT : ∀ b o, s.heap.get? b = some o → (s.heap.push (PySem.W.kdv_tup [Value.int i s.toks])).get? b = some o := fun b o e => Heap.get?_push_of_some _ e
  have I0 : Inv X pins σ H { s with heap := s.heap.push (PySem.W.kdv_tup [Value.int i s.toks]), toks := s.toks + 1 } := I.kept kT
  have tAt : (s.heap.push (PySem.W.kdv_tup [Value.int i s.toks])).get? s.heap.objs.size = some (PySem.W.kdv_tup [Value.int i s.toks]) := Heap.get?_push_size _ rfl
  have nT : H s.heap.objs.size = none := I.hok.fresh (Nat.le_refl _)
  have off0 : ∀ f, s.heap.objs.size ≤ f → f ∉ frs X.stack := by
    intro f hf z
    rcases List.mem_cons.mp (I.stkSub _ z) with e | e
    · subst e
      exact absurd I.lt (Nat.not_lt.mpr hf)
    · exact I.nofs hf e
  generalize hs0 : ({ s with heap := s.heap.push (PySem.W.kdv_tup [Value.int i s.toks]), toks := s.toks + 1 } : Shared) = s0 at I0 ⊢
  have eh : s0.heap = s.heap.push (PySem.W.kdv_tup [Value.int i s.toks]) := by rw [← hs0]
  have tAt0 : s0.heap.get? s.heap.objs.size = some (PySem.W.kdv_tup [Value.int i s.toks]) := by rw [eh]; exact tAt
  have sz0 : s.heap.objs.size ≤ s0.heap.objs.size := by rw [eh, Heap.size_push]; omega
  have bP : s0.heap.BuiltinsAt X.mg P := TB.bm.keeps I0.bk
  have tP : s0.heap.get? P = some { cls := .none, data := .fields ps } := I0.hok P _ hP
  have off : ∀ f, s0.heap.objs.size ≤ f → f ∉ frs X.stack := fun f hf => off0 f (Nat.le_trans sz0 hf)
  have nTP : s.heap.objs.size ≠ P := fun z => by rw [← z, nT] at hP; cases hP
  cases hc : codeAmong pos ps.toList with
  | some cv =>
    obtain ⟨c', rfl, hco⟩ := ha pos cv hc
    refine PySem.W.kdv_makeTailHit (mg := X.mg) (c := c) (P := P) (ps := ps) (closure_ok hfree) I0.ok.glob (I0.mod.glob.keeps I0.bk) hcode (TB.code.keeps I0.bk) tP ht hc bP fun ctv doc h' tk hx hsz => ?_
    exact h h'.objs.size c' s.heap.objs.size s.toks ((X.mg "__name__").getD .none) ctv doc H _ (I0.kept fun b o e => Heap.get?_push_of_some _ (hx b o e)) (.refl dr) (Heap.get?_push_size _ rfl) (I0.hok.fresh hsz) (off _ hsz) (Heap.get?_push_of_some _ (hx _ _ tAt0)) nT (off0 _ (Nat.le_refl _)) hco
  | none =>
    refine PySem.W.kdv_makeTail (mg := X.mg) (c := c) (P := P) (ps := ps) (closure_ok hfree) I0.ok.glob (I0.mod.glob.keeps I0.bk) hcode (TB.code.keeps I0.bk) tP ht hc TB.gP bP fun c' ctv doc h' tk hx hge hlt hrec htb => ?_
    obtain ⟨c2, oc, vs, t, e2, hoc, hd, hv⟩ := hrec
    cases e2
    have big : s0.heap.objs.size ≤ h'.objs.size := Nat.le_trans hge (Nat.le_of_lt hlt)
    have nC : H c' = none := I0.hok.fresh hge
    have J := LamX.inv_table (t' := tk) (more := #[rawInt pos.line, rawInt pos.col, .ref c']) (h' := h'.push (PySem.W.kdv_obj "<lambda>" (X.env.qual ++ "<lambda>") params (.expr body) scope (cloFrom X.env.cells scope.names []) (.ref s.heap.objs.size) doc ((X.mg "__name__").getD .none) c' ctv)) I0 hP
      (fun b o hb e => Heap.get?_push_of_some _ (hx b o hb e)) (Heap.get?_push_of_some _ htb) hge ⟨oc, vs, t, Heap.get?_push_of_some _ hoc, hd, hv⟩
    have keepCode : ∀ {b : Addr} {q : Str}, H b = some (LamX.CodeO b q) → (upd (upd H P (.tbl (ps ++ #[rawInt pos.line, rawInt pos.col, .ref c']))) c' (LamX.CodeO c' (X.env.qual ++ "<lambda>"))) b = some (LamX.CodeO b q) := by
      intro b q e
      rw [upd_ne (ne_of_none e nC), upd_ne (fun z => by rw [z, hP] at e; exact LamX.codeO_ne ps (Option.some.inj e).symm)]
      exact e
    have atP : (upd (upd H P (.tbl (ps ++ #[rawInt pos.line, rawInt pos.col, .ref c']))) c' (LamX.CodeO c' (X.env.qual ++ "<lambda>"))) P = some (.tbl (ps ++ #[rawInt pos.line, rawInt pos.col, .ref c'])) := by
      rw [upd_ne (ne_of_none hP nC), upd_same]
    have T : LamX.Tabs lawTabs (upd (upd H P (.tbl (ps ++ #[rawInt pos.line, rawInt pos.col, .ref c']))) c' (LamX.CodeO c' (X.env.qual ++ "<lambda>"))) := by
      intro p hp
      by_cases hb : p.1 = P
      · rw [hb, hu p hp hb]
        have eL : (ps ++ #[rawInt pos.line, rawInt pos.col, Value.ref c']).toList = ps.toList ++ [rawInt pos.line, rawInt pos.col, .ref c'] := by simp
        refine ⟨_, atP, ?_, fun p' cv hcv => ?_⟩
        · rw [eL]
          exact PySem.TriplesOk_snoc _ _ _ _ ht
        · rw [eL] at hcv
          rcases LamX.among_app _ ht hcv with z | z
          · obtain ⟨c0, e1, e2⟩ := ha p' cv z
            exact ⟨c0, e1, keepCode e2⟩
          · exact ⟨c', z, upd_same⟩
      · obtain ⟨ps', a1, a2, a3⟩ := dr.2.t p hp
        refine ⟨ps', by rw [upd_ne (ne_of_none a1 nC), upd_ne hb]; exact a1, a2, fun p' cv hcv => ?_⟩
        obtain ⟨c0, e1, e2⟩ := a3 p' cv hcv
        exact ⟨c0, e1, keepCode e2⟩
    have ltT : s.heap.objs.size < c' := Nat.lt_of_lt_of_le (Heap.lt_size tAt0) hge
    refine h h'.objs.size c' s.heap.objs.size s.toks ((X.mg "__name__").getD .none) ctv doc _ _ J (tab_step dr hm hP nC ⟨T, by
      obtain ⟨o, e⟩ := dr.2.m
      refine ⟨o, ?_⟩
      rw [upd_ne (fun z => by rw [z, nC] at e; cases e), upd_ne (fun z => by rw [z, hP] at e; cases e)]
      exact e⟩) (Heap.get?_push_size _ rfl) ?_ (off _ big) (Heap.get?_push_of_some _ (hx _ _ nTP tAt0)) ?_ (off0 _ (Nat.le_refl _)) upd_same
    · rw [upd_ne (Nat.ne_of_gt hlt), upd_ne (Nat.ne_of_gt (Nat.lt_of_lt_of_le (Heap.lt_size tP) big))]
      exact I0.hok.fresh big
    · rw [upd_ne (Nat.ne_of_lt ltT), upd_ne nTP]
      exact nT
theorem pe_lamcallD {Ng : List Str} {qg : Str} {sg : Scope} {g f c' t : Addr} {cdg pm ctv doc : Value} {params : Arguments} {body : Expr} {scope : Scope} {k i : Nat} {a y : Str} {n : Int} {tk0 : Tok} {kb : Option (Array Value) → Sem (List (Str × Value))} {pn : List (Addr × Obj)} {xe : Value → Shared → Prop} {W : WX} {E : XK} {tb : TE} {p1 p2 : Pos}
    (I : Inv X pins σ H s) (L : LamD X.N y X.env.scope scope) (hf : s.heap.get? f = some (PySem.W.kdv_obj "<lambda>" (X.env.qual ++ "<lambda>") params (.expr body) scope (cloFrom X.env.cells scope.names []) (.ref t) doc pm c' ctv)) (hfn : H f = none) (hfr : f ∉ frs X.stack)
    (htp : s.heap.get? t = some (PySem.W.kdv_tup [.int n tk0])) (htn : H t = none) (htr : t ∉ frs X.stack)
    (hb1 : bindArgs (PySem.W.kdv_fn "<lambda>" (X.env.qual ++ "<lambda>") params (.expr body) scope (cloFrom X.env.cells scope.names []) (.ref t) doc pm (.ref c') ctv) ⟨[], []⟩ = seqItems? (.ref t) >>= kb) (hb2 : kb (some #[.int n tk0]) = pure [(y, .int n tk0)])
    (tk : Takes ((cxOf CX0 X.prog X.w X.K X.mg X.base Ng qg sg g cdg X.A X.stack s H E0).nox.tr pn xe) W) (hW : ∀ cls d σ' H', E cls d H' → W cls d σ' H') (hr : Room (k + 1) (X.A.deeper (envOfC qg sg s.heap.objs.size g cdg)))
    (hbody : ∀ (s1 : Shared) (H1 : Hp), Room k ((X.A.deeper (envOfC qg sg s.heap.objs.size g cdg)).deeper (LamX.lamEnv X scope s1.heap.objs.size f c')) → PE (LamX.lamCx X (X.A.deeper (envOfC qg sg s.heap.objs.size g cdg)) (envOfC qg sg s.heap.objs.size g cdg :: X.stack) s1 H1 E scope f c') body tb)
    (hN : Ng[i]? = some a) (hv : Vis sg a) (hd : (a == ("__debug__" : Str)) = false := by decide) (hcd : (a == ("__classdict__" : Str)) = false := by decide) :
    PE ((cxOf CX0 X.prog X.w X.K X.mg X.base Ng qg sg g cdg X.A X.stack s H E0).nox.tr pn xe) (.Call (.Name a p1) [] [] p2) (fun σZ HZ Q => σZ[i]? = some (some (.ref f)) ∧ HZ c' = some (LamX.CodeO c' (X.env.qual ++ "<lambda>")) ∧ tb σ HZ Q) := by
  refine ⟨fun pz sz σz Hz Q Iz ⟨e0, ec, ht⟩ => wpAny_Call_Name_kw (thn ((pe_var (pos := p1) (i := i) hN hv hd hcd).run pz sz σz Hz (fun v H1 => v = .ref f ∧ H1 = Hz) Iz ⟨.ref f, e0, rfl, rfl⟩) fun u s1 hh => ?_)⟩
  obtain ⟨v, H1, I1, r1, ev, eH⟩ := hh
  subst ev eH
  obtain rfl : u = Value.ref f := r1
  have un : Un (frs X.stack) [] H H1 s.heap s1.heap := I1.base
  have lf := un.keep f _ hf hfn hfr (fun z => nomatch z)
  have lt := un.keep t _ htp htn htr (fun z => nomatch z)
  obtain ⟨⟨oc, vs, tq, hoc, hdc, hvc⟩, _, _⟩ := I1.hok c' _ ec
  refine PySem.W.callWith_F0 ⟨_, _, _, _, lf⟩ (wpAny_call (codeAny_mono (?_ : codeAny (model X.prog X.w) (X.A.deeper (envOfC qg sg s.heap.objs.size g cdg)) (.call (.ref f) ⟨[], []⟩) (CR (L2.CX X.prog X.w) (envOfC qg sg s.heap.objs.size g cdg :: X.stack) X.prog X.w H1 s1 Q E) s1) fun r s' hq => ?_))
  · refine PySem.W.kla_callFunE hr.depth lf rfl L.co L.gen rfl ⟨c', oc, vs, tq, rfl, hoc, hdc, hvc⟩ ?_
    refine BindsTo.of_defaults (T := t) (n := 0) rfl lt rfl hb1 hb2 _ _ _ _ ?_
    refine (wpAny_newFunctionEnv (fun y hy => (L.own y hy).1) (fun z hz => ?_) (fun h1 hns hsb => ⟨I1.nolimit.fresh _ hsb, ?_⟩) L.kind)
    · rw [List.mem_singleton.mp hz]
      exact L.par
    have J := lam_startD (tk := s1.toks + ([(y, Value.int n tk0)] : List (Str × Value)).length) (h₁ := h1) (E := E) (f := f) (c' := c') I L I1.env0 hr.hd un hns fun b o e => hsb.extBut b o (Nat.ne_of_lt (Heap.lt_size e)) (Heap.get?_push_of_some _ e)
    refine PySem.W.kla_codeExpr (wpAny_mono ((hbody s1 H1 (hr.deeper _)).run [] _ _ H1 Q J ht) (fun v s' hq => ?_) fun e s' hq => hq)
    obtain ⟨w', H', J', rv, q⟩ := hq
    exact ⟨w', H', J'.os, J'.bare, J'.base, J'.hok, rv, q⟩
  · match r, hq with
    | .error e, hq => exact passes_call tk hW pz σz H1 s1 e s' I1 hq
    | .ok (.ret u), hq => exact I1.after hq
end
section
variable {X : Cx} {P c : Addr} {k m : Nat} {rF : Addr → Addr → Str → SD} {ok : Str → Prop} {params : Arguments} {body : Expr} {scope : Scope} {lp p pos : Pos} {tb : ET}
theorem de_toldD (TF : ToldF X.prog X.w X.K X.mg X.base k rF m ok) (TB : LamX.TabB X.base X.mg c P) (hcode : X.env.code = .ref c) {q0 : Str} (hq : X.env.qual = q0) (hm : (P, q0 ++ "<lambda>") ∈ lawTabs) (hu : ∀ p ∈ lawTabs, p.1 = P → p.2 = q0 ++ "<lambda>") (hgd : X.A.guards = some []) (hr : Room (k + 1) X.A) (hk : 1 ≤ k) (hg : Gl X "_law_told") {y : Str} (L : LamD X.N y X.env.scope scope)
    (hbody : ∀ (f c' : Addr) (A : Around) (outer : List Env) (s : Shared) (H : Hp) (E : XK), A.guards = some [] → Room (k - 1) (A.deeper (LamX.lamEnv X scope s.heap.objs.size f c')) → DE (LamX.lamCx X A outer s H E scope f c') body tb)
    {n : Int} {kc : Nat} {pc : Pos} (hde : params.defaults.isEmpty = false) (hk0 : params.kw_defaults = []) (hdv : evalEach params.defaults X.env = [eval (.Constant (.int n) kc pc) X.env])
    (hbind : ∀ (q : Str) (cl : List (Str × Addr)) (t : Addr) (doc pm cv ctv : Value), ∃ kb, bindArgs (PySem.W.kdv_fn "<lambda>" q params (.expr body) scope cl (.ref t) doc pm cv ctv) ⟨[], []⟩ = seqItems? (.ref t) >>= kb ∧ ∀ tk, kb (some #[.int n tk]) = pure [(y, .int n tk)])
    (hst : backTo pos (starEach [.Lambda params body scope lp] X.env) = (false, eval (.Lambda params body scope lp) X.env) :: backTo pos (starEach [] X.env) := by rfl) (hpl : (backTo pos (starEach [.Lambda params body scope lp] X.env)).any (·.1) = false := by rfl) :
    DE X (.Call (.Name "_law_told" p) [.Lambda params body scope lp] [] pos) (dTold' rF m ok tb) := ⟨fun pins s σ H c0 O η E Q I g h => by
  subst hq
  obtain ⟨stT, Df, S, hv, tell⟩ := TF
  obtain ⟨gT, fd, F, hmy, hbd⟩ := Df.ex
  obtain ⟨k, rfl⟩ := Nat.exists_eq_add_of_le' hk
  refine wpAny_Call_Name_kw (ld_glob I hg hmy (PySem.W.callWith_K (h₀ := X.base) I.ok.mod.kin F.kp ?_ (by first | exact hst | rfl) hpl) (by decide))
  refine Calls.spliced_cons (lam_makeD I g.draw TB hcode hm hu hde hk0 hdv (L.has I.ok) fun f c' t tk0 pm ctv doc H1 s1 I1 st hf hfn hfr htp htn htr hco => ?_)
  refine Calls.spliced_nil ⟨I1.kIn, ?_⟩
  obtain ⟨oc, od, kV, doc', pm', an, cdv, ct, osl, rfl, lk, hcd'⟩ := F.ex
  obtain ⟨kb, hb1, hb2⟩ := hbind (X.env.qual ++ "<lambda>") (cloFrom X.env.cells scope.names []) t doc pm (.ref c') ctv
  have rc : codeAny (model X.prog X.w) X.A (.call (.ref gT) ⟨[.ref f], []⟩) (CR CX0 X.stack X.prog X.w H1 s1 (fun v H' => ∃ d, Step c0.G H1 H' ∧ Rep X.K O H' v d ∧ Q d) E0) s1 := by
    refine LamX.run_ofS (N := N_told) (ps := ["_law_call"]) (us := [.ref f]) (vs := [.ref f]) lk hcd' S hr I1.env0 (hbd s1 [.ref f] I1.kIn rfl) (.cons rfl .nil) rfl fun hr' => ⟨_, (tell gT cdv X.A X.stack s1 H1 hgd hr' (fun E' HZ Q' => tLamD X.K X.mg tb E' σ HZ Q') f c' (X.env.qual ++ "<lambda>") fun p1 p2 W pn xe E' tk hW => ?_).nox, ?_⟩
    · exact pe_lamcallD (i := 0) I1 L hf hfn hfr htp htn htr hb1 (hb2 _) tk hW hr' (fun s2 H2 hr2 => pe_lamD (hbody f c' _ _ s2 H2 E' hgd hr2)) rfl hv
    · refine ⟨O, c0.G, Q, ?_, hco, fun HZ stZ E' Q' hE hQ => ⟨⟨O, c0.G, HZ, [], []⟩, O, drop η, _, _, g.toGood.drop (st.trans stZ), fun cls d H' he => hE cls d H' ?_, h, fun d v H' st' r q => hQ v d H' st' r q⟩, fun v d H' st' r q => ⟨d, st', r, q⟩⟩
      · refine ⟨rfl, fun _ z => z, g.wO, (g.step st).hT, fun _ _ _ z => z, st.draw, fun j z hj => ?_, fun j l x y b h1 _ f _ => ?_, fun p hp => absurd hp (by simp)⟩
        · match j, hj with
          | 0, hj => cases hj; exact ⟨rfl, fun p hp => by cases hp⟩
          | 1, hj => cases hj; trivial
          | 2, hj => cases hj; trivial
          | 3, hj => cases hj; trivial
        · match j, h1, f with
          | 0, h1, f => cases h1; exact f.elim
          | 1, h1, f => cases h1; exact f.elim
          | 2, h1, f => cases h1; exact f.elim
          | 3, h1, f => cases h1; exact f.elim
      · obtain ⟨nm, fs, dx, vs, q1, q2, q3, q4, q5, q6, q7, q8, q9⟩ := he
        exact ⟨nm, fs, dx, vs, q1, q2, q3, q4, q5, q6, fun a o nw e => q7 a o nw (stZ.keep a o nw e), q8, q9⟩
  refine wpAny_call (codeAny_mono rc fun r s2 hq => ?_)
  match r, hq with
  | .error e, hq => exact (show False from hq).elim
  | .ok (.ret u), hq =>
    obtain ⟨v, H2, I2, rv, d', st', rp, q⟩ := I1.after hq
    exact ⟨d', v, H2, I2, rv, st.trans st', rp, q⟩⟩
end
end DL

/-! DLx: what each term says, as equations (not by computation: the kernel is to take them as they stand). -/
namespace DL
open PySem L2
section
variable {E : XP} {z : EndsD} {η : EnvD} {QD : D → Prop} {QL : List D → Prop} {QC : List Cell → Prop} {QB : Bool → Prop} {QO : Option Int → Prop} {QE : EnvD → Prop}
variable {t u : ET} {ta tb tc : ET} {s s1 s2 : SD} {nt : NT} {b b1 b2 : BT} {at_ : AT} {ct : CT} {it : IT} {g : GT} {gs : GTs} {i j : Nat}
theorem x_sSeq : sSeq s1 s2 E z η = s1 E { z with nx := s2 E z } η := id rfl
theorem x_sNext : sNext E z η = z.nx η := id rfl
theorem x_sSet : sSet i t E z η = t E η (fun d => z.nx (η.set i (.dat d))) := id rfl
theorem x_sSetL : sSetL i t E z η = t E (lend η) (fun d => flat d = true ∧ z.nx (η.set i (.dat d))) := id rfl
theorem x_sOwn : sOwn i nt E z η = nt E η (fun ds => z.nx (η.set i (.own ds))) := id rfl
theorem x_sOwnL : sOwnL i nt E z η = nt E (lend η) (fun ds => flatAll ds = true ∧ z.nx (η.set i (.own ds))) := id rfl
theorem x_sNew : sNew i nt E z η = nt E η (fun ds => z.nx (η.set i (.dat (.list ds)))) := id rfl
theorem x_sPar : sPar i j t u E z η = t E η (fun x => u E η fun y => z.nx ((η.set i (.dat x)).set j (.dat y))) := id rfl
theorem x_sParN : sParN i j nt u E z η = nt E η (fun ds => u E η fun y => z.nx ((η.set i (.own ds)).set j (.dat y))) := id rfl
theorem x_sRet : sRet t E z η = t E (lend η) z.rt := id rfl
theorem x_sRetN : sRetN E z η = z.rt .none := id rfl
theorem x_sIf : sIf b s1 s2 E z η = b E (lend η) (fun k => if k = true then s1 E z η else s2 E z η) := id rfl
theorem x_sDrop : sDrop t E z η = t E (lend η) (fun _ => z.nx η) := id rfl
theorem x_sFor : sFor it g s E z η = it E η (fun ds => forD g s E z ds η) := id rfl
theorem x_sWhile : sWhile b s E z η = ∃ n, whileD b s E z n η := id rfl
theorem x_sNever : sNever E z η = False := id rfl
theorem x_sFrz : sFrz i s E z η = s E z (frz i η) := id rfl
theorem x_sApp : sApp i t E z η = onOwn η[i]? (fun ds => t E η fun d => ds.length < sizeLine ∧ z.nx (η.set i (.own (ds ++ [d])))) := id rfl
theorem x_sAppL : sAppL i t E z η = onOwn η[i]? (fun ds => t E (lend η) fun d => flat d = true ∧ ds.length < sizeLine ∧ z.nx (η.set i (.own (ds ++ [d])))) := id rfl
theorem x_sExtL : sExtL i t E z η = onOwn η[i]? (fun ds => t E (lend η) fun d => onList d fun es => flatAll es = true ∧ ds.length + es.length ≤ sizeLine ∧ z.nx (η.set i (.own (ds ++ es)))) := id rfl
theorem x_sExtS : sExtS i t E z η = onOwn η[i]? (fun ds => t E (lend η) fun d => onSeqE d fun es => flatAll es = true ∧ ds.length + es.length ≤ sizeLine ∧ z.nx (η.set i (.own (ds ++ es)))) := id rfl
theorem x_onSeqEL {ds : List D} : onSeqE (.list ds) QL = QL ds := id rfl
theorem x_onSeqET {ds : List D} : onSeqE (.tuple ds) QL = QL ds := id rfl
theorem x_sAug : sAug i t E z η = onCInt η[i]? (fun m => t E (lend η) fun d => onInt d fun n => z.nx (η.set i (.dat (.int (m + n))))) := id rfl
theorem x_sAsg : sAsg t g E z η = t E η (fun d => g d η z.nx) := id rfl
theorem x_sBreak : sBreak E z η = z.bk η := id rfl
theorem x_sCont : sCont E z η = z.ct η := id rfl
def onDat (o : Option Cell) (k : D → Prop) : Prop := match o with | some (.dat d) => k d | _ => False
def onSeq (d : D) (f g : List D → Prop) : Prop := match d with | .list ds => f ds | .tuple ds => g ds | _ => False
def on1I (ds : List D) (k : Int → Prop) : Prop := match ds with | [.int j] => k j | _ => False
def on2T (ds : List D) (k : List D → List D → Prop) : Prop := match ds with | [.tuple xs, .tuple ys] => k xs ys | _ => False
def on2I (ds : List D) (k : Int → Int → Prop) : Prop := match ds with | [.int i, .int j] => k i j | _ => False
def on2S (ds : List D) (k : List D → List D → Prop) : Prop := match ds with | [.list xs, .list ys] => k xs ys | [.tuple xs, .tuple ys] => k xs ys | _ => False
def onScr (o : Option Cell) (k : List Int → Prop) : Prop := match o with | some (.scr ns) => k ns | _ => False
theorem x_onDat {d : D} : onDat (some (.dat d)) QD = QD d := id rfl
theorem x_onSeqL {ds : List D} {f k : List D → Prop} : onSeq (.list ds) f k = f ds := id rfl
theorem x_onSeqT {ds : List D} {f k : List D → Prop} : onSeq (.tuple ds) f k = k ds := id rfl
theorem x_on1I {k : Int → Prop} {m : Int} : on1I [.int m] k = k m := id rfl
theorem x_on2I {k : Int → Int → Prop} {m n : Int} : on2I [.int m, .int n] k = k m n := id rfl
theorem x_on2L {k : List D → List D → Prop} {xs ys : List D} : on2S [.list xs, .list ys] k = k xs ys := id rfl
theorem x_on2T {k : List D → List D → Prop} {xs ys : List D} : on2S [.tuple xs, .tuple ys] k = k xs ys := id rfl
theorem x_onScr {k : List Int → Prop} {ns : List Int} : onScr (some (.scr ns)) k = k ns := id rfl
theorem x_ifB {c : Bool} : ifB (.bool c) QB = QB c := id rfl
theorem x_onS {α : Type} {a : α} {k : α → Prop} : onS (some a) k = k a := id rfl
theorem x_onOwn {ds : List D} : onOwn (some (.own ds)) QL = QL ds := id rfl
theorem x_onList {ds : List D} : onList (.list ds) QL = QL ds := id rfl
theorem x_onInt {m : Int} {k : Int → Prop} : onInt (.int m) k = k m := id rfl
theorem x_onCInt {m : Int} {k : Int → Prop} : onCInt (some (.dat (.int m))) k = k m := id rfl
theorem x_isDrw {k : Prop} : isDrw (some .drw) k = k := id rfl
theorem x_lenScr : lenScr i E η QD = onScr η[i]? (fun ns => QD (.int ns.length)) := id rfl
theorem x_dV : dV i E η QD = onDat η[i]? QD := id rfl
theorem x_dK {d : D} : dK d E η QD = QD d := id rfl
theorem x_dOp {r : OpD} : dOp r ta tb E η QD = ta E η (fun x => tb E η fun y => r x y QD) := id rfl
theorem x_dTup : dTup at_ E η QD = at_ E η (fun ds => ds.length ≤ sizeLine ∧ QD (.tuple ds)) := id rfl
theorem x_dNew : dNew nt E η QD = nt E η (fun ds => QD (.list ds)) := id rfl
theorem x_nLst : nLst at_ E η QL = at_ E η (fun ds => ds.length ≤ sizeLine ∧ QL ds) := id rfl
theorem x_nCall {r : List D → (List D → Prop) → Prop} : nCall r at_ E η QL = at_ E η (fun ds => r ds QL) := id rfl
theorem x_nComp {own : List Nat} : nComp own it g b t E η QL = it E η (fun ds => compD g b t (wipeD η own) ds [] QL) := id rfl
theorem x_nRg {r : GRg} : nRg r E η QL = r E η (fun i j => QL (rangeD i (j - i).toNat)) := id rfl
theorem x_dTupRg {r : GRg} : dTupRg r E η QD = r E η (fun i j => QD (.tuple (rangeD i (j - i).toNat))) := id rfl
theorem x_gRg1 {k : Int → Int → Prop} : gRg1 ta E η k = ta E η (fun x => onInt x fun j => RgOk 0 j ∧ k 0 j) := id rfl
theorem x_gRg2 {k : Int → Int → Prop} : gRg2 ta tb E η k = ta E η (fun x => tb E η fun y => on2I [x, y] fun i j => RgOk i j ∧ k i j) := by
  unfold gRg2 on2I
  refine congrArg _ (funext fun x => congrArg _ (funext fun y => ?_))
  cases x <;> cases y <;> rfl
theorem x_dCall {r : CallD} : dCall r at_ E η QD = at_ E η (fun ds => r ds QD) := id rfl
theorem x_dCallF {wf : FT} : dCallF wf ct E η QD = ct E η (fun cs => wf never cs QD) := id rfl
theorem x_dSl {tl th : OT} : dSl ta tl th E η QD = ta E η (fun x => tl E η fun l => th E η fun h => onSeq x (fun ds => QD (.list (cutD ds l h))) fun ds => QD (.tuple (cutD ds l h))) := id rfl
theorem x_oNone : oNone E η QO = QO none := id rfl
theorem x_oSome : oSome t E η QO = t E η (fun x => onInt x fun i => QO (some i)) := id rfl
theorem x_dAnd : dAnd ta tb E η QD = ta E η (fun x => ifB x fun c => if c = true then tb E η QD else QD (.bool false)) := id rfl
theorem x_dOr : dOr ta tb E η QD = ta E η (fun x => ifB x fun c => if c = true then QD (.bool true) else tb E η QD) := id rfl
theorem x_dNot : dNot ta E η QD = ta E η (fun x => ifB x fun c => QD (.bool (!c))) := id rfl
theorem x_oNeg : oNeg ta E η QD = ta E η (fun x => onInt x fun i => QD (.int (-i))) := id rfl
theorem x_bVal : bVal t E η QB = t E η (fun x => ifB x QB) := id rfl
theorem x_bAnd : bAnd b1 b2 E η QB = b1 E η (fun c => if c = true then b2 E η QB else QB false) := id rfl
theorem x_bOr : bOr b1 b2 E η QB = b1 E η (fun c => if c = true then QB true else b2 E η QB) := id rfl
theorem x_bNot : bNot b E η QB = b E η (fun c => QB (!c)) := id rfl
theorem x_dIf : dIf b ta tb E η QD = b E η (fun c => if c = true then ta E η QD else tb E η QD) := id rfl
theorem x_dChain {r r' : OpD} : dChain r r' ta tb tc E η QD = ta E η (fun x => tb E η fun y => r x y fun z => ifB z fun k => if k = true then tc E η fun w => r' y w QD else QD (.bool false)) := id rfl
theorem x_aNil : aNil E η QL = QL [] := id rfl
theorem x_aCons : aCons t at_ E η QL = t E η (fun d => at_ E η fun ds => QL (d :: ds)) := id rfl
theorem x_cNil : cNil E η QC = QC [] := id rfl
theorem x_cCons : cCons t ct E η QC = t E η (fun d => ct E η fun cs => QC (.dat d :: cs)) := id rfl
theorem x_cDrw : cDrw i ct E η QC = isDrw η[i]? (ct E η fun cs => QC (.drw :: cs)) := id rfl
theorem x_iSeq : iSeq t E η QL = t E η (fun d => onSeq d QL QL) := id rfl
theorem x_iRange1 : iRange1 at_ E η QL = at_ E η (fun ds => on1I ds fun j => (-(2 ^ 62) ≤ j ∧ j < 2 ^ 62) ∧ QL (rangeD 0 j.toNat)) := id rfl
theorem x_iRange2 : iRange2 at_ E η QL = at_ E η (fun ds => on2I ds fun i j => (-(2 ^ 62) ≤ i ∧ i < 2 ^ 62 ∧ -(2 ^ 62) ≤ j ∧ j < 2 ^ 62) ∧ QL (rangeD i (j - i).toNat)) := id rfl
theorem x_iZip2 : iZip2 at_ E η QL = at_ E η (fun ds => on2S ds fun xs ys => QL (pairsD xs ys)) := id rfl
theorem x_iEnum1 : iEnum1 t E η QL = t E η (fun d => onSeq d (fun ds => QL (pairsD (rangeD 0 ds.length) ds)) fun ds => QL (pairsD (rangeD 0 ds.length) ds)) := id rfl
theorem x_nSortSet : nSortSet t E η QL = t E η (fun d => onList d fun xs => SetOk xs ∧ ∀ ys, ys.Pairwise (fun a b => PySem.W.dataLt a b = true) → (∀ d, d ∈ ys ↔ d ∈ xs) → QL ys) := id rfl
theorem x_nSortSetE : nSortSetE t E η QL = t E η (fun d => onList d fun xs => SetOkE xs ∧ ∀ ys, ys.Pairwise (fun a b => PySem.W.dataLt a b = true) → (∀ d, d ∈ ys ↔ d ∈ xs) → QL ys) := id rfl
theorem x_dDict0 : dDict0 E η QD = QD (.dict []) := id rfl
theorem x_sIns {t1 t2 : ET} : sIns i t1 t2 E z η = onOwn η[i]? (fun ds => t1 E (lend η) fun d1 => onInt d1 fun k => t2 E η fun d2 => (0 ≤ k ∧ k < 2 ^ 63 ∧ ds.length < sizeLine) ∧ z.nx (η.set i (.own (ds.take k.toNat ++ [d2] ++ ds.drop k.toNat)))) := id rfl
theorem x_sPut {t1 t2 : ET} : sPut i t1 t2 E z η = onOwn η[i]? (fun ds => t2 E η fun d2 => t1 E (lend η) fun d1 => onInt d1 fun k => ∃ j, ixN ds.length k = some j ∧ z.nx (η.set i (.own (ds.set j d2)))) := id rfl
theorem x_sRaise {nm f : Str} {t : ET} : sRaise nm f t E z η = t E (lend η) (fun d => E nm [(f, d)]) := id rfl
theorem x_dCallE {wf : FT} {ts : CT} : dCallE wf ts E η QD = ts E η (fun cs => wf E cs QD) := id rfl
theorem x_sTry1 {s : SD} {cn f : Str} {k : D → D} : sTry1 s cn f k E z η = s (fun nm fs => nm = cn ∧ ∃ d, fs = [(f, d)] ∧ z.rt (k d)) z η := id rfl
def onTupO (d : D) (k : List D → Prop) : Prop := match d with | .tuple xs => k xs | _ => False
theorem x_onTupO {ds : List D} : onTupO (.tuple ds) QL = QL ds := id rfl
theorem x_nSortSetI : nSortSetI t E η QL = t E η (fun d => onTupO d fun xs => xs.length < 64 ∧ xs.all isI = true ∧ ∀ ns : List Int, ns.Pairwise (· < ·) → (∀ i, i ∈ ns ↔ i ∈ xs.map iOf) → QL (ns.map .int)) := id rfl
theorem x_fMinL {xs : List D} : fMinL [.list xs] QD = (MinOk xs ∧ QD (minD xs)) := id rfl
theorem x_fSumL {xs ys : List D} : fSumL [.list xs, .list ys] QD = (xs.all isL = true ∧ ys.length + (xs.map lOf).flatten.length ≤ sizeLine ∧ QD (.list (ys ++ (xs.map lOf).flatten))) := id rfl
theorem x_gN {d : D} : gN i d η QE = QE (η.set i (.dat d)) := id rfl
theorem x_gT {ds : List D} : gT gs (.tuple ds) η QE = gs ds η QE := id rfl
theorem x_gCons {d : D} {r : List D} : gCons' g gs (d :: r) η QE = g d η (fun η1 => gs r η1 QE) := id rfl
theorem x_gNil : gNil' [] η QE = QE η := id rfl
theorem x_bYes : bYes E η QB = QB true := id rfl
theorem x_fLenL {xs : List D} : fLen [.list xs] QD = QD (.int xs.length) := id rfl
theorem x_fLenT {xs : List D} : fLen [.tuple xs] QD = QD (.int xs.length) := id rfl
theorem x_fLenS {x : Str} : fLen [.str x] QD = (x.length ≤ sizeLine ∧ QD (.int x.length)) := id rfl
theorem x_fTupleL {xs : List D} : fTuple [.list xs] QD = QD (.tuple xs) := id rfl
theorem x_fTupleT {xs : List D} : fTuple [.tuple xs] QD = QD (.tuple xs) := id rfl
theorem x_fListL {xs : List D} : fList [.list xs] QL = QL xs := id rfl
theorem x_fListT {xs : List D} : fList [.tuple xs] QL = QL xs := id rfl
theorem x_fSorted {xs : List D} : fSorted [.list xs] QL = (SrtOk xs ∧ QL (sortD xs)) := id rfl
theorem x_fAll {xs : List D} : fAll [.list xs] QD = (xs.all isB = true ∧ QD (.bool ((xs.map bOf).all id))) := id rfl
theorem x_fAny {xs : List D} : fAny [.list xs] QD = (xs.all isB = true ∧ QD (.bool ((xs.map bOf).any id))) := id rfl
theorem x_fSum {xs : List D} : fSum [.list xs] QD = (xs.all isI = true ∧ QD (.int (xs.map iOf).sum)) := id rfl
theorem x_fIntI {i : Int} : fInt [.int i] QD = QD (.int i) := id rfl
theorem x_fIntB {c : Bool} : fInt [.bool c] QD = QD (.int (if c then 1 else 0)) := id rfl
theorem x_fMin2 {i j : Int} : fMin2 [.int i, .int j] QD = QD (.int (if j < i then j else i)) := id rfl
theorem x_fMax2 {i j : Int} : fMax2 [.int i, .int j] QD = QD (.int (if j > i then j else i)) := id rfl
theorem x_fRepr {d : D} : fRepr [d] QD = (reprOk d ∧ d.hasDict = false ∧ QD (.str d.shown)) := id rfl
theorem x_dIsi {T : String} : dIsi T ta E η QD = ta E η (fun d => QD (.bool (isiD T d))) := id rfl
theorem x_lend : lend η = η.map lendC := id rfl
theorem x_lendD {d : D} : lendC (.dat d) = .dat d := id rfl
theorem x_lendO {ds : List D} : lendC (.own ds) = .dat (.list ds) := id rfl
theorem x_lendR : lendC .drw = .drw := id rfl
theorem x_lendU : lendC .un = .un := id rfl
theorem x_lendS {ns : List Int} : lendC (.scr ns) = .scr ns := id rfl
theorem x_wipe0 : wipeD η [] = η := id rfl
theorem x_wipe1 {is : List Nat} : wipeD η (i :: is) = (wipeD η is).set i .un := id rfl
theorem x_addI {i j : Int} : oAdd (.int i) (.int j) QD = QD (.int (i + j)) := id rfl
theorem x_addS {i j : Str} : oAdd (.str i) (.str j) QD = (i.length + j.length ≤ sizeLine ∧ QD (.str (i ++ j))) := id rfl
theorem x_addL {xs ys : List D} : oAdd (.list xs) (.list ys) QD = (xs.length + ys.length ≤ sizeLine ∧ QD (.list (xs ++ ys))) := id rfl
theorem x_addT {xs ys : List D} : oAdd (.tuple xs) (.tuple ys) QD = (xs.length + ys.length ≤ sizeLine ∧ QD (.tuple (xs ++ ys))) := id rfl
theorem x_sub {i j : Int} : oSub (.int i) (.int j) QD = QD (.int (i - j)) := by
  show (True ∧ QD (.int (i - j))) = _
  exact true_and _
theorem x_mod {i j : Int} : oMod (.int i) (.int j) QD = (0 < j ∧ QD (.int (i % j))) := id rfl
theorem x_div {i j : Int} : oDiv (.int i) (.int j) QD = (CDiv i j ∧ QD (.int (i / j))) := id rfl
theorem x_pow {i j : Int} : oPow (.int i) (.int j) QD = (CPow i j ∧ QD (.int (i ^ j.toNat))) := id rfl
theorem x_mulI {i j : Int} : oMul (.int i) (.int j) QD = (CMul i j ∧ QD (.int (i * j))) := id rfl
theorem x_mulL {xs : List D} {j : Int} : oMul (.list xs) (.int j) QD = ((0 ≤ j ∧ j < 2 ^ 63 ∧ xs.length * j.toNat ≤ sizeLine) ∧ QD (.list (List.replicate j.toNat xs).flatten)) := id rfl
theorem x_eq {x y : D} : oEq x y QD = (eqOk x y = true ∧ QD (.bool (PyData.eqv x y))) := id rfl
theorem x_ne {x y : D} : oNe x y QD = (eqOk x y = true ∧ QD (.bool (!PyData.eqv x y))) := id rfl
theorem x_inL {x : D} {ds : List D} {neg : Bool} : oIn neg x (.list ds) QD = (SeqAt.shaped x = true ∧ SeqAt.shaped (.list ds) = true ∧ QD (.bool ((ds.any fun z => PyData.eqv z x) != neg))) := by
  cases x <;> exact id rfl
theorem x_inT {x : D} {ds : List D} {neg : Bool} : oIn neg x (.tuple ds) QD = (SeqAt.shaped x = true ∧ SeqAt.shaped (.tuple ds) = true ∧ QD (.bool ((ds.any fun z => PyData.eqv z x) != neg))) := by
  cases x <;> exact id rfl
theorem x_mul2T {xs : List D} {j : Int} : oMul2 (.tuple xs) (.int j) QD = ((xs ≠ [] ∧ 1 ≤ j ∧ j ≤ 1000 ∧ xs.length ≤ 1000) ∧ QD (.tuple (List.replicate j.toNat xs).flatten)) := id rfl
theorem x_sM2 {m : MT} : sM2 i j m E z η = m E η (fun cs => on2C cs fun x y => z.nx ((η.set i x).set j y)) := id rfl
theorem x_sM3 {m : MT} {k : Nat} : sM3 i j k m E z η = m E η (fun cs => on3C cs fun x y u => z.nx (((η.set i x).set j y).set k u)) := id rfl
theorem x_on2C {k : Cell → Cell → Prop} {x y : Cell} : on2C [x, y] k = k x y := id rfl
theorem x_on3C {k : Cell → Cell → Cell → Prop} {x y u : Cell} : on3C [x, y, u] k = k x y u := id rfl
theorem x_mNil : mNil E η QC = QC [] := id rfl
theorem x_mD {ms : MT} : mD t ms E η QC = t E η (fun d => ms E η fun cs => QC (.dat d :: cs)) := id rfl
theorem x_mN {ms : MT} : mN nt ms E η QC = nt E η (fun ds => ms E η fun cs => QC (.own ds :: cs)) := id rfl
theorem x_aStar {t : ET} {ts : AT} : aStar t ts E η QL = t E η (fun d => onSeq d (fun ds => ts E η fun es => QL (ds ++ es)) fun ds => ts E η fun es => QL (ds ++ es)) := id rfl
theorem x_fSortedD {kvs : List (D × D)} : fSortedD [.dict kvs] QL = (SrtOk (kvs.map (·.1)) ∧ QL (sortD (kvs.map (·.1)))) := id rfl
theorem x_dDc {own : List Nat} {tk tv : ET} : dDc own it g b tk tv E η QD = it E η (fun ds => compDD g b tk tv (wipeD η own) ds [] fun kvs => kvs.length ≤ sizeLine ∧ QD (.dict kvs)) := id rfl
theorem x_fSortedT {xs : List D} : fSortedT [.tuple xs] QL = (SrtT xs ∧ QL (sortD xs)) := id rfl
theorem x_iEnumZ {ts : AT} : iEnumZ ts E η QL = ts E η (fun ds => on2T ds fun xs ys => xs.length ≤ ys.length ∧ QL (pairsD (rangeD 0 xs.length) (pairsD xs ys))) := id rfl
theorem x_on2TT {xs ys : List D} {k : List D → List D → Prop} : on2T [.tuple xs, .tuple ys] k = k xs ys := id rfl
def onSeqR (x : D) (Q : D → Prop) : Prop := match x with
  | .list ds => Q (.list ds.reverse)
  | .tuple ds => Q (.tuple ds.reverse)
  | _ => False
def onCat (x y : D) (Q : List D → Prop) : Prop := match x, y with
  | .list xs, .list ys => xs.length + ys.length ≤ sizeLine ∧ Q (xs ++ ys)
  | _, _ => False
/-- is it None? -/
def isN : D → Bool
  | .none => true
  | _ => false
theorem x_isN {x : D} {neg : Bool} : oIs neg x .none QD = QD (.bool (isN x != neg)) := by
  cases x <;> exact id rfl
theorem x_isN0 : isN .none = true := id rfl
theorem x_isNI {i : Int} : isN (.int i) = false := id rfl
theorem x_isNT {xs : List D} : isN (.tuple xs) = false := id rfl
theorem x_isNL {xs : List D} : isN (.list xs) = false := id rfl
theorem x_isNS {x : Str} : isN (.str x) = false := id rfl
theorem x_isNB {c : Bool} : isN (.bool c) = false := id rfl
theorem x_lt {i j : Int} : oLt (.int i) (.int j) QD = QD (.bool (decide (i < j))) := id rfl
theorem x_ltT {xs ys : List D} : oLt (.tuple xs) (.tuple ys) QD = ((PySem.W.alike (.tuple xs) (.tuple ys) = true ∧ (PyData.tuple xs).depth ≤ 64 ∧ PyData.hasDict (.tuple xs) = false ∧ PyData.hasDict (.tuple ys) = false) ∧ QD (.bool (PySem.W.dataLt (.tuple xs) (.tuple ys)))) := id rfl
theorem x_ord {f : Int → Int → Bool} {k : D → D → Bool} {i j : Int} : oOrd f k (.int i) (.int j) QD = QD (.bool (f i j)) := id rfl
theorem x_ordT {f : Int → Int → Bool} {k : D → D → Bool} {xs ys : List D} : oOrd f k (.tuple xs) (.tuple ys) QD = ((PySem.W.alike (.tuple xs) (.tuple ys) = true ∧ (PyData.tuple xs).depth ≤ 64 ∧ PyData.hasDict (.tuple xs) = false ∧ PyData.hasDict (.tuple ys) = false) ∧ QD (.bool (k (.tuple xs) (.tuple ys)))) := id rfl
theorem x_ixL {ds : List D} {i : Int} : oIx (.list ds) (.int i) QD = onS (atI ds i) QD := id rfl
theorem x_ixT {ds : List D} {i : Int} : oIx (.tuple ds) (.int i) QD = onS (atI ds i) QD := id rfl
theorem x_ixS {x : Str} {i : Int} : oIx (.str x) (.int i) QD = (x.length ≤ sizeLine ∧ onS (atI x.cps.toList i) fun n => QD (.str ⟨#[n]⟩)) := id rfl
theorem x_fListD {kvs : List (D × D)} : fListD [.dict kvs] QL = QL (kvs.map (·.1)) := id rfl
theorem x_fListDL {ds : List D} : fListD [.list ds] QL = QL ds := id rfl
theorem body_in {E : XP} {m n : Nat} {cs : List Cell} (hl : cs.length = m) (k : s E { nx := fun _ => QD .none, rt := QD } (cs ++ List.replicate (n - cs.length) .un)) : bodyD m n s E cs QD := ⟨hl, k⟩
theorem x_fReprD {d : D} : fReprD [d] QD = (reprOk d ∧ QD (.str d.shown)) := id rfl
theorem x_dRev {ta : ET} : dRev ta E η QD = ta E η (fun x => onSeqR x QD) := id rfl
theorem x_nCat2 {ta tb : ET} : nCat2 ta tb E η QL = ta E η (fun x => tb E η fun y => onCat x y QL) := by
  first | exact id rfl | (unfold nCat2 onCat; rfl)
theorem x_onSeqRL {ds : List D} : onSeqR (.list ds) QD = QD (.list ds.reverse) := id rfl
theorem x_onSeqRT {ds : List D} : onSeqR (.tuple ds) QD = QD (.tuple ds.reverse) := id rfl
theorem x_onCat {xs ys : List D} : onCat (.list xs) (.list ys) QL = (xs.length + ys.length ≤ sizeLine ∧ QL (xs ++ ys)) := id rfl
theorem x_eqT0 {xs : List D} : oEqT0 (.tuple xs) (.tuple []) QD = QD (.bool xs.isEmpty) := id rfl
theorem x_neL0 {xs : List D} : oNeL0 (.list xs) (.list []) QD = QD (.bool (!xs.isEmpty)) := id rfl
theorem x_dIsE {i : Nat} {a dx : Addr} {b : Bool} : dIsE i a dx b E η QD = ((∃ f d, η[i]? = some (.obj a (some (dx, f, d)))) ∧ QD (.bool b)) := id rfl
theorem x_dFldE {i : Nat} {a dx : Addr} {f : Str} : dFldE i a dx f E η QD = (∃ d, η[i]? = some (.obj a (some (dx, f, d))) ∧ QD d) := id rfl
theorem x_sOwnCat {i : Nat} {t : ET} {z : EndsD} : sOwnCat i t E z η = onOwn η[i]? (fun ds => t E η fun y => onList y fun ys => ds.length + ys.length ≤ sizeLine ∧ z.nx (η.set i (.own (ds ++ ys)))) := by
  first | exact id rfl | (unfold sOwnCat onOwn onList; rfl)
end
end DL

/-! DLdet: what a term asks it asks of one value: told again the same. -/
namespace DL
open PySem L2
/-- F asks its question of one value alone -/
def Dt {α : Type} (F : (α → Prop) → Prop) : Prop := ∀ P, F P → ∃ a, P a ∧ ∀ Q : α → Prop, Q a → F Q
section
variable {α β : Type}
theorem Dt.pure (a : α) : Dt fun Q : α → Prop => Q a := fun P h => ⟨a, h, fun Q q => q⟩
theorem Dt.fls : Dt fun _ : α → Prop => False := fun P h => h.elim
theorem Dt.and {C : Prop} {F : (α → Prop) → Prop} (h : Dt F) : Dt fun Q => C ∧ F Q := fun P ⟨c, p⟩ => by
  obtain ⟨a, ha, k⟩ := h P p
  exact ⟨a, ha, fun Q q => ⟨c, k Q q⟩⟩
theorem Dt.bind {F : (β → Prop) → Prop} {G : β → (α → Prop) → Prop} (h : Dt F) (g : ∀ b, Dt (G b)) : Dt fun Q => F fun b => G b Q := fun P p => by
  obtain ⟨b, hb, k⟩ := h _ p
  obtain ⟨a, ha, k2⟩ := g b P hb
  exact ⟨a, ha, fun Q q => k _ (k2 Q q)⟩
theorem Dt.ite {c : Prop} [Decidable c] {F G : (α → Prop) → Prop} (h : Dt F) (g : Dt G) : Dt fun Q => if c then F Q else G Q := by
  by_cases hc : c
  · simp only [if_pos hc]; exact h
  · simp only [if_neg hc]; exact g
theorem Dt.map {F : (β → Prop) → Prop} (h : Dt F) (f : β → α) : Dt fun Q : α → Prop => F fun b => Q (f b) := h.bind fun b => .pure (f b)
theorem Dt.onS {o : Option β} {G : β → (α → Prop) → Prop} (g : ∀ b, Dt (G b)) : Dt fun Q => DL.onS o fun b => G b Q := by
  cases o with
  | none => exact fun P h => h.elim
  | some b => exact g b
end
/-! ### operations -/
class DOp (r : OpD) : Prop where
  dt : ∀ x y, Dt (r x y)
instance : DOp oAdd := ⟨fun x y => by cases x <;> cases y <;> first | exact Dt.fls | exact Dt.pure _ | exact (Dt.pure _).and⟩
instance {C : Int → Int → Prop} {f : Int → Int → Int} : DOp (oI C f) := ⟨fun x y => by cases x <;> cases y <;> first | exact Dt.fls | exact (Dt.pure _).and⟩
instance : DOp oSub := inferInstanceAs (DOp (oI _ _))
instance : DOp oMod := inferInstanceAs (DOp (oI _ _))
instance : DOp oDiv := inferInstanceAs (DOp (oI _ _))
instance : DOp oPow := inferInstanceAs (DOp (oI _ _))
instance : DOp oMul := ⟨fun x y => by cases x <;> cases y <;> first | exact Dt.fls | exact (Dt.pure _).and⟩
instance : DOp oMul2 := ⟨fun x y => by cases x <;> cases y <;> first | exact Dt.fls | exact (Dt.pure _).and⟩
instance : DOp oEq := ⟨fun x y => (Dt.pure _).and⟩
instance : DOp oNeL0 := ⟨fun x y => by cases x <;> cases y <;> first | exact Dt.fls | (rename_i ys; cases ys <;> first | exact Dt.fls | exact Dt.pure _)⟩
instance : DOp oNe := ⟨fun x y => (Dt.pure _).and⟩
instance {b : Bool} : DOp (oIn b) := ⟨fun x y => by cases x <;> cases y <;> first | exact Dt.fls | exact (Dt.pure _).and | exact ((Dt.pure _).and).and⟩
instance {b : Bool} : DOp (oIs b) := ⟨fun x y => by cases x <;> cases y <;> first | exact Dt.fls | exact Dt.pure _⟩
instance : DOp oLt := ⟨fun x y => by cases x <;> cases y <;> first | exact Dt.fls | exact Dt.pure _ | exact (Dt.pure _).and⟩
instance {f : Int → Int → Bool} {k : D → D → Bool} : DOp (oOrd f k) := ⟨fun x y => by cases x <;> cases y <;> first | exact Dt.fls | exact Dt.pure _ | exact (Dt.pure _).and⟩
instance : DOp oIx := ⟨fun x y => by cases x <;> cases y <;> first | exact Dt.fls | exact Dt.onS fun b => Dt.pure b | exact (Dt.onS fun b => Dt.pure _).and⟩
class DCall {α : Type} (r : List D → (α → Prop) → Prop) : Prop where
  dt : ∀ ds, Dt (r ds)
/-- by cases of up to two arguments -/
theorem dt_args {α : Type} {r : List D → (α → Prop) → Prop} (h0 : Dt (r [])) (h1 : ∀ x, Dt (r [x])) (h2 : ∀ x y, Dt (r [x, y])) (h3 : ∀ x y z l, Dt (r (x :: y :: z :: l))) : DCall r := ⟨fun ds => match ds with
  | [] => h0
  | [x] => h1 x
  | [x, y] => h2 x y
  | x :: y :: z :: l => h3 x y z l⟩
instance : DCall fLen := dt_args .fls (fun x => by cases x <;> first | exact Dt.fls | exact Dt.pure _ | exact (Dt.pure _).and) (fun x _ => by cases x <;> exact Dt.fls) fun x _ _ _ => by cases x <;> exact Dt.fls
instance : DCall fTuple := dt_args .fls (fun x => by cases x <;> first | exact Dt.fls | exact Dt.pure _) (fun x _ => by cases x <;> exact Dt.fls) fun x _ _ _ => by cases x <;> exact Dt.fls
instance : DCall fList := dt_args .fls (fun x => by cases x <;> first | exact Dt.fls | exact Dt.pure _) (fun x _ => by cases x <;> exact Dt.fls) fun x _ _ _ => by cases x <;> exact Dt.fls
instance : DCall fSorted := dt_args .fls (fun x => by cases x <;> first | exact Dt.fls | exact (Dt.pure _).and) (fun x _ => by cases x <;> exact Dt.fls) fun x _ _ _ => by cases x <;> exact Dt.fls
instance : DCall fSortedT := dt_args .fls (fun x => by cases x <;> first | exact Dt.fls | exact (Dt.pure _).and) (fun x _ => by cases x <;> exact Dt.fls) fun x _ _ _ => by cases x <;> exact Dt.fls
instance : DCall fSortedD := dt_args .fls (fun x => by cases x <;> first | exact Dt.fls | exact (Dt.pure _).and) (fun x _ => by cases x <;> exact Dt.fls) fun x _ _ _ => by cases x <;> exact Dt.fls
instance : DCall fReprD := dt_args .fls (fun x => (Dt.pure _).and) (fun _ _ => .fls) fun _ _ _ _ => .fls
instance : DCall fAll := dt_args .fls (fun x => by cases x <;> first | exact Dt.fls | exact (Dt.pure _).and) (fun x _ => by cases x <;> exact Dt.fls) fun x _ _ _ => by cases x <;> exact Dt.fls
instance : DCall fAny := dt_args .fls (fun x => by cases x <;> first | exact Dt.fls | exact (Dt.pure _).and) (fun x _ => by cases x <;> exact Dt.fls) fun x _ _ _ => by cases x <;> exact Dt.fls
instance : DCall fSum := dt_args .fls (fun x => by cases x <;> first | exact Dt.fls | exact (Dt.pure _).and) (fun x _ => by cases x <;> exact Dt.fls) fun x _ _ _ => by cases x <;> exact Dt.fls
instance : DCall fInt := dt_args .fls (fun x => by cases x <;> first | exact Dt.fls | exact Dt.pure _) (fun x _ => by cases x <;> exact Dt.fls) fun x _ _ _ => by cases x <;> exact Dt.fls
instance : DCall fRepr := dt_args .fls (fun x => ((Dt.pure _).and).and) (fun _ _ => .fls) fun _ _ _ _ => .fls
instance : DCall fMin2 := dt_args .fls (fun x => by cases x <;> exact Dt.fls) (fun x y => by cases x <;> cases y <;> first | exact Dt.fls | exact Dt.pure _) fun x y _ _ => by cases x <;> cases y <;> exact Dt.fls
instance : DCall fMax2 := dt_args .fls (fun x => by cases x <;> exact Dt.fls) (fun x y => by cases x <;> cases y <;> first | exact Dt.fls | exact Dt.pure _) fun x y _ _ => by cases x <;> cases y <;> exact Dt.fls
/-! ### expressions -/
class DTm {α : Type} (t : XP → EnvD → (α → Prop) → Prop) : Prop where
  dt : ∀ E η, Dt (t E η)
class DF (w : FT) : Prop where
  dt : ∀ E cs, Dt (w E cs)
section
variable {t u ta tb tc : ET} {b b1 b2 : BT} {nt : NT} {at_ : AT} {ct : CT} {it : IT} {r r' : OpD} {w : FT} {m : MT} {tl th : OT}
theorem Dt.ifB {α : Type} {d : D} {G : Bool → (α → Prop) → Prop} (g : ∀ c, Dt (G c)) : Dt fun Q => DL.ifB d fun c => G c Q := by
  cases d <;> first | exact Dt.fls | exact g _
instance {i : Nat} : DTm (dV i) := ⟨fun E η => by unfold dV; split <;> first | exact Dt.pure _ | exact Dt.fls⟩
instance {d : D} : DTm (dK d) := ⟨fun E η => Dt.pure d⟩
instance {i : Nat} : DTm (lenScr i) := ⟨fun E η => by unfold lenScr; split <;> first | exact Dt.pure _ | exact Dt.fls⟩
instance [ha : DTm ta] [hb : DTm tb] [hr : DOp r] : DTm (dOp r ta tb) := ⟨fun E η => (ha.dt E η).bind fun x => (hb.dt E η).bind fun y => hr.dt x y⟩
instance [ha : DTm at_] : DTm (dTup at_) := ⟨fun E η => (ha.dt E η).bind fun ds => (Dt.pure _).and⟩
instance [ha : DTm nt] : DTm (dNew nt) := ⟨fun E η => (ha.dt E η).map _⟩
instance {r : CallD} [ha : DTm at_] [hr : DCall r] : DTm (dCall r at_) := ⟨fun E η => (ha.dt E η).bind hr.dt⟩
instance {r : List D → (List D → Prop) → Prop} [ha : DTm at_] [hr : DCall r] : DTm (nCall r at_) := ⟨fun E η => (ha.dt E η).bind hr.dt⟩
instance [ha : DTm ct] [hw : DF w] : DTm (dCallF w ct) := ⟨fun E η => (ha.dt E η).bind fun cs => hw.dt _ cs⟩
instance : DTm oNone := ⟨fun E η => Dt.pure _⟩
instance [ha : DTm ta] : DTm (oSome ta) := ⟨fun E η => (ha.dt E η).bind fun x => by cases x <;> first | exact Dt.fls | exact Dt.pure _⟩
instance [ha : DTm ta] [hl : DTm tl] [hh : DTm th] : DTm (dSl ta tl th) := ⟨fun E η => (ha.dt E η).bind fun x => (hl.dt E η).bind fun l => (hh.dt E η).bind fun h => by cases x <;> first | exact Dt.fls | exact Dt.pure _⟩
instance [ha : DTm ta] [hb : DTm tb] : DTm (dAnd ta tb) := ⟨fun E η => (ha.dt E η).bind fun x => .ifB fun c => .ite (hb.dt E η) (.pure _)⟩
instance [ha : DTm ta] [hb : DTm tb] : DTm (dOr ta tb) := ⟨fun E η => (ha.dt E η).bind fun x => .ifB fun c => .ite (.pure _) (hb.dt E η)⟩
instance [ha : DTm ta] : DTm (dNot ta) := ⟨fun E η => (ha.dt E η).bind fun x => .ifB fun c => .pure _⟩
instance [ha : DTm ta] : DTm (oNeg ta) := ⟨fun E η => (ha.dt E η).bind fun x => by cases x <;> first | exact Dt.fls | exact Dt.pure _⟩
instance [hb : DTm b] [ha : DTm ta] [hc : DTm tb] : DTm (dIf b ta tb) := ⟨fun E η => (hb.dt E η).bind fun c => .ite (ha.dt E η) (hc.dt E η)⟩
instance [ha : DTm ta] [hb : DTm tb] [hc : DTm tc] [hr : DOp r] [hr' : DOp r'] : DTm (dChain r r' ta tb tc) := ⟨fun E η => (ha.dt E η).bind fun x => (hb.dt E η).bind fun y => (hr.dt x y).bind fun z => .ifB fun k => .ite ((hc.dt E η).bind fun w => hr'.dt y w) (.pure _)⟩
instance {T : String} [ha : DTm ta] : DTm (dIsi T ta) := ⟨fun E η => (ha.dt E η).map _⟩
instance [ha : DTm ta] : DTm (bVal ta) := ⟨fun E η => (ha.dt E η).bind fun x => .ifB fun c => .pure c⟩
instance [h1 : DTm b1] [h2 : DTm b2] : DTm (bAnd b1 b2) := ⟨fun E η => (h1.dt E η).bind fun c => .ite (h2.dt E η) (.pure _)⟩
instance [h1 : DTm b1] [h2 : DTm b2] : DTm (bOr b1 b2) := ⟨fun E η => (h1.dt E η).bind fun c => .ite (.pure _) (h2.dt E η)⟩
instance {c1 : BT} [h0 : DTm c1] [h1 : DTm b1] [h2 : DTm b2] : DTm (bIfE c1 b1 b2) := ⟨fun E η => (h0.dt E η).bind fun c => .ite (h1.dt E η) (h2.dt E η)⟩
instance [h1 : DTm b1] : DTm (bNot b1) := ⟨fun E η => (h1.dt E η).map _⟩
instance : DTm bYes := ⟨fun E η => .pure _⟩
instance : DTm aNil := ⟨fun E η => .pure _⟩
instance [ha : DTm ta] [hb : DTm at_] : DTm (aCons ta at_) := ⟨fun E η => (ha.dt E η).bind fun d => (hb.dt E η).map _⟩
instance [ha : DTm ta] [hb : DTm at_] : DTm (aStar ta at_) := ⟨fun E η => (ha.dt E η).bind fun d => by cases d <;> first | exact Dt.fls | exact (hb.dt E η).map _⟩
instance : DTm cNil := ⟨fun E η => .pure _⟩
instance [ha : DTm ta] [hb : DTm ct] : DTm (cCons ta ct) := ⟨fun E η => (ha.dt E η).bind fun d => (hb.dt E η).map _⟩
instance : DTm mNil := ⟨fun E η => .pure _⟩
instance [ha : DTm ta] [hb : DTm m] : DTm (mD ta m) := ⟨fun E η => (ha.dt E η).bind fun d => (hb.dt E η).map _⟩
instance [ha : DTm nt] [hb : DTm m] : DTm (mN nt m) := ⟨fun E η => (ha.dt E η).bind fun d => (hb.dt E η).map _⟩
instance [ha : DTm at_] : DTm (nLst at_) := ⟨fun E η => (ha.dt E η).bind fun ds => (Dt.pure _).and⟩
instance [ha : DTm ta] : DTm (iSeq ta) := ⟨fun E η => (ha.dt E η).bind fun d => by cases d <;> first | exact Dt.fls | exact Dt.pure _⟩
instance [ha : DTm ta] : DTm (iEnum1 ta) := ⟨fun E η => (ha.dt E η).bind fun d => by cases d <;> first | exact Dt.fls | exact Dt.pure _⟩
theorem dt_one {α : Type} {r : List D → (α → Prop) → Prop} (h1 : ∀ x, Dt (r [x])) (h0 : Dt (r [])) (h2 : ∀ x y l, Dt (r (x :: y :: l))) (ds : List D) : Dt (r ds) := match ds with
  | [] => h0
  | [x] => h1 x
  | x :: y :: l => h2 x y l
theorem dt_two {α : Type} {r : List D → (α → Prop) → Prop} (h2 : ∀ x y, Dt (r [x, y])) (h0 : Dt (r [])) (h1 : ∀ x, Dt (r [x])) (h3 : ∀ x y z l, Dt (r (x :: y :: z :: l))) (ds : List D) : Dt (r ds) := match ds with
  | [] => h0
  | [x] => h1 x
  | [x, y] => h2 x y
  | x :: y :: z :: l => h3 x y z l
instance [ha : DTm at_] : DTm (iRange1 at_) := ⟨fun E η => (ha.dt E η).bind (dt_one (fun x => by cases x <;> first | exact Dt.fls | exact (Dt.pure _).and) .fls fun x y l => by cases x <;> exact Dt.fls)⟩
instance [ha : DTm at_] : DTm (iRange2 at_) := ⟨fun E η => (ha.dt E η).bind (dt_two (fun x y => by cases x <;> cases y <;> first | exact Dt.fls | exact (Dt.pure _).and) .fls (fun x => by cases x <;> exact Dt.fls) fun x y z l => by cases x <;> cases y <;> exact Dt.fls)⟩
instance [ha : DTm at_] : DTm (iZip2 at_) := ⟨fun E η => (ha.dt E η).bind (dt_two (fun x y => by cases x <;> cases y <;> first | exact Dt.fls | exact Dt.pure _) .fls (fun x => by cases x <;> exact Dt.fls) fun x y z l => by cases x <;> cases y <;> exact Dt.fls)⟩
instance [ha : DTm at_] : DTm (iEnumZ at_) := ⟨fun E η => (ha.dt E η).bind (dt_two (fun x y => by cases x <;> cases y <;> first | exact Dt.fls | exact (Dt.pure _).and) .fls (fun x => by cases x <;> exact Dt.fls) fun x y z l => by cases x <;> cases y <;> exact Dt.fls)⟩
/-- two ints told one behind another -/
class DRg (g : GRg) : Prop where
  dt : ∀ E η P, g E η P → ∃ i j, P i j ∧ ∀ Q : Int → Int → Prop, Q i j → g E η Q
instance [ha : DTm ta] : DRg (gRg1 ta) := ⟨fun E η P h => by
  obtain ⟨x, hx, k⟩ := ha.dt E η _ h
  cases x with
  | int j => exact ⟨0, j, hx.2, fun Q q => k _ ⟨hx.1, q⟩⟩
  | _ => exact hx.elim⟩
instance [ha : DTm ta] [hb : DTm tb] : DRg (gRg2 ta tb) := ⟨fun E η P h => by
  obtain ⟨x, hx, k⟩ := ha.dt E η _ h
  obtain ⟨y, hy, k2⟩ := hb.dt E η _ hx
  cases x with
  | int i => cases y with
    | int j => exact ⟨i, j, hy.2, fun Q q => k _ (k2 _ ⟨hy.1, q⟩)⟩
    | _ => exact hy.elim
  | _ => exact hy.elim⟩
instance {g : GRg} [hg : DRg g] : DTm (nRg g) := ⟨fun E η P h => by
  obtain ⟨i, j, p, k⟩ := hg.dt E η _ h
  exact ⟨_, p, fun Q q => k _ q⟩⟩
instance {g : GRg} [hg : DRg g] : DTm (dTupRg g) := ⟨fun E η P h => by
  obtain ⟨i, j, p, k⟩ := hg.dt E η _ h
  exact ⟨_, p, fun Q q => k _ q⟩⟩
end
/-! ### targets, comprehensions -/
class DG' (g : GT) : Prop where
  dt : ∀ d η, Dt (g d η)
class DGs' (g : GTs) : Prop where
  dt : ∀ ds η, Dt (g ds η)
instance {i : Nat} : DG' (gN i) := ⟨fun d η => .pure _⟩
instance : DGs' gNil' := ⟨fun ds η => by cases ds <;> first | exact Dt.fls | exact Dt.pure _⟩
instance {g : GT} {gs : GTs} [h : DG' g] [h2 : DGs' gs] : DGs' (gCons' g gs) := ⟨fun ds η => by
  cases ds with
  | nil => exact Dt.fls
  | cons d r => exact (h.dt d η).bind fun η1 => h2.dt r η1⟩
instance {gs : GTs} [h2 : DGs' gs] : DG' (gT gs) := ⟨fun d η => by cases d <;> first | exact Dt.fls | exact h2.dt _ _⟩
theorem compD_dt {g : GT} {tt : BT} {te : ET} [hg : DG' g] [ht : DTm tt] [he : DTm te] {η0 : EnvD} : ∀ (ds acc : List D), Dt (compD g tt te η0 ds acc)
  | [], acc => .pure acc
  | d :: ds, acc => (hg.dt d η0).bind fun η1 => (ht.dt never η1).bind fun b => .ite ((he.dt never η1).bind fun y => (compD_dt ds (acc ++ [y])).and) (compD_dt ds acc)
instance {own : List Nat} {ti : IT} {g : GT} {tt : BT} {te : ET} [hi : DTm ti] [hg : DG' g] [ht : DTm tt] [he : DTm te] : DTm (nComp own ti g tt te) := ⟨fun E η => (hi.dt E η).bind fun ds => compD_dt ds []⟩
theorem compDD_dt {g : GT} {tt : BT} {tk tv : ET} [hg : DG' g] [ht : DTm tt] [hk : DTm tk] [hv : DTm tv] {η0 : EnvD} : ∀ (ds : List D) (acc : List (D × D)), Dt (compDD g tt tk tv η0 ds acc)
  | [], acc => .pure acc
  | d :: ds, acc => (hg.dt d η0).bind fun η1 => (ht.dt never η1).bind fun b => .ite ((hk.dt never η1).bind fun k => (hv.dt never η1).bind fun v => ((compDD_dt ds (putD acc k v)).and).and) (compDD_dt ds acc)
instance {own : List Nat} {ti : IT} {g : GT} {tt : BT} {tk tv : ET} [hi : DTm ti] [hg : DG' g] [ht : DTm tt] [hk : DTm tk] [hv : DTm tv] : DTm (dDc own ti g tt tk tv) := ⟨fun E η => (hi.dt E η).bind fun ds => (compDD_dt ds []).bind fun kvs => (Dt.pure _).and⟩
theorem compD2_dt {vs1 : List Nat} {g g1 : GT} {tt tt1 : BT} {ti1 : IT} {te : ET} [hg : DG' g] [ht : DTm tt] [hi : DTm ti1] [hg1 : DG' g1] [ht1 : DTm tt1] [he : DTm te] {η0 : EnvD} : ∀ (ds acc : List D), Dt (compD2 vs1 g tt ti1 g1 tt1 te η0 ds acc)
  | [], acc => .pure acc
  | d :: ds, acc => (hg.dt d η0).bind fun η1 => (ht.dt never η1).bind fun b => .ite ((hi.dt never η1).bind fun es => (compD_dt es acc).bind fun acc' => compD2_dt ds acc') (compD2_dt ds acc)
instance {own vs1 : List Nat} {ti ti1 : IT} {g g1 : GT} {tt tt1 : BT} {te : ET} [hi : DTm ti] [hg : DG' g] [ht : DTm tt] [hi1 : DTm ti1] [hg1 : DG' g1] [ht1 : DTm tt1] [he : DTm te] : DTm (nComp2 own vs1 ti g tt ti1 g1 tt1 te) := ⟨fun E η => (hi.dt E η).bind fun ds => compD2_dt ds []⟩
instance : DTm dDict0 := ⟨fun E η => Dt.pure _⟩
/-! ### statements -/
inductive Out where
  | nx (η : EnvD)
  | rt (d : D)
  | bk (η : EnvD)
  | ct (η : EnvD)
def zo (P : Out → Prop) : EndsD := { nx := fun η => P (.nx η), rt := fun d => P (.rt d), bk := fun η => P (.bk η), ct := fun η => P (.ct η) }
def oz (z : EndsD) : Out → Prop
  | .nx η => z.nx η
  | .rt d => z.rt d
  | .bk η => z.bk η
  | .ct η => z.ct η
class DSt (t : SD) : Prop where
  dt : ∀ E η, Dt fun P : Out → Prop => t E (zo P) η
section
variable {t u ta tb tc : ET} {b b1 b2 : BT} {nt : NT} {at_ : AT} {it : IT} {g : GT} {s s1 s2 : SD} {i j k : Nat} {m : MT}
/-- behind a statement, by how it ends -/
theorem Dt.seq {α : Type} {E : XP} {η : EnvD} [h1 : DSt s1] {z : (α → Prop) → EndsD} {G : Out → (α → Prop) → Prop} (hz : ∀ P, z P = zo fun o => G o P) (g : ∀ o, Dt (G o)) : Dt fun P => s1 E (z P) η := by
  have : (fun P => s1 E (z P) η) = fun P => s1 E (zo fun o => G o P) η := funext fun P => by rw [hz]
  rw [this]
  exact (h1.dt E η).bind g
def outSeq (E : XP) (s2 : SD) : Out → (Out → Prop) → Prop
  | .nx η => fun P => s2 E (zo P) η
  | o => fun P => P o
instance [h1 : DSt s1] [h2 : DSt s2] : DSt (sSeq s1 s2) := ⟨fun E η => Dt.seq (s1 := s1) (G := outSeq E s2) (fun P => rfl) fun o => by
  cases o with
  | nx η' => exact h2.dt E η'
  | _ => exact Dt.pure _⟩
instance : DSt sNext := ⟨fun E η => .pure (Out.nx η)⟩
instance : DSt sBreak := ⟨fun E η => .pure (Out.bk η)⟩
instance : DSt sCont := ⟨fun E η => .pure (Out.ct η)⟩
instance : DSt sNever := ⟨fun E η => .fls⟩
instance : DSt sRetN := ⟨fun E η => .pure (Out.rt .none)⟩
instance [h : DTm t] : DSt (sSet i t) := ⟨fun E η => (h.dt E η).map fun d => Out.nx (η.set i (.dat d))⟩
instance [h : DTm t] : DSt (sSetL i t) := ⟨fun E η => (h.dt E (lend η)).bind fun d => (Dt.pure (Out.nx (η.set i (.dat d)))).and⟩
instance [h : DTm nt] : DSt (sOwn i nt) := ⟨fun E η => (h.dt E η).map fun d => Out.nx (η.set i (.own d))⟩
instance [h : DTm nt] : DSt (sOwnL i nt) := ⟨fun E η => (h.dt E (lend η)).bind fun d => (Dt.pure (Out.nx (η.set i (.own d)))).and⟩
instance [h : DTm nt] : DSt (sNew i nt) := ⟨fun E η => (h.dt E η).map fun d => Out.nx (η.set i (.dat (.list d)))⟩
instance [h : DTm t] [h2 : DTm u] : DSt (sPar i j t u) := ⟨fun E η => (h.dt E η).bind fun x => (h2.dt E η).map fun y => Out.nx ((η.set i (.dat x)).set j (.dat y))⟩
instance [h : DTm nt] [h2 : DTm u] : DSt (sParN i j nt u) := ⟨fun E η => (h.dt E η).bind fun x => (h2.dt E η).map fun y => Out.nx ((η.set i (.own x)).set j (.dat y))⟩
instance [h : DTm t] : DSt (sRet t) := ⟨fun E η => (h.dt E (lend η)).map fun d => Out.rt d⟩
instance [hb : DTm b] [h1 : DSt s1] [h2 : DSt s2] : DSt (sIf b s1 s2) := ⟨fun E η => (hb.dt E (lend η)).bind fun k => .ite (h1.dt E η) (h2.dt E η)⟩
instance [h : DTm t] : DSt (sDrop t) := ⟨fun E η => (h.dt E (lend η)).map fun _ => Out.nx η⟩
instance [h : DSt s] : DSt (sFrz i s) := ⟨fun E η => h.dt E (frz i η)⟩
theorem Dt.onOwn {α : Type} {o : Option Cell} {G : List D → (α → Prop) → Prop} (g : ∀ ds, Dt (G ds)) : Dt fun Q => DL.onOwn o fun ds => G ds Q := by
  unfold DL.onOwn
  split
  · exact g _
  · exact Dt.fls
instance [h : DTm t] : DSt (sApp i t) := ⟨fun E η => .onOwn fun ds => (h.dt E η).bind fun d => (Dt.pure (Out.nx (η.set i (.own (ds ++ [d]))))).and⟩
instance [h : DTm t] : DSt (sAppL i t) := ⟨fun E η => .onOwn fun ds => (h.dt E (lend η)).bind fun d => ((Dt.pure (Out.nx (η.set i (.own (ds ++ [d]))))).and).and⟩
instance [h : DTm t] : DSt (sExtL i t) := ⟨fun E η => .onOwn fun ds => (h.dt E (lend η)).bind fun d => by cases d <;> first | exact Dt.fls | exact ((Dt.pure (Out.nx (η.set i (.own (ds ++ _))))).and).and⟩
instance [h : DTm t] : DSt (sExtS i t) := ⟨fun E η => .onOwn fun ds => (h.dt E (lend η)).bind fun d => by cases d <;> first | exact Dt.fls | exact ((Dt.pure (Out.nx (η.set i (.own (ds ++ _))))).and).and⟩
instance [h : DTm t] : DSt (sAug i t) := ⟨fun E η => by
  show Dt fun P : Out → Prop => onCInt η[i]? fun m => t E (lend η) fun d => onInt d fun n => P (.nx (η.set i (.dat (.int (m + n)))))
  unfold onCInt
  split
  · exact (h.dt E (lend η)).bind fun d => by cases d <;> first | exact Dt.fls | exact Dt.pure (Out.nx _)
  · exact Dt.fls⟩
instance [h : DTm t] [hg : DG' g] : DSt (sAsg t g) := ⟨fun E η => (h.dt E η).bind fun d => (hg.dt d η).map Out.nx⟩
instance [h : DTm m] : DSt (sM2 i j m) := ⟨fun E η => (h.dt E η).bind fun cs => match cs with
  | [] => .fls
  | [_] => .fls
  | [x, y] => .pure (Out.nx ((η.set i x).set j y))
  | _ :: _ :: _ :: _ => .fls⟩
instance [h : DTm m] : DSt (sM3 i j k m) := ⟨fun E η => (h.dt E η).bind fun cs => match cs with
  | [] => .fls
  | [_] => .fls
  | [_, _] => .fls
  | [x, y, u] => .pure (Out.nx (((η.set i x).set j y).set k u))
  | _ :: _ :: _ :: _ :: _ => .fls⟩
/-- a loop's body: what it does to the next turn -/
def outLoop (f : EnvD → (Out → Prop) → Prop) : Out → (Out → Prop) → Prop
  | .nx η => f η
  | .rt d => fun P => P (.rt d)
  | .bk η => fun P => P (.nx η)
  | .ct η => f η
theorem forD_dt [hg : DG' g] [hs : DSt s] (E : XP) : ∀ (ds : List D) (η : EnvD), Dt fun P : Out → Prop => forD g s E (zo P) ds η
  | [], η => .pure (Out.nx η)
  | d :: ds, η => (hg.dt d η).bind fun η1 => Dt.seq (s1 := s) (G := outLoop fun η2 P => forD g s E (zo P) ds η2) (fun P => rfl) fun o => by
    cases o with
    | nx η2 => exact forD_dt E ds η2
    | ct η2 => exact forD_dt E ds η2
    | _ => exact Dt.pure _
instance [hi : DTm it] [hg : DG' g] [hs : DSt s] : DSt (sFor it g s) := ⟨fun E η => (hi.dt E η).bind fun ds => forD_dt E ds η⟩
theorem whileD_dt [hb : DTm b] [hs : DSt s] (E : XP) : ∀ (n : Nat) (η : EnvD), Dt fun P : Out → Prop => whileD b s E (zo P) n η
  | 0, η => .fls
  | n + 1, η => (hb.dt E (lend η)).bind fun k => .ite (Dt.seq (s1 := s) (G := outLoop fun η2 P => whileD b s E (zo P) n η2) (fun P => rfl) fun o => by
    cases o with
    | nx η2 => exact whileD_dt E n η2
    | ct η2 => exact whileD_dt E n η2
    | _ => exact Dt.pure _) (.pure (Out.nx η))
instance [hb : DTm b] [hs : DSt s] : DSt (sWhile b s) := ⟨fun E η P ⟨n, h⟩ => by
  obtain ⟨o, ho, k⟩ := whileD_dt (b := b) (s := s) E n η P h
  exact ⟨o, ho, fun Q q => ⟨n, k Q q⟩⟩⟩
def outBody : Out → (D → Prop) → Prop
  | .nx _ => fun Q => Q .none
  | .rt d => fun Q => Q d
  | .bk _ => fun _ => False
  | .ct _ => fun _ => False
theorem df_body {p q : Nat} {s : SD} [hs : DSt s] : DF (bodyD p q s) := ⟨fun E cs => by
  refine Dt.and ?_
  exact Dt.seq (s1 := s) (G := outBody) (fun Q => rfl) fun o => by cases o <;> first | exact Dt.fls | exact Dt.pure _⟩
end
end DL

/-! DL35: tuples of ints as module constants; * and // of great ints. -/
namespace DL
open PySem PySem.Spec PyProof.Rows L2
def TupC (K : PySem.W.Frag) (a : Addr) (l : List Int) : Prop := ∃ (o : Obj) (its : Array Value) (n : Nat), K.lookup a = some o ∧ o.cls = .type "tuple" ∧ o.data = .seq its n ∧ its.size ≤ sizeLine ∧ Vals (l.map V.int) its.toList
section
variable {X : Cx} {a b : Expr} {ta tb : ET} {pos : Pos}
def oMulW : OpD := oI CMulW fun i j => i * j
def oDivW : OpD := oI CDivW fun i j => i / j
theorem x_mulW {i j : Int} {QD : D → Prop} : oMulW (.int i) (.int j) QD = (CMulW i j ∧ QD (.int (i * j))) := id rfl
theorem x_divW {i j : Int} {QD : D → Prop} : oDivW (.int i) (.int j) QD = (CDivW i j ∧ QD (.int (i / j))) := id rfl
instance : DOp oMulW := inferInstanceAs (DOp (oI _ _))
instance : DOp oDivW := inferInstanceAs (DOp (oI _ _))
end
def ConT (K : PySem.W.Frag) (x : Str) (l : List Int) : Prop := ∃ a, PySem.W.nsIn K mainGlobals x = some (some (.ref a)) ∧ TupC K a l
def intsV : List Int → List Value → Bool
  | [], [] => true
  | i :: l, .int j _ :: vs => i == j && intsV l vs
  | _, _ => false
end DL

/-! DM1: structures that a slot owns deep down: read while lent, made, written. -/
namespace DL
open PySem PySem.Spec PyProof.Rows L2
/-! ### parts of an expression in the lent state -/
def dLend (t : ET) : ET := fun E η Q => t E (lend η) fun d => flat d = true ∧ Q d
def bLend (b : BT) : BT := fun E η Q => b E (lend η) Q
def nLend (t : NT) : NT := fun E η Q => t E (lend η) fun ds => flatAll ds = true ∧ Q ds
section
variable {X : Cx} {e : Expr} {t : ET} {b : BT} {tn : NT}
end
/-! ### what may change -/
structure StepM (G : Option (Addr × Addr)) (fp : List Addr) (H H' : Hp) : Prop where
  keep : ∀ a o, ¬ Wr G a → a ∉ fp → H a = some o → H' a = some o
  draw : DrawOk G H'
section
variable {K : PySem.W.Frag} {c : Ctx} {G : Option (Addr × Addr)} {O : Addr → Prop} {η : EnvD} {σ : L2.St} {H H1 H' : Hp} {fp : List Addr}
theorem Step.m (st : Step G H H') : StepM G fp H H' := ⟨fun a o w _ e => st.keep a o w e, st.draw⟩
theorem StepM.trans (s : StepM G fp H H1) (t : StepM G fp H1 H') : StepM G fp H H' := ⟨fun a o w n e => t.keep a o w n (s.keep a o w n e), t.draw⟩
end
/-! ### new structures -/
def NewM (K : PySem.W.Frag) (c : Ctx) (O : Addr → Prop) (H : Hp) (Q : D → Prop) : VK := fun v H' => ∃ d fp, Step c.G H H' ∧ (∀ b ∈ fp, H b = none) ∧ fp ≠ [] ∧ fp.Nodup ∧ Deep K H' v d fp ∧ Q d
def RdM (X : Cx) (T : TE) (t : ET) : Prop := ∀ (σ : L2.St) (H : Hp) (c : Ctx) (O : Addr → Prop) (η : EnvD) (E : XP) (Q : D → Prop) (R : VK), Gd X c E O η σ H → t E η Q → (∀ v H', NewM X.K c O H Q v H' → R v H') → T σ H R
/-- e makes a new structure -/
structure DX (X : Cx) (e : Expr) (t : ET) : Prop where
  ex : ∃ T, PE X e T ∧ RdM X T t
section
variable {X : Cx} {e : Expr} {pos p : Pos} {t : ET} {ts : AT}
/-- name = a new structure -/
def sMut (i : Nat) (t : ET) : SD := fun E z η => t E (lend η) fun d => ∀ fp, z.nx (η.set i (.mtb false d fp))
/-- dict([..]), the worths flat -/
def dMutP (ts : AT) : ET := fun E η Q => ts E η fun ds => match ds with
  | [.list ps] => ∃ kvs, ps = kvs.map pairD ∧ KvOk kvs ∧ flatAll (kvs.map (·.2)) = true ∧ Q (.dict kvs)
  | _ => False
end
/-! ### d[k] = v -/
/-- o[i] = v of such a dict -/
def rSetM (K : PySem.W.Frag) : TSet := fun o i v H Q => ∃ a kvs k d, o = .ref a ∧ DictAt K (fun _ => True) H a kvs ∧ keyOk k = true ∧ kvs.length < sizeLine ∧ FRep K H i k ∧ FRep K H v d ∧ ∀ es ep, Real a es ep → DictAt K (fun _ => True) (upd H a (dictO a es ep)) a (putD kvs k d) → Q (upd H a (dictO a es ep))
theorem Deep.dict {K : PySem.W.Frag} {H : Hp} {v : V} {kvs : List (D × D)} {fp : List Addr} (h : Deep K H v (.dict kvs) fp) (hne : fp ≠ []) : ∃ a es ep ks vs, v = .ref a ∧ fp = [a] ∧ (a == sysModules) = false ∧ H a = some (dictO a es ep) ∧ Real a es ep ∧ DictOk es ks vs kvs ∧ RepAll K (fun _ => True) H ks (kvs.map (·.1)) ∧ RepAll K (fun _ => True) H vs (kvs.map (·.2)) := by
  cases h with
  | val r => exact absurd rfl hne
  | dct e s rl d r1 r2 => exact ⟨_, _, _, _, _, rfl, rfl, s, e, rl, d, r1, r2⟩
def onMD (o : Option Cell) (k : Bool → List (D × D) → List Addr → Prop) : Prop := match o with | some (.mtb p (.dict kvs) fp) => k p kvs fp | _ => False
/-- name[k] = v; both read while all is lent -/
def sPutM (i : Nat) (tk tv : ET) : SD := fun E z η => onMD η[i]? fun p kvs fp => tv E (lend η) fun v => flat v = true ∧ tk E (lend η) fun k => (keyOk k = true ∧ kvs.length < sizeLine) ∧ z.nx (η.set i (.mtb p (.dict (putD kvs k v)) fp))
section
variable {X : Cx} {e1 e2 : Expr} {pos : Pos} {t1 t2 : ET} {npos : Pos}
end
end DL

/-! DLmin2: min(x, y) of two data. -/
namespace DL
open PySem PySem.Spec PyProof.Rows
section
variable {prog : Program} {w : World} {A : Around} {E : Value → Shared → Prop} {s : Shared} {a b : Value}
end
end DL
namespace DL
open PySem PySem.Spec PyProof.Rows L2
def rMin2D (K : PySem.W.Frag) : List V → Hp → VK → Prop := fun vs H Q => ∃ (x y : V) (dx dy : D) (O : Addr → Prop), vs = [x, y] ∧ Rep K O H x dx ∧ Rep K O H y dy ∧ MinOk [dx, dy] ∧ ∀ v, Rep K O H v (pickD dx dy) → Q v H
def fMin2D : CallD
  | [x, y], Q => MinOk [x, y] ∧ Q (pickD x y)
  | _, _ => False
end DL

/-! DM2: defs that write their parameter. -/
namespace DL
open PySem PySem.Spec PyProof.Rows L2
/-- arguments; among them the structure that is written -/
def ArgM (K : PySem.W.Frag) (O : Addr → Prop) (G : Option (Addr × Addr)) (H : Hp) (x : V) (fp : List Addr) (m : D) (v : V) : Cell → Prop
  | .dat d => Rep K O H v d
  | .drw => ∃ a g, v = .ref a ∧ G = some (a, g)
  | .mtb p d fq => p = true ∧ d = m ∧ fq = fp ∧ v = x
  | _ => False
abbrev ArgsM (K : PySem.W.Frag) (O : Addr → Prop) (G : Option (Addr × Addr)) (H : Hp) (x : V) (fp : List Addr) (m : D) : List V → List Cell → Prop := Paired (ArgM K O G H x fp m)
def noM : List Cell → Prop
  | [] => True
  | .dat _ :: cs => noM cs
  | .drw :: cs => noM cs
  | _ => False
/-- the structure is argument j, no other one is -/
def mAt : Nat → List Cell → Prop
  | 0, .mtb true _ _ :: cs => noM cs
  | j + 1, .dat _ :: cs => mAt j cs
  | j + 1, .drw :: cs => mAt j cs
  | _, _ => False
abbrev FM := XP → List Cell → (D → D → Prop) → Prop
/-- what a def that writes its parameter j promises -/
def spM (K : PySem.W.Frag) (n j : Nat) (wf : FM) : Sp := fun vs H Q _ => vs.length = n ∧ ∃ (B O : Addr → Prop) (G : Option (Addr × Addr)) (cs : List Cell) (m : D) (fp : List Addr) (x : V) (R : D → D → Prop), (∀ a, O a → H a ≠ none) ∧ (∀ a, Wr G a → B a) ∧ (∀ a, B a → O a) ∧ DrawOk G H ∧
  Deep K H x m fp ∧ fp ≠ [] ∧ fp.Nodup ∧ (∀ b ∈ fp, O b ∧ ¬ B b) ∧ ArgsM K O G H x fp m vs cs ∧ mAt j cs ∧ wf never cs R ∧ ∀ d v m' H', StepM G fp H H' → (Rep K (fun b => B b ∨ b ∈ fp) H' v d ∨ (d = selfD ∧ v = x)) → Deep K H' x m' fp → R d m' → Q v H'
def onMt (o : Option Cell) (k : D → Prop) : Prop := match o with | some (.mtb true m _) => k m | _ => False
/-- a body's run -/
def bodyM (j m n : Nat) (t : SD) : FM := fun E cs R => (cs.length = m ∧ mAt j cs) ∧ t E { nx := fun η => onMt η[j]? fun m' => R .none m', rt := fun p => ∃ d m', p = pkM d m' ∧ R d m' } (cs ++ List.replicate (n - cs.length) .un)
structure HasM (P : Program) (w : World) (K : PySem.W.Frag) (mg : Str → Option Value) (base : Heap) (x : Str) (k : Nat) (ps : List Str) (j : Nat) (wf : FM) : Prop where
  ex : ∃ f fd, mg x = some (.ref f) ∧ PySem.W.keepIn K (.ref f) = true ∧ Binds K fd ps [] ∧ FnG P w K mg base CX0 k f fd ps (spM K ps.length j wf)
  len : ∀ cs R, wf never cs R → cs.length = ps.length ∧ mAt j cs
/-! ### what such a def tells -/
/-- return e: the answer is flat -/
def sRetM (j : Nat) (t : ET) : SD := fun E z η => t E (lend η) fun d => flat d = true ∧ onMt η[j]? fun m => z.rt (pkM d m)
/-- return the parameter -/
def sRetS (j : Nat) : SD := fun _ z η => onMt η[j]? fun m => z.rt (pkM selfD m)
section
variable {X : Cx} {e : Expr} {es : List Expr} {t : ET} {ts : CT} {pos p : Pos}
/-! ### calls of such a def -/
def ArgX (K : PySem.W.Frag) (O : Addr → Prop) (c : Ctx) (η : EnvD) (σ : L2.St) (i : Nat) (H : Hp) (v : V) : Cell → Prop
  | .dat d => Rep K O H v d
  | .drw => ∃ a g, v = .ref a ∧ c.G = some (a, g)
  | .mtb q d fp => q = true ∧ (∃ p, η[i]? = some (.mtb p d fp)) ∧ σ[i]?.join = some v
  | _ => False
def liftCM (X : Cx) (i : Nat) (t : CT) : TA := fun σ H R => ∃ (c : Ctx) (O : Addr → Prop) (η : EnvD) (E : XP) (Q : List Cell → Prop), Gd X c E O η σ H ∧ t E η Q ∧ ∀ cs vs H', Step c.G H H' → Paired (ArgX X.K O c η σ i H') vs cs → Q cs → R vs H'
structure DCM (X : Cx) (es : List Expr) (i : Nat) (t : CT) : Prop where
  pa : PA X es (liftCM X i t)
def onMx (o : Option Cell) (k : D → List Addr → Prop) : Prop := match o with | some (.mtb _ d fp) => k d fp | _ => False
def cMut (i : Nat) (ts : CT) : CT := fun E η Q => onMx η[i]? fun d fp => ts E η fun cs => Q (.mtb true d fp :: cs)
theorem ArgX.step {K : PySem.W.Frag} {O : Addr → Prop} {c : Ctx} {η : EnvD} {σ : L2.St} {i : Nat} {H H1 : Hp} (st : Step c.G H H1) (dr : DrawOk c.G H) (hW : ∀ a, Wr c.G a → O a) {v : V} {x : Cell} (h : ArgX K O c η σ i H v x) : ArgX K O c η σ i H1 v x := by
  cases x with
  | dat d => exact st.rep dr hW h
  | drw => exact h
  | un => exact h
  | own ds => exact h
  | scr ns => exact h
  | obj a o => exact h
  | mtb p d fp => exact h
  | lin nm fs => exact h
  | ist p nm fs fp => exact h
def stM (o : Option Cell) (i : Nat) (m : D) (η : EnvD) : EnvD := match o with | some (.mtb p _ fp) => η.set i (.mtb p m fp) | _ => η
/-- the call, as a reading below -/
def tCallM (X : Cx) (i : Nat) (wf : FM) (ts : CT) : TE := fun σ H R => ∃ (c : Ctx) (O : Addr → Prop) (η : EnvD) (E : XP) (Q : D → EnvD → Prop), Gd X c E O η σ H ∧ (ts E η fun cs => wf never cs fun d m' => Q d (stM η[i]? i m' η)) ∧
  ∀ d v H' η', Gd X c E O η' σ H' → (Rep X.K O H' v d ∨ (d = selfD ∧ σ[i]?.join = some v)) → Q d η' → R v H'
variable {k j i jj : Nat} {ps : List Str} {wf : FM} {x : Str}
/-- f(.., name, ..) alone -/
def sCallM (i : Nat) (wf : FM) (ts : CT) : SD := fun E z η => ts E η fun cs => wf never cs fun _ m' => z.nx (stM η[i]? i m' η)
/-- y = f(.., name, ..): the answer is flat -/
def sSetM (y i : Nat) (wf : FM) (ts : CT) : SD := fun E z η => ts E η fun cs => wf never cs fun d m' => flat d = true ∧ z.nx ((stM η[i]? i m' η).set y (.dat d))
/-- name = f(.., name, ..): the parameter itself is told -/
def sSelfM (i : Nat) (wf : FM) (ts : CT) : SD := fun E z η => ts E η fun cs => wf never cs fun d m' => d = selfD ∧ z.nx (stM η[i]? i m' η)
/-! ### tests that write -/
abbrev BM := XP → EnvD → (Bool → EnvD → Prop) → Prop
def liftBM (X : Cx) (t : BM) : TT := fun σ H R => ∃ (c : Ctx) (O : Addr → Prop) (η : EnvD) (E : XP) (Q : Bool → EnvD → Prop), Gd X c E O η σ H ∧ t E η Q ∧ ∀ b H' η', Gd X c E O η' σ H' → Q b η' → R b H'
structure DTM (X : Cx) (e : Expr) (t : BM) : Prop where
  pt : PT X e (liftBM X t)
structure DWM (X : Cx) (e : Expr) (t : BM) : Prop where
  pw : PW X e (liftBM X t)
def mTest (b : BT) : BM := fun E η Q => b E (lend η) fun k => Q k η
def mCall (i : Nat) (wf : FM) (ts : CT) : BM := fun E η Q => ts E η fun cs => wf never cs fun d m' => ∃ b, d = .bool b ∧ Q b (stM η[i]? i m' η)
def mAnd (t u : BM) : BM := fun E η Q => t E η fun c η' => if c = true then u E η' Q else Q false η'
def sIfM (b : BM) (t u : SD) : SD := fun E z η => b E η fun k η' => if k = true then t E z η' else u E z η'
end
end DL

/-! DM3: d.update(d2) of a dict that a slot owns; name = f(.., name, ..) that tells the name. -/
namespace DL
open PySem PySem.Spec PyProof.Rows L2
def putAll (kvs more : List (D × D)) : List (D × D) := more.foldl (fun acc p => putD acc p.1 p.2) kvs
section
variable {X : Cx} {pins : List (Addr × Obj)} {σ : L2.St} {H : Hp} {s : Shared} {O : Addr → Prop}
def rUpdD (K : PySem.W.Frag) : V → List V → Hp → VK → Prop := fun x ys H Q => ∃ (a b : Addr) (kvs more : List (D × D)), x = .ref a ∧ ys = [.ref b] ∧ a ≠ b ∧ (b == sysModules) = false ∧ DictAt K (fun _ => True) H a kvs ∧ DictAt K (fun _ => True) H b more ∧ (kvs ≠ [] ∨ more = []) ∧ kvs.length + more.length ≤ sizeLine ∧
  ∀ es ep, Real a es ep → DictAt K (fun _ => True) (upd H a (dictO a es ep)) a (putAll kvs more) → Q .non (upd H a (dictO a es ep))
end
/-! a method of a dict -/
section
variable {X : Cx} {o e : Expr} {es : List Expr} {to : TE} {t : TA} {name : Str} {apos cpos : Pos} {id : String} {r : V → List V → Hp → VK → Prop}
def tBMD (r : V → List V → Hp → VK → Prop) (to : TE) (t : TA) : TE := fun σ H Q => to σ H fun x H1 => (∃ a es ep, x = .ref a ∧ H1 a = some (dictO a es ep)) ∧ t σ H1 fun xs H2 => r x xs H2 Q
end
/-! ### name.update(e) -/
def onDct (d : D) (k : List (D × D) → Prop) : Prop := match d with | .dict kvs => k kvs | _ => False
def sUpdM (i : Nat) (t : ET) : SD := fun E z η => onMD η[i]? fun p kvs fp => t E η fun d => onDct d fun more => (flatAll (more.map (·.2)) = true ∧ (kvs ≠ [] ∨ more = []) ∧ kvs.length + more.length ≤ sizeLine) ∧ z.nx (η.set i (.mtb p (.dict (putAll kvs more)) fp))
section
variable {X : Cx} {e : Expr} {pos apos cpos npos : Pos} {t : ET}
end
end DL

/-! DM4: len of a dict. -/
namespace DL
open PySem PySem.Spec PyProof.Rows L2
section
variable {X : Cx} {e : Expr} {ts : AT} {p pos : Pos}
def rLenD (K : PySem.W.Frag) : List V → Hp → VK → Prop := fun vs H Q => ∃ (O : Addr → Prop) (v : V) (kvs : List (D × D)), vs = [v] ∧ Rep K O H v (.dict kvs) ∧ Q (.int kvs.length) H
def fLenD : CallD
  | [.dict kvs], Q => Q (.int kvs.length)
  | _, _ => False
end
end DL

/-! DMx: the equations of DM1's and DM2's terms (id rfl: not by computation). -/
namespace DL
open PySem L2
section
variable {t u : ET} {b : BT} {tn : NT} {at_ : AT} {ct : CT} {bm bn : BM} {wf : FM} {sa sb : SD} {E : XP} {z : EndsD} {η : EnvD} {i j y : Nat} {Q : D → Prop} {QB : Bool → Prop} {QL : List D → Prop} {QC : List Cell → Prop} {QM : Bool → EnvD → Prop} {R : D → D → Prop}
theorem x_dLend : dLend t E η Q = t E (lend η) (fun d => flat d = true ∧ Q d) := id rfl
theorem x_bLend : bLend b E η QB = b E (lend η) QB := id rfl
theorem x_nLend : nLend tn E η QL = tn E (lend η) (fun ds => flatAll ds = true ∧ QL ds) := id rfl
theorem x_sMut : sMut i t E z η = t E (lend η) (fun d => ∀ fp, z.nx (η.set i (.mtb false d fp))) := id rfl
theorem x_dMutP : dMutP at_ E η Q = at_ E η (fun ds => match ds with
  | [.list ps] => ∃ kvs, ps = kvs.map pairD ∧ KvOk kvs ∧ flatAll (kvs.map (·.2)) = true ∧ Q (.dict kvs)
  | _ => False) := id rfl
theorem x_onMD {p : Bool} {kvs : List (D × D)} {fp : List Addr} {k : Bool → List (D × D) → List Addr → Prop} : onMD (some (.mtb p (.dict kvs) fp)) k = k p kvs fp := id rfl
theorem x_sPutM : sPutM i t u E z η = onMD η[i]? (fun p kvs fp => u E (lend η) fun v => flat v = true ∧ t E (lend η) fun k => (keyOk k = true ∧ kvs.length < sizeLine) ∧ z.nx (η.set i (.mtb p (.dict (putD kvs k v)) fp))) := id rfl
theorem x_sRetM : sRetM j t E z η = t E (lend η) (fun d => flat d = true ∧ onMt η[j]? fun m => z.rt (pkM d m)) := id rfl
theorem x_sRetS : sRetS j E z η = onMt η[j]? (fun m => z.rt (pkM selfD m)) := id rfl
theorem x_onMt {m : D} {fp : List Addr} {k : D → Prop} : onMt (some (.mtb true m fp)) k = k m := id rfl
theorem x_cMut : cMut i ct E η QC = onMx η[i]? (fun d fp => ct E η fun cs => QC (.mtb true d fp :: cs)) := id rfl
theorem x_onMx {p : Bool} {m : D} {fp : List Addr} {k : D → List Addr → Prop} : onMx (some (.mtb p m fp)) k = k m fp := id rfl
theorem x_stM {p : Bool} {d m : D} {fp : List Addr} : stM (some (.mtb p d fp)) i m η = η.set i (.mtb p m fp) := id rfl
theorem x_sCallM : sCallM i wf ct E z η = ct E η (fun cs => wf never cs fun _ m' => z.nx (stM η[i]? i m' η)) := id rfl
theorem x_sSetM : sSetM y i wf ct E z η = ct E η (fun cs => wf never cs fun d m' => flat d = true ∧ z.nx ((stM η[i]? i m' η).set y (.dat d))) := id rfl
theorem x_mTest : mTest b E η QM = b E (lend η) (fun k => QM k η) := id rfl
theorem x_mCall : mCall i wf ct E η QM = ct E η (fun cs => wf never cs fun d m' => ∃ b, d = .bool b ∧ QM b (stM η[i]? i m' η)) := id rfl
theorem x_mAnd : mAnd bm bn E η QM = bm E η (fun c η' => if c = true then bn E η' QM else QM false η') := id rfl
theorem x_sIfM : sIfM bm sa sb E z η = bm E η (fun k η' => if k = true then sa E z η' else sb E z η') := id rfl
theorem x_nSortSetT : nSortSetT t E η QL = t E η (fun d => onTupO d fun xs => SetOk xs ∧ ∀ ys, ys.Pairwise (fun a b => PySem.W.dataLt a b = true) → (∀ d, d ∈ ys ↔ d ∈ xs) → QL ys) := id rfl
theorem x_fLenD {kvs : List (D × D)} : fLenD [.dict kvs] Q = Q (.int kvs.length) := id rfl
theorem x_sUpdM : sUpdM i t E z η = onMD η[i]? (fun p kvs fp => t E η fun d => onDct d fun more => (flatAll (more.map (·.2)) = true ∧ (kvs ≠ [] ∨ more = []) ∧ kvs.length + more.length ≤ sizeLine) ∧ z.nx (η.set i (.mtb p (.dict (putAll kvs more)) fp))) := id rfl
theorem x_iSeqD : iSeqD t E η QL = t E η (fun d => onDct d fun kvs => QL (kvs.map (·.1))) := id rfl
theorem x_onDct {kvs : List (D × D)} {k : List (D × D) → Prop} : onDct (.dict kvs) k = k kvs := id rfl
theorem x_lendM {p : Bool} {d : D} {fp : List Addr} : lendC (.mtb p d fp) = .dat d := id rfl
theorem x_fMin2D {x w : D} : fMin2D [x, w] Q = (MinOk [x, w] ∧ Q (pickD x w)) := id rfl
end
end DL

/-! DM5: instances that are written: fields, methods, made anew. -/
namespace DL
open PySem PySem.Spec PyProof.Rows L2
/-! ### fields -/
def setF (f : Str) (d : D) : List (Str × D) → List (Str × D)
  | [] => []
  | (g, x) :: r => if f = g then (g, d) :: r else (g, x) :: setF f d r
section
variable {K : PySem.W.Frag} {c : Ctx} {G : Option (Addr × Addr)} {O : Addr → Prop} {η : EnvD} {σ : L2.St} {H H1 H' : Hp} {nm : Str} {fs fs' : List (Str × D)} {fp fp' : List Addr}
end
/-! ### self.f[k] = v -/
def onIst (o : Option Cell) (nm : Str) (k : Bool → List (Str × D) → List Addr → Prop) : Prop := match o with | some (.ist p nm' fs fp) => nm' = nm ∧ k p fs fp | _ => False
def onDctF (o : Option D) (k : List (D × D) → Prop) : Prop := match o with | some (.dict kvs) => k kvs | _ => False
def sPutI (i : Nat) (nm f : Str) (tk tv : ET) : SD := fun E z η => onIst η[i]? nm fun p fs fp => tv E (lend η) fun v => flat v = true ∧ onDctF (fs.lookup f) fun kvs => tk E (lend η) fun k => (keyOk k = true ∧ kvs.length < sizeLine) ∧ z.nx (η.set i (.ist p nm (setF f (.dict (putD kvs k v)) fs) fp))
section
variable {X : Cx} {e1 e2 : Expr} {pos npos fpos : Pos} {t1 t2 : ET} {nm f : Str}
end
end DL

/-! DM6: methods that write their instance: promises, calls, comprehensions of calls. -/
namespace DL
open PySem PySem.Spec PyProof.Rows L2
def onIt (o : Option Cell) (nm : Str) (k : List (Str × D) → Prop) : Prop := match o with | some (.ist true nm' fs _) => nm' = nm ∧ k fs | _ => False
abbrev FI := XP → List (Str × D) → List Cell → (D → List (Str × D) → Prop) → Prop
/-- what a method that writes its instance promises -/
def spI (K : PySem.W.Frag) (n : Nat) (nm : Str) (wf : FI) : Sp := fun vs H Q _ => vs.length = n ∧ ∃ (B O : Addr → Prop) (G : Option (Addr × Addr)) (fs : List (Str × D)) (fp : List Addr) (x : V) (vs' : List V) (cs : List Cell) (R : D → List (Str × D) → Prop), vs = x :: vs' ∧ (∀ a, O a → H a ≠ none) ∧ (∀ a, Wr G a → B a) ∧ (∀ a, B a → O a) ∧ DrawOk G H ∧
  InsDp K H x nm fs fp ∧ fp.Nodup ∧ (∀ b ∈ fp, O b ∧ ¬ B b) ∧ ArgsOk K O G H vs' cs ∧ wf never fs cs R ∧ ∀ d v fs' fp' H', StepM G fp H H' → FRep K H' v d → InsDp K H' x nm fs' fp' → fp'.Nodup → (∀ b ∈ fp', b ∈ fp ∨ H b = none) → (∀ b ∈ fp, b ∈ fp') → R d fs' → Q v H'
/-- a body's run -/
def bodyI (m n : Nat) (nm : Str) (t : SD) : FI := fun E fs cs R => cs.length + 1 = m ∧ ∀ fp, t E { nx := fun η => onIt η[0]? nm fun fs' => R .none fs', rt := fun p => ∃ d fs', p = pkI d nm fs' ∧ R d fs' } (.ist true nm fs fp :: (cs ++ List.replicate (n - 1 - cs.length) .un))
structure HasI (P : Program) (w : World) (K : PySem.W.Frag) (mg : Str → Option Value) (base : Heap) (nm m : Str) (k : Nat) (ps : List Str) (wf : FI) : Prop where
  ex : ∀ C, ClsOf K nm C → L2.Cls K C ∧ ∃ f fd, L2.Meth K C m f ∧ Binds K fd ps [] ∧ FnG P w K mg base CX0 k f fd ps (spI K ps.length nm wf)
  len : ∀ fs cs R, wf never fs cs R → cs.length + 1 = ps.length
/-! ### return -/
def sRetI (nm : Str) (t : ET) : SD := fun E z η => t E (lend η) fun d => flat d = true ∧ onIt η[0]? nm fun fs => z.rt (pkI d nm fs)
section
variable {X : Cx} {e : Expr} {es : List Expr} {t : ET} {ts : CT} {pos p apos : Pos} {nm m : Str}
/-! ### calls -/
def onIx (o : Option Cell) (nm : Str) (k : List (Str × D) → Prop) : Prop := match o with | some (.ist _ nm' fs _) => nm' = nm ∧ k fs | _ => False
def stI (o : Option Cell) (i : Nat) (fs : List (Str × D)) (fp : List Addr) (η : EnvD) : EnvD := match o with | some (.ist p nm _ _) => η.set i (.ist p nm fs fp) | _ => η
/-- an expression that writes -/
abbrev EM := XP → EnvD → (D → EnvD → Prop) → Prop
def AfterM (K : PySem.W.Frag) (c : Ctx) (H : Hp) (v : V) (d : D) (H' : Hp) : Prop := FRep K H' v d ∧ (∀ a o, ¬ Wr c.G a → c.B a → H a = some o → H' a = some o) ∧ ∀ a xs, H a = some (.tup xs) → H' a = some (.tup xs)
def liftEM (X : Cx) (t : EM) : TE := fun σ H R => ∃ (c : Ctx) (O : Addr → Prop) (η : EnvD) (E : XP) (Q : D → EnvD → Prop), Gd X c E O η σ H ∧ t E η Q ∧ ∀ d v H' O' η', Gd X c E O' η' σ H' → AfterM X.K c H v d H' → Q d η' → R v H'
def liftEM0 (K : PySem.W.Frag) (t : EM) : TE := fun σ H R => ∃ (c : Ctx) (O : Addr → Prop) (η : EnvD) (Q : D → EnvD → Prop), Good K c O η σ H ∧ t never η Q ∧ ∀ d v H' O' η', Good K c O' η' σ H' → AfterM K c H v d H' → Q d η' → R v H'
structure DEM (X : Cx) (e : Expr) (t : EM) : Prop where
  pe : PE X e (liftEM X t)
theorem DEM.pe0 {t : EM} (h : DEM X e t) : PE X e (liftEM0 X.K t) := ⟨fun pins s σ H R I ⟨c, O, η, Q, g, ht, k⟩ => h.pe.run pins s σ H R I ⟨c, O, η, never, Q, ⟨g, eok_never⟩, ht, fun d v H' O' η' g' a q => k d v H' O' η' g'.toGood a q⟩⟩
def mCallE (i : Nat) (nm m : Str) (wf : FI) (ts : CT) : EM := fun E η Q => onIx η[i]? nm fun fs => fs.lookup m = none ∧ ts E η fun cs => wf never fs cs fun d fs' => ∀ fp, Q d (stI η[i]? i fs' fp η)
/-- e alone -/
def sDoI (t : EM) : SD := fun E z η => t E η fun _ η' => z.nx η'
/-- y = e -/
def sSetI (y : Nat) (t : EM) : SD := fun E z η => t E η fun d η' => z.nx (η'.set y (.dat d))
end
/-! ### [o.m(..) for x in xs] -/
def compI (own : List Nat) (g : GT) (tm : EM) : List D → EnvD → List D → (List D → EnvD → Prop) → Prop
  | [], η0, acc, Q => Q acc η0
  | d :: ds, η0, acc, Q => g d η0 fun η1 => tm never η1 fun y η2 => acc.length < sizeLine ∧ compI own g tm ds (wipeD η2 own) (acc ++ [y]) Q
def bAll : BT := bYes
/-- xs.extend([o.m(..) for x in ys]) -/
def sExtI (f : Nat) (own : List Nat) (ti : IT) (g : GT) (tm : EM) : SD := fun E z η => onOwn η[f]? fun _ => ti E η fun ds => compI own g tm ds (wipeD η own) [] fun ys η' => onOwn η'[f]? fun xs => xs.length + ys.length ≤ sizeLine ∧ z.nx (η'.set f (.own (xs ++ ys)))
section
variable {X : Cx} {elt tg iter : Expr} {scope : Scope} {own : List (Str × Nat)} {is : List Nat} {pos p lpos apos : Pos} {ti : IT} {g : GT} {tm : EM}
end
end DL

/-! DM7: instances made: self.f = e, C(..). -/
namespace DL
open PySem PySem.Spec PyProof.Rows L2
/-! ### {k: v for ..} as a new structure -/
def dDcM (own : List Nat) (ti : IT) (g : GT) (tt : BT) (tk tv : ET) : ET := fun E η Q => ti E η fun ds => compDD g tt tk tv (wipeD η own) ds [] fun kvs => (kvs.length ≤ sizeLine ∧ flatAll (kvs.map (·.2)) = true) ∧ Q (.dict kvs)
section
variable {X : Cx} {kx vx tg iter : Expr} {ifs : List Expr} {scope : Scope} {own : List (Str × Nat)} {is : List Nat} {pos : Pos} {ti : IT} {g : GT} {tt : BT} {tk tv : ET}
end
/-! ### self.f = e -/
theorem DeepAll.append {K : PySem.W.Frag} {H : Hp} : ∀ {vs ws : List V} {ds es : List D} {fs gs : List Addr}, DeepAll K H vs ds fs → DeepAll K H ws es gs → DeepAll K H (vs ++ ws) (ds ++ es) (fs ++ gs)
  | _, _, _, _, _, _, .nil, s => s
  | _, _, _, _, _, _, .cons r t, s => by
    rw [List.cons_append, List.cons_append, List.append_assoc]
    exact .cons r (DeepAll.append t s)
def sFldV (i : Nat) (nm f : Str) (t : ET) : SD := fun E z η => t E (lend η) fun d => flat d = true ∧ onIst η[i]? nm fun p fs fp => (fs.lookup f = none ∧ fs.length < 1000) ∧ z.nx (η.set i (.ist p nm (fs ++ [(f, d)]) fp))
def sFldM (i : Nat) (nm f : Str) (t : ET) : SD := fun E z η => t E (lend η) fun d => onIst η[i]? nm fun p fs fp => (fs.lookup f = none ∧ fs.length < 1000) ∧ ∀ fq, z.nx (η.set i (.ist p nm (fs ++ [(f, d)]) (fp ++ fq)))
section
variable {X : Cx} {value : Expr} {pos pos' npos : Pos} {t : ET} {nm f : Str}
end
/-! ### x = C(..) -/
section
variable {X : Cx} {CX : CXT} {k : Nat} {C f : Addr} {fd : FuncData} {ps : List Str} {sp : Sp} {E : XK} {x : Str} {p pos : Pos} {e : Expr} {es : List Expr} {t : TA}
def tMakeG (C : Addr) (sp : Sp) (E : XK) (t : TA) : TE := fun σ H Q => t σ H fun vs H1 => ∀ x dx, H1 x = none → H1 dx = none → dx ≠ x →
  sp (.ref x :: vs) (upd (upd H1 dx (.own x)) x (.ins C dx [])) (fun v H2 => v = .non ∧ Q (.ref x) H2) E
end
/-- what the head tells of a class that is made -/
def MkIn (K : PySem.W.Frag) (mg : Str → Option Value) (nm : Str) (st : Stmt) (ps : List Str) : Prop := ∃ C f fd, mg nm = some (.ref C) ∧ ClsOf K nm C ∧ Mk K C f ∧ Fun K "__init__" (nm ++ ("." : Str) ++ "__init__") st f fd ∧ Binds K fd ps []
structure HasMk (P : Program) (w : World) (K : PySem.W.Frag) (mg : Str → Option Value) (base : Heap) (nm : Str) (k : Nat) (ps : List Str) (wf : FI) : Prop where
  ex : ∃ C f fd, mg nm = some (.ref C) ∧ ClsOf K nm C ∧ Mk K C f ∧ Binds K fd ps [] ∧ FnG P w K mg base CX0 k f fd ps (spI K ps.length nm wf)
  len : ∀ fs cs R, wf never fs cs R → cs.length + 1 = ps.length
def sMakeI (i : Nat) (nm : Str) (wf : FI) (ts : CT) : SD := fun E z η => ts E η fun cs => wf never [] cs fun d fs => d = .none ∧ ∀ fp, z.nx (η.set i (.ist false nm fs fp))
section
variable {X : Cx} {e : Expr} {es : List Expr} {ts : CT} {pos cpos p : Pos} {nm : Str}
end
end DL

/-! DM8: what the head tells of a class; the equations of DL36's, DL37's, DM5's .. terms. -/
namespace DL
open PySem PySem.Spec PyProof.Rows L2
def ClaAt (K : PySem.W.Frag) (nm : Str) : Prop := ∃ C, ClsOf K nm C ∧ L2.Cls K C ∧ PySem.W.makesIn K C = true ∧ PySem.W.keepIn K (.ref C) = true
def MetAt (K : PySem.W.Frag) (nm m q : Str) (st : Stmt) : Prop := ∃ (C f : Addr) (oc : Value) (od : Option Addr) (kV doc pm : Value) (an : Option Addr) (cdv ct : Value) (osl : Array (Option Value)), ClsOf K nm C ∧ PySem.W.findIn K (.ref C) m = some (some (.ref f)) ∧ PySem.W.isFn K (.ref f) = true ∧
  K.lookup f = some ⟨oc, od, .func (PySem.W.fnOf m q (defArgs st) (defBody st) (defScope st) .none kV doc pm an cdv ct), osl⟩ ∧ PySem.W.codeIn K cdv q = true ∧ PySem.W.keepIn K (.ref f) = true
def FldAt (K : PySem.W.Frag) (nm f : Str) : Prop := ∃ C, ClsOf K nm C ∧ PySem.W.findIn K (.ref C) f = some none
section
variable {K : PySem.W.Frag} {nm m q f : Str} {st : Stmt} {ps : List Str} {h : Heap} {mg : Str → Option Value}
abbrev BindsAsQ (x q : Str) (st : Stmt) (ps : List Str) : Prop := ∀ (kV doc pm : Value) (an : Option Addr) (cdv ct : Value) (us : List Value), us.length = ps.length → bindArgs (PySem.W.fnOf x q (defArgs st) (defBody st) (defScope st) .none kV doc pm an cdv ct) ⟨us, []⟩ = pure (ps.zip us)
end
/-! ### equations -/
section
variable {t u tk tv te : ET} {b tt tt1 : BT} {ct : CT} {it ti1 : IT} {g g1 : GT} {tm : EM} {wf : FT} {wi : FI} {sa : SD} {E : XP} {z : EndsD} {η : EnvD} {i j y : Nat} {nm nm' m f : Str} {fs : List (Str × D)} {fp : List Addr} {own vs1 : List Nat} {Q : D → Prop} {QL : List D → Prop} {QM : D → EnvD → Prop} {QX : List D → EnvD → Prop} {d : D} {ds acc : List D}
theorem x_dFld : dFld i nm f E η Q = onLin η[i]? (fun nm' fs => nm' = nm ∧ ∃ d, fs.lookup f = some d ∧ Q d) := id rfl
theorem x_onLin {k : Str → List (Str × D) → Prop} : onLin (some (.lin nm fs)) k = k nm fs := id rfl
theorem x_dMeth : dMeth i nm m wf ct E η Q = onLin η[i]? (fun nm' fs => nm' = nm ∧ fs.lookup m = none ∧ ct E η fun cs => wf never (.lin nm fs :: cs) Q) := id rfl
theorem x_sPutI : sPutI i nm f tk tv E z η = onIst η[i]? nm (fun p fs fp => tv E (lend η) fun v => flat v = true ∧ onDctF (fs.lookup f) fun kvs => tk E (lend η) fun k => (keyOk k = true ∧ kvs.length < sizeLine) ∧ z.nx (η.set i (.ist p nm (setF f (.dict (putD kvs k v)) fs) fp))) := id rfl
theorem x_onIst {p : Bool} {k : Bool → List (Str × D) → List Addr → Prop} : onIst (some (.ist p nm' fs fp)) nm k = (nm' = nm ∧ k p fs fp) := id rfl
theorem x_onDctF {kvs : List (D × D)} {k : List (D × D) → Prop} : onDctF (some (.dict kvs)) k = k kvs := id rfl
theorem x_sRetI : sRetI nm t E z η = t E (lend η) (fun d => flat d = true ∧ onIt η[0]? nm fun fs => z.rt (pkI d nm fs)) := id rfl
theorem x_onIt {k : List (Str × D) → Prop} : onIt (some (.ist true nm' fs fp)) nm k = (nm' = nm ∧ k fs) := id rfl
theorem x_onIx {p : Bool} {k : List (Str × D) → Prop} : onIx (some (.ist p nm' fs fp)) nm k = (nm' = nm ∧ k fs) := id rfl
theorem x_stI {p : Bool} {fs' : List (Str × D)} {fp' : List Addr} : stI (some (.ist p nm fs fp)) i fs' fp' η = η.set i (.ist p nm fs' fp') := id rfl
theorem x_mCallE : mCallE i nm m wi ct E η QM = onIx η[i]? nm (fun fs => fs.lookup m = none ∧ ct E η fun cs => wi never fs cs fun d fs' => ∀ fp, QM d (stI η[i]? i fs' fp η)) := id rfl
theorem x_sDoI : sDoI tm E z η = tm E η (fun _ η' => z.nx η') := id rfl
theorem x_sSetI : sSetI y tm E z η = tm E η (fun d η' => z.nx (η'.set y (.dat d))) := id rfl
theorem x_sExtI : sExtI i own it g tm E z η = onOwn η[i]? (fun _ => it E η fun ds => compI own g tm ds (wipeD η own) [] fun ys η' => onOwn η'[i]? fun xs => xs.length + ys.length ≤ sizeLine ∧ z.nx (η'.set i (.own (xs ++ ys)))) := id rfl
theorem x_sFldV : sFldV i nm f t E z η = t E (lend η) (fun d => flat d = true ∧ onIst η[i]? nm fun p fs fp => (fs.lookup f = none ∧ fs.length < 1000) ∧ z.nx (η.set i (.ist p nm (fs ++ [(f, d)]) fp))) := id rfl
theorem x_sFldM : sFldM i nm f t E z η = t E (lend η) (fun d => onIst η[i]? nm fun p fs fp => (fs.lookup f = none ∧ fs.length < 1000) ∧ ∀ fq, z.nx (η.set i (.ist p nm (fs ++ [(f, d)]) (fp ++ fq)))) := id rfl
theorem x_dDcM : dDcM own it g tt tk tv E η Q = it E η (fun ds => compDD g tt tk tv (wipeD η own) ds [] fun kvs => (kvs.length ≤ sizeLine ∧ flatAll (kvs.map (·.2)) = true) ∧ Q (.dict kvs)) := id rfl
theorem x_sMakeI : sMakeI i nm wi ct E z η = ct E η (fun cs => wi never [] cs fun d fs => d = .none ∧ ∀ fp, z.nx (η.set i (.ist false nm fs fp))) := id rfl
theorem x_nComp2 : nComp2 own vs1 it g tt ti1 g1 tt1 te E η QL = it E η (fun ds => compD2 vs1 g tt ti1 g1 tt1 te (wipeD η own) ds [] QL) := id rfl
theorem x_lendL : lendC (.lin nm fs) = .lin nm fs := id rfl
theorem x_lendI {p : Bool} : lendC (.ist p nm fs fp) = .lin nm fs := id rfl
end
instance : DOp oEqT0 := ⟨fun x y => by cases x <;> cases y <;> first | exact Dt.fls | (rename_i ys; cases ys <;> first | exact Dt.fls | exact Dt.pure _)⟩
end DL

/-! DL39: x != () for any x. -/
namespace PySem.SeqAt
open AutoSeq1 (wpAny_loadPart')
open MeetsSeq MeetsSeq2 MeetsSeq3
end PySem.SeqAt
namespace DL
open PySem PySem.Spec PyProof.Rows L2
section
variable {X : Cx}
/-- not a tuple -/
def NotTup (K : PySem.W.Frag) (H : Hp) : V → Prop
  | .non => True
  | .bl _ => True
  | .int _ => True
  | .str _ => True
  | .ref a => (∃ xs, H a = some (.lst xs)) ∨ ∃ es ep, H a = some (dictO a es ep)
  | _ => False
def neT0 : D → Bool
  | .tuple xs => !xs.isEmpty
  | _ => true
def oNeT0 : OpD
  | d, .tuple [], Q => Q (.bool (neT0 d))
  | _, _, _ => False
def oEqL0 : OpD
  | .list xs, .list [], Q => Q (.bool xs.isEmpty)
  | _, _, _ => False
/-- a whole number or a truth, and a whole number -/
def oAddB : OpD
  | .int i, .int j, Q => Q (.int (i + j))
  | .bool b, .int j, Q => Q (.int ((if b = true then 1 else 0) + j))
  | _, _, _ => False
variable {d : D} {QD : D → Prop}
theorem x_addBI {i j : Int} : oAddB (.int i) (.int j) QD = QD (.int (i + j)) := id rfl
theorem x_addBB {b : Bool} {j : Int} : oAddB (.bool b) (.int j) QD = QD (.int ((if b = true then 1 else 0) + j)) := id rfl
theorem x_eqL0 {xs : List D} : oEqL0 (.list xs) (.list []) QD = QD (.bool xs.isEmpty) := id rfl
instance : DOp oEqL0 := ⟨fun x y => by cases x <;> cases y <;> first | exact Dt.fls | (rename_i ys; cases ys <;> first | exact Dt.fls | exact Dt.pure _)⟩
instance : DOp oNeT0 := ⟨fun x y => by
  cases y with
  | tuple ys =>
    cases ys with
    | nil =>
      have : (fun Q => oNeT0 x (.tuple []) Q) = fun Q : D → Prop => Q (.bool (neT0 x)) := funext fun Q => by cases x <;> rfl
      rw [show oNeT0 x (.tuple []) = fun Q : D → Prop => Q (.bool (neT0 x)) from this]
      exact Dt.pure _
    | cons _ _ => cases x <;> exact Dt.fls
  | _ => cases x <;> exact Dt.fls⟩
theorem x_neT0 : oNeT0 d (.tuple []) QD = QD (.bool (neT0 d)) := by cases d <;> rfl
end
end DL

/-! DL40: an own list's item and length, read in the state as it is. -/
namespace DL
open PySem PySem.Spec PyProof.Rows L2
def dOwnIx (j : Nat) (t : ET) : ET := fun E η Q => onOwn η[j]? fun ds => t E η fun d => onInt d fun i => onS (atI ds i) Q
def dOwnLen (j : Nat) : ET := fun _ η Q => onOwn η[j]? fun ds => Q (.int ds.length)
section
variable {X : Cx} {e : Expr} {pos p : Pos} {t : ET}
end
section
variable {ds : List D} {QD : D → Prop} {E : XP} {η : EnvD}
theorem x_ownIx {j : Nat} {t : ET} : dOwnIx j t E η QD = onOwn η[j]? fun ds => t E η fun d => onInt d fun i => onS (L2.atI ds i) QD := id rfl
theorem x_ownLen {j : Nat} : dOwnLen j E η QD = onOwn η[j]? fun ds => QD (.int ds.length) := id rfl
end
end DL

/-! DM9: tables: lists of flat lists that a slot owns: a column written row by row, rows by another name, lists taken apart. -/
namespace DL
open PySem PySem.Spec PyProof.Rows L2
section
variable {K : PySem.W.Frag} {c : Ctx} {O : Addr → Prop} {η : EnvD} {σ : L2.St} {H H1 H' : Hp}
theorem DeepAll.length : ∀ {vs : List V} {ds : List D} {fp : List Addr}, DeepAll K H vs ds fp → vs.length = ds.length
  | _, _, _, .nil => rfl
  | _, _, _, .cons _ t => by rw [List.length_cons, List.length_cons, t.length]
theorem DeepAll.mid : ∀ {a ds : List D} {d : D} {vs : List V} {fp : List Addr}, DeepAll K H vs (a ++ d :: ds) fp → ∃ us v ws f1 f2 f3, vs = us ++ v :: ws ∧ fp = f1 ++ (f2 ++ f3) ∧ us.length = a.length ∧ DeepAll K H us a f1 ∧ Deep K H v d f2 ∧ DeepAll K H ws ds f3
  | [], _, _, _, _, @DeepAll.cons _ _ v vs _ _ f fs r t => ⟨[], v, vs, [], f, fs, rfl, rfl, rfl, .nil, r, t⟩
  | _ :: a, _, _, _, _, .cons r t => by
    obtain ⟨us, v, ws, f1, f2, f3, e1, e2, e3, d1, d2, d3⟩ := DeepAll.mid (a := a) t
    exact ⟨_ :: us, v, ws, _ ++ f1, f2, f3, by rw [e1]; rfl, by rw [e2, List.append_assoc], by rw [List.length_cons, List.length_cons, e3], .cons r d1, d2, d3⟩
theorem DeepAll.join : ∀ {a ds : List D} {d : D} {us ws : List V} {v : V} {f1 f2 f3 : List Addr}, DeepAll K H us a f1 → Deep K H v d f2 → DeepAll K H ws ds f3 → DeepAll K H (us ++ v :: ws) (a ++ d :: ds) (f1 ++ (f2 ++ f3))
  | _, _, _, _, _, _, _, _, _, .nil, r, t => by
    rw [List.nil_append, List.nil_append, List.nil_append]
    exact .cons r t
  | _, _, _, _, _, _, _, _, _, .cons r0 t0, r, t => by
    rw [List.append_assoc]
    exact .cons r0 (DeepAll.join t0 r t)
end
def onLs (d : D) (k : List D → Prop) : Prop := match d with | .list ds => k ds | _ => False
/-! ### for row in table: row[c] = e -/
/-- η: all lent; i: the table's slot, r: the row's -/
def colGo (E : XP) (η : EnvD) (i r : Nat) (tc te : ET) : List D → List D → (List D → Prop) → Prop
  | [], acc, Q => Q acc
  | d :: ds, acc, Q => onLs d fun rr => flatAll rr = true ∧ te E ((η.set i (.dat (.list (acc ++ d :: ds)))).set r (.dat d)) fun v => flat v = true ∧ tc E ((η.set i (.dat (.list (acc ++ d :: ds)))).set r (.dat d)) fun k => onInt k fun k => ∃ j, ixN rr.length k = some j ∧ colGo E η i r tc te ds (acc ++ [.list (rr.set j v)]) Q
def onAny (o : Option Cell) (k : Prop) : Prop := match o with | some _ => k | none => False
def sColM (i r : Nat) (tc te : ET) : SD := fun E z η => onAny η[r]? <| onMx η[i]? fun d _ => onLs d fun rows => colGo E (lend (η.set r .un)) i r tc te rows [] fun rows' => z.nx (stM η[i]? i (.list rows') (η.set r .un))
section
variable {X : Cx} {e1 e2 : Expr} {pos pos2 px py npos : Pos} {tc te : ET}
end
end DL

/-! DM10: rows by another name; new lists taken apart. -/
namespace DL
open PySem PySem.Spec PyProof.Rows L2
def rowFlat : D → Bool
  | .list rr => flatAll rr
  | _ => false
def sAli2 (i j1 j2 : Nat) (t1 t2 : ET) : SD := fun E z η => onMx η[i]? fun d fp => onLs d fun rows => t1 E (lend η) fun d1 => onInt d1 fun k1 => ∃ m1, (ixN rows.length k1 = some m1 ∧ rows.all rowFlat = true) ∧ t2 E (lend η) fun d2 => onInt d2 fun k2 =>
  ∃ m2, ixN rows.length k2 = some m2 ∧ ∀ b1 b2, fp[m1 + 1]? = some b1 → fp[m2 + 1]? = some b2 → z.nx ((η.set j1 (.obj b1 none)).set j2 (.obj b2 none))
section
variable {K : PySem.W.Frag} {c : Ctx} {O : Addr → Prop} {η : EnvD} {σ : L2.St} {H H1 H' : Hp}
theorem Good.obj (g : Good K c O η σ H) (i : Nat) (a : Addr) : Good K c O (η.set i (.obj a none)) (σ.set i (some (.ref a))) H where
  len := by rw [List.length_set, List.length_set, g.len]
  hB := g.hB
  hW := g.hW
  hT := g.hT
  keep := g.keep
  draw := g.draw
  cell := fun j y h => by
    by_cases e : i = j
    · subst e
      by_cases hl : i < η.length
      · rw [List.getElem?_set_self hl] at h
        cases h
        exact ⟨join_set_self (g.len ▸ hl), fun p hp => nomatch hp⟩
      · rw [List.getElem?_eq_none (by rw [List.length_set]; omega)] at h
        cases h
    · rw [List.getElem?_set_ne e] at h ⊢
      exact g.cell j y h
  dis := dis_put g.dis i (z := .obj a none) (fun _ _ h => h) _
  fr := g.fr
end
section
variable {X : Cx} {e1 e2 : Expr} {pos p1 p2 px py pt : Pos} {t1 t2 : ET}
end
/-! ### expressions that read rows by another name -/
def onObj (o : Option Cell) (k : Addr → Prop) : Prop := match o with | some (.obj b none) => k b | _ => False
/-- the slots js hold rows of the table -/
def aliD (fp : List Addr) (rows : List D) : List Nat → EnvD → (EnvD → Prop) → Prop
  | [], η, Q => Q η
  | j :: js, η, Q => onObj η[j]? fun b => ∃ m d, (fp[m + 1]? = some b ∧ rows[m]? = some d) ∧ aliD fp rows js (η.set j (.dat d)) Q
def lendA (i : Nat) (js : List Nat) (η : EnvD) (Q : EnvD → Prop) : Prop := onMx η[i]? fun d fp => onLs d fun rows => rows.all rowFlat = true ∧ aliD fp rows js (lend η) Q
section
variable {K : PySem.W.Frag} {c : Ctx} {O : Addr → Prop} {η : EnvD} {σ : L2.St} {H H1 H' : Hp}
end
def dLendA (i : Nat) (js : List Nat) (t : ET) : ET := fun E η Q => lendA i js η fun η' => t E η' fun d => flat d = true ∧ Q d
def nLendA (i : Nat) (js : List Nat) (t : NT) : NT := fun E η Q => lendA i js η fun η' => t E η' fun ds => flatAll ds = true ∧ Q ds
section
variable {X : Cx} {e : Expr} {t : ET} {tn : NT}
end
/-! ### x, y = a new list -/
def sUnp (tn : NT) (gs : GTs) : SD := fun E z η => tn E η fun ds => flatAll ds = true ∧ gs ds η z.nx
section
variable {X : Cx} {e : Expr} {pos : Pos} {tn : NT} {gs : GTs}
end
end DL

/-! DM11: new tables: comprehensions within comprehensions, defs that tell one, a new table handed to a def that writes it; what such a def tells need not be flat. -/
namespace DL
open PySem PySem.Spec PyProof.Rows L2
/-! ### a new list as a structure -/
def dNewF (tn : NT) : ET := fun E η Q => tn E η fun ds => flatAll ds = true ∧ Q (.list ds)
section
variable {X : Cx} {e : Expr} {t : ET} {tn : NT}
/-- it may be read -/
theorem DX.de (h : DX X e t) : DE X e t := by
  obtain ⟨T, h1, h2⟩ := h.ex
  refine .of h1 fun σ H c O η E Q g ht => h2 σ H c O η E Q _ g ht fun v H' ⟨d, fp, st, h0, hne, hnd, dp, q⟩ => ?_
  exact ⟨d, st, dp.rep fun b hb ob => g.hT b ob (h0 b hb), q⟩
def liftX0 (K : PySem.W.Frag) (t : ET) : TE := fun σ H R => ∃ (c : Ctx) (O : Addr → Prop) (η : EnvD) (Q : D → Prop), Good K c O η σ H ∧ t never η Q ∧ ∀ v H', NewM K c O H Q v H' → R v H'
end
/-! ### [new structures for ..] -/
def dNewC (own : List Nat) (ti : IT) (g : GT) (tt : BT) (tx : ET) : ET := fun E η Q => ti E η fun ds => compD g tt tx (wipeD η own) ds [] fun ys => Q (.list ys)
section
variable {X : Cx} {elt tg iter : Expr} {ifs : List Expr} {scope : Scope} {own : List (Str × Nat)} {is : List Nat} {pos : Pos} {ti : IT} {g : GT} {tt : BT} {te : ET}
end
/-! ### defs that tell a new structure -/
def spX (K : PySem.W.Frag) (n : Nat) (wf : FT) : Sp := fun vs H Q _ => vs.length = n ∧ ∃ B G cs R, (∀ a, B a → H a ≠ none) ∧ (∀ a, Wr G a → B a) ∧ DrawOk G H ∧ ArgsOk K B G H vs cs ∧ wf never cs R ∧ ∀ d v H' fp, Step G H H' → (∀ b ∈ fp, H b = none) → fp ≠ [] → fp.Nodup → Deep K H' v d fp → R d → Q v H'
/-- a body that is one return's run -/
def bodyX (m n : Nat) (t : ET) : FT := fun E cs Q => cs.length = m ∧ t E (cs ++ List.replicate (n - cs.length) .un) Q
structure HasX (P : Program) (w : World) (K : PySem.W.Frag) (mg : Str → Option Value) (base : Heap) (x : Str) (k : Nat) (ps : List Str) (wf : FT) : Prop where
  ex : ∃ f fd, mg x = some (.ref f) ∧ PySem.W.keepIn K (.ref f) = true ∧ Binds K fd ps [] ∧ FnG P w K mg base CX0 k f fd ps (spX K ps.length wf)
  len : ∀ cs R, wf never cs R → cs.length = ps.length
section
variable {X : Cx} {e : Expr} {es : List Expr} {ts : CT} {pos p : Pos} {k j : Nat} {ps : List Str} {wf : FT} {x : Str}
end
/-! ### a new structure handed to a def that writes it -/
def liftCX (X : Cx) (t : CT) : TA := fun σ H R => ∃ (c : Ctx) (O : Addr → Prop) (η : EnvD) (E : XP) (Q : List Cell → Prop), Gd X c E O η σ H ∧ t E η Q ∧ ∀ cs vs H' x m fp, Step c.G H H' → (∀ b ∈ fp, H b = none) → fp ≠ [] → fp.Nodup → Deep X.K H' x m fp → ArgsM X.K (fun b => O b ∨ b ∈ fp) c.G H' x fp m vs cs → Q cs → R vs H'
structure DCX (X : Cx) (es : List Expr) (t : CT) : Prop where
  pa : PA X es (liftCX X t)
def cNewL (t : ET) : CT := fun E η Q => t E η fun d => ∀ fp, Q [.mtb true d fp]
section
variable {X : Cx} {e : Expr} {es : List Expr} {t : ET} {ts : CT} {pos p : Pos}
def dCallXM (wf : FM) (ts : CT) : ET := fun E η Q => ts E η fun cs => wf never cs fun d m' => d = selfD ∧ Q m'
variable {k j jj : Nat} {ps : List Str} {wf : FM} {x : Str}
end
/-! ### answers that are not flat -/
def sRetMN (j : Nat) (t : ET) : SD := fun E z η => t E η fun d => onMt η[j]? fun m => z.rt (pkM d m)
def sAsgM (i : Nat) (wf : FM) (ts : CT) (g : GT) : SD := fun E z η => ts E η fun cs => wf never cs fun d m' => d ≠ selfD ∧ g d (stM η[i]? i m' η) z.nx
section
variable {X : Cx} {e : Expr} {t : ET} {ts : CT} {pos : Pos} {wf : FM}
end
/-! ### a structure is given away -/
def frzM (i : Nat) (η : EnvD) : EnvD := match η[i]? with | some (.mtb false d _) => η.set i (.dat d) | _ => η
theorem Good.frzM {K : PySem.W.Frag} {c : Ctx} {O : Addr → Prop} {η : EnvD} {σ : L2.St} {H : Hp} (g : Good K c O η σ H) (i : Nat) : ∃ O', Good K c O' (DL.frzM i η) σ H := by
  unfold DL.frzM
  split
  · rename_i d fq hi
    obtain ⟨x, e, dp, hne, hnd, hfp, hp⟩ := g.cell i _ hi
    have w : ∀ b, (O b ∧ b ∉ fq) → O b := fun b h => h.1
    have il := (List.getElem?_eq_some_iff.mp hi).1
    refine ⟨fun b => O b ∧ b ∉ fq, by rw [List.length_set, g.len], fun b h => ⟨g.hB b h, fun z => (hfp b z).2.1 h⟩, g.hW, fun b h => g.hT b h.1, g.keep, g.draw, fun j y hj => ?_, fun j k x y b h1 h2 h3 h4 => ?_, fun p hp => (g.fr p hp).weak w⟩
    · by_cases ej : i = j
      · subst ej
        rw [List.getElem?_set_self il] at hj
        cases hj
        exact ⟨x, e, dp.rep fun b hb z => z.2 hb⟩
      · rw [List.getElem?_set_ne ej] at hj
        have q := g.cell j y hj
        have no : ∀ b, foot y (σ[j]?.join) b → b ∉ fq := fun b f hb => ej (g.dis i j _ _ b hi hj hb f)
        cases y with
        | un => trivial
        | dat d => obtain ⟨v, e1, r1⟩ := q; exact ⟨v, e1, r1.weak w⟩
        | own es =>
          obtain ⟨b, zs, e1, hb, ob, nb1, h01, r1⟩ := q
          exact ⟨b, zs, e1, hb, ⟨ob, no b e1⟩, nb1, h01, r1.weak w⟩
        | drw => exact q
        | obj a o => exact ⟨q.1, fun p hp => (q.2 p hp).imp fun y r => ⟨r.1, r.2.weak w⟩⟩
        | scr ns => exact q
        | mtb p d fp =>
          obtain ⟨x, e1, r1, k1, k2, k3, k4⟩ := q
          exact ⟨x, e1, r1, k1, k2, fun b hb => ⟨⟨(k3 b hb).1, no b hb⟩, (k3 b hb).2⟩, k4⟩
        | lin nm fs => obtain ⟨x, e1, r1⟩ := q; exact ⟨x, e1, r1.map (fun b u nb e => ⟨fun z => nb z.1, e⟩) fun _ _ e => e⟩
        | ist p nm fs fp =>
          obtain ⟨x, e1, r1, k1, k2, k3, k4⟩ := q
          exact ⟨x, e1, r1, k1, k2, fun b hb => ⟨⟨(k3 b hb).1, no b hb⟩, (k3 b hb).2⟩, k4⟩
    · have ne : ∀ {m : Nat} {u : Cell} {v : Option V}, (η.set i (.dat d))[m]? = some u → foot u v b → i ≠ m := fun {m u v} q f z => by
        subst z
        rw [List.getElem?_set_self il] at q
        cases q
        exact f
      rw [List.getElem?_set_ne (ne h1 h3)] at h1
      rw [List.getElem?_set_ne (ne h2 h4)] at h2
      exact g.dis j k _ _ b h1 h2 h3 h4
  · exact ⟨O, g⟩
def sFrzM (i : Nat) (t : SD) : SD := fun E z η => t E z (frzM i η)
section
variable {X : Cx}
end
end DL

/-! DM12: max of a list of ints, list.pop at a place, rows by another name where a name is captured; the equations of DM9 to DM12. -/
namespace DL
open PySem PySem.Spec PyProof.Rows L2
def maxI : List Int → Int
  | [] => 0
  | [x] => x
  | x :: y :: r => if maxI (y :: r) < x then x else maxI (y :: r)
def fMaxI : CallD
  | [.list zs], Q => (zs.all isI && !zs.isEmpty) = true ∧ Q (.int (maxI (zs.map iOf)))
  | _, _ => False
section
variable {X : Cx} {e : Expr} {ts : AT} {p pos : Pos}
end
/-! ### name.pop(k) -/
def sPopI (i : Nat) (t : ET) : SD := fun E z η => onOwn η[i]? fun ds => t E (lend η) fun d => onInt d fun k => ∃ j, (ixN ds.length k = some j ∧ -(2 ^ 63) ≤ k ∧ k < 2 ^ 63) ∧ z.nx (η.set i (.own (ds.eraseIdx j)))
section
variable {X : Cx} {e : Expr} {pos p apos npos : Pos} {t : ET}
end
section
variable {X : Cx} {elt tg iter : Expr} {ifs : List Expr} {scope : Scope} {own : List (Str × Nat)} {is : List Nat} {pos cpos : Pos} {ti : IT} {g : GT} {tt : BT} {te : ET} {y : Str} {py : Pos}
end
/-! ### rows by another name: a name is captured -/
section
variable {X : Cx} {e1 e2 : Expr} {pos p1 p2 px py pt : Pos} {t1 t2 : ET}
end
/-! ### the equations -/
section
variable {t t1 t2 tc te : ET} {tn : NT} {gs : GTs} {g : GT} {wm : FM} {wf : FT} {ct : CT} {it : IT} {tt : BT} {sa : SD} {E : XP} {z : EndsD} {η : EnvD} {i j r j1 j2 : Nat} {js own : List Nat} {p : Bool} {d m : D} {ds acc : List D} {fp : List Addr} {b : Addr} {c : Cell} {QD : D → Prop} {QL : List D → Prop} {QE : EnvD → Prop} {QC : List Cell → Prop} {P : Prop}
theorem x_sColM : sColM i r tc te E z η = onAny η[r]? (onMx η[i]? fun d _ => onLs d fun rows => colGo E (lend (η.set r .un)) i r tc te rows [] fun rows' => z.nx (stM η[i]? i (.list rows') (η.set r .un))) := id rfl
theorem x_onAny : onAny (some c) P = P := id rfl
theorem x_onMxM {k : D → List Addr → Prop} : onMx (some (.mtb p d fp)) k = k d fp := id rfl
theorem x_onLs {k : List D → Prop} : onLs (.list ds) k = k ds := id rfl
theorem x_stMM : stM (some (.mtb p d fp)) i m η = η.set i (.mtb p m fp) := id rfl
theorem x_colGo0 : colGo E η i r tc te [] acc QL = QL acc := id rfl
theorem x_sAli2 : sAli2 i j1 j2 t1 t2 E z η = onMx η[i]? (fun d fp => onLs d fun rows => t1 E (lend η) fun d1 => onInt d1 fun k1 => ∃ m1, (ixN rows.length k1 = some m1 ∧ rows.all rowFlat = true) ∧ t2 E (lend η) fun d2 => onInt d2 fun k2 =>
  ∃ m2, ixN rows.length k2 = some m2 ∧ ∀ b1 b2, fp[m1 + 1]? = some b1 → fp[m2 + 1]? = some b2 → z.nx ((η.set j1 (.obj b1 none)).set j2 (.obj b2 none))) := id rfl
theorem x_dLendA : dLendA i js t E η QD = lendA i js η (fun η' => t E η' fun d => flat d = true ∧ QD d) := id rfl
theorem x_nLendA : nLendA i js tn E η QL = lendA i js η (fun η' => tn E η' fun ds => flatAll ds = true ∧ QL ds) := id rfl
theorem x_lendA : lendA i js η QE = onMx η[i]? (fun d fp => onLs d fun rows => rows.all rowFlat = true ∧ aliD fp rows js (lend η) QE) := id rfl
theorem x_aliD0 {rows : List D} : aliD fp rows [] η QE = QE η := id rfl
theorem x_aliD1 {rows : List D} : aliD fp rows (j :: js) η QE = onObj η[j]? (fun b => ∃ m d, (fp[m + 1]? = some b ∧ rows[m]? = some d) ∧ aliD fp rows js (η.set j (.dat d)) QE) := id rfl
theorem x_onObj {k : Addr → Prop} : onObj (some (.obj b none)) k = k b := id rfl
theorem x_lendO' {o : Option (Addr × Str × D)} : lendC (.obj b o) = .obj b o := id rfl
theorem x_sUnp : sUnp tn gs E z η = tn E η (fun ds => flatAll ds = true ∧ gs ds η z.nx) := id rfl
theorem x_dNewF : dNewF tn E η QD = tn E η (fun ds => flatAll ds = true ∧ QD (.list ds)) := id rfl
theorem x_dNewC : dNewC own it g tt te E η QD = it E η (fun ds => compD g tt te (wipeD η own) ds [] fun ys => QD (.list ys)) := id rfl
theorem x_cNewL : cNewL t E η QC = t E η (fun d => ∀ fp, QC [.mtb true d fp]) := id rfl
theorem x_dCallXM : dCallXM wm ct E η QD = ct E η (fun cs => wm never cs fun d m' => d = selfD ∧ QD m') := id rfl
theorem x_sRetMN : sRetMN j t E z η = t E η (fun d => onMt η[j]? fun m => z.rt (pkM d m)) := id rfl
theorem x_sAsgM : sAsgM i wm ct g E z η = ct E η (fun cs => wm never cs fun d m' => d ≠ selfD ∧ g d (stM η[i]? i m' η) z.nx) := id rfl
theorem x_sSelfM : sSelfM i wm ct E z η = ct E η (fun cs => wm never cs fun d m' => d = selfD ∧ z.nx (stM η[i]? i m' η)) := id rfl
theorem x_sFrzM : sFrzM i sa E z η = sa E z (frzM i η) := id rfl
theorem x_sPopI : sPopI i t E z η = onOwn η[i]? (fun ds => t E (lend η) fun d => onInt d fun k => ∃ j, (ixN ds.length k = some j ∧ -(2 ^ 63) ≤ k ∧ k < 2 ^ 63) ∧ z.nx (η.set i (.own (ds.eraseIdx j)))) := id rfl
theorem x_fMaxI : fMaxI [.list ds] QD = ((ds.all isI && !ds.isEmpty) = true ∧ QD (.int (maxI (ds.map iOf)))) := id rfl
end
end DL

/-! DM13: tuple * int, no times among them. -/
namespace DL
open PySem PySem.Spec PyProof.Rows L2
def rZero (K : PySem.W.Frag) : R2 := fun x y H Q => ∃ l xs, x = .ref l ∧ y = .int 0 ∧ SqT K H l xs ∧ xs ≠ [] ∧ ∀ p, H p = none → Q (.ref p) (upd H p (.tup []))
section
variable {X : Cx} {a b : Expr} {pos : Pos} {ta tb : ET}
/-- *, tuples among them, also no times -/
def oMul3 : OpD
  | .tuple xs, .int j, Q => (xs ≠ [] ∧ 0 ≤ j ∧ j ≤ 1000 ∧ xs.length ≤ 1000) ∧ Q (.tuple (List.replicate j.toNat xs).flatten)
  | .int i, .int j, Q => CMul i j ∧ Q (.int (i * j))
  | .list xs, .int j, Q => (0 ≤ j ∧ j < 2 ^ 63 ∧ xs.length * j.toNat ≤ sizeLine) ∧ Q (.list (List.replicate j.toNat xs).flatten)
  | _, _, _ => False
instance : DOp oMul3 := ⟨fun x y => by cases x <;> cases y <;> first | exact Dt.fls | exact (Dt.pure _).and⟩
variable {QD : D → Prop}
theorem x_mul3T {xs : List D} {j : Int} : oMul3 (.tuple xs) (.int j) QD = ((xs ≠ [] ∧ 0 ≤ j ∧ j ≤ 1000 ∧ xs.length ≤ 1000) ∧ QD (.tuple (List.replicate j.toNat xs).flatten)) := id rfl
end
end DL

/-! DM14: xs[::2] of a tuple. -/
namespace DL
open PySem PySem.Spec PyProof.Rows L2
def everyL {α : Type} : List α → List α
  | [] => []
  | [x] => [x]
  | x :: _ :: r => x :: everyL r
section
variable {prog : Program} {w : World} {A : Around} {E : Value → Shared → Prop} {s : Shared}
end
def tTwoT (K : PySem.W.Frag) (te : TE) : TE := fun σ H Q => te σ H fun x H1 => ∃ a xs, x = .ref a ∧ SqT K H1 a xs ∧ ∀ p, H1 p = none → Q (.ref p) (upd H1 p (.tup (everyL xs)))
theorem Vals.every : ∀ {xs : List V} {its : List Value}, Vals xs its → Vals (everyL xs) (everyL its)
  | [], _, r => by cases r; exact .nil
  | [x], _, r => by
    cases r with
    | cons h r => cases r; exact .cons h .nil
  | x :: y :: xs, _, r => by
    cases r with
    | cons h r =>
      cases r with
      | cons _ r => exact .cons h (Vals.every r)
/-- xs[::2] of a tuple -/
def dTwo (ta : ET) : ET := fun E η Q => ta E η fun x => onTupO x fun ds => Q (.tuple (everyL ds))
theorem RepAll.every {K : PySem.W.Frag} {O : Addr → Prop} {H : Hp} : ∀ {vs : List V} {ds : List D}, RepAll K O H vs ds → RepAll K O H (everyL vs) (everyL ds)
  | _, [], r => by cases r; exact .nil
  | _, [x], r => by
    cases r with
    | cons h r => cases r; exact .cons h .nil
  | _, x :: y :: xs, r => by
    cases r with
    | cons h r =>
      cases r with
      | cons _ r => exact .cons h (RepAll.every r)
instance {ta : ET} [ha : DTm ta] : DTm (dTwo ta) := ⟨fun E η => (ha.dt E η).bind fun x => by cases x <;> first | exact Dt.fls | exact Dt.pure _⟩
theorem x_dTwo {ta : ET} {E : XP} {η : EnvD} {QD : D → Prop} : dTwo ta E η QD = ta E η (fun x => onTupO x fun ds => QD (.tuple (everyL ds))) := id rfl
end DL

set_option maxHeartbeats 4000000
/-! DM15: sorted(set(xs)), xs a list of ints. -/
namespace L2
open PySem PySem.Spec PyProof.Rows
section
variable {P : Program} {w : World} {A : Around} {E : Value → Shared → Prop} {s : Shared}
end
end L2
namespace DL
open PySem PySem.Spec PyProof.Rows L2
def nSortSetL (t : ET) : NT := fun E η Q => t E η fun d => match d with
  | .list xs => xs.length < 64 ∧ xs.all isI = true ∧ ∀ ns : List Int, ns.Pairwise (· < ·) → (∀ i, i ∈ ns ↔ i ∈ xs.map iOf) → Q (ns.map .int)
  | _ => False
def tSortSetL (K : PySem.W.Frag) (ta : TE) : TE := fun σ H Q => ta σ H fun x H1 => ∃ (l : Addr) (ns : List Int), x = V.ref l ∧ SqL K H1 l (ns.map V.int) ∧ ns.length < 64 ∧
  ∀ (p : Addr) (ns' : List Int), H1 p = none → ns'.Pairwise (· < ·) → (∀ i, i ∈ ns' ↔ i ∈ ns) → ns'.length ≤ ns.length → Q (.ref p) (upd H1 p (.lst (ns'.map V.int)))
section
variable {X : Cx} {e : Expr} {t : ET} {p p2 q2 pos : Pos}
variable {E : XP} {η : EnvD} {QL : List D → Prop}
theorem x_nSortSetL : nSortSetL t E η QL = t E η (fun d => onList d fun xs => xs.length < 64 ∧ xs.all isI = true ∧ ∀ ns : List Int, ns.Pairwise (· < ·) → (∀ i, i ∈ ns ↔ i ∈ xs.map iOf) → QL (ns.map .int)) := id rfl
end
end DL

/-! DM16: name = {}, a dict that is written. -/
namespace DL
open PySem PySem.Spec PyProof.Rows L2
def tDict0M : TE := fun _ H Q => ∀ p, H p = none → (p == sysModules) = false → Real p #[] 0 → Q (.ref p) (upd H p (dictO p #[] 0))
section
variable {X : Cx} {pos : Pos}
end
end DL

/-! DM17: d.get(k); `d.setdefault(k, v) != w` of a dict that a slot owns. -/
namespace DL
open PySem PySem.Spec PyProof.Rows L2
section
variable {X : Cx}
def rGetD (K : PySem.W.Frag) : V → List V → Hp → VK → Prop := fun x ys H Q => ∃ (O : Addr → Prop) (kvs : List (D × D)) (k : D) (y : V), Rep K O H x (.dict kvs) ∧ ys = [y] ∧ Rep K O H y k ∧ keyOk k = true ∧ ∀ v, Rep K O H v ((dLook kvs k).getD .none) → Q v H
/-- d.get(k) -/
def dGet (td tk : ET) : ET := fun E η Q => td E η fun d => onDct d fun kvs => tk E η fun k => keyOk k = true ∧ Q ((dLook kvs k).getD .none)
variable {o e : Expr} {pos apos cpos npos : Pos} {td tk : ET}
/-! ### setdefault -/
def rSetdD (K : PySem.W.Frag) : V → List V → Hp → VK → Prop := fun x ys H Q => ∃ (a : Addr) (kvs : List (D × D)) (k v : D) (yk yv : V), x = .ref a ∧ ys = [yk, yv] ∧ (a == sysModules) = false ∧ DictAt K (fun _ => True) H a kvs ∧ keyOk k = true ∧ kvs.length < sizeLine ∧ FRep K H yk k ∧ FRep K H yv v ∧
  (∀ d w, dLook kvs k = some d → FRep K H w d → Q w H) ∧
  (dLook kvs k = none → ∀ es ep, Real a es ep → DictAt K (fun _ => True) (upd H a (dictO a es ep)) a (putD kvs k v) → Q yv (upd H a (dictO a es ep)))
/-- name.setdefault(k, v) != w, as a test -/
def mSetd (i : Nat) (tk tv tw : ET) : BM := fun E η Q => onMD η[i]? fun p kvs fp => tk E (lend η) fun k => tv E (lend η) fun v => (keyOk k = true ∧ kvs.length < sizeLine ∧ flat v = true) ∧
  (∀ d, dLook kvs k = some d → flat d = true ∧ tw E (lend η) fun w => oNe d w fun r => ∃ b, r = .bool b ∧ Q b η) ∧
  (dLook kvs k = none → tw E (lend (η.set i (.mtb p (.dict (putD kvs k v)) fp))) fun w => oNe v w fun r => ∃ b, r = .bool b ∧ Q b (η.set i (.mtb p (.dict (putD kvs k v)) fp)))
variable {ek ev ew : Expr} {tv tw : ET}
/-! ### a target taken apart from a list -/
def gTL (gs : GTs) : GT := fun d η Q => match d with | .list ds => gs ds η Q | _ => False
/-! ### the equations -/
theorem x_gTL {gs : GTs} {η : EnvD} {QE : EnvD → Prop} {ds : List D} : gTL gs (.list ds) η QE = gs ds η QE := id rfl
theorem x_dGet {E : XP} {η : EnvD} {Q : D → Prop} : dGet td tk E η Q = td E η (fun d => onDct d fun kvs => tk E η fun k => keyOk k = true ∧ Q ((dLook kvs k).getD .none)) := id rfl
theorem x_mSetd {i : Nat} {E : XP} {η : EnvD} {Q : Bool → EnvD → Prop} : mSetd i tk tv tw E η Q = onMD η[i]? (fun p kvs fp => tk E (lend η) fun k => tv E (lend η) fun v => (keyOk k = true ∧ kvs.length < sizeLine ∧ flat v = true) ∧
  (∀ d, dLook kvs k = some d → flat d = true ∧ tw E (lend η) fun w => oNe d w fun r => ∃ b, r = .bool b ∧ Q b η) ∧
  (dLook kvs k = none → tw E (lend (η.set i (.mtb p (.dict (putD kvs k v)) fp))) fun w => oNe v w fun r => ∃ b, r = .bool b ∧ Q b (η.set i (.mtb p (.dict (putD kvs k v)) fp)))) := id rfl
end
end DL

/-! DM18: zip of a tuple and a list, the tuple not the longer one. -/
namespace DL
open PySem PySem.Spec PyProof.Rows L2
section
variable {prog : Program} {w : World} {A : Around} {E : Value → Shared → Prop} {s : Shared}
/-! ### made -/
abbrev hM1 (h : Heap) (a : Addr) : Heap := h.push { cls := .type "tuple_iterator", data := .fields #[.ref a, .int 0 0] }
abbrev hM2 (h : Heap) (a b : Addr) : Heap := (hM1 h a).push { cls := .type "list_iterator", data := .fields #[.ref b, .int 0 0] }
abbrev hM3 (h : Heap) (a b : Addr) : Heap := (hM2 h a b).push { cls := .type "tuple", data := .seq #[.ref h.objs.size, .ref (hM1 h a).objs.size] }
abbrev hM4 (h : Heap) (a b : Addr) : Heap := (hM3 h a b).push { cls := .type "tuple", data := .seq #[.none, .none] }
abbrev hM5 (h : Heap) (a b : Addr) : Heap := (hM4 h a b).push { cls := .type "zip", data := .fields #[.none, .bool false, .bool false, .ref (hM2 h a b).objs.size, .ref (hM3 h a b).objs.size] }
end
/-! ### as an iterable -/
def ItzM (K : PySem.W.Frag) (a b : Addr) : It :=
  ⟨fun i H => ∃ (xs ys : List V) (x y : V), SqT K H a xs ∧ SqL K H b ys ∧ xs[i]? = some x ∧ ys[i]? = some y,
    fun i H v H' => ∃ T x y, v = .ref T ∧ H T = none ∧ H' = upd H T (.tup [x, y]) ∧ (∀ xs, SqT K H a xs → xs[i]? = some x) ∧ ∀ ys, SqL K H b ys → ys[i]? = some y,
    fun i H => ∃ xs : List V, SqT K H a xs ∧ xs.length ≤ i⟩
abbrev ZM (a b z TI TO i1 i2 : Addr) (i : Nat) (h : Heap) : Prop := IsZ h z TI TO .none false ∧ IsPair h TI (.ref i1) (.ref i2) ∧ (∃ x y, IsPair h TO x y) ∧ h.IsTupleIter i1 a i ∧ h.IsListIter i2 b i
def iZM (K : PySem.W.Frag) (ta : TA) : TI := fun σ H R => ta σ H fun vs H1 => ∃ a b xs ys, vs = [.ref a, .ref b] ∧ SqT K H1 a xs ∧ SqL K H1 b ys ∧ R (ItzM K a b) H1
section
variable {X : Cx} {e e2 : Expr} {ts : AT} {ta : TA} {p pos tpos : Pos} {elts : List Expr} {kk : Nat}
/-- zip(a tuple, a list) -/
def on2M (ds : List D) (k : List D → List D → Prop) : Prop := match ds with | [.tuple xs, .list ys] => xs.length ≤ ys.length ∧ k xs ys | _ => False
def iZipM (ts : AT) : IT := fun E η Q => ts E η fun ds => on2M ds fun xs ys => Q (pairsD xs ys)
theorem x_iZipM {E : XP} {η : EnvD} {QL : List D → Prop} : iZipM ts E η QL = ts E η (fun ds => on2M ds fun xs ys => QL (pairsD xs ys)) := id rfl
theorem x_on2M {xs ys : List D} {k : List D → List D → Prop} : on2M [.tuple xs, .list ys] k = (xs.length ≤ ys.length ∧ k xs ys) := id rfl
end
end DL

/-! DM19: texts: split, join, str, int, one sign in a text, the signs of a text. -/
namespace DL
open PySem PySem.Spec PyProof.Rows L2
def onStr (d : D) (k : Str → Prop) : Prop := match d with | .str x => k x | _ => False
section
variable {K : PySem.W.Frag} {O : Addr → Prop} {H : Hp}
end
section
variable {X : Cx} {o e : Expr} {es : List Expr} {to te : ET} {ts : AT} {apos pos p : Pos}
/-- text.split(text) -/
def nSplit (to te : ET) : NT := fun E η Q => to E η fun x => onStr x fun a => te E η fun y => onStr y fun b => ((b.length == 0) = false ∧ a.length + 2 ≤ sizeLine) ∧ Q ((Txt.split a b).map .str)
/-- text.join(texts) -/
def dJoin (to te : ET) : ET := fun E η Q => to E η fun x => onStr x fun a => te E η fun y => ∃ ys : List Str, (y = .list (ys.map .str) ∨ y = .tuple (ys.map .str)) ∧ (ys.map (·.length)).sum + ys.length * a.length ≤ 16777216 ∧ Q (.str (Str.join a ys))
/-- str(x) -/
def fStr : CallD
  | [.int i], Q => i.natAbs.log2 < 1920 ∧ Q (.str (Str.ofString (toString i)))
  | [.str a], Q => Q (.str a)
  | _, _ => False
/-- int(text) -/
def fIntT : CallD
  | [.str a], Q => ∃ n, PySem.intText? a = some n ∧ a.length ≤ 640 ∧ Q (.int n)
  | _, _ => False
/-- one sign in a text -/
def oInSg : OpD
  | .str x, .str z, Q => ∃ c : Nat, x = ⟨#[c]⟩ ∧ Q (.bool (decide (c ∈ z.cps.toList)))
  | _, _, _ => False
end
/-! ### for sign in text -/
def sgD (c : Nat) : D := .str ⟨#[c]⟩
def iTxt (t : ET) : IT := fun E η Q => t E η fun d => onStr d fun z => Q (z.cps.toList.map sgD)
/-! ### the equations -/
section
variable {to te t : ET} {E : XP} {η : EnvD} {Q : D → Prop} {QL : List D → Prop} {x z : Str} {k : Str → Prop}
theorem x_onStr : onStr (.str x) k = k x := id rfl
theorem x_nSplit : nSplit to te E η QL = to E η (fun x => onStr x fun a => te E η fun y => onStr y fun b => ((b.length == 0) = false ∧ a.length + 2 ≤ sizeLine) ∧ QL ((Txt.split a b).map .str)) := id rfl
theorem x_dJoin : dJoin to te E η Q = to E η (fun x => onStr x fun a => te E η fun y => ∃ ys : List Str, (y = .list (ys.map .str) ∨ y = .tuple (ys.map .str)) ∧ (ys.map (·.length)).sum + ys.length * a.length ≤ 16777216 ∧ Q (.str (Str.join a ys))) := id rfl
theorem x_fStrI {i : Int} : fStr [.int i] Q = (i.natAbs.log2 < 1920 ∧ Q (.str (Str.ofString (toString i)))) := id rfl
theorem x_fStrS : fStr [.str x] Q = Q (.str x) := id rfl
theorem x_fIntT : fIntT [.str x] Q = (∃ n, PySem.intText? x = some n ∧ x.length ≤ 640 ∧ Q (.int n)) := id rfl
theorem x_oInSg : oInSg (.str x) (.str z) Q = (∃ c : Nat, x = ⟨#[c]⟩ ∧ Q (.bool (decide (c ∈ z.cps.toList)))) := id rfl
theorem x_iTxt : iTxt t E η QL = t E η (fun d => onStr d fun z => QL (z.cps.toList.map sgD)) := id rfl
end
end DL

/-! DM20: first, *rest = a list. -/
namespace DL
open PySem PySem.Spec PyProof.Rows L2
section
variable {prog : Program} {w : World} {A : Around} {E : Value → Shared → Prop} {s : Shared}
end
def gStar (K : PySem.W.Frag) (t : TGs) : TG := fun v σ H Q => ∃ (a : Addr) (x : V) (xs : List V), v = .ref a ∧ SqL K H a (x :: xs) ∧ ∀ p, H p = none → t [x, .ref p] σ (upd H p (.lst xs)) Q
section
variable {X : Cx} {e e1 e2 : Expr} {sp pos : Pos} {t : TGs} {k : Nat}
/-- first, *rest = e -/
def sStar1 (i j : Nat) (t : ET) : SD := fun E z η => t E η fun d => onLs d fun ds => ∃ x xs, ds = x :: xs ∧ z.nx ((η.set i (.dat x)).set j (.dat (.list xs)))
theorem x_sStar1 {i j : Nat} {te : ET} {E : XP} {z : EndsD} {η : EnvD} : sStar1 i j te E z η = te E η (fun d => onLs d fun ds => ∃ x xs, ds = x :: xs ∧ z.nx ((η.set i (.dat x)).set j (.dat (.list xs)))) := id rfl
end
end DL

/-! DM21: lists of lists that grow: [[..]], name.append(new), name[-1].append(e). -/
namespace DL
open PySem PySem.Spec PyProof.Rows L2
section
variable {K : PySem.W.Frag} {c : Ctx} {O : Addr → Prop} {η : EnvD} {σ : L2.St} {H H' : Hp} {fp fq : List Addr}
end
section
variable {X : Cx} {e : Expr} {t : ET} {pos apos npos p ipos : Pos}
/-- [new] -/
def dDisp1 (t : ET) : ET := fun E η Q => t E η fun d => Q (.list [d])
def onMf (o : Option Cell) (k : List D → Prop) : Prop := match o with | some (.mtb false (.list ds) _) => k ds | _ => False
/-- name.append(new) -/
def sAppM (i : Nat) (t : ET) : SD := fun E z η => onMf η[i]? fun ds => t E (lend η) fun d => ds.length < sizeLine ∧ ∀ fp, z.nx (η.set i (.mtb false (.list (ds ++ [d])) fp))
/-- name[k].append(e) -/
def sAppR (i : Nat) (tk tv : ET) : SD := fun E z η => onMf η[i]? fun ds => tk E (lend η) fun d => onInt d fun k => ∃ m r, (ixN ds.length k = some m ∧ ds[m]? = some (.list r) ∧ flatAll r = true) ∧ tv E (lend η) fun v => (flat v = true ∧ r.length < sizeLine) ∧ ∀ fp, z.nx (η.set i (.mtb false (.list (ds.set m (.list (r ++ [v])))) fp))
/-! ### the equations -/
section
variable {i : Nat} {tk tv : ET} {E : XP} {z : EndsD} {η : EnvD} {Q : D → Prop} {k : List D → Prop} {ds : List D} {fp : List Addr}
theorem x_dDisp1 : dDisp1 t E η Q = t E η (fun d => Q (.list [d])) := id rfl
theorem x_onMf : onMf (some (.mtb false (.list ds) fp)) k = k ds := id rfl
theorem x_sAppM : sAppM i t E z η = onMf η[i]? (fun ds => t E (lend η) fun d => ds.length < sizeLine ∧ ∀ fp, z.nx (η.set i (.mtb false (.list (ds ++ [d])) fp))) := id rfl
theorem x_sAppR : sAppR i tk tv E z η = onMf η[i]? (fun ds => tk E (lend η) fun d => onInt d fun k => ∃ m r, (ixN ds.length k = some m ∧ ds[m]? = some (.list r) ∧ flatAll r = true) ∧ tv E (lend η) fun v => (flat v = true ∧ r.length < sizeLine) ∧ ∀ fp, z.nx (η.set i (.mtb false (.list (ds.set m (.list (r ++ [v])))) fp))) := id rfl
end
end
end DL

/-! DM22: return f(.., table): the parameter that the callee tells, given away. -/
namespace DL
open PySem PySem.Spec PyProof.Rows L2
def onFz (o : Option Cell) (k : D → Prop) : Prop := match o with | some (.mtb false m _) => k m | _ => False
def sRetSelfM (i : Nat) (wf : FM) (ts : CT) : SD := fun E z η => ts E η fun cs => wf never cs fun d m' => d = selfD ∧ onFz (stM η[i]? i m' η)[i]? z.rt
section
variable {X : Cx} {e : Expr} {ts : CT} {pos : Pos} {wf : FM}
theorem x_onFz {m : D} {fp : List Addr} {k : D → Prop} : onFz (some (.mtb false m fp)) k = k m := id rfl
theorem x_sRetSelfM {i : Nat} {E : XP} {z : EndsD} {η : EnvD} : sRetSelfM i wf ts E z η = ts E η (fun cs => wf never cs fun d m' => d = selfD ∧ onFz (stM η[i]? i m' η)[i]? z.rt) := id rfl
end
end DL

/-! DLe7: try with several clauses `except C as n`. -/
namespace L2
open PySem PySem.Spec PyProof.Rows
abbrev Cls2 := List (Value × (Addr → Value → Option Addr → TS))
def unset (i : Nat) (D : Ends) : Ends := { nx := fun σ' H' => D.nx (σ'.set i none) H', rt := D.rt, bk := fun σ' H' => D.bk (σ'.set i none) H', ct := fun σ' H' => D.ct (σ'.set i none) H' }
def wManyAs (K : PySem.W.Frag) (Wout : WX) (i : Nat) (D : Ends) : Cls2 → WX
  | [] => Wout
  | (c, ts) :: r => fun cls d σ H => ∃ b, PySem.W.exmOne K cls c = some b ∧ (b = true → ∀ a, H a = none → ts a cls d (unset i D) (σ.set i (some (.ref a))) H) ∧ (b = false → wManyAs K Wout i D r cls d σ H)
inductive HdsAs (X : Cx) (n : Str) : List ExceptHandler → Cls2 → Prop
  | nil : HdsAs X n [] []
  | cons {x : Str} {c : Value} {ts : Addr → Value → Option Addr → TS} {b₀ : Stmt} {suite : List Stmt} {np pos' : Pos} {hds : List ExceptHandler} {l : Cls2} (hc : Names X x c)
      (hsu : ∀ (a : Addr) (oe : Obj) (cls : Value) (d : Option Addr) (pn : List (Addr × Obj)), Zc cls d oe → (∃ vs, oe.data = .fields vs) → PSs (X.suite a ((a, oe) :: pn)) (b₀ :: suite) (ts a cls d)) (r : HdsAs X n hds l) :
      HdsAs X n (.ExceptHandler (some (.Name x np)) (some n) (b₀ :: suite) pos' :: hds) ((c, ts) :: l)
section
variable {X : Cx} {body : List Stmt} {h₀ : ExceptHandler} {hds : List ExceptHandler} {l : Cls2} {pos : Pos} {tb : WX → TS} {Wout : WX} {n : Str} {i : Nat} {pins : List (Addr × Obj)} {D : Ends}
theorem out_of_frs {B h : Heap} {es : List Env} {a : Addr} {o : Obj} {vs : Array Value} (ff : h.FunFrames B es) (e : h.get? a = some o) (dd : o.data = .fields vs) : a ∉ frs es := fun hm => by
  obtain ⟨_, o', e', hnf⟩ := ff.mem hm
  rw [e] at e'
  cases e'
  exact hnf _ dd
/-- the clauses, from one of them on: the exception a has been seen -/
theorem handled (hs : X.stack = X.env :: X.outer) (hf : X.env.frame = some X.env.locals) (hN : X.N.Nodup) (hi : X.N[i]? = some n) (hln : X.env.kindOf n = some .local) (tk : Takes X Wout) {a : Addr} {B h3 : Heap} {sI s' : Shared} {σ' : St} {H' : Hp} {cls : Value} {d : Option Addr}
    (ok : X.Ok) (J : Inv X pins σ' H' sI) (nb : ∀ b o, sI.heap.get? b = some o → b ∉ frs X.stack → B.get? b = some o) (up : sI.heap.UpToSlots h3) (fl : HandSPX.FlyingZ B (X.env :: X.outer) a (Zc cls d) h3) (na : H' a = none) (os : s'.os = sI.os) (ag : AllBare s'.gens)
    (hk : HdsAs X n hds l) (w : wManyAs X.K Wout i D l cls d σ' H') : wpAny (model X.prog X.w) X.A (handleBy (.ref a) X.env hds) (SP X pins D) X.xe { s' with heap := h3 } := by
  have J3 : Inv X pins σ' H' { s' with heap := h3 } := J.landed nb fl.1 up os ag
  obtain ⟨oe3, vs3, he3, hz3, hd3⟩ := fl.there
  have nfr := out_of_frs fl.2.2.1 he3 hd3
  have nL : a ≠ X.env.locals := fun z => nfr (List.mem_filterMap.mpr ⟨X.env, List.mem_cons_self, by rw [hf, z]⟩)
  have nF : a ∉ X.fs := fun hm => by
    obtain ⟨e, he, q⟩ := List.mem_filterMap.mp hm
    exact nfr (List.mem_filterMap.mpr ⟨e, List.mem_cons_of_mem _ he, q⟩)
  have S3 := J3.suite he3 hd3 na nL nF
  induction hk with
  | nil =>
    refine wpAny_handleBy_nil ?_
    obtain ⟨k1, k2, k3, oe, vs, T, oT, ts', he, hz, hd, h1, hr⟩ := id fl
    unfold PySem.passOn
    refine wpAny_bind (wpAny_field he hd h1 ?_)
    rw [if_neg (show ¬ ((Value.ref T == Value.none) = true) from by simp)]
    have fin : wpAny (model X.prog X.w) X.A (setFlight (.ref a) X.env.frame) (fun _ s4 => wpAny (model X.prog X.w) X.A (throw (.ref a) : Sem Flow) (SP X pins D) X.xe s4) X.xe { s' with heap := h3 } := by
      rw [hf]
      refine HandSPX.setFlight_upZ fl fun h4 hh4 up4 => wpAny_throw (tk _ _ ?_)
      exact ⟨a, B, sI, pins, σ', H', cls, d, rfl, J, nb, up.trans up4, .inr (.inr (by rw [hs]; exact hh4)), na, os, ag, w⟩
    first
      | exact wpAny_bind (wpAny_pure (wpAny_bind fin))
      | exact wpAny_bind fin
  | @cons x c ts b₀ suite np pos' hds2 l2 hc hsu r ih =>
    obtain ⟨b, hb1, hyes, hno⟩ := w
    refine wpAny_handleBy_cons (codeAny_handlers_test ?_) (by intro q; cases q)
    have LT : PySem.W.Looks (model X.prog X.w) h3 (typeOf (.ref a)) cls := fun A Q E s k q => wpAny_typeOf_ref (k _ _ he3) (by rw [hz3.1]; exact q)
    have LM := PySem.W.exm_one (M := model X.prog X.w) (J3.kIn) LT hb1
    have test : ∀ {Q : Value → Shared → Prop} {E : Value → Shared → Prop}, Q c { s' with heap := h3 } → wpAny (model X.prog X.w) (X.A.mark (some (.ref a))) (eval (.Name x np) X.env) Q E { s' with heap := h3 } := fun {Q E} q => by
      obtain ⟨hg, hdbg, hm | ⟨hm, hv, hnn⟩⟩ := hc
      · exact ld_glob (X := X.suite a ((a, oe3) :: (X.pn ++ pins))) S3 hg hm q hdbg
      · exact ld_blt (X := X.suite a ((a, oe3) :: (X.pn ++ pins))) S3 hg hm hv q hnn hdbg
    refine test (LM.here ?_)
    cases b with
    | true =>
      refine codeAny_handlers_suite_as ?_
      refine HandSPX.lands_againZ fl fun h4 fl4 up4 => ?_
      have J4 : Inv X pins σ' H' { s' with heap := h4 } := J.landed nb fl4.1 (up.trans up4) os ag
      obtain ⟨oe4, vs4, he4, hz4, hd4⟩ := fl4.there
      have S4 := J4.suite he4 hd4 na nL nF
      refine store_ok (X := X.suite a ((a, oe4) :: (X.pn ++ pins))) (v := .ref a) S4 hN hi (.inl hln) rfl (fun s5 S5 => ?_) (.inr hln)
      refine wpAny_mono ((hsu a oe4 cls d (X.pn ++ pins) hz4 ⟨_, hd4⟩).run [] s5 _ H' _ S5 (hyes rfl a na)) (fun f s6 hsp => ?_) (fun _ _ z => False.elim z)
      have end_ : ∀ {σ6 : St} {H6 : Hp} {Q : Shared → Prop}, Inv (X.suite a ((a, oe4) :: (X.pn ++ pins))) [] σ6 H6 s6 → (∀ s7, Inv X pins (σ6.set i none) H6 s7 → Q s7) →
          wpAny (model X.prog X.w) X.A (do bindName X.env n .none; unbindBehindTheSuite X.env n pos') (fun _ s7 => Q s7) X.xe s6 := fun {σ6 H6 Q} S6 hq => gone_ok (S6.unsuite ok) hN hi hln hq
      cases f with
      | next =>
        obtain ⟨σ6, H6, S6, q6⟩ := hsp
        exact end_ S6 fun s7 J7 => ⟨_, _, J7, q6⟩
      | brk =>
        obtain ⟨σ6, H6, S6, q6⟩ := hsp
        exact end_ S6 fun s7 J7 => ⟨_, _, J7, q6⟩
      | cont =>
        obtain ⟨σ6, H6, S6, q6⟩ := hsp
        exact end_ S6 fun s7 J7 => ⟨_, _, J7, q6⟩
      | ret u =>
        obtain ⟨v6, σ6, H6, S6, r6, q6⟩ := hsp
        exact end_ S6 fun s7 J7 => ⟨_, _, _, J7, r6, q6⟩
    | false =>
      show wpAny _ X.A (handleBy (.ref a) X.env hds2) _ _ _
      exact ih (hno rfl)
end
end L2
namespace DL
open PySem PySem.Spec PyProof.Rows L2
abbrev HdL := List (Str × List Str × (List D → D))
/-- what the clauses tell of an exception -/
def hearN (R : D → Prop) (nm : Str) (fs : List (Str × D)) : HdL → Prop
  | [] => False
  | (cn, fl, k) :: r => if nm = cn then fs.map (·.1) = fl ∧ R (k (fs.map (·.2))) else hearN R nm fs r
def sTryN (t : SD) (l : HdL) : SD := fun E z η => t (fun nm fs => hearN z.rt nm fs l) z η
/-- the suite's reading brings the value k of the fields -/
def Brings (X : Cx) (i : Nat) (C : Addr) (fl : List Str) (k : List D → D) (ts : Addr → Value → Option Addr → TS) : Prop :=
  ∀ (a dx : Addr) (fs : List (Str × V)) (Z : Ends) (σ : L2.St) (H : Hp), i < σ.length → fs.map (·.1) = fl → H dx = some (.xd fs) →
    (∀ (u : V) (H' : Hp), (∀ (B : Addr → Prop) (G : Option (Addr × Addr)) (ds : List D), (∀ a, B a → H a ≠ none) → DrawOk G H → RepAll X.K B H (fs.map (·.2)) ds → Step G H H' ∧ Rep X.K B H' u (k ds)) → Z.rt u H') → ts a (.ref C) (some dx) Z (σ.set i (some (.ref a))) H
inductive HdsD (X : Cx) (n : Str) (i : Nat) : List ExceptHandler → HdL → Prop
  | nil : HdsD X n i [] []
  | cons {cn : Str} {fl : List Str} {k : List D → D} {C : Addr} {ts : Addr → Value → Option Addr → TS} {b₀ : Stmt} {suite : List Stmt} {np pos' : Pos} {hds : List ExceptHandler} {l : HdL} (hg : Gl X cn) (hdb : (cn == ("__debug__" : Str)) = false) (hm : X.mg cn = some (.ref C))
      (hsu : ∀ (a : Addr) (oe : Obj) (cls : Value) (d : Option Addr) (pn : List (Addr × Obj)), Zc cls d oe → (∃ vs, oe.data = .fields vs) → PSs (X.suite a ((a, oe) :: pn)) (b₀ :: suite) (ts a cls d)) (br : Brings X i C fl k ts) (r : HdsD X n i hds l) :
      HdsD X n i (.ExceptHandler (some (.Name cn np)) (some n) (b₀ :: suite) pos' :: hds) ((cn, fl, k) :: l)
/-- of two of the classes none is under the other -/
def Apart (K : PySem.W.Frag) (mg : Str → Option Value) (l : List Str) : Prop := ∀ x ∈ l, ∀ y ∈ l, ∀ C C', mg x = some (.ref C) → mg y = some (.ref C') → PySem.W.exmOne K (.ref C) (.ref C') = some (decide (x = y))
section
variable {X : Cx} {n : Str} {i : Nat} {hds : List ExceptHandler} {h₀ : ExceptHandler} {l : HdL} {body : List Stmt} {t : SD} {pos : Pos}
theorem HdsD.raw (h : HdsD X n i hds l) : ∃ l2 : Cls2, HdsAs X n hds l2 ∧ ∀ {R : DL.D → Prop} {Wout : WX} {Z : Ends} {nm : Str} {C' dx : Addr} {fs : List (Str × DL.D)} {vs : List (Str × V)} {σ : L2.St} {H : Hp},
    (∀ y ∈ l.map (·.1), ∀ C, X.mg y = some (.ref C) → PySem.W.exmOne X.K (.ref C') (.ref C) = some (decide (nm = y))) → hearN R nm fs l → X.mg nm = some (.ref C') → i < σ.length → H dx = some (.xd vs) → vs.map (·.1) = fs.map (·.1) →
      (∀ (u : V) (H2 : Hp) (k : List DL.D → DL.D), (∀ (B : Addr → Prop) (G : Option (Addr × Addr)) (ds : List DL.D), (∀ a, B a → H a ≠ none) → DrawOk G H → RepAll X.K B H (vs.map (·.2)) ds → Step G H H2 ∧ Rep X.K B H2 u (k ds)) → R (k (fs.map (·.2))) → Z.rt u H2) →
      wManyAs X.K Wout i Z l2 (.ref C') (some dx) σ H := by
  induction h with
  | nil => exact ⟨[], .nil, fun _ hh => hh.elim⟩
  | @cons cn fl k C ts b₀ suite np pos' hds l hg hdb hm hsu br r ih =>
    obtain ⟨l2, k1, k2⟩ := ih
    refine ⟨(.ref C, ts) :: l2, .cons ⟨hg, hdb, .inl hm⟩ hsu k1, fun {R Wout Z nm C' dx fs vs σ H} hx hh hC hi hd hv fin => ?_⟩
    refine ⟨_, hx cn List.mem_cons_self C hm, fun e a na => ?_, fun e => ?_⟩
    · have e := of_decide_eq_true e
      subst e
      rw [hm] at hC
      cases hC
      rw [hearN, if_pos rfl] at hh
      exact br a dx vs _ σ H hi (hv.trans hh.1) hd fun u H' kk => fin u H' k kk hh.2
    · have e := of_decide_eq_false e
      rw [hearN, if_neg e] at hh
      exact k2 (fun y hy => hx y (List.mem_cons_of_mem _ hy)) hh hC hi hd hv fin
theorem HdsD.cls (h : HdsD X n i hds l) {nm : Str} (hm : nm ∈ l.map (·.1)) : ∃ C, X.mg nm = some (.ref C) := by
  induction h with
  | nil => cases hm
  | cons _ _ hC _ _ _ ih =>
    rcases List.mem_cons.mp hm with rfl | z
    · exact ⟨_, hC⟩
    · exact ih z
end
end DL
namespace DL
open PySem PySem.Spec PyProof.Rows L2
section
variable {X : Cx} {n f f2 cn c : Str} {i : Nat} {hds : List ExceptHandler} {l : HdL} {C : Addr} {np pos' p1 p2 p3 p4 p5 p6 pc : Pos} {j x1 : Nat}
theorem x_sTryN {t : SD} {l : HdL} {E : XP} {z : EndsD} {η : EnvD} : sTryN t l E z η = t (fun nm fs => hearN z.rt nm fs l) z η := id rfl
end
end DL

/-! DLe8: an exception class of the program with two fields. -/
namespace DL
open PySem PySem.Spec PyProof.Rows L2
/-- the body of such an __init__ -/
abbrev exBody2 (fld fld2 msg : Str) (j : Nat) (p0 p1 p2 p3 p4 p5 p6 p7 p8 p9 p10 p11 p12 p13 : Pos) : List Stmt :=
  [.Expr (.Call (.Attribute (.Call (.Name "super" p0) [] [] p1) "__init__" p2) [.Constant (.str msg) j p3] [] p4) p5, .Assign [.Attribute (.Name "self" p6) fld p7] (.Name fld p8) p9, .Assign [.Attribute (.Name "self" p10) fld2 p11] (.Name fld2 p12) p13]
section
variable {M : Model} {A : Around} {E : Value → Shared → Prop} {hp : Heap} {g : Array GenState} {dr : Drawn} {t : Nat} {os : OsState} {x C t1 dx : Addr} {cd : ClassData} {name : Str} {tk : Tok} {v : Value} {m0 : Str → Option Value} {nl : List Str} {Q : Fin → Shared → Prop} {b : Bool}
end
section
variable {prog : Program} {w : World} {A : Around} {K : PySem.W.Frag} {B newId initId : String} {bmB : List Value} {C fI cc cda : Addr} {fld fld2 msg q : Str} {scope : Scope} {p0 p1 p2 p3 p4 p5 p6 p7 p8 p9 p10 p11 p12 p13 : Pos} {j : Nat} {params : Arguments} {fd : FuncData}
end
def tMkS2 (C : Addr) (f f2 : Str) (ta : TA) : L2.St → Hp → XK → Prop := fun σ H Q => ta σ H fun vs H1 => ∃ v v2, vs = [v, v2] ∧ ∀ dx, H1 dx = none → Q (.ref C) (some dx) (upd H1 dx (.xd [(f, v), (f2, v2)]))
section
variable {X : Cx} {B newId initId : String} {bmB : List Value} {C fI cc cda : Addr} {fld fld2 msg q : Str} {scope : Scope} {p0 p1 p2 p3 p4 p5 p6 p7 p8 p9 p10 p11 p12 p13 : Pos} {j : Nat} {params : Arguments} {fd : FuncData} {x : Str} {e e2 : Expr} {ta : TA} {p pos : Pos}
end
end DL
namespace DL
open PySem PySem.Spec PyProof.Rows L2
structure ClsIn2 (P : Program) (K : PySem.W.Frag) (mg : Str → Option Value) (nm fld fld2 : Str) : Prop where
  ex : ∃ (C fI cc cda : Addr) (B newId initId : String) (bmB : List Value) (q : Str) (params : Arguments) (scope : Scope) (fd : FuncData) (msg : Str) (j : Nat) (p0 p1 p2 p3 p4 p5 p6 p7 p8 p9 p10 p11 p12 p13 : Pos),
    ExFacts P K B newId initId bmB C fld fI cc cda q params (exBody2 fld fld2 msg j p0 p1 p2 p3 p4 p5 p6 p7 p8 p9 p10 p11 p12 p13) scope fd ∧ (ExScope scope fld ∧ scope.names.lookup fld2 = some .local ∧ (fld2 == ("__debug__" : Str)) = false ∧ fld2 ≠ "self" ∧ fld2 ≠ fld ∧ PySem.W.takerIn K C fld2 = some none ∧ ∀ env : Env, swapsWith (.Name fld2 p12) (some (.Attribute (.Name "self" p10) fld2 p11)) p13.line env = pure false) ∧ SuperCall msg j p0 p1 p2 p3 p4 ∧ NoSwap fld msg j p0 p1 p2 p3 p4 p5 p6 p7 p8 p9 ∧
    (params.posonlyargs ++ params.args).head?.map (·.arg) = some ("self" : Str) ∧ L2.Binds K fd ["self", fld, fld2] [] ∧ mg "super" = none ∧ mg nm = some (.ref C) ∧ XfC K C ∧ PySem.W.findIn K (.ref C) fld = some none ∧ PySem.W.findIn K (.ref C) fld2 = some none ∧ PySem.W.exmOne K (.ref C) (.ref C) = some true
def ClsAt2 (P : Program) (K : PySem.W.Frag) (nm fld fld2 : Str) : Prop := ∀ mg : Str → Option Value, (∀ (n : Str) (v : Value), PySem.W.nsIn K mainGlobals n = some (some v) → mg n = some v) → (∀ n : Str, PySem.W.nsIn K mainGlobals n = some none → mg n = none) → ClsIn2 P K mg nm fld fld2
def two2 (k : D → D → Prop) (ds : List D) : Prop := match ds with | [d, d2] => k d d2 | _ => False
def sRaise2 (nm f f2 : Str) (t t2 : ET) : SD := fun E _ η => t E (lend η) fun d => t2 E (lend η) fun d2 => E nm [(f, d), (f2, d2)]
section
variable {X : Cx} {nm fld fld2 : Str} {e e2 : Expr} {t t2 : ET} {p pos pos' : Pos} {C : Addr} {f f2 : Str}
theorem x_sRaise2 {E : XP} {z : EndsD} {η : EnvD} : sRaise2 nm f f2 t t2 E z η = t E (lend η) (fun d => t2 E (lend η) fun d2 => E nm [(f, d), (f2, d2)]) := id rfl
end
end DL

/-! DLe9: clauses by what is known of their classes; four classes apart. -/
namespace DL
open PySem PySem.Spec PyProof.Rows L2
section
variable {X : Cx} {n f f2 cn c : Str} {i : Nat} {hds : List ExceptHandler} {l : HdL} {np pos' p1 p2 p3 p4 p5 p6 pc : Pos} {j x1 : Nat}
end
def ApartAt (K : PySem.W.Frag) (l : List Str) : Prop := ∀ mg : Str → Option Value, (∀ (n : Str) (v : Value), PySem.W.nsIn K mainGlobals n = some (some v) → mg n = some v) → Apart K mg l
end DL

/-! DLe10: a comprehension whose element may raise. -/
namespace L2
open PySem PySem.Spec PyProof.Rows
section
variable {M : Model} {A : Around} {E : Value → Shared → Prop} {s : Shared} {env : Env}
def postF (M : Model) (A : Around) (E : Value → Shared → Prop) (Q : Value → Shared → Prop) (acc : Value) (cenv : Env) (r : Result) (s' : Shared) : Prop :=
  match r with
  | .ok _ => ∃ m, s'.heap.Ns cenv.locals m ∧ ∀ h', Heap.SameBut cenv.locals s'.heap h' → Q acc { s' with heap := h' }
  | .error x => ∃ m, s'.heap.Ns cenv.locals m ∧ ∀ h', Heap.SameBut cenv.locals s'.heap h' → wpAny M A (passOn "comprehension.variables-let-go" x cenv : Sem Value) (fun _ _ => False) E { s' with heap := h' }
end
abbrev Cx.blkE (X : Cx) (s : Shared) (H : Hp) (scope : Scope) (cenv : Env) (fp : List Addr) (xe : Value → Shared → Prop) : Cx := { X.blk s H scope cenv fp with xe := xe }
section
open HandSPX
variable {M : Model} {A : Around} {E : Value → Shared → Prop} {s : Shared} {env : Env} {outer : List Env} {base : Heap} {e L : Addr} {Z : Obj → Prop} {fl : Value}
end
section
open HandSPX
variable {X : Cx} {pins : List (Addr × Obj)} {σ : St} {H3 : Hp} {s3 : Shared} {scope : Scope} {cl : List (Str × Addr)} {fp : List Addr} {W : WX} {Qf : Value → Shared → Prop} {acc : Value}
end
section
variable {X : Cx}
end
end L2
namespace DL
open PySem PySem.Spec PyProof.Rows L2
def liftEr (X : Cx) (t : ET) : TE := fun σ H R => ∃ (c : Ctx) (O : Addr → Prop) (η : EnvD) (E : XP) (Q : D → Prop), Good X.K c O η σ H ∧ EOk X c E ∧ t E η Q ∧ ∀ d v H', Step c.G H H' → Rep X.K O H' v d → Q d → R v H'
def compDE (E : XP) (g : GT) (tt : BT) (te : ET) (η0 : EnvD) : List D → List D → (List D → Prop) → Prop
  | [], acc, Q => Q acc
  | d :: ds, acc, Q => g d η0 fun η1 => tt never η1 fun b => if b = true then te E η1 fun y => acc.length < sizeLine ∧ compDE E g tt te η0 ds (acc ++ [y]) Q else compDE E g tt te η0 ds acc Q
def nCompE (own : List Nat) (ti : IT) (g : GT) (tt : BT) (te : ET) : NT := fun E η Q => ti E η fun ds => compDE E g tt te (wipeD η own) ds [] Q
section
variable {X : Cx} {elt tg iter : Expr} {ifs : List Expr} {scope : Scope} {own : List (Str × Nat)} {is : List Nat} {pos : Pos} {ti : IT} {g : GT} {tt : BT} {te : ET}
theorem x_nCompE {own : List Nat} {E : XP} {η : EnvD} {Q : List D → Prop} : nCompE own ti g tt te E η Q = ti E η (fun ds => compDE E g tt te (wipeD η own) ds [] Q) := id rfl
end
end DL

/-! DM23: lists of lists: name.insert(p, new), name[k].insert(p, e), name[k][p] = e, name[k].pop(p). -/
namespace DL
open PySem PySem.Spec PyProof.Rows L2
section
variable {X : Cx} {c : Ctx} {E : XP} {O : Addr → Prop} {η : EnvD} {σ : L2.St} {H : Hp} {i m : Nat} {ds r : List D} {fp : List Addr}
end
section
variable {X : Cx} {e1 e2 e3 : Expr} {tk tp te : ET} {pos apos npos p ipos jpos : Pos}
/-- name[k].insert(p, e) -/
def sInsR (i : Nat) (tk tp te : ET) : SD := fun E z η => onMf η[i]? fun ds => tk E (lend η) fun d => onInt d fun k => ∃ m r, (ixN ds.length k = some m ∧ ds[m]? = some (.list r) ∧ flatAll r = true) ∧ tp E (lend η) fun dp => onInt dp fun j => te E (lend η) fun v => (flat v = true ∧ 0 ≤ j ∧ j < 2 ^ 63 ∧ r.length < sizeLine) ∧ ∀ fp, z.nx (η.set i (.mtb false (.list (ds.set m (.list (r.take j.toNat ++ [v] ++ r.drop j.toNat)))) fp))
/-- name[k].pop(p) -/
def sPopR (i : Nat) (tk tp : ET) : SD := fun E z η => onMf η[i]? fun ds => tk E (lend η) fun d => onInt d fun k => ∃ m r, (ixN ds.length k = some m ∧ ds[m]? = some (.list r) ∧ flatAll r = true) ∧ tp E (lend η) fun dp => onInt dp fun j => ∃ n, (ixN r.length j = some n ∧ -(2 ^ 63) ≤ j ∧ j < 2 ^ 63) ∧ ∀ fp, z.nx (η.set i (.mtb false (.list (ds.set m (.list (r.eraseIdx n)))) fp))
/-- name[k][p] = e -/
def sPutR (i : Nat) (tk tp te : ET) : SD := fun E z η => onMf η[i]? fun ds => te E (lend η) fun v => flat v = true ∧ tk E (lend η) fun d => onInt d fun k => ∃ m r, (ixN ds.length k = some m ∧ ds[m]? = some (.list r) ∧ flatAll r = true) ∧ tp E (lend η) fun dp => onInt dp fun j => ∃ n, ixN r.length j = some n ∧ ∀ fp, z.nx (η.set i (.mtb false (.list (ds.set m (.list (r.set n v)))) fp))
theorem DeepAll.split {K : PySem.W.Frag} {H : Hp} : ∀ {vs : List V} {ds : List D} {fs : List Addr} (j : Nat), DeepAll K H vs ds fs → ∃ f1 f2, fs = f1 ++ f2 ∧ DeepAll K H (vs.take j) (ds.take j) f1 ∧ DeepAll K H (vs.drop j) (ds.drop j) f2
  | _, _, _, 0, h => ⟨[], _, rfl, .nil, h⟩
  | _, _, _, _ + 1, .nil => ⟨[], [], rfl, .nil, .nil⟩
  | _, _, _, j + 1, .cons r t => by
    obtain ⟨f1, f2, e, k1, k2⟩ := DeepAll.split j t
    exact ⟨_ ++ f1, f2, by rw [e, List.append_assoc], .cons r k1, k2⟩
/-- name.insert(p, new) -/
def sInsM (i : Nat) (tp t : ET) : SD := fun E z η => onMf η[i]? fun ds => tp E (lend η) fun dp => onInt dp fun j => t E (lend η) fun d => (0 ≤ j ∧ j < 2 ^ 63 ∧ ds.length < sizeLine) ∧ ∀ fp, z.nx (η.set i (.mtb false (.list (ds.take j.toNat ++ [d] ++ ds.drop j.toNat)) fp))
/-! ### the equations -/
variable {i : Nat} {E : XP} {z : EndsD} {η : EnvD}
theorem x_sInsR : sInsR i tk tp te E z η = onMf η[i]? (fun ds => tk E (lend η) fun d => onInt d fun k => ∃ m r, (ixN ds.length k = some m ∧ ds[m]? = some (.list r) ∧ flatAll r = true) ∧ tp E (lend η) fun dp => onInt dp fun j => te E (lend η) fun v => (flat v = true ∧ 0 ≤ j ∧ j < 2 ^ 63 ∧ r.length < sizeLine) ∧ ∀ fp, z.nx (η.set i (.mtb false (.list (ds.set m (.list (r.take j.toNat ++ [v] ++ r.drop j.toNat)))) fp))) := id rfl
theorem x_sPopR : sPopR i tk tp E z η = onMf η[i]? (fun ds => tk E (lend η) fun d => onInt d fun k => ∃ m r, (ixN ds.length k = some m ∧ ds[m]? = some (.list r) ∧ flatAll r = true) ∧ tp E (lend η) fun dp => onInt dp fun j => ∃ n, (ixN r.length j = some n ∧ -(2 ^ 63) ≤ j ∧ j < 2 ^ 63) ∧ ∀ fp, z.nx (η.set i (.mtb false (.list (ds.set m (.list (r.eraseIdx n)))) fp))) := id rfl
theorem x_sPutR : sPutR i tk tp te E z η = onMf η[i]? (fun ds => te E (lend η) fun v => flat v = true ∧ tk E (lend η) fun d => onInt d fun k => ∃ m r, (ixN ds.length k = some m ∧ ds[m]? = some (.list r) ∧ flatAll r = true) ∧ tp E (lend η) fun dp => onInt dp fun j => ∃ n, ixN r.length j = some n ∧ ∀ fp, z.nx (η.set i (.mtb false (.list (ds.set m (.list (r.set n v)))) fp))) := id rfl
theorem x_sInsM : sInsM i tp te E z η = onMf η[i]? (fun ds => tp E (lend η) fun dp => onInt dp fun j => te E (lend η) fun d => (0 ≤ j ∧ j < 2 ^ 63 ∧ ds.length < sizeLine) ∧ ∀ fp, z.nx (η.set i (.mtb false (.list (ds.take j.toNat ++ [d] ++ ds.drop j.toNat)) fp))) := id rfl
end
end DL

/-! DM24: words.index(word). -/
namespace DL
open PySem PySem.Spec PyProof.Rows L2
section
variable {X : Cx} {o e : Expr} {to te : ET} {apos p : Pos}
/-- texts.index(text) -/
def dIdx (to te : ET) : ET := fun E η Q => to E η fun x => onLs x fun ds => te E η fun y => onStr y fun a => ∃ (ss : List Str) (j : Nat), ds = ss.map .str ∧ ss[j]? = some a ∧ (∀ m, m < j → ∀ b, ss[m]? = some b → b ≠ a) ∧ Q (.int j)
theorem x_dIdx {E : XP} {η : EnvD} {Q : D → Prop} : dIdx to te E η Q = to E η (fun x => onLs x fun ds => te E η fun y => onStr y fun a => ∃ (ss : List Str) (j : Nat), ds = ss.map .str ∧ ss[j]? = some a ∧ (∀ m, m < j → ∀ b, ss[m]? = some b → b ≠ a) ∧ Q (.int j)) := id rfl
/-- one sign that is not in a text -/
def oNotInSg : OpD
  | .str x, .str z, Q => ∃ c : Nat, x = ⟨#[c]⟩ ∧ Q (.bool (!decide (c ∈ z.cps.toList)))
  | _, _, _ => False
theorem x_oNotInSg {x z : Str} {Q : D → Prop} : oNotInSg (.str x) (.str z) Q = (∃ c : Nat, x = ⟨#[c]⟩ ∧ Q (.bool (!decide (c ∈ z.cps.toList)))) := id rfl
end
end DL

/-! DM25: set(xs) == {i}, xs a list of whole numbers. -/
namespace DL
open PySem PySem.Spec PyProof.Rows L2
section
variable {P : Program} {w : World} {A : Around} {E : Value → Shared → Prop} {s : Shared} {a b : Addr} {S : Int → Bool} {n : Nat} {i : Int} {Q : Value → Shared → Prop}
end
/-! ### the sets as objects that stand -/
def setO (w : World) (a : Addr) (S : Int → Bool) (n : Nat) : HO := .ext fun h => SetR w h a S n
def oneO (P : Program) (w : World) (a : Addr) (S : Int → Bool) (n : Nat) : HO := .ext fun h => h.SetOf (PySem.intKind P w) a S n
section
variable {P : Program} {w : World} {A : Around} {E : Value → Shared → Prop} {s : Shared} {D : Addr}
end
section
variable {X : Cx} {e e2 : Expr} {ta tb : TE} {p p2 p3 pos : Pos}
/-- some, and all the same -/
def allB (ns : List Int) (i : Int) : Bool := !ns.isEmpty && ns.all fun x => decide (x = i)
/-- set(xs) -/
def tSetL (K : PySem.W.Frag) (w : World) (ta : TE) : TE := fun σ H Q => ta σ H fun x H1 => ∃ (l : Addr) (ns : List Int), x = V.ref l ∧ SqL K H1 l (ns.map V.int) ∧ ns.length < 4000 ∧ ∀ (D : Addr) (c : Nat), H1 D = none → (∀ i : Int, (decide (c = 1) && decide (i ∈ ns)) = allB ns i) → Q (.ref D) (upd H1 D (setO w D (fun j => decide (j ∈ ns)) c))
/-- {e} -/
def tSet1 (P : Program) (w : World) (tb : TE) : TE := fun σ H Q => ∀ D : Addr, H D = none → (∃ h : Heap, h.SetOf (PySem.intKind P w) D (fun _ => false) 0) → tb σ (upd H D (oneO P w D (fun _ => false) 0)) fun y H1 => ∃ i : Int, y = .int i ∧ H1 D = some (oneO P w D (fun _ => false) 0) ∧ Q (.ref D) (upd H1 D (oneO P w D (fun k => decide (k = i)) 1))
/-- the comparison -/
def rSetEq (P : Program) (w : World) : R2 := fun x y H Q => ∃ (a b : Addr) (S : Int → Bool) (n : Nat) (i : Int), x = .ref a ∧ y = .ref b ∧ H a = some (setO w a S n) ∧ H b = some (oneO P w b (fun k => decide (k = i)) 1) ∧ Q (.bl (decide (n = 1) && S i)) H
/-- set(xs) == {e} -/
def dSetEq (t1 t2 : ET) : ET := fun E η Q => t1 E η fun d => onList d fun xs => (xs.length < 4000 ∧ xs.all isI = true) ∧ t2 E η fun d2 => onInt d2 fun i => Q (.bool (allB (xs.map iOf) i))
end
/-! ### y = [.. for .. for ..] in one row, y a local -/
section
variable {X : Cx} {elt tg iter tg1 iter1 : Expr} {ifs ifs1 : List Expr} {scope : Scope} {own : List (Str × Nat)} {is is1 vs1 : List Nat} {cpos pos : Pos} {ti ti1 : IT} {g g1 : GT} {tt tt1 : BT} {te : ET} {y : Str} {py : Pos}
end
/-! ### defs whose code object is known -/
section
variable {P : Program} {w : World} {K : PySem.W.Frag} {mg : Str → Option Value} {base : Heap} {k : Nat}
theorem x_dSetEq {t1 t2 : ET} {E : XP} {η : EnvD} {Q : D → Prop} : dSetEq t1 t2 E η Q = t1 E η (fun d => onList d fun xs => (xs.length < 4000 ∧ xs.all isI = true) ∧ t2 E η fun d2 => onInt d2 fun i => Q (.bool (allB (xs.map iOf) i))) := id rfl
end
end DL

/-! DM26: `x, y = NEW, E`: a new structure and a datum at once. -/
namespace DL
open PySem PySem.Spec PyProof.Rows L2
def sParM (i j : Nat) (t u : ET) : SD := fun E z η => t E η fun d => ∀ fp, u E η fun y => z.nx ((η.set i (.mtb false d fp)).set j (.dat y))
section
variable {X : Cx} {a b : Expr} {t u : ET} {pos : Pos}
end
section
variable {i j : Nat} {t u : ET} {E : XP} {z : EndsD} {η : EnvD}
end
end DL

/-! DM27: what is read of an instance by a property, by len(x), by `e in x`. -/
namespace DL
open PySem PySem.Spec PyProof.Rows L2
section
variable {X : Cx} {nm f m x : Str} {p pos : Pos} {wf : FT} {k j : Nat}
/-- a property of the class keeps its promise -/
structure HasP (P : Program) (w : World) (K : PySem.W.Frag) (mg : Str → Option Value) (base : Heap) (nm f : Str) (k : Nat) (wf : FT) : Prop where
  ex : ∀ C, ClsOf K nm C → L2.Cls K C ∧ ∃ p g fd, PropOf K C f p g ∧ Binds K fd ["self"] [] ∧ FnD P w K mg base k g fd ["self"] wf
/-- what the head tells of a property -/
def PropIn (K : PySem.W.Frag) (nm f : Str) (st : Stmt) : Prop := ∀ C, ClsOf K nm C → L2.Cls K C ∧ ∃ p g fd, PropOf K C f p g ∧ Fun K f (nm ++ ("." : Str) ++ f) st g fd ∧ Binds K fd ["self"] []
def dProp (i : Nat) (nm : Str) (wf : FT) : ET := fun _ η Q => onLin η[i]? fun nm' fs => nm' = nm ∧ wf never [.lin nm fs] Q
/-! ### len(x) -/
def dLenI (i : Nat) (nm : Str) (wf : FT) : ET := fun _ η Q => onLin η[i]? fun nm' fs => nm' = nm ∧ wf never [.lin nm fs] fun d => ∃ n : Nat, d = .int n ∧ n < 2 ^ 62 ∧ Q d
/-! ### e in x -/
def dInI (i : Nat) (nm : Str) (wf : FT) (t : ET) : ET := fun E η Q => t E η fun d => onLin η[i]? fun nm' fs => nm' = nm ∧ wf never [.lin nm fs, .dat d] fun r => ∃ b : Bool, r = .bool b ∧ Q (.bool b)
def rInI (X : Cx) (nm : Str) (wf : FT) : R2 := fun x y H R => ∃ (a : Addr) (c : Ctx) (O : Addr → Prop) (η : EnvD) (σ : L2.St) (C dx : Addr) (vs : List (Str × V)) (fs : List (Str × D)) (d : D) (Q : D → Prop), y = .ref a ∧ H a = some (.ins C dx vs) ∧ ClsOf X.K nm C ∧ Good X.K c O η σ H ∧
    InsAt X.K O H (.ref a) nm fs ∧ Rep X.K O H x d ∧ (wf never [.lin nm fs, .dat d] fun r => ∃ b : Bool, r = .bool b ∧ Q (.bool b)) ∧ ∀ (b : Bool) H', Step c.G H H' → Q (.bool b) → R (.bl b) H'
end
section
variable {i : Nat} {nm : Str} {wf : FT} {E : XP} {η : EnvD} {Q : D → Prop} {t : ET}
end
end DL

/-! DM28: h(lambda: e), where h tells [e], or the field of one class's exception. -/
namespace DL
open PySem PySem.Spec PyProof.Rows L2
abbrev N_heard : List Str := ["_law_call", "e"]
/-- what that def makes of the call's reading -/
def heardT (K : PySem.W.Frag) (mg : Str → Option Value) (cn fl : Str) (tl : XK → Hp → VK → Prop) (f c' : Addr) (q : Str) : TS := fun Dz σ H0 => ∃ (O : Addr → Prop) (G : Option (Addr × Addr)) (R : D → Prop),
  Good K ⟨O, G, H0, [], []⟩ O [.obj f none, .un] σ H0 ∧ H0 c' = some (LamX.CodeO c' q) ∧
  (∀ (E' : XK) (Q' : VK), (∀ cls d H', ErrG K mg O G H0 (fun nm fs => nm = cn ∧ ∃ d, fs = [(fl, d)] ∧ R d) cls d H' → E' cls d H') → (∀ v d H', Step G H0 H' → Rep K O H' v d → R (.list [d]) → Q' v H') → tl E' H0 Q') ∧
  ∀ v d H', Step G H0 H' → Rep K O H' v d → R d → Dz.rt v H'
section
variable {Z : Cx} {cn fl : Str} {C : Addr} {tl : XK → Hp → VK → Prop} {f c' : Addr} {q : Str} {b2 b3 b4 b5 np p1 p2 p3 pos pos' : Pos}
def tActL (tl : XK → Hp → VK → Prop) (f c' : Addr) (q : Str) (n : Nat) (W : WX) : TS := fun D σ H => σ[0]? = some (some (.ref f)) ∧ H c' = some (LamX.CodeO c' q) ∧ tl (fun cls d H' => ∀ σ' : L2.St, σ'.length = n → W cls d σ' H') H fun v H' => 1 ≤ sizeLine ∧ ∀ p, H' p = none → D.rt (.ref p) (upd H' p (.lst [v]))
end
/-- the def that hears -/
def HeardF (P : Program) (w : World) (K : PySem.W.Frag) (mg : Str → Option Value) (base : Heap) (k : Nat) (cn fl : Str) : Prop := ∃ stT, DefIn K mg "_law_heard" stT ["_law_call"] ∧ FnScope N_heard ["_law_call"] (defScope stT) ∧ Vis (defScope stT) "_law_call" ∧
  ∀ (g : Addr) (cdg : Value) (A : Around) (outer : List Env) (s : Shared) (H : Hp), A.guards = some [] → Room k (A.deeper (envOfC "_law_heard" (defScope stT) s.heap.objs.size g cdg)) → ∀ (tl : XK → Hp → VK → Prop) (f c' : Addr) (q : Str),
    (∀ (p1 p2 : Pos) (W : WX) (pn : List (Addr × Obj)) (xe : Value → Shared → Prop) (E : XK), Takes ((cxOf CX0 P w K mg base N_heard "_law_heard" (defScope stT) g cdg A outer s H E0).nox.tr pn xe) W → (∀ cls d σ' H', E cls d H' → W cls d σ' H') →
      PE ((cxOf CX0 P w K mg base N_heard "_law_heard" (defScope stT) g cdg A outer s H E0).nox.tr pn xe) (.Call (.Name "_law_call" p1) [] [] p2) (fun σZ HZ Q => σZ[0]? = some (some (.ref f)) ∧ HZ c' = some (LamX.CodeO c' q) ∧ tl E HZ Q)) →
    PSs (cxOf CX0 P w K mg base N_heard "_law_heard" (defScope stT) g cdg A outer s H E0).nox (defBody stT) (heardT K mg cn fl tl f c' q)
def dHeard (cn fl : Str) (tb : ET) : ET := fun _ η Q => tb (fun nm fs => nm = cn ∧ ∃ d, fs = [(fl, d)] ∧ Q d) (drop η) fun d => Q (.list [d])
section
variable {X : Cx} {P c : Addr} {k m : Nat} {cn fl : Str} {params : Arguments} {body : Expr} {scope : Scope} {lp p pos : Pos} {tb : ET}
theorem x_dHeard {E : XP} {η : EnvD} {Q : D → Prop} : dHeard cn fl tb E η Q = tb (fun nm fs => nm = cn ∧ ∃ d, fs = [(fl, d)] ∧ Q d) (drop η) (fun d => Q (.list [d])) := id rfl
end
end DL

/-! DM29: len(set(xs)), xs a list of whole numbers, some of them the same. -/
namespace DL
open PySem PySem.Spec PyProof.Rows L2
/-- each once -/
def ded : List Int → List Int
  | [] => []
  | x :: xs => if x ∈ ded xs then ded xs else x :: ded xs
section
variable {X : Cx} {e : Expr} {ta : TE} {p p2 q pos : Pos}
def tLenSetG (K : PySem.W.Frag) (ta : TE) : TE := fun σ H Q => ta σ H fun x H1 => ∃ (l : Addr) (ns : List Int), x = V.ref l ∧ SqL K H1 l (ns.map V.int) ∧ ns.length < 4000 ∧ Q (.int ((ded ns).length : Nat)) H1
def dLenSet (t : ET) : ET := fun E η Q => t E η fun d => onList d fun xs => (xs.length < 4000 ∧ xs.all isI = true) ∧ Q (.int ((ded (xs.map iOf)).length : Nat))
theorem x_dLenSet {t : ET} {E : XP} {η : EnvD} {Q : D → Prop} : dLenSet t E η Q = t E η (fun d => onList d fun xs => (xs.length < 4000 ∧ xs.all isI = true) ∧ Q (.int ((ded (xs.map iOf)).length : Nat))) := id rfl
end
end DL

/-! PL2m: lots and closures, plain. -/
namespace PL
open PySem DL
/-! ### all lots, in order -/
def neLots : List Int → List (List Int)
  | [] => []
  | c :: cs => [c] :: ((neLots cs).map (c :: ·) ++ neLots cs)
def lexLots (cs : List Int) : List (List Int) := [] :: neLots cs
theorem mem_neLots : ∀ {cs l : List Int}, l ∈ neLots cs ↔ l ≠ [] ∧ l.Sublist cs
  | [], l => by simp [neLots]
  | c :: cs, l => by
    have ih := @mem_neLots cs
    simp only [neLots, List.mem_cons, List.mem_append, List.mem_map, ih]
    constructor
    · rintro (rfl | ⟨m, ⟨_, h⟩, rfl⟩ | ⟨h1, h2⟩)
      · exact ⟨by simp, (List.nil_sublist cs).cons₂ c⟩
      · exact ⟨by simp, h.cons₂ c⟩
      · exact ⟨h1, h2.cons c⟩
    · rintro ⟨h1, h2⟩
      cases h2 with
      | cons _ h => exact .inr (.inr ⟨h1, h⟩)
      | @cons_cons m _ _ h =>
        cases m with
        | nil => exact .inl rfl
        | cons a m => exact .inr (.inl ⟨_, ⟨by simp, h⟩, rfl⟩)
theorem mem_lexLots {cs l : List Int} : l ∈ lexLots cs ↔ l.Sublist cs := by
  unfold lexLots
  rw [List.mem_cons, mem_neLots]
  constructor
  · rintro (rfl | h)
    · exact List.nil_sublist _
    · exact h.2
  · intro h
    by_cases e : l = []
    · exact .inl e
    · exact .inr ⟨e, h⟩
theorem ltL_cons (c : Int) (l m : List Int) : ltL (c :: l) (c :: m) = ltL l m := by
  rw [ltL, if_pos rfl]
theorem neLots_head {cs l : List Int} {c : Int} (h : ∀ x ∈ cs, c < x) (hl : l ∈ neLots cs) : ∃ a m, l = a :: m ∧ c < a := by
  obtain ⟨h1, h2⟩ := mem_neLots.mp hl
  cases l with
  | nil => exact absurd rfl h1
  | cons a m => exact ⟨a, m, rfl, h a (h2.subset List.mem_cons_self)⟩
theorem neLots_sorted : ∀ {cs : List Int}, Asc cs → (neLots cs).Pairwise fun a b => ltL a b = true
  | [], _ => .nil
  | c :: cs, h => by
    obtain ⟨h1, h2⟩ := List.pairwise_cons.mp h
    have ih := neLots_sorted h2
    unfold neLots
    refine List.pairwise_cons.mpr ⟨fun l hl => ?_, List.pairwise_append.mpr ⟨?_, ih, fun a ha b hb => ?_⟩⟩
    · rcases List.mem_append.mp hl with hl | hl
      · obtain ⟨m, hm, rfl⟩ := List.mem_map.mp hl
        rw [ltL_cons]
        obtain ⟨a, m', rfl, _⟩ := neLots_head h1 hm
        rfl
      · obtain ⟨a, m, rfl, ha⟩ := neLots_head h1 hl
        rw [ltL, if_neg (by omega), decide_eq_true ha]
    · rw [List.pairwise_map]
      exact ih.imp fun {a b} hab => by rwa [ltL_cons]
    · obtain ⟨m, hm, rfl⟩ := List.mem_map.mp ha
      obtain ⟨a, m', rfl, ha⟩ := neLots_head h1 hb
      rw [ltL, if_neg (by omega), decide_eq_true ha]
theorem lexLots_sorted {cs : List Int} (h : Asc cs) : (lexLots cs).Pairwise fun a b => ltL a b = true := by
  refine List.pairwise_cons.mpr ⟨fun l hl => ?_, neLots_sorted h⟩
  obtain ⟨h1, _⟩ := mem_neLots.mp hl
  cases l with
  | nil => exact absurd rfl h1
  | cons a m => rfl
theorem ltL_irrefl : ∀ l : List Int, ltL l l = false
  | [] => rfl
  | a :: l => by rw [ltL_cons, ltL_irrefl l]
theorem lexLots_nodup {cs : List Int} (h : Asc cs) : (lexLots cs).Nodup := (lexLots_sorted h).imp fun {a b} hab e => by
  subst e
  rw [ltL_irrefl] at hab
  cases hab
/-- as the text lays them -/
def rawLots (cs : List Int) : List (List Int) := cs.foldl (fun F c => F ++ F.map fun l => l ++ [c]) [[]]
theorem rawLots_snoc (cs : List Int) (c : Int) : rawLots (cs ++ [c]) = rawLots cs ++ (rawLots cs).map fun l => l ++ [c] := by
  unfold rawLots
  rw [List.foldl_append]
  rfl
theorem snoc_cases (cs : List Int) : cs = [] ∨ ∃ ds c, cs = ds ++ [c] := by
  rcases List.eq_nil_or_concat cs with h | ⟨ds, c, h⟩
  · exact .inl h
  · exact .inr ⟨ds, c, by rw [h, List.concat_eq_append]⟩
theorem rawLots_all (n : Nat) : ∀ cs : List Int, cs.length = n → cs.Nodup → (rawLots cs).Nodup ∧ (∀ l, l ∈ rawLots cs ↔ l.Sublist cs) ∧ (rawLots cs).length = 2 ^ n ∧ (rawLots cs).head? = some [] := by
  induction n with
  | zero =>
    intro cs hl _
    have : cs = [] := List.eq_nil_of_length_eq_zero hl
    subst this
    refine ⟨by simp [rawLots], fun l => ?_, rfl, rfl⟩
    simp [rawLots]
  | succ n ih =>
    intro cs hl hn
    rcases snoc_cases cs with rfl | ⟨ds, c, rfl⟩
    · simp at hl
    · rw [List.length_append, List.length_singleton] at hl
      obtain ⟨hd, _, hx⟩ := List.nodup_append.mp hn
      obtain ⟨i1, i2, i3, i4⟩ := ih ds (by omega) hd
      rw [rawLots_snoc]
      refine ⟨List.nodup_append.mpr ⟨i1, ?_, ?_⟩, fun l => ?_, ?_, ?_⟩
      · refine List.pairwise_map.mpr (i1.imp fun {a b} hab e => hab (List.append_cancel_right e))
      · intro a ha b hb e
        obtain ⟨m, _, rfl⟩ := List.mem_map.mp hb
        subst e
        have := ((i2 _).mp ha).subset (List.mem_append_right m List.mem_cons_self)
        exact hx c this c List.mem_cons_self rfl
      · rw [List.mem_append, List.mem_map, i2, List.sublist_append_iff]
        constructor
        · rintro (h | ⟨m, hm, rfl⟩)
          · exact ⟨l, [], by simp, h, List.nil_sublist _⟩
          · exact ⟨m, [c], rfl, (i2 m).mp hm, List.Sublist.refl _⟩
        · rintro ⟨l1, l2, rfl, h1, h2⟩
          cases h2 with
          | cons _ h =>
            have : l2 = [] := List.sublist_nil.mp h
            subst this
            rw [List.append_nil]
            exact .inl h1
          | @cons_cons m _ _ h =>
            have : m = [] := List.sublist_nil.mp h
            subst this
            exact .inr ⟨l1, (i2 l1).mpr h1, rfl⟩
      · rw [List.length_append, List.length_map, i3, Nat.pow_succ]
        omega
      · cases e : rawLots ds with
        | nil => rw [e] at i4; cases i4
        | cons x xs =>
          rw [e] at i4
          simpa using i4
theorem lots_perm {cs : List Int} (h : Asc cs) : (lexLots cs).Perm (rawLots cs) := by
  obtain ⟨i1, i2, _, _⟩ := rawLots_all cs.length cs rfl h.nodup
  exact (List.perm_ext_iff_of_nodup (lexLots_nodup h) i1).mpr fun l => by rw [mem_lexLots, i2]
theorem sort_lots {cs : List Int} (h : Asc cs) : sortD ((rawLots cs).map T) = (lexLots cs).map T := by
  refine sortD_eq ((lots_perm h).map _) ?_
  rw [List.pairwise_map]
  exact (lexLots_sorted h).imp fun {a b} hab => by rwa [dataLt_T]
/-! ### columns, closures -/
def cols (n : Nat) : List Int := (List.range n).map fun (i : Nat) => (i : Int)
theorem mem_cols {n : Nat} {x : Int} : x ∈ cols n ↔ 0 ≤ x ∧ x < n := by
  unfold cols
  rw [List.mem_map]
  constructor
  · rintro ⟨i, hi, rfl⟩
    rw [List.mem_range] at hi
    omega
  · rintro ⟨h0, h1⟩
    exact ⟨x.toNat, List.mem_range.mpr (by omega), by omega⟩
theorem cols_asc (n : Nat) : Asc (cols n) := by
  unfold cols
  rw [Asc, List.pairwise_map]
  exact List.pairwise_lt_range.imp fun {a b} h => by omega
theorem cols_len (n : Nat) : (cols n).length = n := by simp [cols]
theorem cols_range (n : Nat) : rangeD 0 n = (cols n).map .int := by
  unfold rangeD cols
  rw [List.map_map]
  refine List.map_congr_left fun i _ => ?_
  simp
/-- a lot of n columns -/
structure InL (n : Nat) (l : List Int) : Prop where
  asc : Asc l
  rng : ∀ x ∈ l, 0 ≤ x ∧ x < n
theorem asc_len : ∀ {l : List Int} {a n : Int}, Asc l → (∀ x ∈ l, a ≤ x ∧ x < n) → a ≤ n → (l.length : Int) ≤ n - a
  | [], a, n, _, _, h => by simp; omega
  | x :: l, a, n, h, hr, h' => by
    obtain ⟨h1, h2⟩ := List.pairwise_cons.mp h
    have hx := hr x List.mem_cons_self
    have := asc_len (a := x + 1) (n := n) h2 (fun y hy => ⟨by have := h1 y hy; omega, (hr y (List.mem_cons_of_mem _ hy)).2⟩) (by omega)
    rw [List.length_cons]
    omega
theorem InL.len {n : Nat} {l : List Int} (h : InL n l) : l.length ≤ n := by
  have := asc_len h.asc h.rng (Int.natCast_nonneg n)
  omega
theorem InL.small {n : Nat} {l : List Int} (h : InL n l) (hn : n ≤ 64) : l.length ≤ sizeLine := by
  have := h.len
  rw [sizeLine_eq]
  omega
theorem InL.of_sub {n : Nat} {l : List Int} (h : l.Sublist (cols n)) : InL n l := ⟨(cols_asc n).sublist h, fun x hx => mem_cols.mp (h.subset hx)⟩
theorem filter_mem {l m : List Int} (hl : Asc l) (hm : Asc m) (h : ∀ x ∈ l, x ∈ m) : m.filter (fun x => decide (x ∈ l)) = l := by
  refine asc_ext (hm.sublist List.filter_sublist) hl fun x => ?_
  rw [List.mem_filter, decide_eq_true_eq]
  exact ⟨fun h => h.2, fun hx => ⟨h x hx, hx⟩⟩
theorem InL.sub {n : Nat} {l : List Int} (h : InL n l) : l.Sublist (cols n) := by
  have := filter_mem h.asc (cols_asc n) fun x hx => mem_cols.mpr (h.rng x hx)
  rw [← this]
  exact List.filter_sublist
theorem mem_lots {n : Nat} {l : List Int} : l ∈ lexLots (cols n) ↔ InL n l := mem_lexLots.trans ⟨.of_sub, fun h => h.sub⟩
theorem InL.rp {n : Nat} {l : List Int} (h : InL n l) (hn : n ≤ 64) : Rp 1 2688 (T l) := by
  have := rp_tup 64 (k := 0) (w := 41) (ds := l.map .int) (fun d hd => by
    obtain ⟨x, hx, rfl⟩ := List.mem_map.mp hd
    exact rp_int (by have := h.rng x hx; omega)) (by rw [List.length_map]; exact Nat.le_trans h.len hn)
  exact this
abbrev Rules := List (List Int × List Int)
/-- closed by the rules -/
def Cl (rs : Rules) (m : List Int) : Prop := ∀ r ∈ rs, (∀ x ∈ r.1, x ∈ m) → ∀ x ∈ r.2, x ∈ m
def subB (l m : List Int) : Bool := l.all fun x => decide (x ∈ m)
theorem subB_iff {l m : List Int} : subB l m = true ↔ ∀ x ∈ l, x ∈ m := by
  unfold subB
  simp
def clB (rs : Rules) (m : List Int) : Bool := rs.all fun r => !(subB r.1 m) || subB r.2 m
theorem clB_iff {rs : Rules} {m : List Int} : clB rs m = true ↔ Cl rs m := by
  unfold clB Cl
  rw [List.all_eq_true]
  constructor
  · intro h r hr h1
    have := h r hr
    rw [subB_iff.mpr h1] at this
    exact subB_iff.mp (by simpa using this)
  · intro h r hr
    by_cases h1 : subB r.1 m = true
    · rw [h1, subB_iff.mpr (h r hr (subB_iff.mp h1))]
      rfl
    · rw [Bool.not_eq_true] at h1
      rw [h1]
      rfl
/-- what all closed lots have that have l -/
def settle (n : Nat) (rs : Rules) (l : List Int) : List Int := (cols n).filter fun c => (lexLots (cols n)).all fun m => !(clB rs m && subB l m) || decide (c ∈ m)
theorem mem_settle {n : Nat} {rs : Rules} {l : List Int} {c : Int} : c ∈ settle n rs l ↔ (0 ≤ c ∧ c < n) ∧ ∀ m, InL n m → Cl rs m → (∀ x ∈ l, x ∈ m) → c ∈ m := by
  unfold settle
  rw [List.mem_filter, mem_cols, List.all_eq_true]
  refine and_congr_right fun _ => ⟨fun h m hm hc hl => ?_, fun h m hm => ?_⟩
  · have := h m (mem_lots.mpr hm)
    rw [clB_iff.mpr hc, subB_iff.mpr hl] at this
    simpa using this
  · by_cases hc : clB rs m = true
    · by_cases hl : subB l m = true
      · rw [hc, hl, decide_eq_true (h m (mem_lots.mp hm) (clB_iff.mp hc) (subB_iff.mp hl))]
        rfl
      · rw [Bool.not_eq_true] at hl
        simp [hl]
    · rw [Bool.not_eq_true] at hc
      simp [hc]
theorem settle_in (n : Nat) (rs : Rules) (l : List Int) : InL n (settle n rs l) := .of_sub List.filter_sublist
theorem settle_has {n : Nat} {rs : Rules} {l : List Int} (h : InL n l) {x : Int} (hx : x ∈ l) : x ∈ settle n rs l := mem_settle.mpr ⟨h.rng x hx, fun m _ _ hm => hm x hx⟩
theorem settle_cl {n : Nat} {rs : Rules} {l : List Int} (hr : ∀ r ∈ rs, InL n r.1 ∧ InL n r.2) : Cl rs (settle n rs l) := fun r hr' h1 x hx => by
  refine mem_settle.mpr ⟨(hr r hr').2.rng x hx, fun m hm hc hl => hc r hr' (fun y hy => ?_) x hx⟩
  exact (mem_settle.mp (h1 y hy)).2 m hm hc hl
/-- a lot is settled by itself just if it is closed -/
theorem settle_self {n : Nat} {rs : Rules} {l : List Int} (hr : ∀ r ∈ rs, InL n r.1 ∧ InL n r.2) (h : InL n l) : settle n rs l = l ↔ Cl rs l := by
  constructor
  · intro e
    have := settle_cl (l := l) hr
    rwa [e] at this
  · intro hc
    refine asc_ext (settle_in n rs l).asc h.asc fun x => ⟨fun hx => ?_, settle_has h⟩
    exact (mem_settle.mp hx).2 l h hc fun y hy => hy
/-- the closure from any row that has grown from l -/
theorem settle_grown {n : Nat} {rs : Rules} {l F : List Int} (hF : ∀ x ∈ F, 0 ≤ x ∧ x < n) (hn : F.Nodup) (hl : ∀ x ∈ l, x ∈ F) (hm : ∀ m, InL n m → Cl rs m → (∀ x ∈ l, x ∈ m) → ∀ x ∈ F, x ∈ m) (hc : Cl rs F) : (settle n rs l).Perm F := by
  refine (List.perm_ext_iff_of_nodup (settle_in n rs l).asc.nodup hn).mpr fun x => ⟨fun hx => ?_, fun hx => ?_⟩
  · have h0 : InL n ((cols n).filter fun y => decide (y ∈ F)) := .of_sub List.filter_sublist
    have mem : ∀ y, y ∈ (cols n).filter (fun y => decide (y ∈ F)) ↔ y ∈ F := fun y => by
      rw [List.mem_filter, mem_cols, decide_eq_true_eq]
      exact ⟨fun h => h.2, fun h => ⟨hF y h, h⟩⟩
    refine (mem x).mp ((mem_settle.mp hx).2 _ h0 (fun r hr h1 y hy => (mem y).mpr (hc r hr (fun z hz => (mem z).mp (h1 z hz)) y hy)) fun y hy => (mem y).mpr (hl y hy))
  · exact mem_settle.mpr ⟨hF x hx, fun m h1 h2 h3 => hm m h1 h2 h3 x hx⟩
end PL

/-! PL6m: two rows that agree on a lot, steps that lead: plain laws for k03, no program. -/
namespace PL
open PySem DL
/-- the columns where two rows agree -/
def agr (a b : List Int) : List Int := (cols a.length).filter fun c => decide (a.getD c.toNat 0 = b.getD c.toNat 0)
def rowO (n : Nat) : List Int := List.replicate n 0
def rowI (n : Nat) (m : List Int) : List Int := (cols n).map fun c => if c ∈ m then 0 else 1
/-- what the steps' numbers add, each rule's left side met before -/
def leadB (rs : Rules) : List Int → List Nat → Bool
  | _, [] => true
  | F, k :: ks => match rs[k]? with
    | some r => subB r.1 F && leadB rs (F ++ r.2) ks
    | none => false
def leadF (rs : Rules) : List Int → List Nat → List Int
  | F, [] => F
  | F, k :: ks => leadF rs (F ++ (rs.getD k ([], [])).2) ks
theorem leadB_snoc {rs : Rules} {k : Nat} {r : List Int × List Int} (hk : rs[k]? = some r) : ∀ {ks : List Nat} {F : List Int}, leadB rs F ks = true → subB r.1 (leadF rs F ks) = true → leadB rs F (ks ++ [k]) = true
  | [], F, _, h => by simp [leadB, hk]; exact h
  | j :: ks, F, h, h2 => by
    simp only [leadB, List.cons_append] at h ⊢
    cases e : rs[j]? with
    | none => rw [e] at h; cases h
    | some q =>
      rw [e] at h
      simp only [Bool.and_eq_true] at h ⊢
      have eg : rs.getD j ([], []) = q := by simp [List.getD, e]
      refine ⟨h.1, leadB_snoc hk h.2 ?_⟩
      rw [leadF, eg] at h2
      exact h2
theorem leadF_snoc {rs : Rules} {k : Nat} : ∀ {ks : List Nat} {F : List Int}, leadF rs F (ks ++ [k]) = leadF rs F ks ++ (rs.getD k ([], [])).2
  | [], F => rfl
  | j :: ks, F => by
    rw [List.cons_append, leadF, leadF]
    exact leadF_snoc
end PL

/-! PL6n: what enumerate(zip(a, b)) yields, as a map over the columns. -/
namespace PL
open PySem DL
def cellP (a b : List Int) (c : Int) : D := .tuple [.int c, .tuple [.int (a.getD c.toNat 0), .int (b.getD c.toNat 0)]]
end PL

/-! PLx: rules for rows of ints (T), lists of coded things, loops over them. -/
namespace PL
open PySem DL L2
/-! ### coded data that may be compared -/
class Sh {α : Type} (f : α → D) : Prop where
  lay : ∀ a, (f a).canLay0 = true
  dep : ∀ a, (f a).depth ≤ 20
class Shd (d : D) : Prop where
  lay : d.canLay0 = true
  dep : d.depth ≤ 30
theorem canLayAll_map {α : Type} {f : α → D} (h : ∀ a, (f a).canLay0 = true) : ∀ xs : List α, PyData.canLayAll0 (xs.map f) = true
  | [] => rfl
  | a :: xs => by rw [List.map_cons, PyData.canLayAll0, h a, canLayAll_map h xs]; rfl
theorem depthAll_map {α : Type} {f : α → D} {k : Nat} (h : ∀ a, (f a).depth ≤ k) : ∀ xs : List α, PyData.depthAll (xs.map f) ≤ k
  | [] => Nat.zero_le _
  | a :: xs => by rw [List.map_cons, PyData.depthAll]; exact Nat.max_le.mpr ⟨h a, depthAll_map h xs⟩
instance : Sh PyData.int := ⟨fun _ => rfl, fun _ => Nat.zero_le _⟩
instance : Sh PyData.bool := ⟨fun _ => rfl, fun _ => Nat.zero_le _⟩
instance : Sh T := ⟨fun l => by unfold T; rw [PyData.canLay0]; exact canLayAll_map (fun _ => rfl) l, fun l => by unfold T; rw [PyData.depth]; exact Nat.succ_le_succ (Nat.le_trans (depthAll_map (k := 0) (fun _ => Nat.le_refl _) l) (by decide))⟩
theorem Shd.of {α : Type} {f : α → D} [h : Sh f] (a : α) : Shd (f a) := ⟨h.lay a, Nat.le_trans (h.dep a) (by decide)⟩
instance (i : Int) : Shd (.int i) := Shd.of i
instance (i : Bool) : Shd (.bool i) := Shd.of i
instance : Shd .none := ⟨rfl, Nat.zero_le _⟩
instance (l : List Int) : Shd (T l) := Shd.of l
instance {α : Type} {f : α → D} [h : Sh f] (xs : List α) : Shd (.list (xs.map f)) := ⟨by rw [PyData.canLay0]; exact canLayAll_map h.lay xs, by rw [PyData.depth]; exact Nat.succ_le_succ (Nat.le_trans (depthAll_map h.dep xs) (by decide))⟩
instance {α : Type} {f : α → D} [h : Sh f] (xs : List α) : Shd (.tuple (xs.map f)) := ⟨by rw [PyData.canLay0]; exact canLayAll_map h.lay xs, by rw [PyData.depth]; exact Nat.succ_le_succ (Nat.le_trans (depthAll_map h.dep xs) (by decide))⟩
instance : Shd (.list []) := ⟨rfl, by decide⟩
instance : Shd (.tuple []) := ⟨rfl, by decide⟩
theorem shd (d : D) [h : Shd d] : SeqAt.shaped d = true := by
  unfold SeqAt.shaped
  rw [h.lay, decide_eq_true (Nat.le_trans h.dep (by decide))]
  rfl
theorem eqOk_shd (x y : D) [Shd x] [Shd y] : eqOk x y = true := by
  unfold eqOk
  split
  · rfl
  · rw [shd x, shd y]; rfl
/-! ### an injective code, told by eqv -/
class Cod {α : Type} [DecidableEq α] (f : α → D) : Prop extends Sh f where
  eqv : ∀ a b, PyData.eqv (f a) (f b) = decide (a = b)
instance : Cod PyData.int := ⟨eqv_int⟩
instance : Cod T := ⟨eqv_T⟩
theorem eqv_strs (a b : Str) : PyData.eqv (.str a) (.str b) = decide (a = b) := by rw [Bool.eq_iff_iff, decide_eq_true_eq]; simp [PyData.eqv]
theorem eqvAll_map {α : Type} [DecidableEq α] {f : α → D} (h : ∀ a b, PyData.eqv (f a) (f b) = decide (a = b)) : ∀ xs ys : List α, PyData.eqvAll (xs.map f) (ys.map f) = decide (xs = ys)
  | [], [] => rfl
  | [], _ :: _ => rfl
  | _ :: _, [] => rfl
  | a :: xs, b :: ys => by
    rw [List.map_cons, List.map_cons, PyData.eqvAll, h, eqvAll_map h xs ys, Bool.eq_iff_iff]
    simp
theorem eqv_mapL {α : Type} [DecidableEq α] {f : α → D} [c : Cod f] (xs ys : List α) : PyData.eqv (.list (xs.map f)) (.list (ys.map f)) = decide (xs = ys) := by
  rw [← eqvAll_map c.eqv]; simp [PyData.eqv]
theorem eqv_mapT {α : Type} [DecidableEq α] {f : α → D} [c : Cod f] (xs ys : List α) : PyData.eqv (.tuple (xs.map f)) (.tuple (ys.map f)) = decide (xs = ys) := by
  rw [← eqvAll_map c.eqv]; simp [PyData.eqv]
theorem any_map {α : Type} [DecidableEq α] {f : α → D} [c : Cod f] (xs : List α) (x : α) : ((xs.map f).any fun z => PyData.eqv z (f x)) = decide (x ∈ xs) := by
  rw [Bool.eq_iff_iff, List.any_eq_true, decide_eq_true_eq]
  constructor
  · rintro ⟨z, hz, e⟩
    obtain ⟨i, hi, rfl⟩ := List.mem_map.mp hz
    rw [c.eqv, decide_eq_true_eq] at e
    rwa [← e]
  · intro h
    exact ⟨_, List.mem_map.mpr ⟨x, h, rfl⟩, by rw [c.eqv]; simp⟩
section
variable {QD : D → Prop} {QL : List D → Prop} {QE : EnvD → Prop} {l m : List Int} {c i j : Int} {neg : Bool} {η : EnvD}
/-! ### comparisons -/
theorem k_eqI : oEq (.int i) (.int j) QD = QD (.bool (decide (i = j))) := by rw [x_eq, eqOk_shd, eqv_int]; simp
theorem k_neI : oNe (.int i) (.int j) QD = QD (.bool (!decide (i = j))) := by rw [x_ne, eqOk_shd, eqv_int]; simp
theorem k_eqS {x y : Str} : oEq (.str x) (.str y) QD = QD (.bool (decide (x = y))) := by rw [x_eq, eqv_strs, show eqOk (.str x) (.str y) = true from rfl]; simp
theorem k_neS {x y : Str} : oNe (.str x) (.str y) QD = QD (.bool (!decide (x = y))) := by rw [x_ne, eqv_strs, show eqOk (.str x) (.str y) = true from rfl]; simp
theorem k_eqT : oEq (T l) (T m) QD = QD (.bool (decide (l = m))) := by rw [x_eq, eqOk_shd, eqv_T]; simp
theorem k_neT : oNe (T l) (T m) QD = QD (.bool (!decide (l = m))) := by rw [x_ne, eqOk_shd, eqv_T]; simp
section
variable {α : Type} [DecidableEq α] {f : α → D} [Cod f] {xs ys : List α} {x : α}
theorem k_eqLL : oEq (.list (xs.map f)) (.list (ys.map f)) QD = QD (.bool (decide (xs = ys))) := by rw [x_eq, eqOk_shd, eqv_mapL]; simp
theorem k_neLL : oNe (.list (xs.map f)) (.list (ys.map f)) QD = QD (.bool (!decide (xs = ys))) := by rw [x_ne, eqOk_shd, eqv_mapL]; simp
theorem k_eqTT : oEq (.tuple (xs.map f)) (.tuple (ys.map f)) QD = QD (.bool (decide (xs = ys))) := by rw [x_eq, eqOk_shd, eqv_mapT]; simp
theorem k_neTT : oNe (.tuple (xs.map f)) (.tuple (ys.map f)) QD = QD (.bool (!decide (xs = ys))) := by rw [x_ne, eqOk_shd, eqv_mapT]; simp
theorem k_inL : oIn neg (f x) (.list (xs.map f)) QD = QD (.bool (decide (x ∈ xs) != neg)) := by
  haveI : Shd (f x) := Shd.of x
  rw [x_inL, shd, shd, any_map]; simp
theorem k_inTT : oIn neg (f x) (.tuple (xs.map f)) QD = QD (.bool (decide (x ∈ xs) != neg)) := by
  haveI : Shd (f x) := Shd.of x
  rw [x_inT, shd, shd, any_map]; simp
end
theorem k_inLI : oIn neg (.int c) (.list (l.map .int)) QD = QD (.bool (decide (c ∈ l) != neg)) := k_inL (f := PyData.int)
theorem k_inLT {Ls : List (List Int)} : oIn neg (T l) (.list (Ls.map T)) QD = QD (.bool (decide (l ∈ Ls) != neg)) := (k_inL (f := T)).trans (congrArg QD (congrArg PyData.bool (congrArg (· != neg) (decide_eq_decide.mpr Iff.rfl))))
theorem k_inTTT {Ls : List (List Int)} : oIn neg (T l) (.tuple (Ls.map T)) QD = QD (.bool (decide (l ∈ Ls) != neg)) := (k_inTT (f := T)).trans (congrArg QD (congrArg PyData.bool (congrArg (· != neg) (decide_eq_decide.mpr Iff.rfl))))
theorem k_inT : oIn neg (.int c) (T l) QD = QD (.bool (decide (c ∈ l) != neg)) := k_inTT (f := PyData.int)
theorem k_in23 : oIn neg (.int c) (.tuple [.int i, .int j]) QD = QD (.bool (decide (c = i ∨ c = j) != neg)) := by
  have := @k_inT QD [i, j] c neg
  simpa [T] using this
section
variable {α : Type} {f : α → D} [Sh f] {xs : List α}
theorem eqv_nilL (xs : List D) : PyData.eqv (.list xs) (.list []) = xs.isEmpty := by
  cases xs with
  | nil => rfl
  | cons x xs => simp [PyData.eqv, PyData.eqvAll]
theorem eqv_nilT (xs : List D) : PyData.eqv (.tuple xs) (.tuple []) = xs.isEmpty := by
  cases xs with
  | nil => rfl
  | cons x xs => simp [PyData.eqv, PyData.eqvAll]
theorem k_eqLn : oEq (.list (xs.map f)) (.list []) QD = QD (.bool xs.isEmpty) := by rw [x_eq, eqOk_shd, eqv_nilL, List.isEmpty_map]; simp
theorem k_neLn : oNe (.list (xs.map f)) (.list []) QD = QD (.bool (!xs.isEmpty)) := by rw [x_ne, eqOk_shd, eqv_nilL, List.isEmpty_map]; simp
theorem k_eqTn : oEq (.tuple (xs.map f)) (.tuple []) QD = QD (.bool xs.isEmpty) := by rw [x_eq, eqOk_shd, eqv_nilT, List.isEmpty_map]; simp
theorem k_neTn : oNe (.tuple (xs.map f)) (.tuple []) QD = QD (.bool (!xs.isEmpty)) := by rw [x_ne, eqOk_shd, eqv_nilT, List.isEmpty_map]; simp
end
theorem k_eqTn' : oEq (T l) (.tuple []) QD = QD (.bool l.isEmpty) := k_eqTn (f := PyData.int)
theorem k_neTn' : oNe (T l) (.tuple []) QD = QD (.bool (!l.isEmpty)) := k_neTn (f := PyData.int)
theorem eq_lit {x y : D} (h : (eqOk x y && PyData.eqv x y) = true) : oEq x y QD = QD (.bool true) := by
  rw [Bool.and_eq_true] at h
  rw [x_eq, h.1, h.2]
  simp
/-! ### rows of ints -/
theorem k_onSeq {f k : List D → Prop} : onSeq (T l) f k = k (l.map .int) := id rfl
theorem k_onTupO {k : List D → Prop} : onTupO (T l) k = k (l.map .int) := id rfl
theorem k_onSeqE {k : List D → Prop} : onSeqE (T l) k = k (l.map .int) := id rfl
theorem k_lenT : fLen [T l] QD = QD (.int l.length) := by
  show QD (.int (l.map PyData.int).length) = _
  rw [List.length_map]
theorem k_tupL : fTuple [.list (l.map .int)] QD = QD (T l) := id rfl
theorem k_tupT : fTuple [T l] QD = QD (T l) := id rfl
theorem k_listT : fList [T l] QL = QL (l.map .int) := id rfl
theorem k_addT : oAdd (T l) (T m) QD = (l.length + m.length ≤ sizeLine ∧ QD (T (l ++ m))) := by
  show ((l.map PyData.int).length + (m.map PyData.int).length ≤ sizeLine ∧ QD (.tuple (l.map .int ++ m.map .int))) = _
  rw [List.length_map, List.length_map, ← List.map_append]
  rfl
theorem k_addT1 : oAdd (T l) (.tuple [.int i]) QD = (l.length + 1 ≤ sizeLine ∧ QD (T (l ++ [i]))) := k_addT (m := [i])
theorem ixN_map {α β : Type} (f : α → β) (xs : List α) (i : Int) : atI (xs.map f) i = (atI xs i).map f := by
  unfold atI
  rw [List.length_map]
  cases ixN xs.length i with
  | none => rfl
  | some j => simp
theorem onS_map {α β : Type} {f : α → β} {o : Option α} {k : β → Prop} : onS (o.map f) k = onS o fun a => k (f a) := by
  cases o <;> exact id rfl
theorem k_ixT : oIx (T l) (.int i) QD = onS (atI l i) fun x => QD (.int x) := by
  show onS (atI (l.map PyData.int) i) QD = _
  rw [ixN_map, onS_map]
theorem k_isiT : isiD "tuple" (T l) = true := id rfl
theorem k_isiTi : isiD "int" (T l) = false := id rfl
theorem k_isiTb : isiD "bool" (T l) = false := id rfl
theorem k_isiTs : isiD "str" (T l) = false := id rfl
theorem k_isiTl : isiD "list" (T l) = false := id rfl
theorem k_isi {ds : List D} : isiD "tuple" (.tuple ds) = true := id rfl
theorem k_isil {ds : List D} : isiD "list" (.list ds) = true := id rfl
theorem k_isii : isiD "int" (.int i) = true := id rfl
theorem k_isiib : isiD "bool" (.int i) = false := id rfl
theorem k_isis {x : Str} : isiD "str" (.str x) = true := id rfl
theorem k_isNT : isN (T l) = false := id rfl
theorem k_flatT : flat (T l) = true := by
  unfold T flat
  induction l with
  | nil => rfl
  | cons a l ih => rw [List.map_cons, flatAll, ih]; rfl
theorem k_flatI : flatAll (l.map .int) = true := by
  induction l with
  | nil => rfl
  | cons a l ih => rw [List.map_cons, flatAll, ih]; rfl
theorem flatAll_map {α : Type} {f : α → D} (h : ∀ a, flat (f a) = true) : ∀ xs : List α, flatAll (xs.map f) = true
  | [] => rfl
  | a :: xs => by rw [List.map_cons, flatAll, h a, flatAll_map h xs]; rfl
theorem k_flatLs {Ls : List (List Int)} : flatAll (Ls.map T) = true := flatAll_map (fun l => k_flatT) Ls
theorem k_flatTLs {Ls : List (List Int)} : flat (.tuple (Ls.map T)) = true := k_flatLs
theorem k_gT {gs : GTs} : gT gs (T l) η QE = gs (l.map .int) η QE := id rfl
theorem k_on2T {k : List D → List D → Prop} : on2T [T l, T m] k = k (l.map .int) (m.map .int) := id rfl
theorem alikeI : ∀ l m : List Int, PySem.W.alikeAll (l.map .int) (m.map .int) = true
  | [], m => by cases m <;> rfl
  | _ :: _, [] => rfl
  | a :: l, b :: m => by
    rw [List.map_cons, List.map_cons, PySem.W.alikeAll, alikeI l m]
    rfl
theorem alikeT (l m : List Int) : PySem.W.alike (T l) (T m) = true := by
  unfold T
  rw [PySem.W.alike]
  exact alikeI l m
theorem depT (l : List Int) : (T l).depth = 1 := by
  unfold T
  rw [PyData.depth]
  have := depthAll_map (f := PyData.int) (k := 0) (fun _ => Nat.le_refl _) l
  omega
theorem ndT (l : List Int) : (T l).hasDict = false := PyData.hasDict_of_canLay _ ((inferInstance : Sh T).lay l)
theorem k_ordT {f : Int → Int → Bool} {k : D → D → Bool} : oOrd f k (T l) (T m) QD = QD (.bool (k (T l) (T m))) := by
  show ((PySem.W.alike (T l) (T m) = true ∧ (T l).depth ≤ 64 ∧ (T l).hasDict = false ∧ (T m).hasDict = false) ∧ QD (.bool (k (T l) (T m)))) = _
  rw [alikeT, depT, ndT, ndT]
  simp
theorem k_ltT : oLt (T l) (T m) QD = QD (.bool (ltL l m)) := by
  show ((PySem.W.alike (T l) (T m) = true ∧ (T l).depth ≤ 64 ∧ (T l).hasDict = false ∧ (T m).hasDict = false) ∧ QD (.bool (PySem.W.dataLt (T l) (T m)))) = _
  rw [alikeT, depT, dataLt_T, ndT, ndT]
  simp
end
theorem ofS_inj {a b : String} (h : Str.ofString a = Str.ofString b) : a = b := by
  rw [Str.ofString_eq_toList, Str.ofString_eq_toList] at h
  have h2 : (a.toList.map Char.toNat).toArray = (b.toList.map Char.toNat).toArray := Str.mk.inj h
  have h3 : a.toList.map Char.toNat = b.toList.map Char.toNat := by simpa using h2
  have : ∀ {l m : List Char}, l.map Char.toNat = m.map Char.toNat → l = m := by
    intro l
    induction l with
    | nil => intro m hm; cases m with
      | nil => rfl
      | cons x m => simp at hm
    | cons c l ih =>
      intro m hm
      cases m with
      | nil => simp at hm
      | cons x m =>
        simp only [List.map_cons, List.cons.injEq] at hm
        have e : c = x := Char.ext (UInt32.toNat_inj.mp hm.1)
        rw [e, ih hm.2]
  exact String.toList_inj.mp (this h3)
theorem k_ofS {a b : String} : (Str.ofString a = Str.ofString b) = (a = b) := propext ⟨ofS_inj, congrArg _⟩
theorem k_at0 {α : Type} {a : α} {l : List α} : atI (a :: l) 0 = some a := atI_nat (j := 0) rfl
theorem k_at1 {α : Type} {a b : α} {l : List α} : atI (a :: b :: l) 1 = some b := atI_nat (j := 1) rfl
theorem k_at2 {α : Type} {a b c : α} {l : List α} : atI (a :: b :: c :: l) 2 = some c := atI_nat (j := 2) rfl
theorem k_at3 {α : Type} {a b c d : α} {l : List α} : atI (a :: b :: c :: d :: l) 3 = some d := atI_nat (j := 3) rfl
theorem cut_map {α β : Type} (f : α → β) (xs : List α) (lo hi : Option Int) : cutD (xs.map f) lo hi = (cutD xs lo hi).map f := by
  unfold cutD
  rw [List.length_map, List.map_take, List.map_drop]
theorem cut_take {α : Type} (xs : List α) {i : Int} (h : 0 ≤ i) : cutD xs none (some i) = xs.take i.toNat := by
  unfold cutD
  have e : HT.sIx xs.length xs.length (some i) = min i.toNat xs.length := by
    have := HT.sIx_nat xs.length xs.length i.toNat
    rwa [Int.toNat_of_nonneg h] at this
  rw [HT.sIx_none, e, List.drop_zero, Nat.sub_zero]
  rw [Nat.min_def]
  split
  · rfl
  · rw [List.take_of_length_le (Nat.le_refl _), List.take_of_length_le (by omega)]
theorem cut_drop {α : Type} (xs : List α) {i : Int} (h : 0 ≤ i) : cutD xs (some i) none = xs.drop i.toNat := by
  unfold cutD
  have e : HT.sIx xs.length 0 (some i) = min i.toNat xs.length := by
    have := HT.sIx_nat xs.length 0 i.toNat
    rwa [Int.toNat_of_nonneg h] at this
  rw [HT.sIx_none, e]
  rw [List.take_of_length_le (by rw [List.length_drop]; omega)]
  rw [Nat.min_def]
  split
  · rfl
  · rw [List.drop_of_length_le (Nat.le_refl _), List.drop_of_length_le (by omega)]
/-! ### sorted -/
/-! ### dicts by lots -/
/-! ### loops over coded things -/
theorem forD_dr {α : Type} (f : α → D) {xs : List α} {g : GT} {tb : SD} {E : XP} {z : EndsD} (J : List α → EnvD → Prop)
    (h : ∀ done a rest η, xs = done ++ a :: rest → J done η → ∀ nx : EnvD → Prop, (∀ η', J (done ++ [a]) η' → nx η') → g (f a) η fun η1 => tb E { nx := nx, rt := z.rt, bk := z.nx, ct := nx } η1)
    (h0 : ∀ η, J xs η → z.nx η) {η : EnvD} (j : J [] η) : forD g tb E z (xs.map f) η := by
  refine forD_inv (fun ds η => ∃ done rest, xs = done ++ rest ∧ ds = rest.map f ∧ J done η) ?_ ?_ ⟨[], xs, rfl, rfl, j⟩
  · rintro d ds η ⟨done, rest, e, e2, hj⟩ nx hn
    cases rest with
    | nil => cases e2
    | cons a rest =>
      simp only [List.map_cons, List.cons.injEq] at e2
      obtain ⟨rfl, rfl⟩ := e2
      exact h done a rest η e hj nx fun η' j' => hn η' ⟨done ++ [a], rest, by rw [e]; simp, rfl, j'⟩
  · rintro η ⟨done, rest, e, e2, hj⟩
    have : rest = [] := by cases rest with
      | nil => rfl
      | cons c r => cases e2
    subst this
    rw [List.append_nil] at e
    subst e
    exact h0 η hj
/-- enumerate -/
theorem enum_map {α : Type} (f : α → D) (xs : List α) : pairsD (rangeD 0 (xs.map f).length) (xs.map f) = xs.zipIdx.map fun p => .tuple [.int (p.2 : Nat), f p.1] := by
  refine List.ext_getElem? fun i => ?_
  by_cases hi : i < xs.length
  · rw [pairsD_get (x := .int (i : Nat)) (y := f xs[i]) (by simp [rangeD, hi]) (by simp [hi])]
    simp [hi]
  · rw [List.getElem?_eq_none (by rw [pairsD_len, rangeD_len]; simp; omega), List.getElem?_eq_none (by simp; omega)]
theorem enum_map' {α : Type} (f : α → D) (xs : List α) : pairsD (rangeD 0 xs.length) (xs.map f) = xs.zipIdx.map fun p => .tuple [.int (p.2 : Nat), f p.1] := by
  rw [← List.length_map (f := f), enum_map]
end PL
namespace Lw
open PySem DL PL L2
def ruleD (r : List Int × List Int) : D := .tuple [T r.1, T r.2]
def schD (n : Nat) (rs : List (List Int × List Int)) : D := .tuple [.int n, .tuple (rs.map ruleD)]
instance : Sh ruleD := ⟨fun r => by
  have h1 := (inferInstance : Sh T).lay r.1
  have h2 := (inferInstance : Sh T).lay r.2
  unfold ruleD
  rw [PyData.canLay0, PyData.canLayAll0, PyData.canLayAll0, h1, h2]
  rfl, fun r => by
  unfold ruleD
  rw [PyData.depth, PyData.depthAll, PyData.depthAll, depT, depT]
  decide⟩
section
variable {QD : D → Prop} {QE : EnvD → Prop} {η : EnvD} {n : Nat} {r : List Int × List Int} {rs : List (List Int × List Int)}
theorem k_gR {gs : GTs} : gT gs (ruleD r) η QE = gs [T r.1, T r.2] η QE := id rfl
theorem k_ixR0 : oIx (ruleD r) (.int 0) QD = QD (T r.1) := id rfl
theorem k_ixR1 : oIx (ruleD r) (.int 1) QD = QD (T r.2) := id rfl
theorem k_ixS0 : oIx (schD n rs) (.int 0) QD = QD (.int n) := id rfl
theorem k_ixS1 : oIx (schD n rs) (.int 1) QD = QD (.tuple (rs.map ruleD)) := id rfl
end
end Lw

/-! PLR: who is shown alike is the same: plain data (no texts, no dicts) on one side. -/
namespace PL
open PySem PySem.Spec PyProof.Rows L2 DL TL
def S (d : D) : List Nat := d.shown.cps.toList
mutual
def pln : D → Bool
  | .none => true
  | .bool _ => true
  | .int _ => true
  | .tuple xs => plns xs
  | .list xs => plns xs
  | _ => false
def plns : List D → Bool
  | [] => true
  | x :: xs => pln x && plns xs
end
def dig (c : Nat) : Prop := 48 ≤ c ∧ c ≤ 57
/-- between the items -/
def J2 : List D → List Nat
  | [] => []
  | [x] => S x
  | x :: y :: r => S x ++ 44 :: 32 :: J2 (y :: r)
/-- how a text begins -/
def kd : D → Nat
  | .int _ => 0
  | .tuple _ => 40
  | .list _ => 91
  | .none => 78
  | .bool true => 84
  | .bool false => 70
  | .str _ => 39
  | .dict _ => 123
def cls (c : Nat) : Nat := if c = 45 ∨ (48 ≤ c ∧ c ≤ 57) then 0 else if c = 34 then 39 else c
/-- no figure comes next -/
def Stop (r : List Nat) : Prop := ∀ c t, r = c :: t → ¬ dig c
end PL

namespace Lw
open PySem PySem.Spec PyProof.Rows L2 DL
def topS (i : Nat) : Stmt := PySem.Challenge.pw_restshares_k05_alike.main.body.getD i (.Pass ⟨0, 0, 0, 0⟩)
abbrev s_law_begun : Stmt := topS 27
abbrev N_law_begun : List Str := ["_law_script", "_law_mixed", "_law_k", "_law_cell"]
theorem sc_law_begun : FnScope N_law_begun ["_law_script"] (defScope s_law_begun) := ⟨rfl, rfl, rfl, by decide +kernel, rfl, by decide +kernel, by decide +kernel⟩
abbrev s_law_next : Stmt := topS 28
abbrev N_law_next : List Str := ["_law_draw", "_law_below", "_law_great", "_law_at", "_law_found", "_law_mixed"]
theorem sc_law_next : FnScope N_law_next ["_law_draw", "_law_below"] (defScope s_law_next) := ⟨rfl, rfl, rfl, by decide +kernel, rfl, by decide +kernel, by decide +kernel⟩
abbrev s_is_whole : Stmt := topS 13
abbrev N_is_whole : List Str := ["thing", "least", "most"]
theorem sc_is_whole : FnScope N_is_whole ["thing", "least", "most"] (defScope s_is_whole) := ⟨rfl, rfl, rfl, by decide +kernel, rfl, by decide +kernel, by decide +kernel⟩
abbrev s_are_ascending : Stmt := topS 14
abbrev N_are_ascending : List Str := ["items", "one", "other"]
theorem sc_are_ascending : FnScope N_are_ascending ["items"] (defScope s_are_ascending) := ⟨rfl, rfl, rfl, by decide +kernel, rfl, by decide +kernel, by decide +kernel⟩
abbrev s_is_lot_of : Stmt := topS 15
abbrev N_is_lot_of : List Str := ["wide", "thing", "column"]
theorem sc_is_lot_of : FnScope N_is_lot_of ["wide", "thing"] (defScope s_is_lot_of) := ⟨rfl, rfl, rfl, by decide +kernel, rfl, by decide +kernel, by decide +kernel⟩
abbrev s_is_rule : Stmt := topS 16
abbrev N_is_rule : List Str := ["wide", "thing", "lot"]
theorem sc_is_rule : FnScope N_is_rule ["wide", "thing"] (defScope s_is_rule) := ⟨rfl, rfl, rfl, by decide +kernel, rfl, by decide +kernel, by decide +kernel⟩
abbrev s_schema_fault : Stmt := topS 17
abbrev N_schema_fault : List Str := ["thing", "number", "rule"]
theorem sc_schema_fault : FnScope N_schema_fault ["thing"] (defScope s_schema_fault) := ⟨rfl, rfl, rfl, by decide +kernel, rfl, by decide +kernel, by decide +kernel⟩
abbrev s_need_schema : Stmt := topS 18
abbrev N_need_schema : List Str := ["thing", "place"]
theorem sc_need_schema : FnScope N_need_schema ["thing"] (defScope s_need_schema) := ⟨rfl, rfl, rfl, by decide +kernel, rfl, by decide +kernel, by decide +kernel⟩
abbrev s_is_inside : Stmt := topS 19
abbrev N_is_inside : List Str := ["lot", "other", "column"]
theorem sc_is_inside : FnScope N_is_inside ["lot", "other"] (defScope s_is_inside) := ⟨rfl, rfl, rfl, by decide +kernel, rfl, by decide +kernel, by decide +kernel⟩
abbrev s_all_lots : Stmt := topS 20
abbrev N_all_lots : List Str := ["columns", "found", "column", "lot"]
theorem sc_all_lots : FnScope N_all_lots ["columns"] (defScope s_all_lots) := ⟨rfl, rfl, rfl, by decide +kernel, rfl, by decide +kernel, by decide +kernel⟩
abbrev s_columns_of : Stmt := topS 21
abbrev N_columns_of : List Str := ["schema"]
theorem sc_columns_of : FnScope N_columns_of ["schema"] (defScope s_columns_of) := ⟨rfl, rfl, rfl, by decide +kernel, rfl, by decide +kernel, by decide +kernel⟩
abbrev s_settled_in : Stmt := topS 23
abbrev N_settled_in : List Str := ["schema", "lot", "found", "size", "left", "right", "column"]
theorem sc_settled_in : FnScope N_settled_in ["schema", "lot"] (defScope s_settled_in) := ⟨rfl, rfl, rfl, by decide +kernel, rfl, by decide +kernel, by decide +kernel⟩
abbrev s_closed_in : Stmt := topS 24
abbrev N_closed_in : List Str := ["schema", "lot"]
theorem sc_closed_in : FnScope N_closed_in ["schema"] (defScope s_closed_in) := ⟨rfl, rfl, rfl, by decide +kernel, rfl, by decide +kernel, by decide +kernel⟩
abbrev s_are_alike : Stmt := topS 25
abbrev N_are_alike : List Str := ["schema", "other"]
theorem sc_are_alike : FnScope N_are_alike ["schema", "other"] (defScope s_are_alike) := ⟨rfl, rfl, rfl, by decide +kernel, rfl, by decide +kernel, by decide +kernel⟩
abbrev s_law_among : Stmt := topS 29
abbrev N_law_among : List Str := ["_law_draw", "_law_some"]
theorem sc_law_among : FnScope N_law_among ["_law_draw", "_law_some"] (defScope s_law_among) := ⟨rfl, rfl, rfl, by decide +kernel, rfl, by decide +kernel, by decide +kernel⟩
abbrev s_law_lots : Stmt := topS 30
abbrev N_law_lots : List Str := ["_law_columns", "_law_found", "_law_column", "_law_one"]
theorem sc_law_lots : FnScope N_law_lots ["_law_columns"] (defScope s_law_lots) := ⟨rfl, rfl, rfl, by decide +kernel, rfl, by decide +kernel, by decide +kernel⟩
abbrev s_law_lot : Stmt := topS 31
abbrev N_law_lot : List Str := ["_law_draw", "_law_wide", "_law_odds", "_law_column"]
theorem sc_law_lot : FnScope N_law_lot ["_law_draw", "_law_wide", "_law_odds"] (defScope s_law_lot) := ⟨rfl, rfl, rfl, by decide +kernel, rfl, by decide +kernel, by decide +kernel⟩
abbrev s_law_schema : Stmt := topS 32
abbrev N_law_schema : List Str := ["_law_draw", "_law_wide", "_law_most", "_law_found", "_law_turn"]
theorem sc_law_schema : FnScope N_law_schema ["_law_draw", "_law_wide", "_law_most"] (defScope s_law_schema) := ⟨rfl, rfl, rfl, by decide +kernel, rfl, by decide +kernel, by decide +kernel⟩
abbrev s_law_is_in : Stmt := topS 33
abbrev N_law_is_in : List Str := ["_law_one", "_law_far", "_law_column"]
theorem sc_law_is_in : FnScope N_law_is_in ["_law_one", "_law_far"] (defScope s_law_is_in) := ⟨rfl, rfl, rfl, by decide +kernel, rfl, by decide +kernel, by decide +kernel⟩
abbrev s_law_closed : Stmt := topS 34
abbrev N_law_closed : List Str := ["_law_plan", "_law_found", "_law_one", "_law_near", "_law_far"]
theorem sc_law_closed : FnScope N_law_closed ["_law_plan"] (defScope s_law_closed) := ⟨rfl, rfl, rfl, by decide +kernel, rfl, by decide +kernel, by decide +kernel⟩
abbrev s_law_settled : Stmt := topS 35
abbrev N_law_settled : List Str := ["_law_plan", "_law_one", "_law_found", "_law_whole", "_law_column"]
theorem sc_law_settled : FnScope N_law_settled ["_law_plan", "_law_one"] (defScope s_law_settled) := ⟨rfl, rfl, rfl, by decide +kernel, rfl, by decide +kernel, by decide +kernel⟩
abbrev s_law_refusal : Stmt := topS 37
abbrev N_law_refusal : List Str := ["_law_error", "_law_some", "_law_words", "_law_word", "_law_holds"]
theorem sc_law_refusal : FnScope N_law_refusal ["_law_error"] (defScope s_law_refusal) := ⟨rfl, rfl, rfl, by decide +kernel, rfl, by decide +kernel, by decide +kernel⟩
abbrev s_law_told : Stmt := topS 36
abbrev N_law_told : List Str := ["_law_call", "_law_found", "_law_error", "e"]
theorem sc_law_told : FnScope N_law_told ["_law_call"] (defScope s_law_told) := ⟨rfl, rfl, rfl, by decide +kernel, rfl, by decide +kernel, by decide +kernel⟩
abbrev s_law_with : Stmt := topS 38
abbrev N_law_with : List Str := ["_law_draw", "_law_plan", "_law_one", "_law_far", "_law_fresh", "_law_column"]
theorem sc_law_with : FnScope N_law_with ["_law_draw", "_law_plan"] (defScope s_law_with) := ⟨rfl, rfl, rfl, by decide +kernel, rfl, by decide +kernel, by decide +kernel⟩
abbrev s_law_without : Stmt := topS 39
abbrev N_law_without : List Str := ["_law_draw", "_law_plan", "_law_at"]
theorem sc_law_without : FnScope N_law_without ["_law_draw", "_law_plan"] (defScope s_law_without) := ⟨rfl, rfl, rfl, by decide +kernel, rfl, by decide +kernel, by decide +kernel⟩
abbrev s_law_parted : Stmt := topS 40
abbrev N_law_parted : List Str := ["_law_plan", "_law_found", "_law_near", "_law_far", "_law_column"]
theorem sc_law_parted : FnScope N_law_parted ["_law_plan"] (defScope s_law_parted) := ⟨rfl, rfl, rfl, by decide +kernel, rfl, by decide +kernel, by decide +kernel⟩
abbrev s_law_widened : Stmt := topS 41
abbrev N_law_widened : List Str := ["_law_plan", "_law_near", "_law_far"]
theorem sc_law_widened : FnScope N_law_widened ["_law_plan"] (defScope s_law_widened) := ⟨rfl, rfl, rfl, by decide +kernel, rfl, by decide +kernel, by decide +kernel⟩
abbrev s_law_is_told : Stmt := topS 42
abbrev N_law_is_told : List Str := ["_law_plan", "_law_other", "_law_kept", "_law_due", "_law_heard"]
theorem sc_law_is_told : FnScope N_law_is_told ["_law_plan", "_law_other"] (defScope s_law_is_told) := ⟨rfl, rfl, rfl, by decide +kernel, rfl, by decide +kernel, by decide +kernel⟩
abbrev s_law_refused_right : Stmt := topS 43
abbrev N_law_refused_right : List Str := ["_law_draw", "_law_plan", "_law_odds", "_law_others", "_law_wide", "_law_far", "_law_odd", "_law_place", "_law_heard"]
theorem sc_law_refused_right : FnScope N_law_refused_right ["_law_draw", "_law_plan"] (defScope s_law_refused_right) := ⟨rfl, rfl, rfl, by decide +kernel, rfl, by decide +kernel, by decide +kernel⟩
abbrev s_law_by_hand_right : Stmt := topS 44
abbrev N_law_by_hand_right : List Str := ["_law_ring", "_law_back", "_law_whole", "_law_line", "_law_some", "_law_wide", "_law_k", "_law_one", "_law_far", "_law_due"]
theorem sc_law_by_hand_right : FnScope N_law_by_hand_right [] (defScope s_law_by_hand_right) := ⟨rfl, rfl, rfl, by decide +kernel, rfl, by decide +kernel, by decide +kernel⟩
abbrev s_law : Stmt := topS 45
abbrev N_law : List Str := ["_law_script", "_law_draw", "_law_turn", "_law_plan", "_law_others", "_law_other"]
theorem sc_law : FnScope N_law ["_law_script"] (defScope s_law) := ⟨rfl, rfl, rfl, by decide +kernel, rfl, by decide +kernel, by decide +kernel⟩
/-- the built-ins are not hidden, the constants stand -/
structure Bl (mg : Str → Option Value) : Prop where
  b_all : mg "all" = none
  b_bool : mg "bool" = none
  b_enumerate : mg "enumerate" = none
  b_int : mg "int" = none
  b_isinstance : mg "isinstance" = none
  b_len : mg "len" = none
  b_list : mg "list" = none
  b_max : mg "max" = none
  b_min : mg "min" = none
  b_range : mg "range" = none
  b_repr : mg "repr" = none
  b_set : mg "set" = none
  b_sorted : mg "sorted" = none
  b_tuple : mg "tuple" = none
  b_zip : mg "zip" = none
  c_MOST_RULES : ∃ t, mg "MOST_RULES" = some (.int (10) t)
  c_MOST_WIDE : ∃ t, mg "MOST_WIDE" = some (.int (6) t)
structure Df (K : PySem.W.Frag) (mg : Str → Option Value) : Prop where
  d_law_begun : DefIn K mg "_law_begun" s_law_begun ["_law_script"]
  d_law_next : DefIn K mg "_law_next" s_law_next ["_law_draw", "_law_below"]
  d_is_whole : DefIn K mg "is_whole" s_is_whole ["thing", "least", "most"]
  d_are_ascending : DefIn K mg "are_ascending" s_are_ascending ["items"]
  d_is_lot_of : DefIn K mg "is_lot_of" s_is_lot_of ["wide", "thing"]
  d_is_rule : DefIn K mg "is_rule" s_is_rule ["wide", "thing"]
  d_schema_fault : DefIn K mg "schema_fault" s_schema_fault ["thing"]
  d_need_schema : DefIn K mg "need_schema" s_need_schema ["thing"]
  d_is_inside : DefIn K mg "is_inside" s_is_inside ["lot", "other"]
  d_all_lots : DefIn K mg "all_lots" s_all_lots ["columns"]
  d_columns_of : DefIn K mg "columns_of" s_columns_of ["schema"]
  d_settled_in : DefIn K mg "settled_in" s_settled_in ["schema", "lot"]
  d_closed_in : DefIn K mg "closed_in" s_closed_in ["schema"]
  d_are_alike : DefIn K mg "are_alike" s_are_alike ["schema", "other"]
  d_law_among : DefIn K mg "_law_among" s_law_among ["_law_draw", "_law_some"]
  d_law_lots : DefIn K mg "_law_lots" s_law_lots ["_law_columns"]
  d_law_lot : DefIn K mg "_law_lot" s_law_lot ["_law_draw", "_law_wide", "_law_odds"]
  d_law_schema : DefIn K mg "_law_schema" s_law_schema ["_law_draw", "_law_wide", "_law_most"]
  d_law_is_in : DefIn K mg "_law_is_in" s_law_is_in ["_law_one", "_law_far"]
  d_law_closed : DefIn K mg "_law_closed" s_law_closed ["_law_plan"]
  d_law_settled : DefIn K mg "_law_settled" s_law_settled ["_law_plan", "_law_one"]
  d_law_told : DefIn K mg "_law_told" s_law_told ["_law_call"]
  d_law_refusal : DefIn K mg "_law_refusal" s_law_refusal ["_law_error"]
  d_law_with : DefIn K mg "_law_with" s_law_with ["_law_draw", "_law_plan"]
  d_law_without : DefIn K mg "_law_without" s_law_without ["_law_draw", "_law_plan"]
  d_law_parted : DefIn K mg "_law_parted" s_law_parted ["_law_plan"]
  d_law_widened : DefIn K mg "_law_widened" s_law_widened ["_law_plan"]
  d_law_is_told : DefIn K mg "_law_is_told" s_law_is_told ["_law_plan", "_law_other"]
  d_law_refused_right : DefIn K mg "_law_refused_right" s_law_refused_right ["_law_draw", "_law_plan"]
  d_law_by_hand_right : DefIn K mg "_law_by_hand_right" s_law_by_hand_right []
structure ErrC (P : Program) (K : PySem.W.Frag) (mg : Str → Option Value) : Prop where
  c_BadNumber : ClsIn P K mg "BadNumber" "value"
  c_BadSchema : ClsIn P K mg "BadSchema" "place"
def toldNames : List Str := ["BadNumber", "BadSchema"]
abbrev okN : Str → Prop := (· ∈ toldNames)
structure Lm (K : PySem.W.Frag) (mg : Str → Option Value) (base : Heap) : Prop where
  l_law_refused_right : ∃ c P, LamAt K mg base "_law_refused_right" c P
def t_is_whole : SD := sSeq (sIf (bOr (bNot (bVal (dIsi "int" (dV 0)))) (bVal (dIsi "bool" (dV 0)))) (sRet (dK (.bool false))) (sNext))
    (sRet (dAnd (dOr (dOp (oIs false) (dV 1) (dK .none)) (dOp (oGe2) (dV 0) (dV 1))) (dOr (dOp (oIs false) (dV 2) (dK .none)) (dOp (oLe2) (dV 0) (dV 2)))))
def w_is_whole : FT := bodyD 3 3 t_is_whole
set_option synthInstance.maxHeartbeats 1000000 in
set_option synthInstance.maxSize 100000 in
instance det_is_whole : DF w_is_whole := @df_body _ _ t_is_whole (by unfold t_is_whole; infer_instance)
def t_are_ascending : SD := sRet (dCall fAll (aCons (dNew (nComp [1, 2] (iZip2 (aCons (dV 0) (aCons (dSl (dV 0) (oSome (dK (.int 1))) (oNone)) (aNil)))) (gT (gCons' (gN 1) (gCons' (gN 2) (gNil')))) (bYes) (dOp (oLt) (dV 1) (dV 2)))) (aNil)))
def w_are_ascending : FT := bodyD 1 3 t_are_ascending
set_option synthInstance.maxHeartbeats 1000000 in
set_option synthInstance.maxSize 100000 in
instance det_are_ascending : DF w_are_ascending := @df_body _ _ t_are_ascending (by unfold t_are_ascending; infer_instance)
def t_is_lot_of : SD := sSeq (sIf (bOr (bNot (bVal (dIsi "tuple" (dV 1)))) (bNot (bVal (dCall fAll (aCons (dNew (nComp [2] (iSeq (dV 1)) (gN 2) (bYes) (dCallF w_is_whole (cCons (dV 2) (cCons (dK (.int 0)) (cCons (dOp oSub (dV 0) (dK (.int 1))) (cNil))))))) (aNil)))))) (sRet (dK (.bool false))) (sNext))
    (sRet (dCallF w_are_ascending (cCons (dV 1) (cNil))))
def w_is_lot_of : FT := bodyD 2 3 t_is_lot_of
set_option synthInstance.maxHeartbeats 1000000 in
set_option synthInstance.maxSize 100000 in
instance det_is_lot_of : DF w_is_lot_of := @df_body _ _ t_is_lot_of (by unfold t_is_lot_of; infer_instance)
def t_is_rule : SD := sRet (dAnd (dIsi "tuple" (dV 1)) (dAnd (dOp (oEq) (dCall fLen (aCons (dV 1) (aNil))) (dK (.int 2))) (dCall fAll (aCons (dNew (nComp [2] (iSeq (dV 1)) (gN 2) (bYes) (dCallF w_is_lot_of (cCons (dV 0) (cCons (dV 2) (cNil)))))) (aNil)))))
def w_is_rule : FT := bodyD 2 3 t_is_rule
set_option synthInstance.maxHeartbeats 1000000 in
set_option synthInstance.maxSize 100000 in
instance det_is_rule : DF w_is_rule := @df_body _ _ t_is_rule (by unfold t_is_rule; infer_instance)
def t_schema_fault : SD := sSeq (sIf (bOr (bNot (bVal (dIsi "tuple" (dV 0)))) (bVal (dOp (oNe) (dCall fLen (aCons (dV 0) (aNil))) (dK (.int 2))))) (sRet (dTup (aNil))) (sNext))
    (sSeq (sIf (bNot (bVal (dCallF w_is_whole (cCons (dOp oIx (dV 0) (dK (.int 0))) (cCons (dK (.int 1)) (cCons (dK (.int 6)) (cNil))))))) (sRet (dTup (aCons (dK (.str "wide")) (aNil)))) (sNext))
    (sSeq (sIf (bOr (bNot (bVal (dIsi "tuple" (dOp oIx (dV 0) (dK (.int 1)))))) (bVal (dOp (oGt2) (dCall fLen (aCons (dOp oIx (dV 0) (dK (.int 1))) (aNil))) (dK (.int 10))))) (sRet (dTup (aCons (dK (.str "rules")) (aNil)))) (sNext))
    (sSeq (sFor (iEnum1 (dOp oIx (dV 0) (dK (.int 1)))) (gT (gCons' (gN 1) (gCons' (gN 2) (gNil')))) (sIf (bOr (bNot (bVal (dCallF w_is_rule (cCons (dOp oIx (dV 0) (dK (.int 0))) (cCons (dV 2) (cNil)))))) (bAnd (bVal (dOp (oGt2) (dV 1) (dK (.int 0)))) (bVal (dOp (oGe2) (dOp oIx (dOp oIx (dV 0) (dK (.int 1))) (dOp oSub (dV 1) (dK (.int 1)))) (dV 2))))) (sRet (dTup (aCons (dK (.str "rule")) (aCons (dV 1) (aNil))))) (sNext)))
    (sRet (dK .none)))))
def w_schema_fault : FT := bodyD 1 3 t_schema_fault
set_option synthInstance.maxHeartbeats 1000000 in
set_option synthInstance.maxSize 100000 in
instance det_schema_fault : DF w_schema_fault := @df_body _ _ t_schema_fault (by unfold t_schema_fault; infer_instance)
def t_need_schema : SD := sSeq (sSet 1 (dCallF w_schema_fault (cCons (dV 0) (cNil))))
    (sSeq (sIf (bVal (dOp (oIs true) (dV 1) (dK .none))) (sRaise "BadSchema" "place" (dV 1)) (sNext))
    (sRet (dV 0)))
def w_need_schema : FT := bodyD 1 2 t_need_schema
def t_is_inside : SD := sRet (dCall fAll (aCons (dNew (nComp [2] (iSeq (dV 0)) (gN 2) (bYes) (dOp (oIn false) (dV 2) (dV 1)))) (aNil)))
def w_is_inside : FT := bodyD 2 3 t_is_inside
set_option synthInstance.maxHeartbeats 1000000 in
set_option synthInstance.maxSize 100000 in
instance det_is_inside : DF w_is_inside := @df_body _ _ t_is_inside (by unfold t_is_inside; infer_instance)
def t_all_lots : SD := sSeq (sSet 1 (dNew (nLst (aCons (dTup (aNil)) (aNil)))))
    (sSeq (sFor (iSeq (dV 0)) (gN 2) (sSet 1 (dOp oAdd (dV 1) (dNew (nComp [3] (iSeq (dV 1)) (gN 3) (bYes) (dOp oAdd (dV 3) (dTup (aCons (dV 2) (aNil)))))))))
    (sRet (dNew (nCall fSorted (aCons (dV 1) (aNil))))))
def w_all_lots : FT := bodyD 1 4 t_all_lots
set_option synthInstance.maxHeartbeats 1000000 in
set_option synthInstance.maxSize 100000 in
instance det_all_lots : DF w_all_lots := @df_body _ _ t_all_lots (by unfold t_all_lots; infer_instance)
def t_columns_of : SD := sRet (dTupRg (gRg1 (dOp oIx (dV 0) (dK (.int 0)))))
def w_columns_of : FT := bodyD 1 1 t_columns_of
set_option synthInstance.maxHeartbeats 1000000 in
set_option synthInstance.maxSize 100000 in
instance det_columns_of : DF w_columns_of := @df_body _ _ t_columns_of (by unfold t_columns_of; infer_instance)
def t_settled_in : SD := sSeq (sParN 2 3 (nCall fList (aCons (dV 1) (aNil))) (oNeg (dK (.int 1))))
    (sSeq (sWhile (bVal (dOp (oGt2) (dCall fLen (aCons (dV 2) (aNil))) (dV 3))) (sSeq (sSetL 3 (dCall fLen (aCons (dV 2) (aNil))))
    (sFor (iSeq (dOp oIx (dV 0) (dK (.int 1)))) (gT (gCons' (gN 4) (gCons' (gN 5) (gNil')))) (sIf (bVal (dCallF w_is_inside (cCons (dV 4) (cCons (dV 2) (cNil))))) (sExtL 2 (dNew (nComp [6] (iSeq (dV 5)) (gN 6) (bVal (dOp (oIn true) (dV 6) (dV 2))) (dV 6)))) (sNext)))))
    (sRet (dCall fTuple (aCons (dNew (nCall fSorted (aCons (dV 2) (aNil)))) (aNil)))))
def w_settled_in : FT := bodyD 2 7 t_settled_in
set_option synthInstance.maxHeartbeats 1000000 in
set_option synthInstance.maxSize 100000 in
instance det_settled_in : DF w_settled_in := @df_body _ _ t_settled_in (by unfold t_settled_in; infer_instance)
def t_closed_in : SD := sRet (dNew (nComp [1] (iSeq (dCallF w_all_lots (cCons (dCallF w_columns_of (cCons (dV 0) (cNil))) (cNil)))) (gN 1) (bVal (dOp (oEq) (dCallF w_settled_in (cCons (dV 0) (cCons (dV 1) (cNil)))) (dV 1))) (dV 1)))
def w_closed_in : FT := bodyD 1 2 t_closed_in
set_option synthInstance.maxHeartbeats 1000000 in
set_option synthInstance.maxSize 100000 in
instance det_closed_in : DF w_closed_in := @df_body _ _ t_closed_in (by unfold t_closed_in; infer_instance)
def t_are_alike : SD := sSeq (sDrop (dCallE w_need_schema (cCons (dV 0) (cNil))))
    (sSeq (sIf (bVal (dOp (oNe) (dOp oIx (dCallE w_need_schema (cCons (dV 1) (cNil))) (dK (.int 0))) (dOp oIx (dV 0) (dK (.int 0))))) (sRaise "BadNumber" "value" (dOp oIx (dV 1) (dK (.int 0)))) (sNext))
    (sRet (dOp (oEq) (dCallF w_closed_in (cCons (dV 0) (cNil))) (dCallF w_closed_in (cCons (dV 1) (cNil))))))
def w_are_alike : FT := bodyD 2 2 t_are_alike
def t_law_among : SD := sRet (dOp oIx (dV 1) (dCallF w_next (cDrw 0 (cCons (dCall fLen (aCons (dV 1) (aNil))) (cNil)))))
def w_law_among : FT := bodyD 2 2 t_law_among
def t_law_lots : SD := sSeq (sSet 1 (dNew (nLst (aCons (dTup (aNil)) (aNil)))))
    (sSeq (sFor (iSeq (dV 0)) (gN 2) (sSet 1 (dOp oAdd (dV 1) (dNew (nComp [3] (iSeq (dV 1)) (gN 3) (bYes) (dOp oAdd (dV 3) (dTup (aCons (dV 2) (aNil)))))))))
    (sRet (dNew (nCall fSorted (aCons (dV 1) (aNil))))))
def w_law_lots : FT := bodyD 1 4 t_law_lots
def t_law_lot : SD := sRet (dCall fTuple (aCons (dNew (nComp [3] (iRange1 (aCons (dV 1) (aNil))) (gN 3) (bVal (dOp (oEq) (dCallF w_next (cDrw 0 (cCons (dV 2) (cNil)))) (dK (.int 0)))) (dV 3))) (aNil)))
def w_law_lot : FT := bodyD 3 4 t_law_lot
def t_law_schema : SD := sSeq (sOwn 3 (nLst (aNil)))
    (sSeq (sFor (iRange1 (aCons (dCallF w_next (cDrw 0 (cCons (dOp oAdd (dV 2) (dK (.int 1))) (cNil)))) (aNil))) (gN 4) (sApp 3 (dTup (aCons (dCallF w_law_lot (cDrw 0 (cCons (dV 1) (cCons (dCallF w_law_among (cDrw 0 (cCons (dNew (nLst (aCons (dK (.int 2)) (aCons (dK (.int 3)) (aCons (dK (.int 3)) (aNil)))))) (cNil)))) (cNil))))) (aCons (dCallF w_law_lot (cDrw 0 (cCons (dV 1) (cCons (dK (.int 3)) (cNil))))) (aNil))))))
    (sRet (dTup (aCons (dV 1) (aCons (dCall fTuple (aCons (dNew (nSortSet (dV 3))) (aNil))) (aNil))))))
def w_law_schema : FT := bodyD 3 5 t_law_schema
def t_law_is_in : SD := sRet (dOp (oEq) (dNew (nComp [2] (iSeq (dV 0)) (gN 2) (bVal (dOp (oIn true) (dV 2) (dV 1))) (dV 2))) (dNew (nLst (aNil))))
def w_law_is_in : FT := bodyD 2 3 t_law_is_in
def t_law_closed : SD := sSeq (sOwn 1 (nLst (aNil)))
    (sSeq (sFor (iSeq (dCallF w_law_lots (cCons (dNew (nRg (gRg1 (dOp oIx (dV 0) (dK (.int 0)))))) (cNil)))) (gN 2) (sIf (bVal (dOp (oEq) (dNew (nComp [3, 4] (iSeq (dOp oIx (dV 0) (dK (.int 1)))) (gT (gCons' (gN 3) (gCons' (gN 4) (gNil')))) (bAnd (bVal (dCallF w_law_is_in (cCons (dV 3) (cCons (dV 2) (cNil))))) (bNot (bVal (dCallF w_law_is_in (cCons (dV 4) (cCons (dV 2) (cNil))))))) (dV 3))) (dNew (nLst (aNil))))) (sApp 1 (dV 2)) (sNext)))
    (sRet (dV 1)))
def w_law_closed : FT := bodyD 1 5 t_law_closed
def t_law_settled : SD := sSeq (sSet 2 (dTupRg (gRg1 (dOp oIx (dV 0) (dK (.int 0))))))
    (sSeq (sFor (iSeq (dCallF w_law_closed (cCons (dV 0) (cNil)))) (gN 3) (sIf (bVal (dCallF w_law_is_in (cCons (dV 1) (cCons (dV 3) (cNil))))) (sSet 2 (dCall fTuple (aCons (dNew (nComp [4] (iSeq (dV 2)) (gN 4) (bVal (dOp (oIn false) (dV 4) (dV 3))) (dV 4))) (aNil)))) (sNext)))
    (sRet (dV 2)))
def w_law_settled : FT := bodyD 2 5 t_law_settled
def t_law_refusal (a dx : Addr) (nm : Str) : SD := sSeq (sSet 1 (dNew (nLst (aCons (dTup (aCons (dK (.str "schema")) (aCons (dIsE 0 a dx (("BadSchema" : Str) == nm)) (aNil)))) (aCons (dTup (aCons (dK (.str "store")) (aCons (dIsE 0 a dx (("BadStore" : Str) == nm)) (aNil)))) (aNil))))))
    (sSeq (sSet 1 (dOp oAdd (dV 1) (dNew (nLst (aCons (dTup (aCons (dK (.str "lot")) (aCons (dIsE 0 a dx (("BadLot" : Str) == nm)) (aNil)))) (aCons (dTup (aCons (dK (.str "column")) (aCons (dIsE 0 a dx (("BadColumn" : Str) == nm)) (aNil)))) (aNil)))))))
    (sSeq (sSet 1 (dOp oAdd (dV 1) (dNew (nLst (aCons (dTup (aCons (dK (.str "cell")) (aCons (dIsE 0 a dx (("BadCell" : Str) == nm)) (aNil)))) (aCons (dTup (aCons (dK (.str "number")) (aCons (dIsE 0 a dx (("BadNumber" : Str) == nm)) (aNil)))) (aNil)))))))
    (sSeq (sSet 1 (dOp oAdd (dV 1) (dNew (nLst (aCons (dTup (aCons (dK (.str "paper")) (aCons (dIsE 0 a dx (("BadPaper" : Str) == nm)) (aNil)))) (aCons (dTup (aCons (dK (.str "many")) (aCons (dIsE 0 a dx (("TooMany" : Str) == nm)) (aNil)))) (aNil)))))))
    (sSeq (sNew 2 (nComp [3, 4] (iSeq (dV 1)) (gT (gCons' (gN 3) (gCons' (gN 4) (gNil')))) (bVal (dV 4)) (dV 3)))
    (sSeq (sIf (bVal (dOp (oNe) (dCall fLen (aCons (dV 2) (aNil))) (dK (.int 1)))) (sRet (dTup (aCons (dK (.str "other")) (aNil)))) (sNext))
    (sSeq (sIf (bVal (dOp (oIn false) (dOp oIx (dV 2) (dK (.int 0))) (dTup (aCons (dK (.str "schema")) (aCons (dK (.str "store")) (aNil)))))) (sRet (dTup (aCons (dOp oIx (dV 2) (dK (.int 0))) (aCons (dFldE 0 a dx "place") (aNil))))) (sNext))
    (sSeq (sIf (bVal (dOp (oIn false) (dOp oIx (dV 2) (dK (.int 0))) (dTup (aCons (dK (.str "lot")) (aCons (dK (.str "column")) (aCons (dK (.str "cell")) (aCons (dK (.str "number")) (aNil)))))))) (sRet (dTup (aCons (dOp oIx (dV 2) (dK (.int 0))) (aCons (dFldE 0 a dx "value") (aNil))))) (sNext))
    (sRet (dTup (aCons (dOp oIx (dV 2) (dK (.int 0))) (aCons (dIf (bVal (dOp (oEq) (dOp oIx (dV 2) (dK (.int 0))) (dK (.str "paper")))) (dFldE 0 a dx "word") (dFldE 0 a dx "most")) (aNil))))))))))))
def t_law_with : SD := sSeq (sSet 2 (dCallF w_law_lot (cDrw 0 (cCons (dOp oIx (dV 1) (dK (.int 0))) (cCons (dK (.int 2)) (cNil))))))
    (sSeq (sSet 3 (dIf (bVal (dOp (oGt2) (dCallF w_next (cDrw 0 (cCons (dK (.int 4)) (cNil)))) (dK (.int 0)))) (dCallF w_law_settled (cCons (dV 1) (cCons (dV 2) (cNil)))) (dCallF w_law_lot (cDrw 0 (cCons (dOp oIx (dV 1) (dK (.int 0))) (cCons (dK (.int 2)) (cNil)))))))
    (sSeq (sSet 4 (dTup (aCons (dV 2) (aCons (dCall fTuple (aCons (dNew (nComp [5] (iSeq (dV 3)) (gN 5) (bVal (dOp (oGt2) (dCallF w_next (cDrw 0 (cCons (dK (.int 3)) (cNil)))) (dK (.int 0)))) (dV 5))) (aNil))) (aNil)))))
    (sRet (dTup (aCons (dOp oIx (dV 1) (dK (.int 0))) (aCons (dCall fTuple (aCons (dNew (nSortSetT (dOp oAdd (dOp oIx (dV 1) (dK (.int 1))) (dTup (aCons (dV 4) (aNil)))))) (aNil))) (aNil)))))))
def w_law_with : FT := bodyD 2 6 t_law_with
def t_law_without : SD := sSeq (sIf (bVal (dOp (oEq) (dOp oIx (dV 1) (dK (.int 1))) (dTup (aNil)))) (sRet (dV 1)) (sNext))
    (sSeq (sSet 2 (dCallF w_next (cDrw 0 (cCons (dCall fLen (aCons (dOp oIx (dV 1) (dK (.int 1))) (aNil))) (cNil)))))
    (sRet (dTup (aCons (dOp oIx (dV 1) (dK (.int 0))) (aCons (dOp oAdd (dSl (dOp oIx (dV 1) (dK (.int 1))) (oNone) (oSome (dV 2))) (dSl (dOp oIx (dV 1) (dK (.int 1))) (oSome (dOp oAdd (dV 2) (dK (.int 1)))) (oNone))) (aNil))))))
def w_law_without : FT := bodyD 2 3 t_law_without
def t_law_parted : SD := sSeq (sSet 1 (dNew (nLst (aNil))))
    (sSeq (sFor (iSeq (dOp oIx (dV 0) (dK (.int 1)))) (gT (gCons' (gN 2) (gCons' (gN 3) (gNil')))) (sSet 1 (dOp oAdd (dV 1) (dNew (nComp [4] (iSeq (dV 3)) (gN 4) (bYes) (dTup (aCons (dV 2) (aCons (dTup (aCons (dV 4) (aNil))) (aNil)))))))))
    (sSeq (sSet 1 (dNew (nSortSet (dV 1))))
    (sRet (dIf (bVal (dOp (oLe2) (dCall fLen (aCons (dV 1) (aNil))) (dK (.int 10)))) (dTup (aCons (dOp oIx (dV 0) (dK (.int 0))) (aCons (dCall fTuple (aCons (dV 1) (aNil))) (aNil)))) (dV 0)))))
def w_law_parted : FT := bodyD 1 5 t_law_parted
def t_law_widened : SD := sRet (dTup (aCons (dOp oIx (dV 0) (dK (.int 0))) (aCons (dCall fTuple (aCons (dNew (nSortSet (dNew (nComp [1, 2] (iSeq (dOp oIx (dV 0) (dK (.int 1)))) (gT (gCons' (gN 1) (gCons' (gN 2) (gNil')))) (bYes) (dTup (aCons (dV 1) (aCons (dCallF w_law_settled (cCons (dV 0) (cCons (dV 1) (cNil)))) (aNil)))))))) (aNil))) (aNil))))
def w_law_widened : FT := bodyD 1 3 t_law_widened
def t_law_is_told : SD := sSeq (sPar 2 3 (dCall fRepr (aCons (dNew (nLst (aCons (dV 0) (aCons (dV 1) (aNil))))) (aNil))) (dOp (oEq) (dCallF w_law_closed (cCons (dV 0) (cNil))) (dCallF w_law_closed (cCons (dV 1) (cNil)))))
    (sSeq (sSet 4 (dNew (nLst (aCons (dCallE w_are_alike (cCons (dV 0) (cCons (dV 1) (cNil)))) (aCons (dCallE w_are_alike (cCons (dV 1) (cCons (dV 0) (cNil)))) (aCons (dCallE w_are_alike (cCons (dV 0) (cCons (dV 1) (cNil)))) (aCons (dCallE w_are_alike (cCons (dV 1) (cCons (dV 0) (cNil)))) (aNil))))))))
    (sRet (dAnd (dOp (oEq) (dCall fRepr (aCons (dV 4) (aNil))) (dCall fRepr (aCons (dOp oMul (dNew (nLst (aCons (dV 3) (aNil)))) (dK (.int 4))) (aNil)))) (dOp (oEq) (dCall fRepr (aCons (dNew (nLst (aCons (dV 0) (aCons (dV 1) (aNil))))) (aNil))) (dV 2)))))
def w_law_is_told : FT := bodyD 2 5 t_law_is_told
def t_law_refused_right : SD := sSeq (sSet 2 (dNew (nLst (aCons (dTup (aCons (dK .none) (aCons (dTup (aNil)) (aNil)))) (aCons (dTup (aCons (dTup (aNil)) (aCons (dTup (aNil)) (aNil)))) (aCons (dTup (aCons (dTup (aCons (dOp oIx (dV 1) (dK (.int 0))) (aNil))) (aCons (dTup (aNil)) (aNil)))) (aCons (dTup (aCons (dTup (aCons (dK (.int 7)) (aCons (dTup (aNil)) (aNil)))) (aCons (dTup (aCons (dK (.str "wide")) (aNil))) (aNil)))) (aCons (dTup (aCons (dTup (aCons (dK (.int 0)) (aCons (dK .none) (aNil)))) (aCons (dTup (aCons (dK (.str "wide")) (aNil))) (aNil)))) (aCons (dTup (aCons (dTup (aCons (dK (.bool true)) (aCons (dTup (aNil)) (aNil)))) (aCons (dTup (aCons (dK (.str "wide")) (aNil))) (aNil)))) (aNil))))))))))
    (sSeq (sSet 2 (dOp oAdd (dV 2) (dNew (nLst (aCons (dTup (aCons (dTup (aCons (dK (.int 2)) (aCons (dNew (nLst (aCons (dTup (aNil)) (aNil)))) (aNil)))) (aCons (dTup (aCons (dK (.str "rules")) (aNil))) (aNil)))) (aCons (dTup (aCons (dTup (aCons (dK (.int 2)) (aCons (dTup (aCons (dK .none) (aNil))) (aNil)))) (aCons (dTup (aCons (dK (.str "rule")) (aCons (dK (.int 0)) (aNil)))) (aNil)))) (aCons (dTup (aCons (dTup (aCons (dK (.int 2)) (aCons (dTup (aCons (dTup (aCons (dTup (aCons (dK (.int 0)) (aNil))) (aCons (dTup (aNil)) (aNil)))) (aCons (dTup (aCons (dTup (aCons (dK (.int 0)) (aNil))) (aCons (dTup (aNil)) (aNil)))) (aNil)))) (aNil)))) (aCons (dTup (aCons (dK (.str "rule")) (aCons (dK (.int 1)) (aNil)))) (aNil)))) (aNil))))))))
    (sSeq (sNew 3 (nComp [4] (iRange2 (aCons (dK (.int 1)) (aCons (dK (.int 7)) (aNil)))) (gN 4) (bVal (dOp (oNe) (dV 4) (dOp oIx (dV 1) (dK (.int 0))))) (dV 4)))
    (sSeq (sSet 5 (dTup (aCons (dCallF w_law_among (cDrw 0 (cCons (dV 3) (cNil)))) (aCons (dTup (aNil)) (aNil)))))
    (sSeq (sFor (iSeq (dV 2)) (gT (gCons' (gN 6) (gCons' (gN 7) (gNil')))) (sSeq (sSet 8 (dNew (nLst (aCons (dTold' t_law_refusal 4 okN (dCallE w_are_alike (cCons (dV 6) (cCons (dV 1) (cNil))))) (aCons (dTold' t_law_refusal 4 okN (dCallE w_are_alike (cCons (dV 1) (cCons (dV 6) (cNil))))) (aNil))))))
    (sSeq (sSet 8 (dOp oAdd (dV 8) (dNew (nLst (aCons (dTold' t_law_refusal 4 okN (dCallE w_are_alike (cCons (dV 6) (cCons (dK .none) (cNil))))) (aCons (dTold' t_law_refusal 4 okN (dCallE w_are_alike (cCons (dV 6) (cCons (dV 5) (cNil))))) (aNil)))))))
    (sIf (bVal (dOp (oNe) (dCall fRepr (aCons (dV 8) (aNil))) (dCall fRepr (aCons (dOp oMul (dNew (nLst (aCons (dTup (aCons (dK (.str "schema")) (aCons (dV 7) (aNil)))) (aNil)))) (dK (.int 4))) (aNil))))) (sRet (dK (.bool false))) (sNext)))))
    (sSeq (sSet 8 (dNew (nLst (aCons (dTold' t_law_refusal 4 okN (dCallE w_are_alike (cCons (dV 1) (cCons (dV 5) (cNil))))) (aCons (dTold' t_law_refusal 4 okN (dCallE w_are_alike (cCons (dV 5) (cCons (dV 1) (cNil))))) (aNil))))))
    (sRet (dOp (oEq) (dV 8) (dNew (nLst (aCons (dTup (aCons (dK (.str "number")) (aCons (dOp oIx (dV 5) (dK (.int 0))) (aNil)))) (aCons (dTup (aCons (dK (.str "number")) (aCons (dOp oIx (dV 1) (dK (.int 0))) (aNil)))) (aNil))))))))))))
def w_law_refused_right : FT := bodyD 2 9 t_law_refused_right
def t_law_by_hand_right : SD := sSeq (sSet 0 (dTup (aCons (dK (.int 3)) (aCons (dTup (aCons (dTup (aCons (dTup (aCons (dK (.int 0)) (aNil))) (aCons (dTup (aCons (dK (.int 1)) (aNil))) (aNil)))) (aCons (dTup (aCons (dTup (aCons (dK (.int 1)) (aNil))) (aCons (dTup (aCons (dK (.int 2)) (aNil))) (aNil)))) (aCons (dTup (aCons (dTup (aCons (dK (.int 2)) (aNil))) (aCons (dTup (aCons (dK (.int 0)) (aNil))) (aNil)))) (aNil))))) (aNil)))))
    (sSeq (sSet 1 (dTup (aCons (dK (.int 3)) (aCons (dTup (aCons (dTup (aCons (dTup (aCons (dK (.int 0)) (aNil))) (aCons (dTup (aCons (dK (.int 2)) (aNil))) (aNil)))) (aCons (dTup (aCons (dTup (aCons (dK (.int 1)) (aNil))) (aCons (dTup (aCons (dK (.int 0)) (aNil))) (aNil)))) (aCons (dTup (aCons (dTup (aCons (dK (.int 2)) (aNil))) (aCons (dTup (aCons (dK (.int 1)) (aNil))) (aNil)))) (aNil))))) (aNil)))))
    (sSeq (sSet 2 (dTup (aCons (dK (.int 3)) (aCons (dTup (aCons (dTup (aCons (dTup (aCons (dK (.int 0)) (aNil))) (aCons (dTup (aCons (dK (.int 0)) (aCons (dK (.int 1)) (aCons (dK (.int 2)) (aNil))))) (aNil)))) (aCons (dTup (aCons (dTup (aCons (dK (.int 1)) (aNil))) (aCons (dTup (aCons (dK (.int 0)) (aCons (dK (.int 1)) (aCons (dK (.int 2)) (aNil))))) (aNil)))) (aCons (dTup (aCons (dTup (aCons (dK (.int 2)) (aNil))) (aCons (dTup (aCons (dK (.int 0)) (aCons (dK (.int 1)) (aCons (dK (.int 2)) (aNil))))) (aNil)))) (aNil))))) (aNil)))))
    (sSeq (sSet 3 (dTup (aCons (dK (.int 3)) (aCons (dTup (aCons (dTup (aCons (dTup (aCons (dK (.int 0)) (aNil))) (aCons (dTup (aCons (dK (.int 1)) (aNil))) (aNil)))) (aCons (dTup (aCons (dTup (aCons (dK (.int 1)) (aNil))) (aCons (dTup (aCons (dK (.int 2)) (aNil))) (aNil)))) (aNil)))) (aNil)))))
    (sSeq (sSet 4 (dNew (nLst (aCons (dTup (aCons (dV 0) (aCons (dV 1) (aCons (dK (.bool true)) (aNil))))) (aCons (dTup (aCons (dV 0) (aCons (dV 2) (aCons (dK (.bool true)) (aNil))))) (aCons (dTup (aCons (dV 0) (aCons (dV 3) (aCons (dK (.bool false)) (aNil))))) (aCons (dTup (aCons (dTup (aCons (dK (.int 6)) (aCons (dTup (aNil)) (aNil)))) (aCons (dTup (aCons (dK (.int 6)) (aCons (dTup (aCons (dTup (aCons (dTup (aCons (dK (.int 0)) (aCons (dK (.int 5)) (aNil)))) (aCons (dTup (aCons (dK (.int 5)) (aNil))) (aNil)))) (aNil))) (aNil)))) (aCons (dK (.bool true)) (aNil))))) (aNil))))))))
    (sSeq (sSet 4 (dOp oAdd (dV 4) (dNew (nLst (aCons (dTup (aCons (dV 3) (aCons (dTup (aCons (dK (.int 3)) (aCons (dTup (aCons (dTup (aCons (dTup (aCons (dK (.int 0)) (aNil))) (aCons (dTup (aCons (dK (.int 1)) (aCons (dK (.int 2)) (aNil)))) (aNil)))) (aCons (dTup (aCons (dTup (aCons (dK (.int 1)) (aNil))) (aCons (dTup (aCons (dK (.int 2)) (aNil))) (aNil)))) (aNil)))) (aNil)))) (aCons (dK (.bool true)) (aNil))))) (aCons (dTup (aCons (dTup (aCons (dK (.int 2)) (aCons (dTup (aCons (dTup (aCons (dTup (aNil)) (aCons (dTup (aCons (dK (.int 0)) (aNil))) (aNil)))) (aNil))) (aNil)))) (aCons (dTup (aCons (dK (.int 2)) (aCons (dTup (aNil)) (aNil)))) (aCons (dK (.bool false)) (aNil))))) (aNil)))))))
    (sSeq (sSet 4 (dOp oAdd (dV 4) (dNew (nLst (aCons (dTup (aCons (dTup (aCons (dK (.int 2)) (aCons (dTup (aCons (dTup (aCons (dTup (aNil)) (aCons (dTup (aCons (dK (.int 0)) (aCons (dK (.int 1)) (aNil)))) (aNil)))) (aNil))) (aNil)))) (aCons (dTup (aCons (dK (.int 2)) (aCons (dTup (aCons (dTup (aCons (dTup (aNil)) (aCons (dTup (aCons (dK (.int 0)) (aNil))) (aNil)))) (aCons (dTup (aCons (dTup (aCons (dK (.int 0)) (aNil))) (aCons (dTup (aCons (dK (.int 1)) (aNil))) (aNil)))) (aNil)))) (aNil)))) (aCons (dK (.bool true)) (aNil))))) (aCons (dTup (aCons (dTup (aCons (dK (.int 1)) (aCons (dTup (aNil)) (aNil)))) (aCons (dTup (aCons (dK (.int 1)) (aCons (dTup (aCons (dTup (aCons (dTup (aCons (dK (.int 0)) (aNil))) (aCons (dTup (aNil)) (aNil)))) (aNil))) (aNil)))) (aCons (dK (.bool true)) (aNil))))) (aNil)))))))
    (sSeq (sSet 5 (dTup (aCons (dK (.int 6)) (aCons (dCall fTuple (aCons (dNew (nComp [6] (iRange1 (aCons (dK (.int 5)) (aNil))) (gN 6) (bYes) (dTup (aCons (dTup (aCons (dV 6) (aNil))) (aCons (dTup (aCons (dOp oAdd (dV 6) (dK (.int 1))) (aNil))) (aNil)))))) (aNil))) (aNil)))))
    (sSeq (sSet 4 (dOp oAdd (dV 4) (dNew (nLst (aCons (dTup (aCons (dV 5) (aCons (dTup (aCons (dK (.int 6)) (aCons (dCall fTuple (aCons (dNew (nComp [6] (iRange1 (aCons (dK (.int 5)) (aNil))) (gN 6) (bYes) (dTup (aCons (dTup (aCons (dV 6) (aNil))) (aCons (dTupRg (gRg2 (dV 6) (dK (.int 6)))) (aNil)))))) (aNil))) (aNil)))) (aCons (dK (.bool true)) (aNil))))) (aNil))))))
    (sSeq (sSet 4 (dOp oAdd (dV 4) (dNew (nLst (aCons (dTup (aCons (dV 5) (aCons (dTup (aCons (dK (.int 6)) (aCons (dSl (dOp oIx (dV 5) (dK (.int 1))) (oNone) (oSome (dK (.int 4)))) (aNil)))) (aCons (dK (.bool false)) (aNil))))) (aCons (dTup (aCons (dV 5) (aCons (dTup (aCons (dK (.int 6)) (aCons (dSl (dOp oIx (dV 5) (dK (.int 1))) (oSome (dK (.int 1))) (oNone)) (aNil)))) (aCons (dK (.bool false)) (aNil))))) (aNil)))))))
    (sSeq (sFor (iSeq (dV 4)) (gT (gCons' (gN 7) (gCons' (gN 8) (gCons' (gN 9) (gNil'))))) (sIf (bVal (dOp (oNe) (dCall fRepr (aCons (dNew (nLst (aCons (dCallE w_are_alike (cCons (dV 7) (cCons (dV 8) (cNil)))) (aCons (dCallE w_are_alike (cCons (dV 8) (cCons (dV 7) (cNil)))) (aNil))))) (aNil))) (dCall fRepr (aCons (dNew (nLst (aCons (dV 9) (aCons (dV 9) (aNil))))) (aNil))))) (sRet (dK (.bool false))) (sNext)))
    (sRet (dK (.bool true)))))))))))))
def w_law_by_hand_right : FT := bodyD 0 10 t_law_by_hand_right
def t_law : SD := sSeq (sFor (iRange1 (aCons (dOp oAdd (dK (.int 4)) (dOp oDiv (dCall fMin2 (aCons (dK (.int 60)) (aCons (lenScr 0) (aNil)))) (dK (.int 10)))) (aNil))) (gN 2) (sSeq (sSet 3 (dCallF w_law_schema (cDrw 1 (cCons (dOp oAdd (dK (.int 1)) (dCallF w_next (cDrw 1 (cCons (dK (.int 6)) (cNil))))) (cCons (dCallF w_law_among (cDrw 1 (cCons (dNew (nLst (aCons (dK (.int 2)) (aCons (dK (.int 4)) (aCons (dK (.int 9)) (aNil)))))) (cNil)))) (cNil))))))
    (sSeq (sSet 4 (dNew (nLst (aCons (dV 3) (aCons (dCallF w_law_with (cDrw 1 (cCons (dV 3) (cNil)))) (aCons (dCallF w_law_without (cDrw 1 (cCons (dV 3) (cNil)))) (aCons (dCallF w_law_parted (cCons (dV 3) (cNil))) (aCons (dCallF w_law_widened (cCons (dV 3) (cNil))) (aNil)))))))))
    (sSeq (sSet 4 (dOp oAdd (dV 4) (dNew (nLst (aCons (dCallF w_law_without (cDrw 1 (cCons (dCallF w_law_widened (cCons (dV 3) (cNil))) (cNil)))) (aCons (dCallF w_law_schema (cDrw 1 (cCons (dOp oIx (dV 3) (dK (.int 0))) (cCons (dK (.int 4)) (cNil))))) (aNil)))))))
    (sSeq (sIf (bVal (dOp (oNe) (dNew (nComp [5] (iSeq (dV 4)) (gN 5) (bNot (bVal (dCallF w_law_is_told (cCons (dV 3) (cCons (dV 5) (cNil)))))) (dV 5))) (dNew (nLst (aNil))))) (sRet (dK (.bool false))) (sNext))
    (sIf (bNot (bVal (dCallF w_law_refused_right (cDrw 1 (cCons (dV 3) (cNil)))))) (sRet (dK (.bool false))) (sNext)))))))
    (sRet (dCallF w_law_by_hand_right cNil))
section
variable {P : Program} {w : World} {K : PySem.W.Frag} {mg : Str → Option Value} {base : Heap}
theorem ok_law_begun {f : Addr} {fd : FuncData} {k : Nat} (F : Fun K "_law_begun" "_law_begun" s_law_begun f fd) (mlen : mg "len" = none) (menum : mg "enumerate" = none) (mint : mg "int" = none) : FnG P w K mg base CX0 (k + 1) f fd ["_law_script"] (spBegun K) := by
  refine fnG_of F sc_law_begun (fun vs H Q E h => ?_) fun cdv A outer s H vs Q E hg hr h => ?_
  · obtain ⟨a, ns, rfl, _⟩ := h
    rfl
  obtain ⟨a, ns, rfl, hS, hl, q⟩ := h
  refine ⟨_, PSs.nox (pss_cons (ps_set (i := 1) sc_law_begun.nd rfl (.inl rfl) (pe_op op_add pe_int (pe_op op_mul pe_int (pe_callB call_len_seq (by rfl) mlen PySem.boot_len (pa_cons (pv 0) pa_nil)))))
    (pss_cons (ps_for PassesOwn.never rfl (pi_enum (by rfl) menum (pa_cons (pv 0) pa_nil)) (pg_tup rfl (pgs_cons (pg_name (i := 2) sc_law_begun.nd rfl (.inl rfl)) (pgs_cons (pg_name (i := 3) sc_law_begun.nd rfl (.inl rfl)) pgs_nil)))
      (pss_one (ps_set (i := 1) sc_law_begun.nd rfl (.inl rfl) (pe_op op_mod (pe_callTy call_int1 (by rfl) mint (by decide +kernel) (pa_cons (pe_op op_add (pe_op op_add (pe_op op_mul (pv 1) pe_int) (pv 3)) (pe_op op_mul pe_int (pv 2))) pa_nil)) pe_int))))
    (pss_one (ps_ret (pe_disp (pps_cons pe_str (pv 1) (pps_cons pe_str (pe_lc (own := [("_law_cell", 3)]) (g := gName 3) rfl sc_law_begun.nd (pi_list (pv 0)) (blkOk_by (N := N_law_begun) (sc := defScope s_law_begun) (by decide +kernel)) (fun _ _ _ _ _ => pg_name (i := 3) sc_law_begun.nd rfl (Or.inl rfl))
      (fun _ _ _ _ _ => pts_one (pt_cmpR op_ge (pv 3) (pe_op op_pow pe_int pe_int) (nomark _))) (fun _ _ _ _ _ => pv 3)) (pps_cons pe_str pe_int pps_nil))) rfl rfl (by decide) (by decide)))))), ?_⟩
  refine ⟨.ref a, rfl, a, ns.map V.int, rfl, .inl hS, _, _, rfl, rfl, .inl ⟨by decide, by decide⟩, _, _, rfl, rfl, ?_⟩
  refine ⟨.ref a, rfl, a, ns.map V.int, rfl, hS, for_it (walk_enum (xs := ns.map V.int)) (fun i σ H' => ∃ m x2 x3, σ = [some (.ref a), some (.int m), x2, x3] ∧ Same H H' ∧ 0 ≤ m ∧ m < bigM) ⟨_, none, none, rfl, .refl H, ?_, ?_⟩ ?_ ?_ ?_⟩
  · rw [List.length_map]; omega
  · rw [List.length_map]; unfold bigM; omega
  · rintro i σ H1 _ ⟨m, x2, x3, _, sm, _⟩
    exact sm.seq hS
  · rintro i v σ H1 H2 hi ⟨m, x2, x3, rfl, sm, m0, m1⟩ ⟨T, x, y, rfl, hT, rfl, ex, ey⟩
    have ex : x = .int (i : Nat) := (Option.some.inj ex).symm
    subst ex
    have ey : (ns.map V.int)[i]? = some y := ey
    rw [List.getElem?_map] at ey
    obtain ⟨n, hn, rfl⟩ := Option.map_eq_some_iff.mp ey
    refine ⟨T, [.int (i : Nat), .int n], rfl, .inl (.inl upd_same), rfl, _, _, rfl, _, _, rfl, rfl, ?_⟩
    refine ⟨_, rfl, _, _, rfl, rfl, .inr ⟨by decide, by decide⟩, _, rfl, _, _, rfl, rfl, _, rfl, _, _, rfl, rfl, .inl ⟨by decide, by decide⟩, _, _, rfl, rfl, .inl ⟨_, rfl, _, _, rfl, rfl, (by show (0 : Int) < 2305843009213693951; decide), ?_⟩⟩
    exact ⟨_, some (.int (i : Nat)), some (.int n), rfl, sm.trans (same_upd hT), Int.emod_nonneg _ (by decide), Int.emod_lt_of_pos _ (by decide)⟩
  · rintro σ H1 ⟨m, x2, x3, rfl, sm, m0, m1⟩
    intro p hp
    have s1 : Same H1 (upd H1 p (.dK [])) := same_upd hp
    have hS1 := s1.seq (sm.seq hS)
    refine ⟨_, rfl, .ref a, rfl, a, rfl, ⟨_, hS1⟩, fun g hg => lc_list (xs := ns.map V.int) (fun i H' => ∃ zs : List Int, zs.length ≤ i ∧ H' g = some (.lst (zs.map V.int)) ∧ ∀ b o, b ≠ g → (upd H1 p (.dK [])) b = some o → H' b = some o) ⟨[], Nat.zero_le _, upd_same, fun b o hb e => by rw [upd_ne hb]; exact e⟩ ?_ ?_ ?_⟩
    · rintro i H2 hi ⟨zs, hz, e, k2⟩
      have : Same (upd H1 p (.dK [])) H2 := fun b o e => k2 b o (fun z => by rw [z, hg] at e; cases e) e
      exact this.seq hS1
    · rintro i x H2 hx ⟨zs, hz, e, k2⟩
      rw [List.getElem?_map] at hx
      obtain ⟨n, hn, rfl⟩ := Option.map_eq_some_iff.mp hx
      refine ⟨rfl, _, rfl, _, _, rfl, rfl, ⟨by decide, by decide, by decide⟩, _, _, rfl, rfl, _, rfl, ite2 (fun hc => ?_) fun hc => ?_⟩
      · refine ⟨_, rfl, zs.map V.int, e, ?_, zs ++ [n], ?_, ?_, fun b o hb e => ?_⟩
        · rw [List.length_map]
          have hi := (List.getElem?_eq_some_iff.mp hn).1
          exact small1000 (by omega)
        · rw [List.length_append, List.length_singleton]; omega
        · rw [upd_same, List.map_append]; rfl
        · rw [upd_ne hb]; exact k2 b o hb e
      · exact ⟨zs, by omega, e, k2⟩
    · rintro H2 ⟨zs, hz, e, k2⟩
      rw [List.length_map] at hz
      have gp : g ≠ p := fun z => by rw [z, upd_same] at hg; cases hg
      have pe : H2 p = some (.dK []) := k2 p _ (Ne.symm gp) upd_same
      refine ⟨pe, [(.inr "mixed", .int m), (.inr "great", .ref g), (.inr "turn", .int 0)], rfl, by simp, ?_⟩
      refine q p g _ (sm.free hp) (sm.free (s1.free hg)) (fun b o eb => ?_) ⟨Ne.symm gp, m, 0, zs, ?_, ⟨m0, m1⟩, Int.le_refl _, ?_, by omega⟩
      · have b1 := sm b o eb
        rw [upd_ne (ne_of_none b1 hp)]
        exact k2 b o (ne_of_none (s1 b o b1) hg) (s1 b o b1)
      · rw [upd_same]; rfl
      · rw [upd_ne gp]; exact e
theorem ok_next0 {f : Addr} {fd : FuncData} {k : Nat} (F : Fun K "_law_next" "_law_next" s_law_next f fd) (mlen : mg "len" = none) (mmax : mg "max" = none) (mint : mg "int" = none) : FnG P w K mg base CX0 (k + 1) f fd ["_law_draw", "_law_below"] spNext := by
  refine fnG_of F sc_law_next (fun vs H Q E h => ?_) fun cdv A outer s H vs Q E hg hr h => ?_
  · obtain ⟨a, g, b, rfl, _⟩ := h
    rfl
  obtain ⟨a, g, b, rfl, ⟨agne, m, t, ns, ha, ⟨m0, m1⟩, t0, hgr, hl⟩, b0, b1, q⟩ := h
  have hu := hu_of hr
  have hu64 := hr.units
  refine ⟨_, PSs.nox (pss_cons (ps_asg (pe_tup (pa_cons (pe_op op_add (pe_dget hu (pv 0) pe_str (fun _ _ => rfl)) pe_int) (pa_cons (pe_dget hu (pv 0) pe_str (fun _ _ => rfl)) pa_nil))) (pg_tup rfl (pgs_cons (pg_sub (pv 0) pe_str (set_dict hu)) (pgs_cons (pg_name (i := 2) sc_law_next.nd rfl (.inl rfl)) pgs_nil))))
    (pss_cons (ps_set (i := 3) sc_law_next.nd rfl (.inl rfl) (pe_op op_mod (pe_callTy call_int1 (by rfl) mint (by decide +kernel) (pa_cons (pe_dget hu (pv 0) pe_str (fun _ _ => rfl)) pa_nil)) (pe_callB (call_max2 rfl) (by rfl) mmax (by decide +kernel) (pa_cons pe_int (pa_cons (pe_callB call_len_seq (by rfl) mlen PySem.boot_len (pa_cons (pv 2) pa_nil)) pa_nil)))))
    (pss_cons (ps_if (PW.pt (pw_and (pt_cmpR (op_neD hu64) (pv 2) (pe_lst pa_nil) (nomark _)) (pw_and1 (pt_cmpR op_gt (pe_ix ix_list (pv 2) (pv 3) (fun _ _ => rfl)) pe_int (nomark _)))))
      (pss_cons (ps_set (i := 4) sc_law_next.nd rfl (.inl rfl) (pe_op op_mod (pe_callTy call_int1 (by rfl) mint (by decide +kernel) (pa_cons (pe_ix ix_list (pv 2) (pv 3) (fun _ _ => rfl)) pa_nil)) (pv 1)))
      (pss_cons (ps_asg (pe_op op_fdiv (pe_ix ix_list (pv 2) (pv 3) (fun _ _ => rfl)) (pv 1)) (pg_sub (pv 2) (pv 3) set_list))
      (pss_one (ps_ret (pv 4))))) pss_nil)
    (pss_cons (ps_set (i := 5) sc_law_next.nd rfl (.inl rfl) (pe_callTy call_int1 (by rfl) mint (by decide +kernel) (pa_cons (pe_op op_add (pe_op op_add (pe_op op_mul (pe_dget hu (pv 0) pe_str (fun _ _ => rfl)) pe_int) (pe_op op_mul pe_int (pe_dget hu (pv 0) pe_str (fun _ _ => rfl)))) pe_int) pa_nil)))
    (pss_cons (ps_asg (pe_op op_mod (pe_callTy call_int1 (by rfl) mint (by decide +kernel) (pa_cons (pv 5) pa_nil)) pe_int) (pg_sub (pv 0) pe_str (set_dict hu)))
    (pss_one (ps_ret (pe_op op_mod (pe_callTy call_int1 (by rfl) mint (by decide +kernel) (pa_cons (pe_op op_fdiv (pe_dget hu (pv 0) pe_str (fun _ _ => rfl)) pe_int) pa_nil)) (pv 1))))))))), ?_⟩
  have ha : H a = some (.dK (dw (.int m) (.ref g) (.int t))) := ha
  refine ⟨.ref a, rfl, a, .int t, rfl, dget_of ha (dw_turn _ _ _), t, 1, rfl, rfl, .ref a, rfl, a, .ref g, rfl, dget_of ha (dw_great _ _ _), (by decide : 2 ≤ sizeLine), fun T hT => ?_⟩
  have aT : a ≠ T := fun z => by rw [← z, ha] at hT; cases hT
  have gT : g ≠ T := fun z => by rw [← z, hgr] at hT; cases hT
  have ha1 : (upd H T (.tup [.int (t + 1), .ref g])) a = some (.dK (dw (.int m) (.ref g) (.int t))) := by rw [upd_ne aT]; exact ha
  refine ⟨T, [.int (t + 1), .ref g], rfl, .inl (.inl upd_same), rfl, _, _, rfl, .ref a, rfl, a, _, rfl, .inl ⟨_, .inr "turn", ha1, rfl, (by decide : 3 < sizeLine), rfl⟩, _, _, rfl, rfl, ?_⟩
  rw [dw_put_turn]
  generalize hH2 : upd (upd H T (.tup [.int (t + 1), .ref g])) a (.dK (dw (.int m) (.ref g) (.int (t + 1)))) = H2
  have ha2 : H2 a = some (.dK (dw (.int m) (.ref g) (.int (t + 1)))) := by rw [← hH2, upd_same]
  have hg2 : H2 g = some (.lst (ns.map V.int)) := by rw [← hH2, upd_ne agne.symm, upd_ne gT]; exact hgr
  have k2 : ∀ b o, b ≠ a → H b = some o → H2 b = some o := fun b o nb e => by
    rw [← hH2, upd_ne nb, upd_ne (fun z => by rw [z, hT] at e; cases e)]
    exact e
  have lpos : (0 : Int) < (if ((ns.map V.int).length : Int) > 1 then ((ns.map V.int).length : Int) else 1) := by split <;> omega
  refine ⟨.ref a, rfl, a, .int (t + 1), rfl, dget_of ha2 (dw_turn _ _ _), .inl ⟨_, rfl, .ref g, rfl, g, _, rfl, .inl (.of hg2), 1, _, rfl, _, _, rfl, rfl, lpos, ?_⟩⟩
  generalize hat : (t + 1) % (if ((ns.map V.int).length : Int) > 1 then ((ns.map V.int).length : Int) else 1) = at_
  have at0 : 0 ≤ at_ := by rw [← hat]; exact Int.emod_nonneg _ (Int.ne_of_gt lpos)
  have at1 : at_ < (if ((ns.map V.int).length : Int) > 1 then ((ns.map V.int).length : Int) else 1) := by rw [← hat]; exact Int.emod_lt_of_pos _ lpos
  refine ⟨.ref g, rfl, Nat.zero_le _, fun e he => ?_⟩
  have ea : a ≠ e := fun z => by rw [← z, ha2] at he; cases he
  have eg : g ≠ e := fun z => by rw [← z, hg2] at he; cases he
  have ha3 : (upd H2 e (.lst [])) a = some (.dK (dw (.int m) (.ref g) (.int (t + 1)))) := by rw [upd_ne ea]; exact ha2
  have hg3 : (upd H2 e (.lst [])) g = some (.lst (ns.map V.int)) := by rw [upd_ne eg]; exact hg2
  have k3 : ∀ b o, b ≠ a → H b = some o → (upd H2 e (.lst [])) b = some o := fun b o nb x => by
    have := k2 b o nb x
    rw [upd_ne (fun z => by rw [z, he] at this; cases this)]
    exact this
  have he3 : (upd H2 e (.lst [])) e = some (.lst []) := upd_same
  generalize upd H2 e (.lst []) = H3 at ha3 hg3 k3 he3 ⊢
  refine ⟨.list (ns.map PyData.int), .list [], .lst (.of hg3) (dp_ints ns), ?shp, shaped_ints ns, by decide, _, rfl, ite2 (fun h1 => ?good) fun _ => iteF ?fall⟩
  case shp => exact .lst (.of he3) .nil
  case good =>
    have hne : ns ≠ [] := fun z => by subst z; exact absurd h1 (by decide)
    have lp : 0 < ns.length := List.length_pos_iff.mpr hne
    have at2 : at_.toNat < ns.length := by
      rw [List.length_map] at at1
      split at at1 <;> omega
    have hv : ns[at_.toNat]? = some (ns[at_.toNat]) := List.getElem?_eq_getElem at2
    have hx : atI (ns.map V.int) at_ = some (.int (ns[at_.toNat])) := by
      have := atI_nat (xs := ns.map V.int) (j := at_.toNat) (v := .int (ns[at_.toNat])) (by rw [List.getElem?_map, hv]; rfl)
      rwa [Int.toNat_of_nonneg at0] at this
    refine ⟨.ref g, rfl, _, rfl, g, _, _, _, rfl, rfl, .of hg3, (by rw [hat]; exact hx), _, _, rfl, rfl, _, rfl, ite2 (fun h2 => ?good2) fun _ => ?fall2⟩
    case good2 =>
      -- a great cell gives its last digit
      refine ⟨.ref g, rfl, _, rfl, g, _, _, _, rfl, rfl, .of hg3, (by rw [hat]; exact hx), .inl ⟨_, rfl, .int b, rfl, _, _, rfl, rfl, b0, ?_⟩⟩
      refine ⟨.ref g, rfl, _, rfl, g, _, _, _, rfl, rfl, .of hg3, (by rw [hat]; exact hx), .int b, rfl, _, _, rfl, rfl, ⟨b0, b1⟩, .ref g, rfl, _, rfl, g, _, _, at_.toNat, rfl, rfl, hg3, ?_, _, rfl, ?_⟩
      · rw [hat]
        have := ixN_nat (n := (ns.map V.int).length) (j := at_.toNat) (by rw [List.length_map]; exact at2)
        rwa [Int.toNat_of_nonneg at0] at this
      · refine q _ _ (Int.emod_nonneg _ (Int.ne_of_gt b0)) (Int.emod_lt_of_pos _ b0) (step_of (fun c o c1 c2 x => ?_) ⟨agne, m, t + 1, ns.set at_.toNat (ns[at_.toNat] / b), ?_, ⟨m0, m1⟩, by omega, ?_, by rw [List.length_set]; exact hl⟩)
        · rw [upd_ne c2]; exact k3 c o c1 x
        · rw [upd_ne agne]; exact ha3
        · rw [upd_same, List.map_set]
    case fall2 =>
      refine ⟨.ref a, rfl, a, .int m, rfl, dget_of ha3 (dw_mixed _ _ _), m, _, rfl, rfl, .inr ⟨by decide, by decide⟩, .ref a, rfl, a, .int (t + 1), rfl, dget_of ha3 (dw_turn _ _ _), _, t + 1, rfl, rfl, .inl ⟨by decide, by decide⟩, _, _, rfl, rfl, _, _, rfl, rfl, .inl ⟨_, rfl, ?_⟩⟩
      refine ⟨_, rfl, .inl ⟨_, rfl, _, _, rfl, rfl, (by show (0 : Int) < 2305843009213693951; decide), .ref a, rfl, a, _, rfl, .inl ⟨_, .inr "mixed", ha3, rfl, (by decide : 3 < sizeLine), rfl⟩, ?_⟩⟩
      rw [dw_put_mixed]
      have n0 : 0 ≤ (m * 6364136223846793 + 1442695040888963 * (t + 1) + 13) % bigM := Int.emod_nonneg _ (by decide)
      have n1 : (m * 6364136223846793 + 1442695040888963 * (t + 1) + 13) % bigM < bigM := Int.emod_lt_of_pos _ (by decide)
      refine ⟨.ref a, rfl, a, _, rfl, dget_of upd_same (dw_mixed _ _ _), _, _, rfl, rfl, ⟨by decide, by decide⟩, .inl ⟨_, rfl, .int b, rfl, _, _, rfl, rfl, b0, ?_⟩⟩
      refine q _ _ (Int.emod_nonneg _ (Int.ne_of_gt b0)) (Int.emod_lt_of_pos _ b0) (step_of (fun c o c1 c2 x => ?_) ⟨agne, _, t + 1, ns, upd_same, ⟨n0, n1⟩, by omega, ?_, hl⟩)
      · rw [upd_ne c1]; exact k3 c o c1 x
      · rw [upd_ne agne.symm]; exact hg3
  case fall =>
    refine ⟨.ref a, rfl, a, .int m, rfl, dget_of ha3 (dw_mixed _ _ _), m, _, rfl, rfl, .inr ⟨by decide, by decide⟩, .ref a, rfl, a, .int (t + 1), rfl, dget_of ha3 (dw_turn _ _ _), _, t + 1, rfl, rfl, .inl ⟨by decide, by decide⟩, _, _, rfl, rfl, _, _, rfl, rfl, .inl ⟨_, rfl, ?_⟩⟩
    refine ⟨_, rfl, .inl ⟨_, rfl, _, _, rfl, rfl, (by show (0 : Int) < 2305843009213693951; decide), .ref a, rfl, a, _, rfl, .inl ⟨_, .inr "mixed", ha3, rfl, (by decide : 3 < sizeLine), rfl⟩, ?_⟩⟩
    rw [dw_put_mixed]
    have n0 : 0 ≤ (m * 6364136223846793 + 1442695040888963 * (t + 1) + 13) % bigM := Int.emod_nonneg _ (by decide)
    have n1 : (m * 6364136223846793 + 1442695040888963 * (t + 1) + 13) % bigM < bigM := Int.emod_lt_of_pos _ (by decide)
    refine ⟨.ref a, rfl, a, _, rfl, dget_of upd_same (dw_mixed _ _ _), _, _, rfl, rfl, ⟨by decide, by decide⟩, .inl ⟨_, rfl, .int b, rfl, _, _, rfl, rfl, b0, ?_⟩⟩
    refine q _ _ (Int.emod_nonneg _ (Int.ne_of_gt b0)) (Int.emod_lt_of_pos _ b0) (step_of (fun c o c1 c2 x => ?_) ⟨agne, _, t + 1, ns, upd_same, ⟨n0, n1⟩, by omega, ?_, hl⟩)
    · rw [upd_ne c1]; exact k3 c o c1 x
    · rw [upd_ne agne.symm]; exact hg3

variable (B : Bl mg) (W : Df K mg) (CL : ErrC P K mg) (TOH : ∃ S1 S2, ToldB K mg okN S1 S2) (LMH : Lm K mg base)
include B W CL TOH LMH
theorem ok_law_next : HasF P w K mg base "_law_next" 1 ["_law_draw", "_law_below"] w_next := hasF_next W.d_law_next rfl fun f fd F => ok_next0 F B.b_len B.b_max B.b_int
theorem ok_is_whole : HasF P w K mg base "is_whole" 1 ["thing", "least", "most"] w_is_whole := by
  refine hasF_of (k := 0) W.d_is_whole sc_is_whole fun f cdv A outer s H E hgd hr => ?_
  have hu := hu65 hr
  exact dss_cons (ds_if (DW.dt (dw_or (dt_not (dt_val (de_isi kit_int (by rfl) (by exact B.b_isinstance) (by rfl) (by exact B.b_int) (by decide +kernel) (de_var 0)))) (dw_or1 (dt_val (de_isi kit_bool (by rfl) (by exact B.b_isinstance) (by rfl) (by exact B.b_bool) (by decide +kernel) (de_var 0)))))) (dss_one (ds_ret (de_bl))) (dss_nil))
    (dss_one (ds_ret (de_and (de_or (de_c (cm_is) (de_var 1) (de_non)) (de_one (de_c (cm_ge2 (by exact hu)) (de_var 0) (de_var 1)))) (de_one (de_or (de_c (cm_is) (de_var 2) (de_non)) (de_one (de_c (cm_le2 (by exact hu)) (de_var 0) (de_var 2))))))))
theorem ok_are_ascending : HasF P w K mg base "are_ascending" 1 ["items"] w_are_ascending := by
  refine hasF_of (k := 0) W.d_are_ascending sc_are_ascending fun f cdv A outer s H E hgd hr => ?_
  have hu := hu65 hr
  exact dss_one (ds_ret (de_all (by rfl) (by rfl) (by exact B.b_all) (da_cons ((dn_lc (own := [("one", 1), ("other", 2)]) rfl sc_are_ascending.nd (di_zip (by rfl) (by exact B.b_zip) (da_cons (de_var 0) (da_cons (de_sl (de_var 0) (do_some (de_int)) (do_none)) (da_nil)))) (blkOk_by (N := N_are_ascending) (sc := defScope s_are_ascending) (by decide +kernel)) (by decide) (fun _ _ _ _ _ => dg_tup rfl (dgs_cons (dg_name 1 sc_are_ascending.nd) (dgs_cons (dg_name 2 sc_are_ascending.nd) (dgs_nil))) rfl rfl (fun ds η Q h => ((gl_cons (gx_n 1) (gl_cons (gx_n 2) gl_nil)) ds η Q h).1)) (fun _ _ _ _ _ => dts_nil) (fun _ _ _ _ _ => de_c (cm_lt (by exact hu)) (de_var 1) (de_var 2))).de) (da_nil))))
theorem ok_is_lot_of : HasF P w K mg base "is_lot_of" 2 ["wide", "thing"] w_is_lot_of := by
  have F_is_whole := ok_is_whole (P := P) (w := w) (base := base) B W CL TOH LMH
  have F_are_ascending := ok_are_ascending (P := P) (w := w) (base := base) B W CL TOH LMH
  refine hasF_of (k := 1) W.d_is_lot_of sc_is_lot_of fun f cdv A outer s H E hgd hr => ?_
  have hu := hu65 hr
  exact dss_cons (ds_if (DW.dt (dw_or (dt_not (dt_val (de_isi kit_tuple (by rfl) (by exact B.b_isinstance) (by rfl) (by exact B.b_tuple) (by decide +kernel) (de_var 1)))) (dw_or1 (dt_not (dt_val (de_all (by rfl) (by rfl) (by exact B.b_all) (da_cons ((dn_lc (own := [("column", 2)]) rfl sc_is_lot_of.nd (di_seq (de_var 1)) (blkOk_by (N := N_is_lot_of) (sc := defScope s_is_lot_of) (by decide +kernel)) (by decide) (fun _ _ _ _ _ => dg_name 2 sc_is_lot_of.nd) (fun _ _ _ _ _ => dts_nil) (fun _ _ _ _ _ => de_f F_is_whole hgd hr (dc_cons (de_var 2) (dc_cons (de_int) (dc_cons (de_sub (de_var 0) (de_int)) (dc_nil)))))).de) (da_nil)))))))) (dss_one (ds_ret (de_bl))) (dss_nil))
    (dss_one (ds_ret (de_f F_are_ascending hgd hr (dc_cons (de_var 1) (dc_nil)))))
theorem ok_is_rule : HasF P w K mg base "is_rule" 3 ["wide", "thing"] w_is_rule := by
  have F_is_lot_of := ok_is_lot_of (P := P) (w := w) (base := base) B W CL TOH LMH
  refine hasF_of (k := 2) W.d_is_rule sc_is_rule fun f cdv A outer s H E hgd hr => ?_
  have hu := hu65 hr
  exact dss_one (ds_ret (de_and (de_isi kit_tuple (by rfl) (by exact B.b_isinstance) (by rfl) (by exact B.b_tuple) (by decide +kernel) (de_var 1)) (de_and (de_c (cm_eq (by exact hu)) (de_len (by rfl) (by exact B.b_len) (da_cons (de_var 1) (da_nil))) (de_int)) (de_one (de_all (by rfl) (by rfl) (by exact B.b_all) (da_cons ((dn_lc (own := [("lot", 2)]) rfl sc_is_rule.nd (di_seq (de_var 1)) (blkOk_by (N := N_is_rule) (sc := defScope s_is_rule) (by decide +kernel)) (by decide) (fun _ _ _ _ _ => dg_name 2 sc_is_rule.nd) (fun _ _ _ _ _ => dts_nil) (fun _ _ _ _ _ => de_f F_is_lot_of hgd hr (dc_cons (de_var 0) (dc_cons (de_var 2) (dc_nil))))).de) (da_nil)))))))
theorem ok_schema_fault : HasF P w K mg base "schema_fault" 4 ["thing"] w_schema_fault := by
  have F_is_whole := ok_is_whole (P := P) (w := w) (base := base) B W CL TOH LMH
  have F_is_rule := ok_is_rule (P := P) (w := w) (base := base) B W CL TOH LMH
  refine hasF_of (k := 3) W.d_schema_fault sc_schema_fault fun f cdv A outer s H E hgd hr => ?_
  have hu := hu65 hr
  exact dss_cons (ds_if (DW.dt (dw_or (dt_not (dt_val (de_isi kit_tuple (by rfl) (by exact B.b_isinstance) (by rfl) (by exact B.b_tuple) (by decide +kernel) (de_var 0)))) (dw_or1 (dt_c (cm_ne (by exact hu)) (de_len (by rfl) (by exact B.b_len) (da_cons (de_var 0) (da_nil))) (de_int))))) (dss_one (ds_ret (de_tup (da_nil)))) (dss_nil))
    (dss_cons (ds_if (dt_not (dt_val (de_f F_is_whole hgd hr (dc_cons (de_ix (de_var 0) (de_int)) (dc_cons (de_int) (dc_cons (de_globI (by rfl) (by exact B.c_MOST_WIDE)) (dc_nil))))))) (dss_one (ds_ret (de_tup (da_cons (de_str) (da_nil))))) (dss_nil))
    (dss_cons (ds_if (DW.dt (dw_or (dt_not (dt_val (de_isi kit_tuple (by rfl) (by exact B.b_isinstance) (by rfl) (by exact B.b_tuple) (by decide +kernel) (de_ix (de_var 0) (de_int))))) (dw_or1 (dt_c (cm_gt2 (by exact hu)) (de_len (by rfl) (by exact B.b_len) (da_cons (de_ix (de_var 0) (de_int)) (da_nil))) (de_globI (by rfl) (by exact B.c_MOST_RULES)))))) (dss_one (ds_ret (de_tup (da_cons (de_str) (da_nil))))) (dss_nil))
    (dss_cons (ds_for PassesOwn.never rfl (di_enum (by rfl) (by exact B.b_enumerate) (de_ix (de_var 0) (de_int))) (dg_tup rfl (dgs_cons (dg_name 1 sc_schema_fault.nd) (dgs_cons (dg_name 2 sc_schema_fault.nd) (dgs_nil))) rfl rfl (fun ds η Q h => ((gl_cons (gx_n 1) (gl_cons (gx_n 2) gl_nil)) ds η Q h).1)) (dss_one (ds_if (DW.dt (dw_or (dt_not (dt_val (de_f F_is_rule hgd hr (dc_cons (de_ix (de_var 0) (de_int)) (dc_cons (de_var 2) (dc_nil)))))) (dw_or1 (DW.dt (dw_and (dt_c (cm_gt2 (by exact hu)) (de_var 1) (de_int)) (dw_and1 (dt_c (cm_ge2 (by exact hu)) (de_ix (de_ix (de_var 0) (de_int)) (de_sub (de_var 1) (de_int))) (de_var 2)))))))) (dss_one (ds_ret (de_tup (da_cons (de_str) (da_cons (de_var 1) (da_nil)))))) (dss_nil))))
    (dss_one (ds_ret (de_non))))))
theorem ok_need_schema : HasE P w K mg base "need_schema" 5 ["thing"] w_need_schema := by
  have F_schema_fault := ok_schema_fault (P := P) (w := w) (base := base) B W CL TOH LMH
  refine hasE_of (k := 4) W.d_need_schema sc_need_schema fun f cdv A outer s H E hgd hr hpo => ?_
  have hu := hu65 hr
  exact dss_cons (ds_set 1 sc_need_schema.nd (de_f F_schema_fault hgd hr (dc_cons (de_var 0) (dc_nil))))
    (dss_cons (ds_if (dt_c (cm_isnot) (de_var 1) (de_non)) (dss_one (ds_raiseC CL.c_BadSchema rfl (hr.mono (by decide)) rfl (de_var 1))) (dss_nil))
    (dss_one (ds_ret (de_var 0))))
theorem ok_is_inside : HasF P w K mg base "is_inside" 1 ["lot", "other"] w_is_inside := by
  refine hasF_of (k := 0) W.d_is_inside sc_is_inside fun f cdv A outer s H E hgd hr => ?_
  have hu := hu65 hr
  exact dss_one (ds_ret (de_all (by rfl) (by rfl) (by exact B.b_all) (da_cons ((dn_lc (own := [("column", 2)]) rfl sc_is_inside.nd (di_seq (de_var 0)) (blkOk_by (N := N_is_inside) (sc := defScope s_is_inside) (by decide +kernel)) (by decide) (fun _ _ _ _ _ => dg_name 2 sc_is_inside.nd) (fun _ _ _ _ _ => dts_nil) (fun _ _ _ _ _ => de_c (cm_in (by exact hu)) (de_var 2) (de_var 1))).de) (da_nil))))
theorem ok_all_lots : HasF P w K mg base "all_lots" 1 ["columns"] w_all_lots := by
  refine hasF_of (k := 0) W.d_all_lots sc_all_lots fun f cdv A outer s H E hgd hr => ?_
  have hu := hu65 hr
  exact dss_cons (ds_set 1 sc_all_lots.nd ((dn_lst (da_cons (de_tup (da_nil)) (da_nil))).de))
    (dss_cons (ds_for PassesOwn.never rfl (di_seq (de_var 0)) (dg_name 2 sc_all_lots.nd) (dss_one (ds_set 1 sc_all_lots.nd (de_add (de_var 1) ((dn_lc (own := [("lot", 3)]) rfl sc_all_lots.nd (di_seq (de_var 1)) (blkOk_by (N := N_all_lots) (sc := defScope s_all_lots) (by decide +kernel)) (by decide) (fun _ _ _ _ _ => dg_name 3 sc_all_lots.nd) (fun _ _ _ _ _ => dts_nil) (fun _ _ _ _ _ => de_add (de_var 3) (de_tup (da_cons (de_var 2) (da_nil))))).de)))))
    (dss_one (ds_ret ((dn_sorted (by exact hu) (by rfl) (by exact B.b_sorted) (da_cons (de_var 1) (da_nil))).de))))
theorem ok_columns_of : HasF P w K mg base "columns_of" 1 ["schema"] w_columns_of := by
  refine hasF_of (k := 0) W.d_columns_of sc_columns_of fun f cdv A outer s H E hgd hr => ?_
  have hu := hu65 hr
  exact dss_one (ds_ret (de_tupRg (by rfl) (by rfl) (by exact B.b_tuple) (rr_1 (by rfl) (by exact B.b_range) (de_ix (de_var 0) (de_int)))))
theorem ok_settled_in : HasF P w K mg base "settled_in" 2 ["schema", "lot"] w_settled_in := by
  have F_is_inside := ok_is_inside (P := P) (w := w) (base := base) B W CL TOH LMH
  refine hasF_of (k := 1) W.d_settled_in sc_settled_in fun f cdv A outer s H E hgd hr => ?_
  have hu := hu65 hr
  exact dss_cons (ds_asgN 2 3 rfl sc_settled_in.nd (dn_list (by rfl) (by exact B.b_list) (da_cons (de_var 1) (da_nil))) (de_neg (de_int)))
    (dss_cons (ds_while PassesOwn.never (dt_c (cm_gt2 (by exact hu)) (de_len (by rfl) (by exact B.b_len) (da_cons (de_var 2) (da_nil))) (de_var 3)) (dss_cons (ds_setL 3 sc_settled_in.nd (de_len (by rfl) (by exact B.b_len) (da_cons (de_var 2) (da_nil))))
    (dss_one (ds_for PassesOwn.never rfl (di_seq (de_ix (de_var 0) (de_int))) (dg_tup rfl (dgs_cons (dg_name 4 sc_settled_in.nd) (dgs_cons (dg_name 5 sc_settled_in.nd) (dgs_nil))) rfl rfl (fun ds η Q h => ((gl_cons (gx_n 4) (gl_cons (gx_n 5) gl_nil)) ds η Q h).1)) (dss_one (ds_if (dt_val (de_f F_is_inside hgd hr (dc_cons (de_var 4) (dc_cons (de_var 2) (dc_nil))))) (dss_one (ds_extL 2 ((dn_lc (own := [("column", 6)]) rfl sc_settled_in.nd (di_seq (de_var 5)) (blkOk_by (N := N_settled_in) (sc := defScope s_settled_in) (by decide +kernel)) (by decide) (fun _ _ _ _ _ => dg_name 6 sc_settled_in.nd) (fun _ _ _ _ _ => dts_one (dt_c (cm_notin (by exact hu)) (de_var 6) (de_var 2))) (fun _ _ _ _ _ => de_var 6)).de))) (dss_nil)))))))
    (dss_one (ds_ret (de_tuple (by rfl) (by exact B.b_tuple) (da_cons ((dn_sorted (by exact hu) (by rfl) (by exact B.b_sorted) (da_cons (de_var 2) (da_nil))).de) (da_nil))))))
theorem ok_closed_in : HasF P w K mg base "closed_in" 3 ["schema"] w_closed_in := by
  have F_all_lots := ok_all_lots (P := P) (w := w) (base := base) B W CL TOH LMH
  have F_columns_of := ok_columns_of (P := P) (w := w) (base := base) B W CL TOH LMH
  have F_settled_in := ok_settled_in (P := P) (w := w) (base := base) B W CL TOH LMH
  refine hasF_of (k := 2) W.d_closed_in sc_closed_in fun f cdv A outer s H E hgd hr => ?_
  have hu := hu65 hr
  exact dss_one (ds_ret ((dn_lc (own := [("lot", 1)]) rfl sc_closed_in.nd (di_seq (de_f F_all_lots hgd hr (dc_cons (de_f F_columns_of hgd hr (dc_cons (de_var 0) (dc_nil))) (dc_nil)))) (blkOk_by (N := N_closed_in) (sc := defScope s_closed_in) (by decide +kernel)) (by decide) (fun _ _ _ _ _ => dg_name 1 sc_closed_in.nd) (fun _ _ _ _ _ => dts_one (dt_c (cm_eq (by exact hu)) (de_f F_settled_in hgd hr (dc_cons (de_var 0) (dc_cons (de_var 1) (dc_nil)))) (de_var 1))) (fun _ _ _ _ _ => de_var 1)).de))
theorem ok_are_alike : HasE P w K mg base "are_alike" 6 ["schema", "other"] w_are_alike := by
  have F_need_schema := ok_need_schema (P := P) (w := w) (base := base) B W CL TOH LMH
  have F_closed_in := ok_closed_in (P := P) (w := w) (base := base) B W CL TOH LMH
  refine hasE_of (k := 5) W.d_are_alike sc_are_alike fun f cdv A outer s H E hgd hr hpo => ?_
  have hu := hu65 hr
  exact dss_cons (ds_expr (de_e F_need_schema hgd hr (dc_cons (de_var 0) (dc_nil))))
    (dss_cons (ds_if (dt_c (cm_ne (by exact hu)) (de_ix (de_e F_need_schema hgd hr (dc_cons (de_var 1) (dc_nil))) (de_int)) (de_ix (de_var 0) (de_int))) (dss_one (ds_raiseC CL.c_BadNumber rfl (hr.mono (by decide)) rfl (de_ix (de_var 1) (de_int)))) (dss_nil))
    (dss_one (ds_ret (de_c (cm_eq (by exact hu)) (de_f F_closed_in hgd hr (dc_cons (de_var 0) (dc_nil))) (de_f F_closed_in hgd hr (dc_cons (de_var 1) (dc_nil)))))))
theorem ok_law_among : HasF P w K mg base "_law_among" 2 ["_law_draw", "_law_some"] w_law_among := by
  have F_law_next := ok_law_next (P := P) (w := w) (base := base) B W CL TOH LMH
  refine hasF_of (k := 1) W.d_law_among sc_law_among fun f cdv A outer s H E hgd hr => ?_
  have hu := hu65 hr
  exact dss_one (ds_ret (de_ix (de_var 1) (de_f F_law_next hgd hr (dc_drw 0 (dc_cons (de_len (by rfl) (by exact B.b_len) (da_cons (de_var 1) (da_nil))) (dc_nil))))))
theorem ok_law_lots : HasF P w K mg base "_law_lots" 1 ["_law_columns"] w_law_lots := by
  refine hasF_of (k := 0) W.d_law_lots sc_law_lots fun f cdv A outer s H E hgd hr => ?_
  have hu := hu65 hr
  exact dss_cons (ds_set 1 sc_law_lots.nd ((dn_lst (da_cons (de_tup (da_nil)) (da_nil))).de))
    (dss_cons (ds_for PassesOwn.never rfl (di_seq (de_var 0)) (dg_name 2 sc_law_lots.nd) (dss_one (ds_set 1 sc_law_lots.nd (de_add (de_var 1) ((dn_lc (own := [("_law_one", 3)]) rfl sc_law_lots.nd (di_seq (de_var 1)) (blkOk_by (N := N_law_lots) (sc := defScope s_law_lots) (by decide +kernel)) (by decide) (fun _ _ _ _ _ => dg_name 3 sc_law_lots.nd) (fun _ _ _ _ _ => dts_nil) (fun _ _ _ _ _ => de_add (de_var 3) (de_tup (da_cons (de_var 2) (da_nil))))).de)))))
    (dss_one (ds_ret ((dn_sorted (by exact hu) (by rfl) (by exact B.b_sorted) (da_cons (de_var 1) (da_nil))).de))))
theorem ok_law_lot : HasF P w K mg base "_law_lot" 2 ["_law_draw", "_law_wide", "_law_odds"] w_law_lot := by
  have F_law_next := ok_law_next (P := P) (w := w) (base := base) B W CL TOH LMH
  refine hasF_of (k := 1) W.d_law_lot sc_law_lot fun f cdv A outer s H E hgd hr => ?_
  have hu := hu65 hr
  exact dss_one (ds_ret (de_tuple (by rfl) (by exact B.b_tuple) (da_cons ((dn_lc (own := [("_law_column", 3)]) rfl sc_law_lot.nd (di_range1 (by rfl) (by exact B.b_range) (da_cons (de_var 1) (da_nil))) (blkOk_by (N := N_law_lot) (sc := defScope s_law_lot) (by decide +kernel)) (by decide) (fun _ _ _ _ _ => dg_name 3 sc_law_lot.nd) (fun _ _ _ _ _ => dts_one (dt_c (cm_eq (by exact hu)) (de_f F_law_next hgd hr (dc_drw 0 (dc_cons (de_var 2) (dc_nil)))) (de_int))) (fun _ _ _ _ _ => de_var 3)).de) (da_nil))))
theorem ok_law_schema : HasF P w K mg base "_law_schema" 3 ["_law_draw", "_law_wide", "_law_most"] w_law_schema := by
  have F_law_next := ok_law_next (P := P) (w := w) (base := base) B W CL TOH LMH
  have F_law_lot := ok_law_lot (P := P) (w := w) (base := base) B W CL TOH LMH
  have F_law_among := ok_law_among (P := P) (w := w) (base := base) B W CL TOH LMH
  refine hasF_of (k := 2) W.d_law_schema sc_law_schema fun f cdv A outer s H E hgd hr => ?_
  have hu := hu65 hr
  exact dss_cons (ds_own 3 sc_law_schema.nd (dn_lst (da_nil)))
    (dss_cons (ds_for PassesOwn.never rfl (di_range1 (by rfl) (by exact B.b_range) (da_cons (de_f F_law_next hgd hr (dc_drw 0 (dc_cons (de_add (de_var 2) (de_int)) (dc_nil)))) (da_nil))) (dg_name 4 sc_law_schema.nd) (dss_one (ds_app 3 (de_tup (da_cons (de_f F_law_lot hgd hr (dc_drw 0 (dc_cons (de_var 1) (dc_cons (de_f F_law_among hgd hr (dc_drw 0 (dc_cons ((dn_lst (da_cons (de_int) (da_cons (de_int) (da_cons (de_int) (da_nil))))).de) (dc_nil)))) (dc_nil))))) (da_cons (de_f F_law_lot hgd hr (dc_drw 0 (dc_cons (de_var 1) (dc_cons (de_int) (dc_nil))))) (da_nil)))))))
    (dss_one (ds_ret (de_tup (da_cons (de_var 1) (da_cons (de_tuple (by rfl) (by exact B.b_tuple) (da_cons ((dn_sortSet (by rfl) (by exact hu) (by rfl) (by exact B.b_sorted) (by rfl) (by exact B.b_set) (de_var 3)).de) (da_nil))) (da_nil)))))))
theorem ok_law_is_in : HasF P w K mg base "_law_is_in" 1 ["_law_one", "_law_far"] w_law_is_in := by
  refine hasF_of (k := 0) W.d_law_is_in sc_law_is_in fun f cdv A outer s H E hgd hr => ?_
  have hu := hu65 hr
  exact dss_one (ds_ret (de_c (cm_eq (by exact hu)) ((dn_lc (own := [("_law_column", 2)]) rfl sc_law_is_in.nd (di_seq (de_var 0)) (blkOk_by (N := N_law_is_in) (sc := defScope s_law_is_in) (by decide +kernel)) (by decide) (fun _ _ _ _ _ => dg_name 2 sc_law_is_in.nd) (fun _ _ _ _ _ => dts_one (dt_c (cm_notin (by exact hu)) (de_var 2) (de_var 1))) (fun _ _ _ _ _ => de_var 2)).de) ((dn_lst (da_nil)).de)))
theorem ok_law_closed : HasF P w K mg base "_law_closed" 2 ["_law_plan"] w_law_closed := by
  have F_law_lots := ok_law_lots (P := P) (w := w) (base := base) B W CL TOH LMH
  have F_law_is_in := ok_law_is_in (P := P) (w := w) (base := base) B W CL TOH LMH
  refine hasF_of (k := 1) W.d_law_closed sc_law_closed fun f cdv A outer s H E hgd hr => ?_
  have hu := hu65 hr
  exact dss_cons (ds_own 1 sc_law_closed.nd (dn_lst (da_nil)))
    (dss_cons (ds_for PassesOwn.never rfl (di_seq (de_f F_law_lots hgd hr (dc_cons ((dn_listRg (by rfl) (by rfl) (by exact B.b_list) (rr_1 (by rfl) (by exact B.b_range) (de_ix (de_var 0) (de_int)))).de) (dc_nil)))) (dg_name 2 sc_law_closed.nd) (dss_one (ds_if (dt_c (cm_eq (by exact hu)) ((dn_lc (own := [("_law_near", 3), ("_law_far", 4)]) rfl sc_law_closed.nd (di_seq (de_ix (de_var 0) (de_int))) (blkOk_by (N := N_law_closed) (sc := defScope s_law_closed) (by decide +kernel)) (by decide) (fun _ _ _ _ _ => dg_tup rfl (dgs_cons (dg_name 3 sc_law_closed.nd) (dgs_cons (dg_name 4 sc_law_closed.nd) (dgs_nil))) rfl rfl (fun ds η Q h => ((gl_cons (gx_n 3) (gl_cons (gx_n 4) gl_nil)) ds η Q h).1)) (fun _ _ _ _ _ => dts_one (DW.dt (dw_and (dt_val (de_f F_law_is_in hgd hr (dc_cons (de_var 3) (dc_cons (de_var 2) (dc_nil))))) (dw_and1 (dt_not (dt_val (de_f F_law_is_in hgd hr (dc_cons (de_var 4) (dc_cons (de_var 2) (dc_nil)))))))))) (fun _ _ _ _ _ => de_var 3)).de) ((dn_lst (da_nil)).de)) (dss_one (ds_app 1 (de_var 2))) (dss_nil))))
    (dss_one (ds_ret (de_var 1))))
theorem ok_law_settled : HasF P w K mg base "_law_settled" 3 ["_law_plan", "_law_one"] w_law_settled := by
  have F_law_closed := ok_law_closed (P := P) (w := w) (base := base) B W CL TOH LMH
  have F_law_is_in := ok_law_is_in (P := P) (w := w) (base := base) B W CL TOH LMH
  refine hasF_of (k := 2) W.d_law_settled sc_law_settled fun f cdv A outer s H E hgd hr => ?_
  have hu := hu65 hr
  exact dss_cons (ds_set 2 sc_law_settled.nd (de_tupRg (by rfl) (by rfl) (by exact B.b_tuple) (rr_1 (by rfl) (by exact B.b_range) (de_ix (de_var 0) (de_int)))))
    (dss_cons (ds_for PassesOwn.never rfl (di_seq (de_f F_law_closed hgd hr (dc_cons (de_var 0) (dc_nil)))) (dg_name 3 sc_law_settled.nd) (dss_one (ds_if (dt_val (de_f F_law_is_in hgd hr (dc_cons (de_var 1) (dc_cons (de_var 3) (dc_nil))))) (dss_one (ds_set 2 sc_law_settled.nd (de_tuple (by rfl) (by exact B.b_tuple) (da_cons ((dn_lc (own := [("_law_column", 4)]) rfl sc_law_settled.nd (di_seq (de_var 2)) (blkOk_by (N := N_law_settled) (sc := defScope s_law_settled) (by decide +kernel)) (by decide) (fun _ _ _ _ _ => dg_name 4 sc_law_settled.nd) (fun _ _ _ _ _ => dts_one (dt_c (cm_in (by exact hu)) (de_var 4) (de_var 3))) (fun _ _ _ _ _ => de_var 4)).de) (da_nil))))) (dss_nil))))
    (dss_one (ds_ret (de_var 2))))
theorem ok_law_refusal {k : Nat} : ∀ (a dx C : Addr) (nm : Str), ToldN K mg nm C → ∀ (f : Addr) (cdv : Value) (A : Around) (outer : List Env) (s : Shared) (H : Hp) (E : XK) (oe : Obj) (pn : List (Addr × Obj)), A.guards = some [] → Room k (A.deeper (envOfC "_law_refusal" (defScope s_law_refusal) s.heap.objs.size f cdv)) →
    Zc (.ref C) (some dx) oe → (∃ vs, oe.data = .fields vs) → DSs ((cxOf CX0 P w K mg base N_law_refusal "_law_refusal" (defScope s_law_refusal) f cdv A outer s H E).nox.tr ((a, oe) :: pn) (cxOf CX0 P w K mg base N_law_refusal "_law_refusal" (defScope s_law_refusal) f cdv A outer s H E).nox.xe) (defBody s_law_refusal) (t_law_refusal a dx nm) := by
  intro a dx C nm T f cdv A outer s H E oe pn hgd hr hz hv
  have PX : PinX ((cxOf CX0 P w K mg base N_law_refusal "_law_refusal" (defScope s_law_refusal) f cdv A outer s H E).nox.tr ((a, oe) :: pn) (cxOf CX0 P w K mg base N_law_refusal "_law_refusal" (defScope s_law_refusal) f cdv A outer s H E).nox.xe) a dx C := ⟨oe, List.mem_cons_self, hz, hv⟩
  have hu := hu65 hr
  exact dss_cons (ds_set 1 sc_law_refusal.nd ((dn_lst (da_cons (de_tup (da_cons (de_str) (da_cons (de_isT PX T (by rfl) (by exact B.b_isinstance) (by rfl)) (da_nil)))) (da_cons (de_tup (da_cons (de_str) (da_cons (de_isT PX T (by rfl) (by exact B.b_isinstance) (by rfl)) (da_nil)))) (da_nil)))).de))
    (dss_cons (ds_set 1 sc_law_refusal.nd (de_add (de_var 1) ((dn_lst (da_cons (de_tup (da_cons (de_str) (da_cons (de_isT PX T (by rfl) (by exact B.b_isinstance) (by rfl)) (da_nil)))) (da_cons (de_tup (da_cons (de_str) (da_cons (de_isT PX T (by rfl) (by exact B.b_isinstance) (by rfl)) (da_nil)))) (da_nil)))).de)))
    (dss_cons (ds_set 1 sc_law_refusal.nd (de_add (de_var 1) ((dn_lst (da_cons (de_tup (da_cons (de_str) (da_cons (de_isT PX T (by rfl) (by exact B.b_isinstance) (by rfl)) (da_nil)))) (da_cons (de_tup (da_cons (de_str) (da_cons (de_isT PX T (by rfl) (by exact B.b_isinstance) (by rfl)) (da_nil)))) (da_nil)))).de)))
    (dss_cons (ds_set 1 sc_law_refusal.nd (de_add (de_var 1) ((dn_lst (da_cons (de_tup (da_cons (de_str) (da_cons (de_isT PX T (by rfl) (by exact B.b_isinstance) (by rfl)) (da_nil)))) (da_cons (de_tup (da_cons (de_str) (da_cons (de_isT PX T (by rfl) (by exact B.b_isinstance) (by rfl)) (da_nil)))) (da_nil)))).de)))
    (dss_cons (new_read 2 (ps_lc (own := [("_law_word", 3), ("_law_holds", 4)]) 2 rfl sc_law_refusal.nd rfl rfl rfl (di_seq (de_var 1)) (blkOk_by (N := N_law_refusal) (sc := defScope s_law_refusal) (by decide +kernel)) (fun _ _ _ _ _ => dg_tup rfl (dgs_cons (dg_name 3 sc_law_refusal.nd) (dgs_cons (dg_name 4 sc_law_refusal.nd) (dgs_nil))) rfl rfl (fun ds η Q h => ((gl_cons (gx_n 3) (gl_cons (gx_n 4) gl_nil)) ds η Q h).1)) (fun _ _ _ _ _ => dts_one (dt_val (de_var 4))) (fun _ _ _ _ _ => de_var 3)) (lc_lift (by decide)))
    (dss_cons (ds_if (dt_c (cm_ne (by exact hu)) (de_len (by rfl) (by exact B.b_len) (da_cons (de_var 2) (da_nil))) (de_int)) (dss_one (ds_ret (de_tup (da_cons (de_str) (da_nil))))) (dss_nil))
    (dss_cons (ds_if (dt_c (cm_in (by exact hu)) (de_ix (de_var 2) (de_int)) (de_tup (da_cons (de_str) (da_cons (de_str) (da_nil))))) (dss_one (ds_ret (de_tup (da_cons (de_ix (de_var 2) (de_int)) (da_cons (de_fldE PX T.toToldK (by decide)) (da_nil)))))) (dss_nil))
    (dss_cons (ds_if (dt_c (cm_in (by exact hu)) (de_ix (de_var 2) (de_int)) (de_tup (da_cons (de_str) (da_cons (de_str) (da_cons (de_str) (da_cons (de_str) (da_nil))))))) (dss_one (ds_ret (de_tup (da_cons (de_ix (de_var 2) (de_int)) (da_cons (de_fldE PX T.toToldK (by decide)) (da_nil)))))) (dss_nil))
    (dss_one (ds_ret (de_tup (da_cons (de_ix (de_var 2) (de_int)) (da_cons (de_if (dt_c (cm_eq (by exact hu)) (de_ix (de_var 2) (de_int)) (de_str)) (de_fldE PX T.toToldK (by decide)) (de_fldE PX T.toToldK (by decide))) (da_nil)))))))))))))
theorem told_F {k : Nat} : ToldF P w K mg base (k + 1) t_law_refusal 4 okN := by
  have toh := TOH
  obtain ⟨S1, S2, hB⟩ := toh
  refine ⟨s_law_told, W.d_law_told, sc_law_told, .inl rfl, fun g cdg A outer s H hgd hr tl f c' q act => ?_⟩
  have hf1 : DSs (cxOf CX0 P w K mg base N_told "_law_told" (defScope s_law_told) g cdg A outer s H E0).nox ((defBody s_law_told).drop 2) (sRet (dIf (bVal (dOp (oIs false) (dV 2) (dK .none))) (dNew (nLst (aCons (dV 1) aNil))) (fun _ _ _ => False))) :=
    dss_one (ds_ret (de_if (dt_c cm_is (de_var 2) de_non) ((dn_lst (da_cons (de_var 1) da_nil)).de) de_false))
  exact told_pss (Z := (cxOf CX0 P w K mg base N_told "_law_told" (defScope s_law_told) g cdg A outer s H E0).nox) (k := k) rfl rfl rfl rfl hgd hr hB W.d_law_refusal sc_law_refusal rfl (fun a dx C nm T f cdv A outer s H E oe pn h1 h2 h3 h4 => ok_law_refusal B W CL TOH LMH a dx C nm T f cdv A outer s H E oe pn h1 h2 h3 h4)
    (fun W' pn xe E tk hW => act _ _ W' pn xe E tk hW) (ds_asg (de_tup (da_cons de_non (da_cons de_non da_nil))) (dg_tup rfl (dgs_cons (dg_name 1 sc_law_told.nd) (dgs_cons (dg_name 2 sc_law_told.nd) dgs_nil)) rfl rfl (fun ds η Q h => (gl_cons (gx_n 1) (gl_cons (gx_n 2) gl_nil) ds η Q h).1))) (fun _ h => ⟨by rw [sizeLine_eq]; decide, h⟩) rfl rfl rfl (by rfl) (by rfl) (by rfl) rfl rfl rfl rfl hf1 rfl

theorem ok_law_with : HasF P w K mg base "_law_with" 4 ["_law_draw", "_law_plan"] w_law_with := by
  have F_law_lot := ok_law_lot (P := P) (w := w) (base := base) B W CL TOH LMH
  have F_law_next := ok_law_next (P := P) (w := w) (base := base) B W CL TOH LMH
  have F_law_settled := ok_law_settled (P := P) (w := w) (base := base) B W CL TOH LMH
  refine hasF_of (k := 3) W.d_law_with sc_law_with fun f cdv A outer s H E hgd hr => ?_
  have hu := hu65 hr
  exact dss_cons (ds_set 2 sc_law_with.nd (de_f F_law_lot hgd hr (dc_drw 0 (dc_cons (de_ix (de_var 1) (de_int)) (dc_cons (de_int) (dc_nil))))))
    (dss_cons (ds_set 3 sc_law_with.nd (de_if (dt_c (cm_gt2 (by exact hu)) (de_f F_law_next hgd hr (dc_drw 0 (dc_cons (de_int) (dc_nil)))) (de_int)) (de_f F_law_settled hgd hr (dc_cons (de_var 1) (dc_cons (de_var 2) (dc_nil)))) (de_f F_law_lot hgd hr (dc_drw 0 (dc_cons (de_ix (de_var 1) (de_int)) (dc_cons (de_int) (dc_nil)))))))
    (dss_cons (ds_set 4 sc_law_with.nd (de_tup (da_cons (de_var 2) (da_cons (de_tuple (by rfl) (by exact B.b_tuple) (da_cons ((dn_lc (own := [("_law_column", 5)]) rfl sc_law_with.nd (di_seq (de_var 3)) (blkOk_by (N := N_law_with) (sc := defScope s_law_with) (by decide +kernel)) (by decide) (fun _ _ _ _ _ => dg_name 5 sc_law_with.nd) (fun _ _ _ _ _ => dts_one (dt_c (cm_gt2 (by exact hu)) (de_f F_law_next hgd hr (dc_drw 0 (dc_cons (de_int) (dc_nil)))) (de_int))) (fun _ _ _ _ _ => de_var 5)).de) (da_nil))) (da_nil)))))
    (dss_one (ds_ret (de_tup (da_cons (de_ix (de_var 1) (de_int)) (da_cons (de_tuple (by rfl) (by exact B.b_tuple) (da_cons ((dn_sortSetT (by rfl) (by exact hu) (by rfl) (by exact B.b_sorted) (by rfl) (by exact B.b_set) (de_add (de_ix (de_var 1) (de_int)) (de_tup (da_cons (de_var 4) (da_nil))))).de) (da_nil))) (da_nil))))))))
theorem ok_law_without : HasF P w K mg base "_law_without" 2 ["_law_draw", "_law_plan"] w_law_without := by
  have F_law_next := ok_law_next (P := P) (w := w) (base := base) B W CL TOH LMH
  refine hasF_of (k := 1) W.d_law_without sc_law_without fun f cdv A outer s H E hgd hr => ?_
  have hu := hu65 hr
  exact dss_cons (ds_if (dt_c (cm_eq (by exact hu)) (de_ix (de_var 1) (de_int)) (de_tup (da_nil))) (dss_one (ds_ret (de_var 1))) (dss_nil))
    (dss_cons (ds_set 2 sc_law_without.nd (de_f F_law_next hgd hr (dc_drw 0 (dc_cons (de_len (by rfl) (by exact B.b_len) (da_cons (de_ix (de_var 1) (de_int)) (da_nil))) (dc_nil)))))
    (dss_one (ds_ret (de_tup (da_cons (de_ix (de_var 1) (de_int)) (da_cons (de_add (de_sl (de_ix (de_var 1) (de_int)) (do_none) (do_some (de_var 2))) (de_sl (de_ix (de_var 1) (de_int)) (do_some (de_add (de_var 2) (de_int))) (do_none))) (da_nil)))))))
theorem ok_law_parted : HasF P w K mg base "_law_parted" 1 ["_law_plan"] w_law_parted := by
  refine hasF_of (k := 0) W.d_law_parted sc_law_parted fun f cdv A outer s H E hgd hr => ?_
  have hu := hu65 hr
  exact dss_cons (ds_set 1 sc_law_parted.nd ((dn_lst (da_nil)).de))
    (dss_cons (ds_for PassesOwn.never rfl (di_seq (de_ix (de_var 0) (de_int))) (dg_tup rfl (dgs_cons (dg_name 2 sc_law_parted.nd) (dgs_cons (dg_name 3 sc_law_parted.nd) (dgs_nil))) rfl rfl (fun ds η Q h => ((gl_cons (gx_n 2) (gl_cons (gx_n 3) gl_nil)) ds η Q h).1)) (dss_one (ds_set 1 sc_law_parted.nd (de_add (de_var 1) ((dn_lc (own := [("_law_column", 4)]) rfl sc_law_parted.nd (di_seq (de_var 3)) (blkOk_by (N := N_law_parted) (sc := defScope s_law_parted) (by decide +kernel)) (by decide) (fun _ _ _ _ _ => dg_name 4 sc_law_parted.nd) (fun _ _ _ _ _ => dts_nil) (fun _ _ _ _ _ => de_tup (da_cons (de_var 2) (da_cons (de_tup (da_cons (de_var 4) (da_nil))) (da_nil))))).de)))))
    (dss_cons (ds_set 1 sc_law_parted.nd ((dn_sortSet (by rfl) (by exact hu) (by rfl) (by exact B.b_sorted) (by rfl) (by exact B.b_set) (de_var 1)).de))
    (dss_one (ds_ret (de_if (dt_c (cm_le2 (by exact hu)) (de_len (by rfl) (by exact B.b_len) (da_cons (de_var 1) (da_nil))) (de_int)) (de_tup (da_cons (de_ix (de_var 0) (de_int)) (da_cons (de_tuple (by rfl) (by exact B.b_tuple) (da_cons (de_var 1) (da_nil))) (da_nil)))) (de_var 0))))))
theorem ok_law_widened : HasF P w K mg base "_law_widened" 4 ["_law_plan"] w_law_widened := by
  have F_law_settled := ok_law_settled (P := P) (w := w) (base := base) B W CL TOH LMH
  refine hasF_of (k := 3) W.d_law_widened sc_law_widened fun f cdv A outer s H E hgd hr => ?_
  have hu := hu65 hr
  exact dss_one (ds_ret (de_tup (da_cons (de_ix (de_var 0) (de_int)) (da_cons (de_tuple (by rfl) (by exact B.b_tuple) (da_cons ((dn_sortSet (by rfl) (by exact hu) (by rfl) (by exact B.b_sorted) (by rfl) (by exact B.b_set) ((dn_lc (own := [("_law_near", 1), ("_law_far", 2)]) rfl sc_law_widened.nd (di_seq (de_ix (de_var 0) (de_int))) (blkOk_by (N := N_law_widened) (sc := defScope s_law_widened) (by decide +kernel)) (by decide) (fun _ _ _ _ _ => dg_tup rfl (dgs_cons (dg_name 1 sc_law_widened.nd) (dgs_cons (dg_name 2 sc_law_widened.nd) (dgs_nil))) rfl rfl (fun ds η Q h => ((gl_cons (gx_n 1) (gl_cons (gx_n 2) gl_nil)) ds η Q h).1)) (fun _ _ _ _ _ => dts_nil) (fun _ _ _ _ _ => de_tup (da_cons (de_var 1) (da_cons (de_f F_law_settled hgd hr (dc_cons (de_var 0) (dc_cons (de_var 1) (dc_nil)))) (da_nil))))).de)).de) (da_nil))) (da_nil)))))
theorem ok_law_is_told : HasF P w K mg base "_law_is_told" 7 ["_law_plan", "_law_other"] w_law_is_told := by
  have F_law_closed := ok_law_closed (P := P) (w := w) (base := base) B W CL TOH LMH
  have F_are_alike := ok_are_alike (P := P) (w := w) (base := base) B W CL TOH LMH
  refine hasF_of (k := 6) W.d_law_is_told sc_law_is_told fun f cdv A outer s H E hgd hr => ?_
  have hu := hu65 hr
  exact dss_cons (ds_par 2 3 rfl sc_law_is_told.nd (de_repr (by exact hgd) (by exact hu) (by rfl) (by exact B.b_repr) (da_cons ((dn_lst (da_cons (de_var 0) (da_cons (de_var 1) (da_nil)))).de) (da_nil))) (de_c (cm_eq (by exact hu)) (de_f F_law_closed hgd hr (dc_cons (de_var 0) (dc_nil))) (de_f F_law_closed hgd hr (dc_cons (de_var 1) (dc_nil)))))
    (dss_cons (ds_set 4 sc_law_is_told.nd ((dn_lst (da_cons (de_e F_are_alike hgd hr (dc_cons (de_var 0) (dc_cons (de_var 1) (dc_nil)))) (da_cons (de_e F_are_alike hgd hr (dc_cons (de_var 1) (dc_cons (de_var 0) (dc_nil)))) (da_cons (de_e F_are_alike hgd hr (dc_cons (de_var 0) (dc_cons (de_var 1) (dc_nil)))) (da_cons (de_e F_are_alike hgd hr (dc_cons (de_var 1) (dc_cons (de_var 0) (dc_nil)))) (da_nil)))))).de))
    (dss_one (ds_ret (de_and (de_c (cm_eq (by exact hu)) (de_repr (by exact hgd) (by exact hu) (by rfl) (by exact B.b_repr) (da_cons (de_var 4) (da_nil))) (de_repr (by exact hgd) (by exact hu) (by rfl) (by exact B.b_repr) (da_cons (de_mul ((dn_lst (da_cons (de_var 3) (da_nil))).de) (de_int)) (da_nil)))) (de_one (de_c (cm_eq (by exact hu)) (de_repr (by exact hgd) (by exact hu) (by rfl) (by exact B.b_repr) (da_cons ((dn_lst (da_cons (de_var 0) (da_cons (de_var 1) (da_nil)))).de) (da_nil))) (de_var 2)))))))
set_option maxHeartbeats 4000000 in
theorem ok_law_refused_right : HasF P w K mg base "_law_refused_right" 9 ["_law_draw", "_law_plan"] w_law_refused_right := by
  have F_law_among := ok_law_among (P := P) (w := w) (base := base) B W CL TOH LMH
  have F_are_alike := ok_are_alike (P := P) (w := w) (base := base) B W CL TOH LMH
  obtain ⟨lc, lP, La⟩ := LMH.l_law_refused_right
  refine hasF_ofL (k := 8) La W.d_law_refused_right sc_law_refused_right fun f A outer s H E hgd hr => ?_
  have hu := hu65 hr
  exact dss_cons (ds_set 2 sc_law_refused_right.nd ((dn_lst (da_cons (de_tup (da_cons (de_non) (da_cons (de_tup (da_nil)) (da_nil)))) (da_cons (de_tup (da_cons (de_tup (da_nil)) (da_cons (de_tup (da_nil)) (da_nil)))) (da_cons (de_tup (da_cons (de_tup (da_cons (de_ix (de_var 1) (de_int)) (da_nil))) (da_cons (de_tup (da_nil)) (da_nil)))) (da_cons (de_tup (da_cons (de_tup (da_cons (de_int) (da_cons (de_tup (da_nil)) (da_nil)))) (da_cons (de_tup (da_cons (de_str) (da_nil))) (da_nil)))) (da_cons (de_tup (da_cons (de_tup (da_cons (de_int) (da_cons (de_non) (da_nil)))) (da_cons (de_tup (da_cons (de_str) (da_nil))) (da_nil)))) (da_cons (de_tup (da_cons (de_tup (da_cons (de_bl) (da_cons (de_tup (da_nil)) (da_nil)))) (da_cons (de_tup (da_cons (de_str) (da_nil))) (da_nil)))) (da_nil)))))))).de))
    (dss_cons (ds_set 2 sc_law_refused_right.nd (de_add (de_var 2) ((dn_lst (da_cons (de_tup (da_cons (de_tup (da_cons (de_int) (da_cons ((dn_lst (da_cons (de_tup (da_nil)) (da_nil))).de) (da_nil)))) (da_cons (de_tup (da_cons (de_str) (da_nil))) (da_nil)))) (da_cons (de_tup (da_cons (de_tup (da_cons (de_int) (da_cons (de_tup (da_cons (de_non) (da_nil))) (da_nil)))) (da_cons (de_tup (da_cons (de_str) (da_cons (de_int) (da_nil)))) (da_nil)))) (da_cons (de_tup (da_cons (de_tup (da_cons (de_int) (da_cons (de_tup (da_cons (de_tup (da_cons (de_tup (da_cons (de_int) (da_nil))) (da_cons (de_tup (da_nil)) (da_nil)))) (da_cons (de_tup (da_cons (de_tup (da_cons (de_int) (da_nil))) (da_cons (de_tup (da_nil)) (da_nil)))) (da_nil)))) (da_nil)))) (da_cons (de_tup (da_cons (de_str) (da_cons (de_int) (da_nil)))) (da_nil)))) (da_nil))))).de)))
    (dss_cons (new_read 3 (ps_lc (own := [("_law_wide", 4)]) 3 rfl sc_law_refused_right.nd rfl rfl rfl (di_range2 (by rfl) (by exact B.b_range) (da_cons (de_int) (da_cons (de_int) (da_nil)))) (blkOk_by (N := N_law_refused_right) (sc := defScope s_law_refused_right) (by decide +kernel)) (fun _ _ _ _ _ => dg_name 4 sc_law_refused_right.nd) (fun _ _ _ _ _ => dts_one (dt_c (cm_ne (by exact hu)) (de_var 4) (de_ix (de_var 1) (de_int)))) (fun _ _ _ _ _ => de_var 4)) (lc_lift (by decide)))
    (dss_cons (ds_set 5 sc_law_refused_right.nd (de_tup (da_cons (de_f F_law_among hgd hr (dc_drw 0 (dc_cons (de_var 3) (dc_nil)))) (da_cons (de_tup (da_nil)) (da_nil)))))
    (dss_cons (ds_for PassesOwn.never rfl (di_seq (de_var 2)) (dg_tup rfl (dgs_cons (dg_name 6 sc_law_refused_right.nd) (dgs_cons (dg_name 7 sc_law_refused_right.nd) (dgs_nil))) rfl rfl (fun ds η Q h => ((gl_cons (gx_n 6) (gl_cons (gx_n 7) gl_nil)) ds η Q h).1)) (dss_cons (ds_set 8 sc_law_refused_right.nd ((dn_lst (da_cons (de_told (told_F B W CL TOH LMH (k := 6)) La.tab rfl (q0 := "_law_refused_right" ++ ".<locals>.") rfl La.mem La.uni hgd hr (by decide) (by rfl) (LamX.lamS_by (by rfl)) (fun f c' A outer s H E hgd hr => by
    have hu := hu65 hr
    exact de_e F_are_alike hgd hr (dc_cons (de_var 6) (dc_cons (de_var 1) (dc_nil))))) (da_cons (de_toldD (told_F B W CL TOH LMH (k := 6)) La.tab rfl (q0 := "_law_refused_right" ++ ".<locals>.") rfl La.mem La.uni hgd hr (by decide) (by rfl) (y := "_law_a") (lamD_by (by rfl)) (fun f c' A outer s H E hgd hr => by
    have hu := hu65 hr
    exact de_e F_are_alike hgd hr (dc_cons (de_var 1) (dc_cons (de_var 6) (dc_nil)))) (n := 0) rfl rfl rfl (fun _ _ _ _ _ _ _ => ⟨_, rfl, fun _ => rfl⟩)) (da_nil)))).de))
    (dss_cons (ds_set 8 sc_law_refused_right.nd (de_add (de_var 8) ((dn_lst (da_cons (de_told (told_F B W CL TOH LMH (k := 6)) La.tab rfl (q0 := "_law_refused_right" ++ ".<locals>.") rfl La.mem La.uni hgd hr (by decide) (by rfl) (LamX.lamS_by (by rfl)) (fun f c' A outer s H E hgd hr => by
    have hu := hu65 hr
    exact de_e F_are_alike hgd hr (dc_cons (de_var 6) (dc_cons (de_non) (dc_nil))))) (da_cons (de_toldD (told_F B W CL TOH LMH (k := 6)) La.tab rfl (q0 := "_law_refused_right" ++ ".<locals>.") rfl La.mem La.uni hgd hr (by decide) (by rfl) (y := "_law_a") (lamD_by (by rfl)) (fun f c' A outer s H E hgd hr => by
    have hu := hu65 hr
    exact de_e F_are_alike hgd hr (dc_cons (de_var 6) (dc_cons (de_var 5) (dc_nil)))) (n := 0) rfl rfl rfl (fun _ _ _ _ _ _ _ => ⟨_, rfl, fun _ => rfl⟩)) (da_nil)))).de)))
    (dss_one (ds_if (dt_c (cm_ne (by exact hu)) (de_repr (by exact hgd) (by exact hu) (by rfl) (by exact B.b_repr) (da_cons (de_var 8) (da_nil))) (de_repr (by exact hgd) (by exact hu) (by rfl) (by exact B.b_repr) (da_cons (de_mul ((dn_lst (da_cons (de_tup (da_cons (de_str) (da_cons (de_var 7) (da_nil)))) (da_nil))).de) (de_int)) (da_nil)))) (dss_one (ds_ret (de_bl))) (dss_nil))))))
    (dss_cons (ds_set 8 sc_law_refused_right.nd ((dn_lst (da_cons (de_told (told_F B W CL TOH LMH (k := 6)) La.tab rfl (q0 := "_law_refused_right" ++ ".<locals>.") rfl La.mem La.uni hgd hr (by decide) (by rfl) (LamX.lamS_by (by rfl)) (fun f c' A outer s H E hgd hr => by
    have hu := hu65 hr
    exact de_e F_are_alike hgd hr (dc_cons (de_var 1) (dc_cons (de_var 5) (dc_nil))))) (da_cons (de_toldD (told_F B W CL TOH LMH (k := 6)) La.tab rfl (q0 := "_law_refused_right" ++ ".<locals>.") rfl La.mem La.uni hgd hr (by decide) (by rfl) (y := "_law_a") (lamD_by (by rfl)) (fun f c' A outer s H E hgd hr => by
    have hu := hu65 hr
    exact de_e F_are_alike hgd hr (dc_cons (de_var 5) (dc_cons (de_var 1) (dc_nil)))) (n := 0) rfl rfl rfl (fun _ _ _ _ _ _ _ => ⟨_, rfl, fun _ => rfl⟩)) (da_nil)))).de))
    (dss_one (ds_ret (de_c (cm_eq (by exact hu)) (de_var 8) ((dn_lst (da_cons (de_tup (da_cons (de_str) (da_cons (de_ix (de_var 5) (de_int)) (da_nil)))) (da_cons (de_tup (da_cons (de_str) (da_cons (de_ix (de_var 1) (de_int)) (da_nil)))) (da_nil)))).de)))))))))
theorem ok_law_by_hand_right : HasF P w K mg base "_law_by_hand_right" 7 [] w_law_by_hand_right := by
  have F_are_alike := ok_are_alike (P := P) (w := w) (base := base) B W CL TOH LMH
  refine hasF_of (k := 6) W.d_law_by_hand_right sc_law_by_hand_right fun f cdv A outer s H E hgd hr => ?_
  have hu := hu65 hr
  exact dss_cons (ds_set 0 sc_law_by_hand_right.nd (de_tup (da_cons (de_int) (da_cons (de_tup (da_cons (de_tup (da_cons (de_tup (da_cons (de_int) (da_nil))) (da_cons (de_tup (da_cons (de_int) (da_nil))) (da_nil)))) (da_cons (de_tup (da_cons (de_tup (da_cons (de_int) (da_nil))) (da_cons (de_tup (da_cons (de_int) (da_nil))) (da_nil)))) (da_cons (de_tup (da_cons (de_tup (da_cons (de_int) (da_nil))) (da_cons (de_tup (da_cons (de_int) (da_nil))) (da_nil)))) (da_nil))))) (da_nil)))))
    (dss_cons (ds_set 1 sc_law_by_hand_right.nd (de_tup (da_cons (de_int) (da_cons (de_tup (da_cons (de_tup (da_cons (de_tup (da_cons (de_int) (da_nil))) (da_cons (de_tup (da_cons (de_int) (da_nil))) (da_nil)))) (da_cons (de_tup (da_cons (de_tup (da_cons (de_int) (da_nil))) (da_cons (de_tup (da_cons (de_int) (da_nil))) (da_nil)))) (da_cons (de_tup (da_cons (de_tup (da_cons (de_int) (da_nil))) (da_cons (de_tup (da_cons (de_int) (da_nil))) (da_nil)))) (da_nil))))) (da_nil)))))
    (dss_cons (ds_set 2 sc_law_by_hand_right.nd (de_tup (da_cons (de_int) (da_cons (de_tup (da_cons (de_tup (da_cons (de_tup (da_cons (de_int) (da_nil))) (da_cons (de_tup (da_cons (de_int) (da_cons (de_int) (da_cons (de_int) (da_nil))))) (da_nil)))) (da_cons (de_tup (da_cons (de_tup (da_cons (de_int) (da_nil))) (da_cons (de_tup (da_cons (de_int) (da_cons (de_int) (da_cons (de_int) (da_nil))))) (da_nil)))) (da_cons (de_tup (da_cons (de_tup (da_cons (de_int) (da_nil))) (da_cons (de_tup (da_cons (de_int) (da_cons (de_int) (da_cons (de_int) (da_nil))))) (da_nil)))) (da_nil))))) (da_nil)))))
    (dss_cons (ds_set 3 sc_law_by_hand_right.nd (de_tup (da_cons (de_int) (da_cons (de_tup (da_cons (de_tup (da_cons (de_tup (da_cons (de_int) (da_nil))) (da_cons (de_tup (da_cons (de_int) (da_nil))) (da_nil)))) (da_cons (de_tup (da_cons (de_tup (da_cons (de_int) (da_nil))) (da_cons (de_tup (da_cons (de_int) (da_nil))) (da_nil)))) (da_nil)))) (da_nil)))))
    (dss_cons (ds_set 4 sc_law_by_hand_right.nd ((dn_lst (da_cons (de_tup (da_cons (de_var 0) (da_cons (de_var 1) (da_cons (de_bl) (da_nil))))) (da_cons (de_tup (da_cons (de_var 0) (da_cons (de_var 2) (da_cons (de_bl) (da_nil))))) (da_cons (de_tup (da_cons (de_var 0) (da_cons (de_var 3) (da_cons (de_bl) (da_nil))))) (da_cons (de_tup (da_cons (de_tup (da_cons (de_int) (da_cons (de_tup (da_nil)) (da_nil)))) (da_cons (de_tup (da_cons (de_int) (da_cons (de_tup (da_cons (de_tup (da_cons (de_tup (da_cons (de_int) (da_cons (de_int) (da_nil)))) (da_cons (de_tup (da_cons (de_int) (da_nil))) (da_nil)))) (da_nil))) (da_nil)))) (da_cons (de_bl) (da_nil))))) (da_nil)))))).de))
    (dss_cons (ds_set 4 sc_law_by_hand_right.nd (de_add (de_var 4) ((dn_lst (da_cons (de_tup (da_cons (de_var 3) (da_cons (de_tup (da_cons (de_int) (da_cons (de_tup (da_cons (de_tup (da_cons (de_tup (da_cons (de_int) (da_nil))) (da_cons (de_tup (da_cons (de_int) (da_cons (de_int) (da_nil)))) (da_nil)))) (da_cons (de_tup (da_cons (de_tup (da_cons (de_int) (da_nil))) (da_cons (de_tup (da_cons (de_int) (da_nil))) (da_nil)))) (da_nil)))) (da_nil)))) (da_cons (de_bl) (da_nil))))) (da_cons (de_tup (da_cons (de_tup (da_cons (de_int) (da_cons (de_tup (da_cons (de_tup (da_cons (de_tup (da_nil)) (da_cons (de_tup (da_cons (de_int) (da_nil))) (da_nil)))) (da_nil))) (da_nil)))) (da_cons (de_tup (da_cons (de_int) (da_cons (de_tup (da_nil)) (da_nil)))) (da_cons (de_bl) (da_nil))))) (da_nil)))).de)))
    (dss_cons (ds_set 4 sc_law_by_hand_right.nd (de_add (de_var 4) ((dn_lst (da_cons (de_tup (da_cons (de_tup (da_cons (de_int) (da_cons (de_tup (da_cons (de_tup (da_cons (de_tup (da_nil)) (da_cons (de_tup (da_cons (de_int) (da_cons (de_int) (da_nil)))) (da_nil)))) (da_nil))) (da_nil)))) (da_cons (de_tup (da_cons (de_int) (da_cons (de_tup (da_cons (de_tup (da_cons (de_tup (da_nil)) (da_cons (de_tup (da_cons (de_int) (da_nil))) (da_nil)))) (da_cons (de_tup (da_cons (de_tup (da_cons (de_int) (da_nil))) (da_cons (de_tup (da_cons (de_int) (da_nil))) (da_nil)))) (da_nil)))) (da_nil)))) (da_cons (de_bl) (da_nil))))) (da_cons (de_tup (da_cons (de_tup (da_cons (de_int) (da_cons (de_tup (da_nil)) (da_nil)))) (da_cons (de_tup (da_cons (de_int) (da_cons (de_tup (da_cons (de_tup (da_cons (de_tup (da_cons (de_int) (da_nil))) (da_cons (de_tup (da_nil)) (da_nil)))) (da_nil))) (da_nil)))) (da_cons (de_bl) (da_nil))))) (da_nil)))).de)))
    (dss_cons (ds_set 5 sc_law_by_hand_right.nd (de_tup (da_cons (de_int) (da_cons (de_tuple (by rfl) (by exact B.b_tuple) (da_cons ((dn_lc (own := [("_law_k", 6)]) rfl sc_law_by_hand_right.nd (di_range1 (by rfl) (by exact B.b_range) (da_cons (de_int) (da_nil))) (blkOk_by (N := N_law_by_hand_right) (sc := defScope s_law_by_hand_right) (by decide +kernel)) (by decide) (fun _ _ _ _ _ => dg_name 6 sc_law_by_hand_right.nd) (fun _ _ _ _ _ => dts_nil) (fun _ _ _ _ _ => de_tup (da_cons (de_tup (da_cons (de_var 6) (da_nil))) (da_cons (de_tup (da_cons (de_add (de_var 6) (de_int)) (da_nil))) (da_nil))))).de) (da_nil))) (da_nil)))))
    (dss_cons (ds_set 4 sc_law_by_hand_right.nd (de_add (de_var 4) ((dn_lst (da_cons (de_tup (da_cons (de_var 5) (da_cons (de_tup (da_cons (de_int) (da_cons (de_tuple (by rfl) (by exact B.b_tuple) (da_cons ((dn_lc (own := [("_law_k", 6)]) rfl sc_law_by_hand_right.nd (di_range1 (by rfl) (by exact B.b_range) (da_cons (de_int) (da_nil))) (blkOk_by (N := N_law_by_hand_right) (sc := defScope s_law_by_hand_right) (by decide +kernel)) (by decide) (fun _ _ _ _ _ => dg_name 6 sc_law_by_hand_right.nd) (fun _ _ _ _ _ => dts_nil) (fun _ _ _ _ _ => de_tup (da_cons (de_tup (da_cons (de_var 6) (da_nil))) (da_cons (de_tupRg (by rfl) (by rfl) (by exact B.b_tuple) (rr_2 (by rfl) (by exact B.b_range) (de_var 6) (de_int))) (da_nil))))).de) (da_nil))) (da_nil)))) (da_cons (de_bl) (da_nil))))) (da_nil))).de)))
    (dss_cons (ds_set 4 sc_law_by_hand_right.nd (de_add (de_var 4) ((dn_lst (da_cons (de_tup (da_cons (de_var 5) (da_cons (de_tup (da_cons (de_int) (da_cons (de_sl (de_ix (de_var 5) (de_int)) (do_none) (do_some (de_int))) (da_nil)))) (da_cons (de_bl) (da_nil))))) (da_cons (de_tup (da_cons (de_var 5) (da_cons (de_tup (da_cons (de_int) (da_cons (de_sl (de_ix (de_var 5) (de_int)) (do_some (de_int)) (do_none)) (da_nil)))) (da_cons (de_bl) (da_nil))))) (da_nil)))).de)))
    (dss_cons (ds_for PassesOwn.never rfl (di_seq (de_var 4)) (dg_tup rfl (dgs_cons (dg_name 7 sc_law_by_hand_right.nd) (dgs_cons (dg_name 8 sc_law_by_hand_right.nd) (dgs_cons (dg_name 9 sc_law_by_hand_right.nd) (dgs_nil)))) rfl rfl (fun ds η Q h => ((gl_cons (gx_n 7) (gl_cons (gx_n 8) (gl_cons (gx_n 9) gl_nil))) ds η Q h).1)) (dss_one (ds_if (dt_c (cm_ne (by exact hu)) (de_repr (by exact hgd) (by exact hu) (by rfl) (by exact B.b_repr) (da_cons ((dn_lst (da_cons (de_e F_are_alike hgd hr (dc_cons (de_var 7) (dc_cons (de_var 8) (dc_nil)))) (da_cons (de_e F_are_alike hgd hr (dc_cons (de_var 8) (dc_cons (de_var 7) (dc_nil)))) (da_nil)))).de) (da_nil))) (de_repr (by exact hgd) (by exact hu) (by rfl) (by exact B.b_repr) (da_cons ((dn_lst (da_cons (de_var 9) (da_cons (de_var 9) (da_nil)))).de) (da_nil)))) (dss_one (ds_ret (de_bl))) (dss_nil))))
    (dss_one (ds_ret (de_bl)))))))))))))
theorem ok_law {f : Addr} {fd : FuncData} (F : Fun K "law" "law" s_law f fd) (pl : ∀ ns : List Int, ns.length ≤ 63 → t_law never zLaw (lawEnv 4 ns)) : FnG P w K mg base CX0 10 f fd ["_law_script"] (spLaw K) := by
  have F_law_schema := ok_law_schema (P := P) (w := w) (base := base) B W CL TOH LMH
  have F_law_among := ok_law_among (P := P) (w := w) (base := base) B W CL TOH LMH
  have F_law_next := ok_law_next (P := P) (w := w) (base := base) B W CL TOH LMH
  have F_law_with := ok_law_with (P := P) (w := w) (base := base) B W CL TOH LMH
  have F_law_without := ok_law_without (P := P) (w := w) (base := base) B W CL TOH LMH
  have F_law_parted := ok_law_parted (P := P) (w := w) (base := base) B W CL TOH LMH
  have F_law_widened := ok_law_widened (P := P) (w := w) (base := base) B W CL TOH LMH
  have F_law_is_told := ok_law_is_told (P := P) (w := w) (base := base) B W CL TOH LMH
  have F_law_refused_right := ok_law_refused_right (P := P) (w := w) (base := base) B W CL TOH LMH
  have F_law_by_hand_right := ok_law_by_hand_right (P := P) (w := w) (base := base) B W CL TOH LMH
  obtain ⟨fb, fdb, Fb, hmb, hbb⟩ := W.d_law_begun.ex
  have Gb := ok_law_begun (P := P) (w := w) (mg := mg) (base := base) (k := 0) Fb B.b_len B.b_enumerate B.b_int
  refine fnG_of (k := 9) F sc_law (fun vs H Q E h => spLaw_len h) fun cdv A outer s H vs Q E hgd hr h => ?_
  have hu := hu65 hr
  have body : DSs (cxOf CX0 P w K mg base N_law "law" (defScope s_law) f cdv A outer s H E).nox ((defBody s_law).drop 1) t_law := dss_cons (ds_for PassesOwn.never rfl (di_range1 (by rfl) (by exact B.b_range) (da_cons (de_add (de_int) (de_div (de_min2 (by rfl) (by rfl) (by exact B.b_min) (da_cons (de_int) (da_cons (de_lenScr 0 (by rfl) (by exact B.b_len)) (da_nil)))) (de_int))) (da_nil))) (dg_name 2 sc_law.nd) (dss_cons (ds_set 3 sc_law.nd (de_f F_law_schema hgd hr (dc_drw 1 (dc_cons (de_add (de_int) (de_f F_law_next hgd hr (dc_drw 1 (dc_cons (de_int) (dc_nil))))) (dc_cons (de_f F_law_among hgd hr (dc_drw 1 (dc_cons ((dn_lst (da_cons (de_int) (da_cons (de_int) (da_cons (de_int) (da_nil))))).de) (dc_nil)))) (dc_nil))))))
    (dss_cons (ds_set 4 sc_law.nd ((dn_lst (da_cons (de_var 3) (da_cons (de_f F_law_with hgd hr (dc_drw 1 (dc_cons (de_var 3) (dc_nil)))) (da_cons (de_f F_law_without hgd hr (dc_drw 1 (dc_cons (de_var 3) (dc_nil)))) (da_cons (de_f F_law_parted hgd hr (dc_cons (de_var 3) (dc_nil))) (da_cons (de_f F_law_widened hgd hr (dc_cons (de_var 3) (dc_nil))) (da_nil))))))).de))
    (dss_cons (ds_set 4 sc_law.nd (de_add (de_var 4) ((dn_lst (da_cons (de_f F_law_without hgd hr (dc_drw 1 (dc_cons (de_f F_law_widened hgd hr (dc_cons (de_var 3) (dc_nil))) (dc_nil)))) (da_cons (de_f F_law_schema hgd hr (dc_drw 1 (dc_cons (de_ix (de_var 3) (de_int)) (dc_cons (de_int) (dc_nil))))) (da_nil)))).de)))
    (dss_cons (ds_if (dt_c (cm_ne (by exact hu)) ((dn_lc (own := [("_law_other", 5)]) rfl sc_law.nd (di_seq (de_var 4)) (blkOk_by (N := N_law) (sc := defScope s_law) (by decide +kernel)) (by decide) (fun _ _ _ _ _ => dg_name 5 sc_law.nd) (fun _ _ _ _ _ => dts_one (dt_not (dt_val (de_f F_law_is_told hgd hr (dc_cons (de_var 3) (dc_cons (de_var 5) (dc_nil))))))) (fun _ _ _ _ _ => de_var 5)).de) ((dn_lst (da_nil)).de)) (dss_one (ds_ret (de_bl))) (dss_nil))
    (dss_one (ds_if (dt_not (dt_val (de_f F_law_refused_right hgd hr (dc_drw 1 (dc_cons (de_var 3) (dc_nil)))))) (dss_one (ds_ret (de_bl))) (dss_nil))))))))
    (dss_one (ds_ret (de_f0 F_law_by_hand_right hgd hr)))
  exact ⟨_, PSs.nox (pss_cons (ps_set (i := 1) sc_law.nd rfl (.inl rfl) (pe_callG Gb hgd (hr.mono (by decide)) rfl hmb Fb.kp hbb pass0 (pa_cons (pv 0) pa_nil))) body.pss), law_go (X := (cxOf CX0 P w K mg base N_law "law" (defScope s_law) f cdv A outer s H E).nox) rfl h pl⟩
end
end Lw

/-! PL1: schemas. -/
namespace Lw
open PySem DL PL
open Lean.Parser.Tactic in
local macro_rules | `(tactic| simp_arith only [$xs,*] $[$l:location]?) => `(tactic| simp -implicitDefEqProofs only [x_sSeq, x_sNext, x_sSet, x_sSetL, x_sOwn, x_sOwnL, x_sNew, x_sPar, x_sParN, x_sRet, x_sRetN, x_sIf, x_sDrop, x_sFor, x_sWhile, x_sNever, x_sFrz, x_sApp, x_sAppL, x_sExtL, x_sExtS, x_onSeqEL, x_onSeqET, x_sAug, x_sAsg, x_sBreak, x_sCont, x_onDat, x_onSeqL, x_onSeqT, x_on1I, x_on2I, x_on2L, x_on2T, x_onScr, x_ifB, x_onS, x_onOwn, x_onList, x_onInt, x_onCInt, x_isDrw, x_lenScr, x_dV, x_dK, x_dOp, x_dTup, x_dNew, x_nLst, x_nCall, x_nComp, x_nRg, x_dTupRg, x_gRg1, x_gRg2, x_dCall, x_dCallF, x_dSl, x_oNone, x_oSome, x_dAnd, x_dOr, x_dNot, x_oNeg, x_bVal, x_bAnd, x_bOr, x_bNot, x_dIf, x_dChain, x_aNil, x_aCons, x_cNil, x_cCons, x_cDrw, x_iSeq, x_iRange1, x_iRange2, x_iZip2, x_iEnum1, x_iEnumZ, x_on2TT, x_nSortSet, x_onTupO, x_nSortSetI, x_nSortSetE, x_fMinL, x_fSumL, x_dDict0, x_sIns, x_sPut, x_sRaise, x_dCallE, x_sTry1, x_gN, x_gT, x_gCons, x_gNil, x_bYes, x_fLenL, x_fLenT, x_fLenS, x_fTupleL, x_fTupleT, x_fListL, x_fListT, x_fSorted, x_fAll, x_fAny, x_fSum, x_fIntI, x_fIntB, x_fMin2, x_fMax2, x_fRepr, x_dIsi, x_lend, x_lendD, x_lendO, x_lendR, x_lendU, x_lendS, x_wipe0, x_wipe1, x_addI, x_addS, x_addL, x_addT, x_sub, x_mod, x_div, x_mulW, x_divW, x_pow, x_mulI, x_mulL, x_eq, x_ne, x_inL, x_inT, x_mul2T, x_mul3T, x_dTwo, x_nSortSetL, x_sM2, x_sM3, x_on2C, x_on3C, x_mNil, x_mD, x_mN, x_aStar, x_fSortedT, x_isB, x_isN, x_isN0, x_isNI, x_isNT, x_isNL, x_isNS, x_isNB, x_lt, x_ltT, x_ord, x_ordT, x_ixL, x_ixT, x_ixS, x_fListD, x_fListDL, x_fReprD, x_dRev, x_nCat2, x_sOwnCat, x_onSeqRL, x_onSeqRT, x_onCat, x_eqT0, x_neL0, x_eqL0, x_neT0, x_addBI, x_addBB, x_fSortedD, x_dDc, x_dLend, x_bLend, x_nLend, x_sMut, x_dMutP, x_onMD, x_sPutM, x_sRetM, x_sRetS, x_onMt, x_cMut, x_onMx, x_stM, x_sCallM, x_sSetM, x_mTest, x_mCall, x_mAnd, x_sIfM, x_nSortSetT, x_fLenD, x_sUpdM, x_onDct, x_iSeqD, x_lendM, x_fMin2D, x_dFld, x_onLin, x_dMeth, x_sPutI, x_onIst, x_onDctF, x_sRetI, x_onIt, x_onIx, x_stI, x_mCallE, x_sDoI, x_sSetI, x_sExtI, x_sFldV, x_sFldM, x_dDcM, x_sMakeI, x_nComp2, x_bIfE, x_lendL, x_lendI, x_ownIx, x_ownLen, x_sColM, x_onAny, x_onMxM, x_onLs, x_stMM, x_colGo0, x_sAli2, x_dLendA, x_nLendA, x_lendA, x_aliD0, x_aliD1, x_onObj, x_lendO', x_sUnp, x_dNewF, x_dNewC, x_cNewL, x_dCallXM, x_sRetMN, x_sAsgM, x_sSelfM, x_sFrzM, x_sPopI, x_fMaxI, x_dGet, x_mSetd, x_gTL, x_iZipM, x_onStr, x_nSplit, x_dJoin, x_fStrI, x_fStrS, x_fIntT, x_oInSg, x_iTxt, x_sStar1, x_dDisp1, x_onMf, x_sAppM, x_sAppR, x_onFz, x_sRetSelfM, x_sInsR, x_sPopR, x_sPutR, x_sInsM, x_dIdx, x_oNotInSg, x_sRaise2, x_sTryN, x_nCompE, x_on2M, x_dSetEq, x_dHeard, x_dLenSet, oGe2, oLe2, oGt2, List.getElem?_cons_zero, List.getElem?_cons_succ, List.getElem?_nil, List.set_cons_zero, List.set_cons_succ, List.map_cons, List.map_nil, List.length_cons, List.length_nil, List.replicate, List.cons_append, List.nil_append, Nat.reduceSub, Nat.reduceAdd, Nat.zero_add, if_true, Bool.false_eq_true, if_false, bne_self_eq_false, Bool.true_bne, Bool.false_bne, Bool.not_true, Bool.not_false, true_and, and_true, Bool.bne_false, Bool.bne_true, $xs,*] $[$l:location]?)
theorem sp_is_whole (d : D) (lo hi : Int) {Q : D → Prop} (q : ∀ b : Bool, (b = true ↔ ∃ i, d = .int i ∧ lo ≤ i ∧ i ≤ hi) → Q (.bool b)) : w_is_whole never [.dat d, .dat (.int lo), .dat (.int hi)] Q := by
  refine body_in rfl ?_
  unfold t_is_whole
  simp_arith only []
  cases d with
  | int i =>
    simp_arith only [isiD, isiN, tyOf]
    by_cases h : lo ≤ i
    · simp_arith only [decide_eq_true h]
      refine q _ ?_
      simp [h]
    · simp_arith only [decide_eq_false h]
      refine q _ ?_
      simp [h]
  | _ =>
    refine q false ?_
    simp
theorem pair_asc : ∀ l : List Int, ((l.zip (l.drop 1)).all fun p => decide (p.1 < p.2)) = true ↔ Asc l
  | [] => by simp
  | [a] => by simp
  | a :: b :: l => by
    have ih := pair_asc (b :: l)
    simp only [List.drop_succ_cons, List.drop_zero, List.zip_cons_cons, List.all_cons, Bool.and_eq_true, decide_eq_true_eq] at ih ⊢
    rw [ih]
    constructor
    · rintro ⟨h1, h2⟩
      refine List.pairwise_cons.mpr ⟨fun x hx => ?_, h2⟩
      rcases List.mem_cons.mp hx with e | hx
      · omega
      · have := (List.pairwise_cons.mp h2).1 x hx
        omega
    · intro h
      obtain ⟨h1, h2⟩ := List.pairwise_cons.mp h
      exact ⟨h1 b List.mem_cons_self, h2⟩
theorem all_bools {α : Type} (f : α → Bool) : ∀ xs : List α, (xs.map fun a => PyData.bool (f a)).all isB = true
  | [] => rfl
  | a :: xs => by rw [List.map_cons, List.all_cons, all_bools f xs]; rfl
theorem all_of {α : Type} (f : α → Bool) : ∀ xs : List α, ((xs.map fun a => PyData.bool (f a)).map bOf).all id = xs.all f
  | [] => rfl
  | a :: xs => by rw [List.map_cons, List.map_cons, List.all_cons, all_of f xs]; rfl
theorem sp_are_ascending (l : List Int) (hl : l.length ≤ sizeLine) {Q : D → Prop} (q : ∀ b : Bool, (b = true ↔ Asc l) → Q (.bool b)) : w_are_ascending never [.dat (T l)] Q := by
  refine body_in rfl ?_
  unfold t_are_ascending T
  simp_arith only []
  rw [cut1, ← List.map_drop]
  have e : pairsD (l.map PyData.int) ((l.drop 1).map PyData.int) = (l.zip (l.drop 1)).map fun p => .tuple [.int p.1, .int p.2] := by
    unfold pairsD
    rw [List.zip_map, List.map_map]
    rfl
  rw [e]
  refine compD_mp _ (fun p => .bool (decide (p.1 < p.2))) (fun p _ R1 R0 r => ?_) ?_ ?_
  · simp_arith only []
    exact r
  · rw [List.length_zip]
    simp
    omega
  · rw [List.nil_append, all_of]
    exact ⟨all_bools _ _, q _ (pair_asc l)⟩
theorem sp_is_lot_of {n : Nat} {l : List Int} (hn : n ≤ 64) (h : InL n l) {Q : D → Prop} (q : Q (.bool true)) : w_is_lot_of never [.dat (.int n), .dat (T l)] Q := by
  refine body_in rfl ?_
  unfold t_is_lot_of
  have e : T l = .tuple (l.map .int) := rfl
  rw [e]
  simp_arith only [isiD, isiN, tyOf]
  refine compD_mp _ (fun _ => .bool true) (fun i hi R1 R0 r => ?_) (by have := h.small hn; simpa using this) ?_
  · simp_arith only []
    refine sp_is_whole _ _ _ fun b hb => ?_
    have : b = true := hb.mpr ⟨i, rfl, by have := h.rng i hi; omega⟩
    rw [this]
    exact r
  · rw [List.nil_append, all_of]
    refine ⟨all_bools _ _, ?_⟩
    rw [show (l.all fun _ => true) = true by simp]
    simp_arith only []
    refine sp_are_ascending l (h.small hn) fun b hb => ?_
    rw [hb.mpr h.asc]
    exact q
/-- a schema -/
structure Val (n : Nat) (rs : List (List Int × List Int)) : Prop where
  n1 : 1 ≤ n
  n6 : n ≤ 6
  few : rs.length ≤ 10
  lots : ∀ r ∈ rs, InL n r.1 ∧ InL n r.2
  asc : rs.Pairwise fun a b => PySem.W.dataLt (ruleD a) (ruleD b) = true
theorem sp_is_rule {n : Nat} {r : List Int × List Int} (hn : n ≤ 64) (h : InL n r.1 ∧ InL n r.2) {Q : D → Prop} (q : Q (.bool true)) : w_is_rule never [.dat (.int n), .dat (ruleD r)] Q := by
  refine body_in rfl ?_
  unfold t_is_rule ruleD
  simp_arith only [isiD, isiN, tyOf]
  refine ⟨rfl, ?_⟩
  simp_arith only [eqv_int]
  have e : [T r.1, T r.2] = [r.1, r.2].map T := rfl
  rw [e]
  refine compD_mp _ (fun _ => .bool true) (fun l hl R1 R0 k => ?_) (by simp [sizeLine_eq]) ?_
  · simp_arith only []
    refine sp_is_lot_of hn ?_ k
    simp only [List.mem_cons, List.not_mem_nil, or_false] at hl
    rcases hl with rfl | rfl
    · exact h.1
    · exact h.2
  · rw [List.nil_append, all_of]
    exact ⟨all_bools _ _, by simpa using q⟩
theorem at0 {α : Type} (a : α) (l : List α) : L2.atI (a :: l) 0 = some a := L2.atI_nat (j := 0) rfl
theorem at1 {α : Type} (a b : α) (l : List α) : L2.atI (a :: b :: l) 1 = some b := L2.atI_nat (j := 1) rfl
theorem mem_enum {xs : List D} {d : D} (h : d ∈ pairsD (rangeD 0 xs.length) xs) : ∃ (i : Nat) (x : D), xs[i]? = some x ∧ d = .tuple [.int i, x] := by
  unfold pairsD at h
  obtain ⟨p, hp, rfl⟩ := List.mem_map.mp h
  obtain ⟨i, hi⟩ := List.mem_iff_getElem?.mp hp
  obtain ⟨h1, h2⟩ := List.getElem?_zip_eq_some.mp hi
  unfold rangeD at h1
  rw [List.getElem?_map] at h1
  obtain ⟨j, hj, e⟩ := Option.map_eq_some_iff.mp h1
  have : j = i := by
    obtain ⟨hl, e⟩ := List.getElem?_eq_some_iff.mp hj
    rw [← e, List.getElem_range]
  subst this
  refine ⟨j, p.2, h2, ?_⟩
  rw [← e]
  simp
theorem alike_ints : ∀ l m : List Int, PySem.W.alikeAll (l.map .int) (m.map .int) = true
  | [], m => by cases m <;> rfl
  | _ :: _, [] => rfl
  | a :: l, b :: m => by
    rw [List.map_cons, List.map_cons, PySem.W.alikeAll, alike_ints l m]
    rfl
theorem alike_T (l m : List Int) : PySem.W.alike (T l) (T m) = true := by
  unfold T
  rw [PySem.W.alike]
  exact alike_ints l m
theorem alike_rule (r s : List Int × List Int) : PySem.W.alike (ruleD r) (ruleD s) = true := by
  unfold ruleD
  rw [PySem.W.alike, PySem.W.alikeAll, PySem.W.alikeAll, alike_T, alike_T]
  rfl
theorem depth_ints : ∀ l : List Int, PyData.depthAll (l.map .int) = 0
  | [] => rfl
  | a :: l => by rw [List.map_cons, PyData.depthAll, depth_ints l]; rfl
theorem depth_T (l : List Int) : (T l).depth = 1 := by
  unfold T
  rw [PyData.depth, depth_ints]
theorem depth_rule (r : List Int × List Int) : (ruleD r).depth = 2 := by
  unfold ruleD
  rw [PyData.depth, PyData.depthAll, PyData.depthAll, depth_T, depth_T]
  rfl
theorem sp_schema_fault {n : Nat} {rs : List (List Int × List Int)} (h : Val n rs) {Q : D → Prop} (q : Q .none) : w_schema_fault never [.dat (schD n rs)] Q := by
  refine body_in rfl ?_
  have n1 := h.n1
  have n6 := h.n6
  have few := h.few
  unfold t_schema_fault schD
  simp_arith only [isiD, isiN, tyOf, at0, at1]
  refine ⟨rfl, ?_⟩
  simp_arith only [eqv_int]
  refine sp_is_whole _ _ _ fun b hb => ?_
  have : b = true := hb.mpr ⟨n, rfl, by omega⟩
  subst this
  simp_arith only [isiD, isiN, tyOf, at0, at1]
  rw [show decide ((10 : Int) < ((rs.map ruleD).length : Nat)) = false by rw [List.length_map]; exact decide_eq_false (by omega)]
  simp_arith only []
  refine forD_inv (fun ds η => (∀ d ∈ ds, ∃ (i : Nat) (r : List Int × List Int), rs[i]? = some r ∧ d = .tuple [.int i, ruleD r]) ∧ ∃ x1 x2, η = [.dat (.tuple [.int n, .tuple (rs.map ruleD)]), x1, x2]) ?_ ?_ ⟨fun d hd => ?_, _, _, rfl⟩
  · rintro d ds η ⟨hd, x1, x2, rfl⟩ nx hn
    obtain ⟨i, r, hi, rfl⟩ := hd d List.mem_cons_self
    have hr := h.lots r (List.mem_of_getElem? hi)
    simp_arith only [at0, at1]
    refine sp_is_rule (by omega) hr ?_
    simp_arith only []
    by_cases i0 : (0 : Int) < (i : Nat)
    · simp_arith only [decide_eq_true i0]
      have hi1 : i - 1 < rs.length := by
        have := (List.getElem?_eq_some_iff.mp hi).1
        omega
      have e : L2.atI (rs.map ruleD) ((i : Int) - 1) = some (ruleD rs[i - 1]) := by
        have := L2.atI_nat (xs := rs.map ruleD) (j := i - 1) (v := ruleD rs[i - 1]) (by rw [List.getElem?_map, List.getElem?_eq_getElem hi1]; rfl)
        rwa [show ((i - 1 : Nat) : Int) = (i : Int) - 1 by omega] at this
      simp_arith only [e]
      have lt : PySem.W.dataLt (ruleD rs[i - 1]) (ruleD r) = true := by
        obtain ⟨hl, e2⟩ := List.getElem?_eq_some_iff.mp hi
        have := List.pairwise_iff_getElem.mp h.asc (i - 1) i hi1 hl (by omega)
        rwa [e2] at this
      have al := alike_rule rs[i - 1] r
      have dp : (ruleD rs[i - 1]).depth ≤ 64 := by rw [depth_rule]; decide
      have nd1 : (ruleD rs[i - 1]).hasDict = false := nd_alike _ (alike_rule _ _)
      have nd2 : (ruleD r).hasDict = false := nd_alike _ (alike_rule _ _)
      unfold ruleD at lt al dp nd1 nd2 ⊢
      refine ⟨⟨al, dp, nd1, nd2⟩, ?_⟩
      simp_arith only [lt]
      exact hn _ ⟨fun d hd' => hd d (List.mem_cons_of_mem _ hd'), _, _, rfl⟩
    · simp_arith only [decide_eq_false i0]
      exact hn _ ⟨fun d hd' => hd d (List.mem_cons_of_mem _ hd'), _, _, rfl⟩
  · rintro η ⟨_, x1, x2, rfl⟩
    exact q
  · obtain ⟨i, x, hx, rfl⟩ := mem_enum hd
    rw [List.getElem?_map] at hx
    obtain ⟨r, hr, rfl⟩ := Option.map_eq_some_iff.mp hx
    exact ⟨i, r, hr, rfl⟩
theorem sp_need_schema {E : XP} {n : Nat} {rs : List (List Int × List Int)} (h : Val n rs) {Q : D → Prop} (q : Q (schD n rs)) : w_need_schema E [.dat (schD n rs)] Q := by
  refine body_in rfl ?_
  unfold t_need_schema
  simp_arith only []
  refine sp_schema_fault h ?_
  simp_arith only []
  exact q
theorem rp_col {x : Int} {n : Nat} (hn : n ≤ 64) (h : 0 ≤ x ∧ x < n) : Rp 0 41 (.int x) := rp_int (by omega)
theorem rp_T {l : List Int} (n : Nat) (hl : l.length ≤ n) (h : ∀ x ∈ l, x.natAbs < 10 ^ 12) : Rp 1 (n * 42) (T l) := rp_tup n (fun d hd => by
  obtain ⟨x, hx, rfl⟩ := List.mem_map.mp hd
  exact rp_int (h x hx)) (by rw [List.length_map]; exact hl)
/-- which columns are in both -/
theorem sp_is_inside {l m : List Int} (k : Bool) (hl : l.length ≤ 64) (hm : m.length ≤ 64) (sl : ∀ x ∈ l, x.natAbs < 10 ^ 12) (sm : ∀ x ∈ m, x.natAbs < 10 ^ 12) {Q : D → Prop} (q : Q (.bool (l.all fun x => decide (x ∈ m)))) :
    w_is_inside never [.dat (T l), .dat (if k then T m else .list (m.map .int))] Q := by
  refine body_in rfl ?_
  unfold t_is_inside
  have e : T l = .tuple (l.map .int) := rfl
  rw [e]
  simp_arith only []
  refine compD_mp _ (fun x => .bool (decide (x ∈ m))) (fun x hx R1 R0 r => ?_) (by rw [sizeLine_eq]; simp; omega) ?_
  · have sx := (rp_int (sl x hx)).shaped (by decide)
    have rm := rp_T 64 hm sm
    cases k with
    | true =>
      unfold T at rm ⊢
      simp_arith only []
      refine ⟨sx, rm.shaped (by decide), ?_⟩
      rw [any_int]
      exact r
    | false =>
      simp_arith only []
      refine ⟨sx, (rp_lst 64 (k := 0) (w := 41) (fun d hd => ?_) (by rw [List.length_map]; exact hm)).shaped (by decide), ?_⟩
      · obtain ⟨x, hx, rfl⟩ := List.mem_map.mp hd
        exact rp_int (sm x hx)
      · rw [any_int]
        exact r
  · rw [List.nil_append, all_of]
    exact ⟨all_bools _ _, q⟩
end Lw

/-! PL2: lots, what is settled. -/
namespace Lw
open PySem DL PL
open Lean.Parser.Tactic in
local macro_rules | `(tactic| simp_arith only [$xs,*] $[$l:location]?) => `(tactic| simp -implicitDefEqProofs only [x_sSeq, x_sNext, x_sSet, x_sSetL, x_sOwn, x_sOwnL, x_sNew, x_sPar, x_sParN, x_sRet, x_sRetN, x_sIf, x_sDrop, x_sFor, x_sWhile, x_sNever, x_sFrz, x_sApp, x_sAppL, x_sExtL, x_sExtS, x_onSeqEL, x_onSeqET, x_sAug, x_sAsg, x_sBreak, x_sCont, x_onDat, x_onSeqL, x_onSeqT, x_on1I, x_on2I, x_on2L, x_on2T, x_onScr, x_ifB, x_onS, x_onOwn, x_onList, x_onInt, x_onCInt, x_isDrw, x_lenScr, x_dV, x_dK, x_dOp, x_dTup, x_dNew, x_nLst, x_nCall, x_nComp, x_nRg, x_dTupRg, x_gRg1, x_gRg2, x_dCall, x_dCallF, x_dSl, x_oNone, x_oSome, x_dAnd, x_dOr, x_dNot, x_oNeg, x_bVal, x_bAnd, x_bOr, x_bNot, x_dIf, x_dChain, x_aNil, x_aCons, x_cNil, x_cCons, x_cDrw, x_iSeq, x_iRange1, x_iRange2, x_iZip2, x_iEnum1, x_iEnumZ, x_on2TT, x_nSortSet, x_onTupO, x_nSortSetI, x_nSortSetE, x_fMinL, x_fSumL, x_dDict0, x_sIns, x_sPut, x_sRaise, x_dCallE, x_sTry1, x_gN, x_gT, x_gCons, x_gNil, x_bYes, x_fLenL, x_fLenT, x_fLenS, x_fTupleL, x_fTupleT, x_fListL, x_fListT, x_fSorted, x_fAll, x_fAny, x_fSum, x_fIntI, x_fIntB, x_fMin2, x_fMax2, x_fRepr, x_dIsi, x_lend, x_lendD, x_lendO, x_lendR, x_lendU, x_lendS, x_wipe0, x_wipe1, x_addI, x_addS, x_addL, x_addT, x_sub, x_mod, x_div, x_mulW, x_divW, x_pow, x_mulI, x_mulL, x_eq, x_ne, x_inL, x_inT, x_mul2T, x_mul3T, x_dTwo, x_nSortSetL, x_sM2, x_sM3, x_on2C, x_on3C, x_mNil, x_mD, x_mN, x_aStar, x_fSortedT, x_isB, x_isN, x_isN0, x_isNI, x_isNT, x_isNL, x_isNS, x_isNB, x_lt, x_ltT, x_ord, x_ordT, x_ixL, x_ixT, x_ixS, x_fListD, x_fListDL, x_fReprD, x_dRev, x_nCat2, x_sOwnCat, x_onSeqRL, x_onSeqRT, x_onCat, x_eqT0, x_neL0, x_eqL0, x_neT0, x_addBI, x_addBB, x_fSortedD, x_dDc, x_dLend, x_bLend, x_nLend, x_sMut, x_dMutP, x_onMD, x_sPutM, x_sRetM, x_sRetS, x_onMt, x_cMut, x_onMx, x_stM, x_sCallM, x_sSetM, x_mTest, x_mCall, x_mAnd, x_sIfM, x_nSortSetT, x_fLenD, x_sUpdM, x_onDct, x_iSeqD, x_lendM, x_fMin2D, x_dFld, x_onLin, x_dMeth, x_sPutI, x_onIst, x_onDctF, x_sRetI, x_onIt, x_onIx, x_stI, x_mCallE, x_sDoI, x_sSetI, x_sExtI, x_sFldV, x_sFldM, x_dDcM, x_sMakeI, x_nComp2, x_bIfE, x_lendL, x_lendI, x_ownIx, x_ownLen, x_sColM, x_onAny, x_onMxM, x_onLs, x_stMM, x_colGo0, x_sAli2, x_dLendA, x_nLendA, x_lendA, x_aliD0, x_aliD1, x_onObj, x_lendO', x_sUnp, x_dNewF, x_dNewC, x_cNewL, x_dCallXM, x_sRetMN, x_sAsgM, x_sSelfM, x_sFrzM, x_sPopI, x_fMaxI, x_dGet, x_mSetd, x_gTL, x_iZipM, x_onStr, x_nSplit, x_dJoin, x_fStrI, x_fStrS, x_fIntT, x_oInSg, x_iTxt, x_sStar1, x_dDisp1, x_onMf, x_sAppM, x_sAppR, x_onFz, x_sRetSelfM, x_sInsR, x_sPopR, x_sPutR, x_sInsM, x_dIdx, x_oNotInSg, x_sRaise2, x_sTryN, x_nCompE, x_on2M, x_dSetEq, x_dHeard, x_dLenSet, oGe2, oLe2, oGt2, List.getElem?_cons_zero, List.getElem?_cons_succ, List.getElem?_nil, List.set_cons_zero, List.set_cons_succ, List.map_cons, List.map_nil, List.length_cons, List.length_nil, List.replicate, List.cons_append, List.nil_append, Nat.reduceSub, Nat.reduceAdd, Nat.zero_add, if_true, Bool.false_eq_true, if_false, bne_self_eq_false, Bool.true_bne, Bool.false_bne, Bool.not_true, Bool.not_false, true_and, and_true, Bool.bne_false, Bool.bne_true, $xs,*] $[$l:location]?)
theorem ds_tup (l : List Int) (c : Int) : (T (l ++ [c])) = .tuple (l.map .int ++ [.int c]) := by
  unfold T
  rw [List.map_append]
  rfl
theorem pow_small {n : Nat} (h : n ≤ 12) : 2 ^ n ≤ 4096 := Nat.le_trans (Nat.pow_le_pow_right (by decide) h) (by decide)
/-- a row of ints, as a tuple or a list -/
def seqD (k : Bool) (l : List Int) : D := if k then T l else .list (l.map .int)
theorem srt_lots {cs : List Int} (h : Asc cs) : SrtOk ((rawLots cs).map T) := by
  obtain ⟨_, _, _, h4⟩ := rawLots_all cs.length cs rfl h.nodup
  refine ⟨fun d hd d' hd' => ?_, .inr ⟨fun d hd => ?_, ?_⟩, fun d hd => ?_⟩
  · obtain ⟨l, _, rfl⟩ := List.mem_map.mp hd
    obtain ⟨m, _, rfl⟩ := List.mem_map.mp hd'
    exact alike_T l m
  · obtain ⟨l, _, rfl⟩ := List.mem_map.mp hd
    exact ⟨_, rfl⟩
  · rw [List.getElem?_map]
    rw [List.head?_eq_getElem?] at h4
    rw [h4]
    rfl
  · obtain ⟨l, _, rfl⟩ := List.mem_map.mp hd
    rw [depth_T]
    decide
theorem sp_all_lots (k : Bool) {cs : List Int} (h : Asc cs) (hl : cs.length ≤ 12) {Q : D → Prop} (q : Q (.list ((lexLots cs).map T))) : w_all_lots never [.dat (seqD k cs)] Q := by
  refine body_in rfl ?_
  unfold t_all_lots
  simp_arith only []
  refine ⟨by rw [sizeLine_eq]; decide, by rw [sizeLine_eq]; decide, ?_⟩
  have fin : ∀ z : EndsD, (∀ x2 x3, z.nx [.dat (seqD k cs), .dat (.list ((rawLots cs).map T)), x2, x3]) →
      forD (gN 2) (sSet 1 (dOp oAdd (dV 1) (dNew (nComp [3] (iSeq (dV 1)) (gN 3) bYes (dOp oAdd (dV 3) (dTup (aCons (dV 2) aNil))))))) never z (cs.map .int) [.dat (seqD k cs), .dat (.list [.tuple []]), .un, .un] := by
    intro z hz
    refine forD_inv (fun ds η => ∃ done rest x2 x3, cs = done ++ rest ∧ ds = rest.map .int ∧ η = [.dat (seqD k cs), .dat (.list ((rawLots done).map T)), x2, x3]) ?_ ?_ ⟨[], cs, .un, .un, rfl, rfl, rfl⟩
    · rintro d ds η ⟨done, rest, x2, x3, e, e2, rfl⟩ nx hn
      cases rest with
      | nil => cases e2
      | cons c rest =>
        simp only [List.map_cons, List.cons.injEq] at e2
        obtain ⟨rfl, rfl⟩ := e2
        have hd : (rawLots done).length = 2 ^ done.length ∧ ∀ l, l ∈ rawLots done ↔ l.Sublist done := by
          have ha : Asc done := h.sublist (by rw [e]; exact List.sublist_append_left _ _)
          obtain ⟨_, h2, h3, _⟩ := rawLots_all done.length done rfl ha.nodup
          exact ⟨h3, h2⟩
        have dl : done.length ≤ 12 := by
          have := congrArg List.length e
          rw [List.length_append] at this
          omega
        have dp := pow_small dl
        simp_arith only []
        refine compD_mp T (fun l => T (l ++ [c])) (fun l hl R1 R0 r => ?_) (by rw [sizeLine_eq]; simp; omega) ?_
        · have ll : l.length ≤ 12 := Nat.le_trans ((hd.2 l).mp hl).length_le dl
          rw [ds_tup] at r
          unfold T
          simp_arith only []
          refine ⟨by rw [sizeLine_eq]; decide, ?_⟩
          simp_arith only [List.length_map]
          refine ⟨by rw [sizeLine_eq]; omega, r⟩
        · simp_arith only []
          refine ⟨?_, ?_⟩
          · simp only [List.length_map]
            rw [sizeLine_eq]
            omega
          · refine hn _ ⟨done ++ [c], rest, .dat (.int c), x3, by rw [e]; simp, rfl, ?_⟩
            rw [rawLots_snoc, List.map_append, List.map_map]
            rfl
    · rintro η ⟨done, rest, x2, x3, e, e2, rfl⟩
      have : rest = [] := by cases rest with
        | nil => rfl
        | cons c r => cases e2
      subst this
      rw [List.append_nil] at e
      subst e
      exact hz _ _
  have out : SrtOk ((rawLots cs).map T) ∧ Q (.list (sortD ((rawLots cs).map T))) := ⟨srt_lots h, by rw [sort_lots h]; exact q⟩
  cases k with
  | true => exact fin _ fun x2 x3 => out
  | false => exact fin _ fun x2 x3 => out
theorem sp_columns_of {n : Nat} {rs : Rules} (hn : n ≤ 64) {Q : D → Prop} (q : Q (T (cols n))) : w_columns_of never [.dat (schD n rs)] Q := by
  refine body_in rfl ?_
  unfold t_columns_of schD
  simp_arith only [at0]
  refine ⟨.of_le (Int.le_refl 0) (by omega) (by decide) (by omega), ?_⟩
  rw [show ((n : Int) - 0).toNat = n by omega, cols_range]
  exact q
theorem flat_ints (l : List Int) : flatAll (l.map .int) = true := by
  induction l with
  | nil => rfl
  | cons a l ih => rw [List.map_cons, flatAll, ih]; rfl
/-- while it grows -/
structure Grow (n : Nat) (rs : Rules) (l F : List Int) : Prop where
  rng : ∀ x ∈ F, 0 ≤ x ∧ x < n
  nd : F.Nodup
  has : ∀ x ∈ l, x ∈ F
  min : ∀ m, InL n m → Cl rs m → (∀ x ∈ l, x ∈ m) → ∀ x ∈ F, x ∈ m
theorem Grow.len {n : Nat} {rs : Rules} {l F : List Int} (g : Grow n rs l F) : F.length ≤ n := by
  have p : ((cols n).filter fun x => decide (x ∈ F)).Perm F := (List.perm_ext_iff_of_nodup (Asc.nodup ((cols_asc n).sublist List.filter_sublist)) g.nd).mpr fun x => by
    rw [List.mem_filter, mem_cols, decide_eq_true_eq]
    exact ⟨fun h => h.2, fun h => ⟨g.rng x h, h⟩⟩
  rw [← p.length_eq]
  have := (List.filter_sublist (p := fun x => decide (x ∈ F)) (l := cols n)).length_le
  rwa [cols_len] at this
theorem Grow.more {n : Nat} {rs : Rules} {l F : List Int} {r : List Int × List Int} (g : Grow n rs l F) (hr : r ∈ rs) (h2 : InL n r.2) (h : ∀ x ∈ r.1, x ∈ F) : Grow n rs l (F ++ r.2.filter fun x => decide (x ∉ F)) where
  rng := fun x hx => by
    rcases List.mem_append.mp hx with hx | hx
    · exact g.rng x hx
    · exact h2.rng x (List.mem_filter.mp hx).1
  nd := List.nodup_append.mpr ⟨g.nd, Asc.nodup (h2.asc.sublist List.filter_sublist), fun a ha b hb e => by
    have := (List.mem_filter.mp hb).2
    rw [decide_eq_true_eq] at this
    exact this (e ▸ ha)⟩
  has := fun x hx => List.mem_append_left _ (g.has x hx)
  min := fun m h1 h3 h4 x hx => by
    rcases List.mem_append.mp hx with hx | hx
    · exact g.min m h1 h3 h4 x hx
    · exact h3 r hr (fun y hy => g.min m h1 h3 h4 y (h y hy)) x (List.mem_filter.mp hx).1
theorem sp_settled_in {n : Nat} {rs : Rules} (h : Val n rs) {l : List Int} (hl : InL n l) {Q : D → Prop} (q : Q (T (settle n rs l))) : w_settled_in never [.dat (schD n rs), .dat (T l)] Q := by
  refine body_in rfl ?_
  have n6 := h.n6
  have few := h.few
  unfold t_settled_in schD
  rw [show T l = .tuple (l.map .int) from rfl]
  simp_arith only []
  refine ⟨2 * (n - l.length) + 1 + 1, ?_⟩
  refine whileD_inv (fun k η => ∃ F size x4 x5 x6, η = [.dat (.tuple [.int n, .tuple (rs.map ruleD)]), .dat (.tuple (l.map .int)), .own (F.map .int), .dat (.int size), x4, x5, x6] ∧ Grow n rs l F ∧ (size < (F.length : Int) ∨ Cl rs F) ∧
    (2 * (n - F.length) + (if size < (F.length : Int) then 1 else 0) ≤ k)) ?_ ⟨l, -1, .un, .un, .un, rfl, ⟨hl.rng, hl.asc.nodup, fun x hx => hx, fun m _ _ hm => hm⟩, .inl (by omega), by rw [if_pos (by omega)]; exact Nat.le_refl _⟩
  rintro k η ⟨F, size, x4, x5, x6, rfl, g, hs, hk⟩ nx hn
  simp_arith only [List.length_map]
  have Fl := g.len
  by_cases hc : size < (F.length : Int)
  · rw [if_pos hc] at hk
    simp_arith only [decide_eq_true hc, List.length_map]
    refine ⟨rfl, ?_⟩
    simp_arith only [at1]
    refine forD_inv (fun ds η => ∃ done rest E x4 x5 x6, rs = done ++ rest ∧ ds = rest.map ruleD ∧ η = [.dat (.tuple [.int n, .tuple (rs.map ruleD)]), .dat (.tuple (l.map .int)), .own ((F ++ E).map .int), .dat (.int F.length), x4, x5, x6] ∧ Grow n rs l (F ++ E) ∧
      (E = [] → ∀ r ∈ done, (∀ x ∈ r.1, x ∈ F) → ∀ x ∈ r.2, x ∈ F)) ?_ ?_ ⟨[], rs, [], x4, x5, x6, rfl, rfl, by rw [List.append_nil], by rw [List.append_nil]; exact g, fun _ r hr => by cases hr⟩
    · rintro d ds η ⟨done, rest, E, x4, x5, x6, e, e2, rfl, g2, hd⟩ nx2 hn2
      cases rest with
      | nil => cases e2
      | cons r rest =>
        simp only [List.map_cons, List.cons.injEq] at e2
        obtain ⟨rfl, rfl⟩ := e2
        have hr : r ∈ rs := by rw [e]; simp
        have hlr := h.lots r hr
        have g2l := g2.len
        unfold ruleD
        simp_arith only []
        refine sp_is_inside false (by have := hlr.1.len; omega) (by omega) (fun x hx => by have := hlr.1.rng x hx; omega) (fun x hx => by have := g2.rng x hx; omega) ?_
        simp_arith only []
        have sub : (r.1.all fun x => decide (x ∈ F ++ E)) = true ↔ ∀ x ∈ r.1, x ∈ F ++ E := by simp
        by_cases hi : (r.1.all fun x => decide (x ∈ F ++ E)) = true
        · simp_arith only [hi]
          have e3 : T r.2 = .tuple (r.2.map .int) := rfl
          rw [e3]
          simp_arith only []
          refine compD_fl _ PyData.int (fun x => decide (x ∉ F ++ E)) (fun x hx R1 R0 k1 k0 => ?_) (by have := hlr.2.len; rw [sizeLine_eq]; simp; omega) ?_
          · simp_arith only []
            refine ⟨(rp_col (by omega) (hlr.2.rng x hx)).shaped (by decide), (rp_lst 64 (k := 0) (w := 41) (fun d hd => ?_) (by rw [List.length_map]; omega)).shaped (by decide), ?_⟩
            · obtain ⟨y, hy, rfl⟩ := List.mem_map.mp hd
              exact rp_col (by omega) (g2.rng y hy)
            · rw [any_int]
              by_cases hx2 : x ∈ F ++ E
              · rw [decide_eq_true hx2]
                simp_arith only []
                exact k0 (decide_eq_false fun z => z hx2)
              · rw [decide_eq_false hx2]
                simp_arith only []
                exact k1 (decide_eq_true hx2)
          · rw [List.nil_append]
            have g3 := g2.more hr hlr.2 (sub.mp hi)
            have g3l := g3.len
            rw [List.length_append] at g3l
            refine ⟨flat_ints _, by rw [List.length_map, List.length_map, sizeLine_eq]; omega, ?_⟩
            rw [← List.map_append]
            refine hn2 _ ⟨done ++ [r], rest, E ++ r.2.filter (fun x => decide (x ∉ F ++ E)), .dat (T r.1), .dat (T r.2), x6, by rw [e]; simp, rfl, by rw [List.append_assoc]; rfl, by rw [← List.append_assoc]; exact g3, fun e0 r' hr' h1 x hx => ?_⟩
            obtain ⟨e1, e4⟩ := List.append_eq_nil_iff.mp e0
            rcases List.mem_append.mp hr' with z | z
            · exact hd e1 r' z h1 x hx
            · rw [List.mem_singleton] at z
              subst z
              subst e1
              by_cases hxF : x ∈ F
              · exact hxF
              · have : x ∈ r'.2.filter (fun x => decide (x ∉ F ++ [])) := List.mem_filter.mpr ⟨hx, by rw [List.append_nil]; exact decide_eq_true hxF⟩
                rw [e4] at this
                cases this
        · rw [Bool.not_eq_true] at hi
          simp_arith only [hi]
          refine hn2 _ ⟨done ++ [r], rest, E, .dat (T r.1), .dat (T r.2), x6, by rw [e]; simp, rfl, rfl, g2, fun e0 r' hr' h1 x hx => ?_⟩
          rcases List.mem_append.mp hr' with z | z
          · exact hd e0 r' z h1 x hx
          · rw [List.mem_singleton] at z
            subst z
            subst e0
            rw [List.append_nil] at hi
            have : (r'.1.all fun x => decide (x ∈ F)) = true := by simpa using h1
            rw [this] at hi
            cases hi
    · rintro η ⟨done, rest, E, x4, x5, x6, e, e2, rfl, g2, hd⟩
      have : rest = [] := by cases rest with
        | nil => rfl
        | cons c r => cases e2
      subst this
      rw [List.append_nil] at e
      subst e
      have g2l := g2.len
      rw [List.length_append] at g2l
      cases k with
      | zero => omega
      | succ k =>
        refine hn k _ rfl ⟨F ++ E, F.length, x4, x5, x6, rfl, g2, ?_, ?_⟩
        · cases E with
          | nil => right; rw [List.append_nil]; exact hd rfl
          | cons y E => left; simp; omega
        · rw [List.length_append]
          split <;> omega
  · simp_arith only [decide_eq_false hc]
    have hcl := hs.resolve_left hc
    have pm := settle_grown g.rng g.nd g.has g.min hcl
    refine ⟨⟨fun d hd d' hd' => ?_, .inl (.inr fun d hd => ?_), fun d hd => ?_⟩, ?_⟩
    · obtain ⟨x, _, rfl⟩ := List.mem_map.mp hd
      obtain ⟨y, _, rfl⟩ := List.mem_map.mp hd'
      rfl
    · obtain ⟨x, _, rfl⟩ := List.mem_map.mp hd
      exact ⟨by simp, by simp⟩
    · obtain ⟨x, _, rfl⟩ := List.mem_map.mp hd
      exact Nat.zero_le _
    · rw [sortD_ints pm (settle_in n rs l).asc]
      exact q
end Lw

/-! PL3: keys, closed lots; the law's own defs. -/
namespace Lw
open PySem DL PL
open Lean.Parser.Tactic in
local macro_rules | `(tactic| simp_arith only [$xs,*] $[$l:location]?) => `(tactic| simp -implicitDefEqProofs only [x_sSeq, x_sNext, x_sSet, x_sSetL, x_sOwn, x_sOwnL, x_sNew, x_sPar, x_sParN, x_sRet, x_sRetN, x_sIf, x_sDrop, x_sFor, x_sWhile, x_sNever, x_sFrz, x_sApp, x_sAppL, x_sExtL, x_sExtS, x_onSeqEL, x_onSeqET, x_sAug, x_sAsg, x_sBreak, x_sCont, x_onDat, x_onSeqL, x_onSeqT, x_on1I, x_on2I, x_on2L, x_on2T, x_onScr, x_ifB, x_onS, x_onOwn, x_onList, x_onInt, x_onCInt, x_isDrw, x_lenScr, x_dV, x_dK, x_dOp, x_dTup, x_dNew, x_nLst, x_nCall, x_nComp, x_nRg, x_dTupRg, x_gRg1, x_gRg2, x_dCall, x_dCallF, x_dSl, x_oNone, x_oSome, x_dAnd, x_dOr, x_dNot, x_oNeg, x_bVal, x_bAnd, x_bOr, x_bNot, x_dIf, x_dChain, x_aNil, x_aCons, x_cNil, x_cCons, x_cDrw, x_iSeq, x_iRange1, x_iRange2, x_iZip2, x_iEnum1, x_iEnumZ, x_on2TT, x_nSortSet, x_onTupO, x_nSortSetI, x_nSortSetE, x_fMinL, x_fSumL, x_dDict0, x_sIns, x_sPut, x_sRaise, x_dCallE, x_sTry1, x_gN, x_gT, x_gCons, x_gNil, x_bYes, x_fLenL, x_fLenT, x_fLenS, x_fTupleL, x_fTupleT, x_fListL, x_fListT, x_fSorted, x_fAll, x_fAny, x_fSum, x_fIntI, x_fIntB, x_fMin2, x_fMax2, x_fRepr, x_dIsi, x_lend, x_lendD, x_lendO, x_lendR, x_lendU, x_lendS, x_wipe0, x_wipe1, x_addI, x_addS, x_addL, x_addT, x_sub, x_mod, x_div, x_mulW, x_divW, x_pow, x_mulI, x_mulL, x_eq, x_ne, x_inL, x_inT, x_mul2T, x_mul3T, x_dTwo, x_nSortSetL, x_sM2, x_sM3, x_on2C, x_on3C, x_mNil, x_mD, x_mN, x_aStar, x_fSortedT, x_isB, x_isN, x_isN0, x_isNI, x_isNT, x_isNL, x_isNS, x_isNB, x_lt, x_ltT, x_ord, x_ordT, x_ixL, x_ixT, x_ixS, x_fListD, x_fListDL, x_fReprD, x_dRev, x_nCat2, x_sOwnCat, x_onSeqRL, x_onSeqRT, x_onCat, x_eqT0, x_neL0, x_eqL0, x_neT0, x_addBI, x_addBB, x_fSortedD, x_dDc, x_dLend, x_bLend, x_nLend, x_sMut, x_dMutP, x_onMD, x_sPutM, x_sRetM, x_sRetS, x_onMt, x_cMut, x_onMx, x_stM, x_sCallM, x_sSetM, x_mTest, x_mCall, x_mAnd, x_sIfM, x_nSortSetT, x_fLenD, x_sUpdM, x_onDct, x_iSeqD, x_lendM, x_fMin2D, x_dFld, x_onLin, x_dMeth, x_sPutI, x_onIst, x_onDctF, x_sRetI, x_onIt, x_onIx, x_stI, x_mCallE, x_sDoI, x_sSetI, x_sExtI, x_sFldV, x_sFldM, x_dDcM, x_sMakeI, x_nComp2, x_bIfE, x_lendL, x_lendI, x_ownIx, x_ownLen, x_sColM, x_onAny, x_onMxM, x_onLs, x_stMM, x_colGo0, x_sAli2, x_dLendA, x_nLendA, x_lendA, x_aliD0, x_aliD1, x_onObj, x_lendO', x_sUnp, x_dNewF, x_dNewC, x_cNewL, x_dCallXM, x_sRetMN, x_sAsgM, x_sSelfM, x_sFrzM, x_sPopI, x_fMaxI, x_dGet, x_mSetd, x_gTL, x_iZipM, x_onStr, x_nSplit, x_dJoin, x_fStrI, x_fStrS, x_fIntT, x_oInSg, x_iTxt, x_sStar1, x_dDisp1, x_onMf, x_sAppM, x_sAppR, x_onFz, x_sRetSelfM, x_sInsR, x_sPopR, x_sPutR, x_sInsM, x_dIdx, x_oNotInSg, x_sRaise2, x_sTryN, x_nCompE, x_on2M, x_dSetEq, x_dHeard, x_dLenSet, oGe2, oLe2, oGt2, List.getElem?_cons_zero, List.getElem?_cons_succ, List.getElem?_nil, List.set_cons_zero, List.set_cons_succ, List.map_cons, List.map_nil, List.length_cons, List.length_nil, List.replicate, List.cons_append, List.nil_append, Nat.reduceSub, Nat.reduceAdd, Nat.zero_add, if_true, Bool.false_eq_true, if_false, bne_self_eq_false, Bool.true_bne, Bool.false_bne, Bool.not_true, Bool.not_false, true_and, and_true, Bool.bne_false, Bool.bne_true, $xs,*] $[$l:location]?)
variable {n : Nat} {rs : Rules} {l : List Int} {Q : D → Prop}
theorem T_eq (l : List Int) : T l = .tuple (l.map .int) := rfl
theorem InL.cols (n : Nat) : InL n (cols n) := .of_sub (List.Sublist.refl _)
theorem in_T {c : Int} {m : List Int} {neg : Bool} (hc : InL n m) (hn : n ≤ 64) (h : c.natAbs < 10 ^ 12) (q : Q (.bool (decide (c ∈ m) != neg))) : oIn neg (.int c) (T m) Q := by
  have r := (hc.rp hn).shaped (by decide)
  rw [T_eq] at r ⊢
  refine ⟨(rp_int h).shaped (by decide), r, ?_⟩
  rw [any_int]
  exact q
def closedL (n : Nat) (rs : Rules) : List (List Int) := (lexLots (cols n)).filter (clB rs)
theorem mem_closedL {m : List Int} : m ∈ closedL n rs ↔ InL n m ∧ Cl rs m := by
  unfold closedL
  rw [List.mem_filter, mem_lots, clB_iff]
theorem lots_len (h : n ≤ 6) : (lexLots (cols n)).length ≤ 64 := by
  obtain ⟨_, _, h3, _⟩ := rawLots_all n (cols n) (cols_len n) (cols_asc n).nodup
  rw [(lots_perm (cols_asc n)).length_eq, h3]
  exact Nat.le_trans (Nat.pow_le_pow_right (by decide) h) (by decide)
theorem closedL_len (h : n ≤ 6) : (closedL n rs).length ≤ 64 := Nat.le_trans (List.filter_sublist).length_le (lots_len h)
theorem settle_clB (h : Val n rs) (hl : InL n l) : decide (settle n rs l = l) = clB rs l := by
  rw [Bool.eq_iff_iff, decide_eq_true_eq, clB_iff, settle_self h.lots hl]
theorem sp_closed_in (h : Val n rs) (q : Q (.list ((closedL n rs).map T))) : w_closed_in never [.dat (schD n rs)] Q := by
  refine body_in rfl ?_
  have n6 := h.n6
  have ll := lots_len n6
  unfold t_closed_in
  simp_arith only []
  refine sp_columns_of (by omega) ?_
  refine sp_all_lots true (cols_asc n) (by rw [cols_len]; omega) ?_
  simp_arith only []
  refine compD_fl T T (clB rs) (fun l hl R1 R0 r1 r0 => ?_) (by rw [sizeLine_eq]; simp; omega) ?_
  · have hl := mem_lots.mp hl
    simp_arith only []
    refine sp_settled_in h hl ?_
    refine ⟨eqOk_rp ((settle_in n rs l).rp (by omega)) (hl.rp (by omega)), ?_⟩
    simp only [eqv_T, settle_clB h hl]
    cases e : clB rs l with
    | true => exact r1 e
    | false => exact r0 e
  · rw [List.nil_append]
    exact q
def keysL (n : Nat) (rs : Rules) : List (List Int) := (lexLots (cols n)).filter fun l => decide (settle n rs l = cols n)
def leastL (n : Nat) (rs : Rules) : List (List Int) := (keysL n rs).filter fun l => !((keysL n rs).any fun m => decide (m ≠ l) && subB m l)
/-! the law's own -/
theorem eqv_nil (xs : List D) : PyData.eqv (.list xs) (.list []) = xs.isEmpty := by
  cases xs with
  | nil => rfl
  | cons x xs => simp [PyData.eqv, PyData.eqvAll]
theorem filter_none {α : Type} (p : α → Bool) (xs : List α) : (xs.filter p).isEmpty = xs.all fun x => !p x := by
  induction xs with
  | nil => rfl
  | cons x xs ih =>
    cases e : p x with
    | true => rw [List.filter_cons_of_pos e]; simp [e]
    | false => rw [List.filter_cons_of_neg (by rw [e]; decide), List.all_cons, e, ih]; rfl
theorem sp_law_is_in {m : List Int} (h1 : InL n l) (h2 : InL n m) (hn : n ≤ 64) (q : Q (.bool (subB l m))) : w_law_is_in never [.dat (T l), .dat (T m)] Q := by
  refine body_in rfl ?_
  unfold t_law_is_in
  have ll := h1.len
  rw [T_eq l]
  simp_arith only []
  refine compD_fl PyData.int PyData.int (fun x => decide (x ∉ m)) (fun x hx R1 R0 r1 r0 => ?_) (by rw [sizeLine_eq]; simp; omega) ?_
  · simp_arith only []
    have hx := h1.rng x hx
    refine in_T h2 hn (by omega) ?_
    by_cases e : x ∈ m
    · rw [decide_eq_true e]
      exact r0 (decide_eq_false fun z => z e)
    · rw [decide_eq_false e]
      exact r1 (decide_eq_true e)
  · rw [List.nil_append]
    refine ⟨by rw [sizeLine_eq]; decide, eqOk_rp (rp_lst 64 (k := 0) (w := 41) (fun d hd => ?_) ?_) (rp_lst 0 (k := 0) (w := 0) (ds := []) (fun d hd => by cases hd) (Nat.le_refl _)), ?_⟩
    · obtain ⟨x, hx, rfl⟩ := List.mem_map.mp hd
      exact rp_col hn (h1.rng x (List.mem_filter.mp hx).1)
    · rw [List.length_map]
      exact Nat.le_trans (List.filter_sublist).length_le (by omega)
    · rw [eqv_nil, List.isEmpty_map, filter_none]
      have e : (l.all fun x => !decide (x ∉ m)) = subB l m := by
        have e9 : (fun x : Int => !decide (x ∉ m)) = fun x => decide (x ∈ m) := funext fun x => by by_cases e : x ∈ m <;> simp [e]
        unfold subB
        rw [e9]
      rw [e]
      exact q
theorem sp_law_closed (h : Val n rs) (q : Q (.list ((closedL n rs).map T))) : w_law_closed never [.dat (schD n rs)] Q := by
  refine body_in rfl ?_
  have n6 := h.n6
  have few := h.few
  have ll := lots_len n6
  unfold t_law_closed schD
  simp_arith only [at0]
  refine ⟨by rw [sizeLine_eq]; decide, .of_le (Int.le_refl 0) (by omega) (by decide) (by omega), ?_⟩
  rw [show ((n : Int) - 0).toNat = n by omega, cols_range]
  refine sp_all_lots false (cols_asc n) (by rw [cols_len]; omega) ?_
  simp_arith only []
  refine forD_inv (fun ds η => ∃ done rest x2 x3 x4, lexLots (cols n) = done ++ rest ∧ ds = rest.map T ∧ η = [.dat (.tuple [.int n, .tuple (rs.map ruleD)]), .own ((done.filter (clB rs)).map T), x2, x3, x4]) ?_ ?_ ⟨[], lexLots (cols n), .un, .un, .un, rfl, rfl, rfl⟩
  · rintro d ds η ⟨done, rest, x2, x3, x4, e, e2, rfl⟩ nx hn
    cases rest with
    | nil => cases e2
    | cons l rest =>
      simp only [List.map_cons, List.cons.injEq] at e2
      obtain ⟨rfl, rfl⟩ := e2
      have hl : InL n l := mem_lots.mp (by rw [e]; simp)
      have dl : done.length ≤ 64 := by
        have := congrArg List.length e
        rw [List.length_append] at this
        omega
      simp_arith only [at1]
      refine compD_fl ruleD (fun r => T r.1) (fun r => subB r.1 l && !subB r.2 l) (fun r hr R1 R0 r1 r0 => ?_) (by rw [sizeLine_eq]; simp; omega) ?_
      · have hr := h.lots r hr
        unfold ruleD
        simp_arith only []
        refine sp_law_is_in hr.1 hl (by omega) ?_
        simp_arith only []
        cases e1 : subB r.1 l with
        | false =>
          simp_arith only []
          exact r0 (by rw [e1]; rfl)
        | true =>
          simp_arith only []
          refine sp_law_is_in hr.2 hl (by omega) ?_
          simp_arith only []
          cases e3 : subB r.2 l with
          | true => exact r0 (by rw [e1, e3]; rfl)
          | false => exact r1 (by rw [e1, e3]; rfl)
      · rw [List.nil_append]
        refine ⟨by rw [sizeLine_eq]; decide, eqOk_rp (rp_lst 64 (k := 1) (w := 2688) (fun d hd => ?_) ?_) (rp_lst 0 (k := 0) (w := 0) (ds := []) (fun d hd => by cases hd) (Nat.le_refl _)), ?_⟩
        · obtain ⟨r, hr, rfl⟩ := List.mem_map.mp hd
          exact (h.lots r (List.mem_filter.mp hr).1).1.rp (by omega)
        · rw [List.length_map]
          exact Nat.le_trans (List.filter_sublist).length_le (by omega)
        · rw [eqv_nil, List.isEmpty_map, filter_none]
          have e4 : (rs.all fun r => !(subB r.1 l && !subB r.2 l)) = clB rs l := by
            have e9 : (fun r : List Int × List Int => !(subB r.1 l && !subB r.2 l)) = fun r => !(subB r.1 l) || subB r.2 l := funext fun r => by cases subB r.1 l <;> cases subB r.2 l <;> rfl
            unfold clB
            rw [e9]
          rw [e4]
          cases e5 : clB rs l with
          | true =>
            simp_arith only []
            refine ⟨?_, hn _ ⟨done ++ [l], rest, .dat (T l), x3, x4, by rw [e]; simp, rfl, ?_⟩⟩
            · rw [List.length_map, sizeLine_eq]
              have := (List.filter_sublist (p := clB rs) (l := done)).length_le
              omega
            · rw [List.filter_append, List.filter_cons_of_pos e5, List.map_append]
              rfl
          | false =>
            simp_arith only []
            refine hn _ ⟨done ++ [l], rest, .dat (T l), x3, x4, by rw [e]; simp, rfl, ?_⟩
            rw [List.filter_append, List.filter_cons_of_neg (by rw [e5]; decide), List.filter_nil, List.append_nil]
  · rintro η ⟨done, rest, x2, x3, x4, e, e2, rfl⟩
    have : rest = [] := by cases rest with
      | nil => rfl
      | cons c r => cases e2
    subst this
    rw [List.append_nil] at e
    subst e
    exact q
theorem sp_law_settled (h : Val n rs) (hl : InL n l) (q : Q (T (settle n rs l))) : w_law_settled never [.dat (schD n rs), .dat (T l)] Q := by
  refine body_in rfl ?_
  have n6 := h.n6
  have cl := closedL_len (rs := rs) n6
  unfold t_law_settled schD
  simp_arith only [at0]
  refine ⟨.of_le (Int.le_refl 0) (by omega) (by decide) (by omega), ?_⟩
  rw [show ((n : Int) - 0).toNat = n by omega, cols_range]
  refine sp_law_closed h ?_
  simp_arith only []
  refine forD_inv (fun ds η => ∃ done rest x3 x4, closedL n rs = done ++ rest ∧ ds = rest.map T ∧ η = [.dat (schD n rs), .dat (T l), .dat (T ((cols n).filter fun c => done.all fun m => !(subB l m) || decide (c ∈ m))), x3, x4]) ?_ ?_ ⟨[], closedL n rs, .un, .un, rfl, rfl, ?_⟩
  · rintro d ds η ⟨done, rest, x3, x4, e, e2, rfl⟩ nx hn
    cases rest with
    | nil => cases e2
    | cons m rest =>
      simp only [List.map_cons, List.cons.injEq] at e2
      obtain ⟨rfl, rfl⟩ := e2
      have hm := (mem_closedL.mp (show m ∈ closedL n rs by rw [e]; simp)).1
      simp_arith only []
      refine sp_law_is_in hl hm (by omega) ?_
      simp_arith only []
      have hF : InL n ((cols n).filter fun c => done.all fun m => !(subB l m) || decide (c ∈ m)) := .of_sub List.filter_sublist
      cases e1 : subB l m with
      | true =>
        simp_arith only []
        generalize hG : ((cols n).filter fun c => done.all fun m => !(subB l m) || decide (c ∈ m)) = F at hF ⊢
        have fl := hF.len
        rw [T_eq F]
        simp_arith only []
        refine compD_fl PyData.int PyData.int (fun x => decide (x ∈ m)) (fun x hx R1 R0 r1 r0 => ?_) (by rw [sizeLine_eq]; simp; omega) ?_
        · simp_arith only []
          have hx := hF.rng x hx
          refine in_T hm (by omega) (by omega) ?_
          by_cases e : x ∈ m
          · rw [decide_eq_true e]
            exact r1 (decide_eq_true e)
          · rw [decide_eq_false e]
            exact r0 (decide_eq_false e)
        · rw [List.nil_append]
          refine hn _ ⟨done ++ [m], rest, .dat (T m), x4, by rw [e]; simp, rfl, ?_⟩
          have e6 : F.filter (fun x => decide (x ∈ m)) = (cols n).filter fun c => (done ++ [m]).all fun m => !(subB l m) || decide (c ∈ m) := by
            rw [← hG, List.filter_filter]
            refine List.filter_congr fun x _ => ?_
            rw [List.all_append, List.all_cons, List.all_nil, e1, Bool.and_true, Bool.and_comm]
            rfl
          rw [e6]
          rfl
      | false =>
        simp_arith only []
        refine hn _ ⟨done ++ [m], rest, .dat (T m), x4, by rw [e]; simp, rfl, ?_⟩
        have e6 : ((cols n).filter fun c => done.all fun m => !(subB l m) || decide (c ∈ m)) = (cols n).filter fun c => (done ++ [m]).all fun m => !(subB l m) || decide (c ∈ m) := by
          refine List.filter_congr fun x _ => ?_
          rw [List.all_append, List.all_cons, List.all_nil, e1]
          simp
        rw [e6]
  · rintro η ⟨done, rest, x3, x4, e, e2, rfl⟩
    have : rest = [] := by cases rest with
      | nil => rfl
      | cons c r => cases e2
    subst this
    rw [List.append_nil] at e
    subst e
    have e7 : ((cols n).filter fun c => (closedL n rs).all fun m => !(subB l m) || decide (c ∈ m)) = settle n rs l := by
      refine asc_ext ((cols_asc n).sublist List.filter_sublist) (settle_in n rs l).asc fun x => ?_
      rw [List.mem_filter, mem_cols, mem_settle, List.all_eq_true]
      refine and_congr_right fun _ => ⟨fun h m h1 h2 h3 => ?_, fun h m hm => ?_⟩
      · have := h m (mem_closedL.mpr ⟨h1, h2⟩)
        rw [subB_iff.mpr h3] at this
        simpa using this
      · obtain ⟨h1, h2⟩ := mem_closedL.mp hm
        cases e : subB l m with
        | true => rw [decide_eq_true (h m h1 h2 (subB_iff.mp e))]; rfl
        | false => rfl
    rw [e7]
    exact q
  · have e8 : ((cols n).filter fun c => ([] : List (List Int)).all fun m => !(subB l m) || decide (c ∈ m)) = cols n := List.filter_eq_self.mpr fun _ _ => rfl
    rw [e8]
    rfl
end Lw

/-! PL4: the law's keys, draws, schemas. -/
namespace Lw
open PySem DL PL
open Lean.Parser.Tactic in
local macro_rules | `(tactic| simp_arith only [$xs,*] $[$l:location]?) => `(tactic| simp -implicitDefEqProofs only [x_sSeq, x_sNext, x_sSet, x_sSetL, x_sOwn, x_sOwnL, x_sNew, x_sPar, x_sParN, x_sRet, x_sRetN, x_sIf, x_sDrop, x_sFor, x_sWhile, x_sNever, x_sFrz, x_sApp, x_sAppL, x_sExtL, x_sExtS, x_onSeqEL, x_onSeqET, x_sAug, x_sAsg, x_sBreak, x_sCont, x_onDat, x_onSeqL, x_onSeqT, x_on1I, x_on2I, x_on2L, x_on2T, x_onScr, x_ifB, x_onS, x_onOwn, x_onList, x_onInt, x_onCInt, x_isDrw, x_lenScr, x_dV, x_dK, x_dOp, x_dTup, x_dNew, x_nLst, x_nCall, x_nComp, x_nRg, x_dTupRg, x_gRg1, x_gRg2, x_dCall, x_dCallF, x_dSl, x_oNone, x_oSome, x_dAnd, x_dOr, x_dNot, x_oNeg, x_bVal, x_bAnd, x_bOr, x_bNot, x_dIf, x_dChain, x_aNil, x_aCons, x_cNil, x_cCons, x_cDrw, x_iSeq, x_iRange1, x_iRange2, x_iZip2, x_iEnum1, x_iEnumZ, x_on2TT, x_nSortSet, x_onTupO, x_nSortSetI, x_nSortSetE, x_fMinL, x_fSumL, x_dDict0, x_sIns, x_sPut, x_sRaise, x_dCallE, x_sTry1, x_gN, x_gT, x_gCons, x_gNil, x_bYes, x_fLenL, x_fLenT, x_fLenS, x_fTupleL, x_fTupleT, x_fListL, x_fListT, x_fSorted, x_fAll, x_fAny, x_fSum, x_fIntI, x_fIntB, x_fMin2, x_fMax2, x_fRepr, x_dIsi, x_lend, x_lendD, x_lendO, x_lendR, x_lendU, x_lendS, x_wipe0, x_wipe1, x_addI, x_addS, x_addL, x_addT, x_sub, x_mod, x_div, x_mulW, x_divW, x_pow, x_mulI, x_mulL, x_eq, x_ne, x_inL, x_inT, x_mul2T, x_mul3T, x_dTwo, x_nSortSetL, x_sM2, x_sM3, x_on2C, x_on3C, x_mNil, x_mD, x_mN, x_aStar, x_fSortedT, x_isB, x_isN, x_isN0, x_isNI, x_isNT, x_isNL, x_isNS, x_isNB, x_lt, x_ltT, x_ord, x_ordT, x_ixL, x_ixT, x_ixS, x_fListD, x_fListDL, x_fReprD, x_dRev, x_nCat2, x_sOwnCat, x_onSeqRL, x_onSeqRT, x_onCat, x_eqT0, x_neL0, x_eqL0, x_neT0, x_addBI, x_addBB, x_fSortedD, x_dDc, x_dLend, x_bLend, x_nLend, x_sMut, x_dMutP, x_onMD, x_sPutM, x_sRetM, x_sRetS, x_onMt, x_cMut, x_onMx, x_stM, x_sCallM, x_sSetM, x_mTest, x_mCall, x_mAnd, x_sIfM, x_nSortSetT, x_fLenD, x_sUpdM, x_onDct, x_iSeqD, x_lendM, x_fMin2D, x_dFld, x_onLin, x_dMeth, x_sPutI, x_onIst, x_onDctF, x_sRetI, x_onIt, x_onIx, x_stI, x_mCallE, x_sDoI, x_sSetI, x_sExtI, x_sFldV, x_sFldM, x_dDcM, x_sMakeI, x_nComp2, x_bIfE, x_lendL, x_lendI, x_ownIx, x_ownLen, x_sColM, x_onAny, x_onMxM, x_onLs, x_stMM, x_colGo0, x_sAli2, x_dLendA, x_nLendA, x_lendA, x_aliD0, x_aliD1, x_onObj, x_lendO', x_sUnp, x_dNewF, x_dNewC, x_cNewL, x_dCallXM, x_sRetMN, x_sAsgM, x_sSelfM, x_sFrzM, x_sPopI, x_fMaxI, x_dGet, x_mSetd, x_gTL, x_iZipM, x_onStr, x_nSplit, x_dJoin, x_fStrI, x_fStrS, x_fIntT, x_oInSg, x_iTxt, x_sStar1, x_dDisp1, x_onMf, x_sAppM, x_sAppR, x_onFz, x_sRetSelfM, x_sInsR, x_sPopR, x_sPutR, x_sInsM, x_dIdx, x_oNotInSg, x_sRaise2, x_sTryN, x_nCompE, x_on2M, x_dSetEq, x_dHeard, x_dLenSet, oGe2, oLe2, oGt2, List.getElem?_cons_zero, List.getElem?_cons_succ, List.getElem?_nil, List.set_cons_zero, List.set_cons_succ, List.map_cons, List.map_nil, List.length_cons, List.length_nil, List.replicate, List.cons_append, List.nil_append, Nat.reduceSub, Nat.reduceAdd, Nat.zero_add, if_true, Bool.false_eq_true, if_false, bne_self_eq_false, Bool.true_bne, Bool.false_bne, Bool.not_true, Bool.not_false, true_and, and_true, Bool.bne_false, Bool.bne_true, $xs,*] $[$l:location]?)
variable {n : Nat} {rs : Rules} {l : List Int} {Q : D → Prop}
/-! draws -/
theorem sp_next {b : Int} (h0 : 0 < b) (h1 : b < 1073741824) (q : ∀ r, 0 ≤ r → r < b → Q (.int r)) : w_next never [.drw, .dat (.int b)] Q := ⟨⟨h0, h1⟩, q⟩
theorem sp_law_among {xs : List D} (h0 : xs ≠ []) (h1 : xs.length ≤ 1000) (q : ∀ x ∈ xs, Q x) : w_law_among never [.drw, .dat (.list xs)] Q := by
  refine body_in rfl ?_
  have : 0 < xs.length := List.length_pos_iff.mpr h0
  unfold t_law_among
  simp_arith only []
  refine sp_next (by omega) (by omega) fun r r0 r1 => ?_
  have hr : r.toNat < xs.length := by omega
  have e : L2.atI xs r = some xs[r.toNat] := by
    have := L2.atI_nat (xs := xs) (j := r.toNat) (v := xs[r.toNat]) (List.getElem?_eq_getElem hr)
    rwa [Int.toNat_of_nonneg r0] at this
  simp_arith only [e]
  exact q _ (List.getElem_mem hr)
theorem sp_law_lot {odds : Int} (hn : n ≤ 64) (h0 : 0 < odds) (h1 : odds < 1000) (q : ∀ l, InL n l → Q (T l)) : w_law_lot never [.drw, .dat (.int n), .dat (.int odds)] Q := by
  refine body_in rfl ?_
  unfold t_law_lot
  simp_arith only []
  refine ⟨⟨by omega, by omega⟩, ?_⟩
  rw [Int.toNat_natCast, cols_range]
  refine compD_sub (fun d hd R1 R0 r1 r0 => ?_) (by rw [sizeLine_eq, List.length_map, cols_len]; simp; omega) fun out ho => ?_
  · obtain ⟨c, _, rfl⟩ := List.mem_map.mp hd
    simp_arith only []
    refine sp_next (by omega) (by omega) fun r k0 k1 => ?_
    refine ⟨eqOk_rp (rp_int (by omega)) (rp_int (by decide)), ?_⟩
    simp only [eqv_int]
    by_cases e : r = 0
    · rw [if_pos (decide_eq_true e)]
      exact r1
    · rw [if_neg (by rw [decide_eq_false e]; decide)]
      exact r0
  · rw [List.nil_append]
    obtain ⟨l, hl, rfl⟩ := List.sublist_map_iff.mp ho
    exact q l (.of_sub hl)
theorem nodup_len {α : Type} : ∀ {l m : List α}, l.Nodup → (∀ x ∈ l, x ∈ m) → l.length ≤ m.length
  | [], m, _, _ => Nat.zero_le _
  | x :: l, m, hn, h => by
    classical
    obtain ⟨h1, h2⟩ := List.nodup_cons.mp hn
    obtain ⟨a, b, rfl⟩ := List.append_of_mem (h x List.mem_cons_self)
    have := nodup_len (m := a ++ b) h2 fun y hy => by
      have := h y (List.mem_cons_of_mem _ hy)
      simp only [List.mem_append, List.mem_cons] at this ⊢
      rcases this with z | z | z
      · exact .inl z
      · subst z; exact absurd hy h1
      · exact .inr z
    simp only [List.length_append, List.length_cons] at this ⊢
    omega
theorem back_rules {F : Rules} : ∀ {ys : List D}, (∀ y ∈ ys, y ∈ F.map ruleD) → ∃ rs : Rules, ys = rs.map ruleD ∧ ∀ r ∈ rs, r ∈ F
  | [], _ => ⟨[], rfl, fun r hr => by cases hr⟩
  | y :: ys, h => by
    obtain ⟨r, hr, e⟩ := List.mem_map.mp (h y List.mem_cons_self)
    obtain ⟨rs, e2, h2⟩ := back_rules fun z hz => h z (List.mem_cons_of_mem _ hz)
    refine ⟨r :: rs, by rw [List.map_cons, e, e2], fun x hx => ?_⟩
    rcases List.mem_cons.mp hx with z | z
    · rw [z]; exact hr
    · exact h2 x z
theorem itup_ints : ∀ l : List Int, itupAll (l.map .int) = true
  | [] => rfl
  | a :: l => by rw [List.map_cons, itupAll, itup_ints l]; rfl
theorem itup_rule (r : List Int × List Int) : itup (ruleD r) = true := by
  unfold ruleD T
  simp [itup, itupAll, itup_ints]
theorem lt_irrefl (d : D) : PySem.W.dataLt d d = false := PyProof.Rows.lex_irrefl _
end Lw

/-! PL5: schemas shown, by hand. -/
namespace Lw
open PySem DL PL
theorem rp_rule {n : Nat} {r : List Int × List Int} (h : InL n r.1 ∧ InL n r.2) (hn : n ≤ 64) : Rp 2 5378 (ruleD r) := rp_tup 2 (k := 1) (w := 2688) (fun d hd => by
  simp only [List.mem_cons, List.not_mem_nil, or_false] at hd
  rcases hd with rfl | rfl
  · exact h.1.rp hn
  · exact h.2.rp hn) (Nat.le_refl _)
theorem Val.rp {n : Nat} {rs : Rules} (h : Val n rs) : Rp 4 107582 (schD n rs) := by
  have n6 := h.n6
  have r1 : Rp 3 53790 (.tuple (rs.map ruleD)) := rp_tup 10 (k := 2) (w := 5378) (fun d hd => by
    obtain ⟨r, hr, rfl⟩ := List.mem_map.mp hd
    exact rp_rule (h.lots r hr) (by omega)) (by rw [List.length_map]; exact h.few)
  refine rp_tup 2 (k := 3) (w := 53790) (fun d hd => ?_) (Nat.le_refl _)
  simp only [List.mem_cons, List.not_mem_nil, or_false] at hd
  rcases hd with rfl | rfl
  · exact (rp_int (by omega)).mono (by decide) (by decide)
  · exact r1
theorem rp_two {k w : Nat} {d : D} (h : Rp k w d) : Rp (k + 1) (2 * (w + 1)) (.list [d, d]) := rp_lst 2 (fun x hx => by
  simp only [List.mem_cons, List.not_mem_nil, or_false] at hx
  rcases hx with rfl | rfl <;> exact h) (Nat.le_refl _)
/-! by hand -/
def inlB (n : Nat) (l : List Int) : Bool := decide (Asc l) && l.all fun x => decide (0 ≤ x) && decide (x < n)
theorem inl_of {n : Nat} {l : List Int} (h : inlB n l = true) : InL n l := by
  unfold inlB at h
  simp only [Bool.and_eq_true, decide_eq_true_eq, List.all_eq_true] at h
  exact ⟨h.1, h.2⟩
theorem val_of {n : Nat} {rs : Rules} (h : (decide (1 ≤ n) && decide (n ≤ 6) && decide (rs.length ≤ 10) && (rs.all fun r => inlB n r.1 && inlB n r.2) && decide (rs.Pairwise fun a b => PySem.W.dataLt (ruleD a) (ruleD b) = true)) = true) : Val n rs := by
  simp only [Bool.and_eq_true, decide_eq_true_eq, List.all_eq_true] at h
  obtain ⟨⟨⟨⟨h1, h2⟩, h3⟩, h4⟩, h5⟩ := h
  exact ⟨h1, h2, h3, fun r hr => ⟨inl_of (h4 r hr).1, inl_of (h4 r hr).2⟩, h5⟩
def settleC (n : Nat) (Cs : List (List Int)) (l : List Int) : List Int := (cols n).filter fun c => Cs.all fun m => !(subB l m) || decide (c ∈ m)
def keysC (n : Nat) (Cs : List (List Int)) : List (List Int) := (lexLots (cols n)).filter fun l => decide (settleC n Cs l = cols n)
def leastC (K : List (List Int)) : List (List Int) := K.filter fun l => !(K.any fun m => decide (m ≠ l) && subB m l)
end Lw

/-! PL6: two rows. -/
namespace Lw
open PySem DL PL
end Lw

/-! PL7: rows, stores of two rows, steps. -/
namespace Lw
open PySem DL PL L2
variable {n : Nat} {rs : Rules} {l : List Int} {Q : D → Prop}
structure RowOk (n : Nat) (a : List Int) : Prop where
  len : a.length = n
  rng : ∀ x ∈ a, 0 ≤ x ∧ x ≤ 1000000000
/-- a store -/
structure Sto (n : Nat) (rs : Rules) (As : List (List Int)) : Prop where
  l1 : 1 ≤ As.length
  l4 : As.length ≤ 400
  rows : ∀ a ∈ As, RowOk n a
  asc : As.Pairwise fun a b => ltL a b = true
  ok : As.Pairwise fun a b => Cl rs (agr a b)
end Lw

/-! PL8: steps by rules. -/
namespace Lw
open PySem DL PL L2
variable {n : Nat} {rs : Rules} {l : List Int} {Q : D → Prop}
/-- numbers as ints -/
def nI (ks : List Nat) : List Int := ks.map fun (k : Nat) => (k : Int)
structure Walk (n : Nat) (rs : Rules) (l F : List Int) (ks : List Nat) : Prop where
  g : Grow n rs l F
  lead : leadB rs l ks = true
  same : ∀ x, x ∈ F ↔ x ∈ leadF rs l ks
  few : l.length + ks.length ≤ F.length
theorem subB_congr {l F G : List Int} (h : ∀ x, x ∈ F ↔ x ∈ G) : subB l F = subB l G := by
  rw [Bool.eq_iff_iff, subB_iff, subB_iff]
  exact forall_congr' fun x => imp_congr_right fun _ => h x
theorem Walk.more {F : List Int} {ks : List Nat} {k : Nat} {r : List Int × List Int} (w : Walk n rs l F ks) (hk : rs[k]? = some r) (h2 : InL n r.2) (h1 : subB r.1 F = true) (hn : subB r.2 F = false) : Walk n rs l (F ++ r.2.filter fun x => decide (x ∉ F)) (ks ++ [k]) where
  g := w.g.more (List.mem_of_getElem? hk) h2 (subB_iff.mp h1)
  lead := leadB_snoc hk w.lead (by rw [← subB_congr w.same]; exact h1)
  same := fun x => by
    rw [leadF_snoc, List.mem_append, List.mem_append, ← w.same x, List.mem_filter, decide_eq_true_eq]
    have e : rs.getD k ([], []) = r := by simp [List.getD, hk]
    rw [e]
    constructor
    · rintro (z | ⟨z, _⟩)
      · exact .inl z
      · exact .inr z
    · rintro (z | z)
      · exact .inl z
      · by_cases hx : x ∈ F
        · exact .inl hx
        · exact .inr ⟨z, hx⟩
  few := by
    have h := w.few
    have : 0 < (r.2.filter fun x => decide (x ∉ F)).length := by
      rw [List.length_pos_iff]
      intro e
      have : subB r.2 F = true := subB_iff.mpr fun x hx => by
        by_cases hF : x ∈ F
        · exact hF
        · have : x ∈ r.2.filter fun x => decide (x ∉ F) := List.mem_filter.mpr ⟨hx, decide_eq_true hF⟩
          rw [e] at this
          cases this
      rw [this] at hn
      cases hn
    rw [List.length_append, List.length_append, List.length_singleton]
    omega
/-- numbers that lead from l to all of g -/
structure Lead (n : Nat) (rs : Rules) (l g : List Int) (ks : List Nat) : Prop where
  lead : leadB rs l ks = true
  goal : subB g (leadF rs l ks) = true
  few : ks.length ≤ n
end Lw

/-! PL9: papers on what is settled. -/
namespace Lw
open PySem DL PL L2
open Lean.Parser.Tactic in
local macro_rules | `(tactic| simp_arith! only [$xs,*] $[$l:location]?) => `(tactic| simp -implicitDefEqProofs only [x_sSeq, x_sNext, x_sSet, x_sSetL, x_sOwn, x_sOwnL, x_sNew, x_sPar, x_sParN, x_sRet, x_sRetN, x_sIf, x_sDrop, x_sFor, x_sWhile, x_sNever, x_sFrz, x_sApp, x_sAppL, x_sExtL, x_sExtS, x_onSeqEL, x_onSeqET, x_sAug, x_sAsg, x_sBreak, x_sCont, x_onDat, x_onSeqL, x_onSeqT, x_on1I, x_on2I, x_on2L, x_on2T, x_onScr, x_ifB, x_onS, x_onOwn, x_onList, x_onInt, x_onCInt, x_isDrw, x_lenScr, x_dV, x_dK, x_dOp, x_dTup, x_dNew, x_nLst, x_nCall, x_nComp, x_nRg, x_dTupRg, x_gRg1, x_gRg2, x_dCall, x_dCallF, x_dSl, x_oNone, x_oSome, x_dAnd, x_dOr, x_dNot, x_oNeg, x_bVal, x_bAnd, x_bOr, x_bNot, x_dIf, x_dChain, x_aNil, x_aCons, x_cNil, x_cCons, x_cDrw, x_iSeq, x_iRange1, x_iRange2, x_iZip2, x_iEnum1, x_iEnumZ, x_on2TT, x_nSortSet, x_onTupO, x_nSortSetI, x_nSortSetE, x_fMinL, x_fSumL, x_dDict0, x_sIns, x_sPut, x_sRaise, x_dCallE, x_sTry1, x_gN, x_gT, x_gCons, x_gNil, x_bYes, x_fLenL, x_fLenT, x_fLenS, x_fTupleL, x_fTupleT, x_fListL, x_fListT, x_fSorted, x_fAll, x_fAny, x_fSum, x_fIntI, x_fIntB, x_fMin2, x_fMax2, x_fRepr, x_dIsi, x_lend, x_lendD, x_lendO, x_lendR, x_lendU, x_lendS, x_wipe0, x_wipe1, x_addI, x_addS, x_addL, x_addT, x_sub, x_mod, x_div, x_mulW, x_divW, x_pow, x_mulI, x_mulL, x_mul2T, x_mul3T, x_dTwo, x_nSortSetL, x_sM2, x_sM3, x_on2C, x_on3C, x_mNil, x_mD, x_mN, x_aStar, x_fSortedT, x_isB, x_isN, x_isN0, x_isNI, x_isNT, x_isNL, x_isNS, x_isNB, x_lt, x_ltT, x_ord, x_ordT, x_ixL, x_ixT, x_ixS, x_fListD, x_fListDL, x_fReprD, x_dRev, x_nCat2, x_sOwnCat, x_onSeqRL, x_onSeqRT, x_onCat, x_eqT0, x_neL0, x_eqL0, x_neT0, x_addBI, x_addBB, x_fSortedD, x_dDc, x_dLend, x_bLend, x_nLend, x_sMut, x_dMutP, x_onMD, x_sPutM, x_sRetM, x_sRetS, x_onMt, x_cMut, x_onMx, x_stM, x_sCallM, x_sSetM, x_mTest, x_mCall, x_mAnd, x_sIfM, x_nSortSetT, x_fLenD, x_sUpdM, x_onDct, x_iSeqD, x_lendM, x_fMin2D, x_dFld, x_onLin, x_dMeth, x_sPutI, x_onIst, x_onDctF, x_sRetI, x_onIt, x_onIx, x_stI, x_mCallE, x_sDoI, x_sSetI, x_sExtI, x_sFldV, x_sFldM, x_dDcM, x_sMakeI, x_nComp2, x_bIfE, x_lendL, x_lendI, x_ownIx, x_ownLen, x_sColM, x_onAny, x_onMxM, x_onLs, x_stMM, x_colGo0, x_sAli2, x_dLendA, x_nLendA, x_lendA, x_aliD0, x_aliD1, x_onObj, x_lendO', x_sUnp, x_dNewF, x_dNewC, x_cNewL, x_dCallXM, x_sRetMN, x_sAsgM, x_sSelfM, x_sFrzM, x_sPopI, x_fMaxI, x_dGet, x_mSetd, x_gTL, x_iZipM, x_onStr, x_nSplit, x_dJoin, x_fStrI, x_fStrS, x_fIntT, x_oInSg, x_iTxt, x_sStar1, x_dDisp1, x_onMf, x_sAppM, x_sAppR, x_onFz, x_sRetSelfM, x_sInsR, x_sPopR, x_sPutR, x_sInsM, x_dIdx, x_oNotInSg, x_sRaise2, x_sTryN, x_nCompE, x_on2M, x_dSetEq, x_dHeard, x_dLenSet, oGe2, oLe2, oGt2, List.getElem?_cons_zero, List.getElem?_cons_succ, List.getElem?_nil, List.set_cons_zero, List.set_cons_succ, List.map_cons, List.map_nil, List.length_cons, List.length_nil, List.replicate, List.cons_append, List.nil_append, Nat.reduceSub, Nat.reduceAdd, Nat.zero_add, if_true, Bool.false_eq_true, if_false, bne_self_eq_false, Bool.true_bne, Bool.false_bne, Bool.not_true, Bool.not_false, true_and, and_true, Bool.bne_false, Bool.bne_true, k_eqI, k_neI, k_eqS, k_neS, k_eqT, k_neT, k_eqLL, k_neLL, k_eqTT, k_neTT, k_inLI, k_inLT, k_inTTT, k_inT, k_in23, k_eqLn, k_neLn, k_eqTn, k_neTn, k_eqTn', k_neTn', k_onSeq, k_onTupO, k_onSeqE, k_lenT, k_tupL, k_tupT, k_listT, k_addT, k_addT1, k_ixT, ixN_map, onS_map, k_isiT, k_isiTi, k_isiTb, k_isiTs, k_isiTl, k_isi, k_isil, k_isii, k_isiib, k_isis, k_isNT, k_flatT, k_flatI, k_flatLs, k_flatTLs, k_gT, k_on2T, k_ordT, k_ltT, k_gR, k_ixR0, k_ixR1, k_ixS0, k_ixS1, List.length_map, eq_self, Int.cast_ofNat_Int, Int.reduceEq, Int.reduceLE, Int.reduceLT, Int.reduceAdd, Int.reduceSub, Int.reduceNeg, decide_true, decide_false, or_true, true_or, or_false, false_or, k_ofS, String.reduceEq, sizeLine_eq, Nat.reduceLeDiff, k_at0, k_at1, k_at2, k_at3, $xs,*] $[$l:location]?)
variable {n : Nat} {rs : Rules} {l : List Int} {Q : D → Prop}
/-- a paper -/
inductive Pap (n : Nat) (rs : Rules) (l : List Int) (c : Int) : D → Prop
  | steps (ks : List Nat) : c ∈ settle n rs l → Lead n rs l [c] ks → Pap n rs l c (.tuple [.str "steps", T (nI ks)])
  | rows : c ∉ settle n rs l → Pap n rs l c (.tuple [.str "rows", T (rowO n), T (rowI n (settle n rs l))])
/-! the law's own -/
end Lw

/-! PL16a: data that may be laid, whole numbers and rows on any data. -/
namespace Lw
open PySem DL PL L2
open Lean.Parser.Tactic in
local macro_rules | `(tactic| simp_arith! only [$xs,*] $[$l:location]?) => `(tactic| simp -implicitDefEqProofs only [x_sSeq, x_sNext, x_sSet, x_sSetL, x_sOwn, x_sOwnL, x_sNew, x_sPar, x_sParN, x_sRet, x_sRetN, x_sIf, x_sDrop, x_sFor, x_sWhile, x_sNever, x_sFrz, x_sApp, x_sAppL, x_sExtL, x_sExtS, x_onSeqEL, x_onSeqET, x_sAug, x_sAsg, x_sBreak, x_sCont, x_onDat, x_onSeqL, x_onSeqT, x_on1I, x_on2I, x_on2L, x_on2T, x_onScr, x_ifB, x_onS, x_onOwn, x_onList, x_onInt, x_onCInt, x_isDrw, x_lenScr, x_dV, x_dK, x_dOp, x_dTup, x_dNew, x_nLst, x_nCall, x_nComp, x_nRg, x_dTupRg, x_gRg1, x_gRg2, x_dCall, x_dCallF, x_dSl, x_oNone, x_oSome, x_dAnd, x_dOr, x_dNot, x_oNeg, x_bVal, x_bAnd, x_bOr, x_bNot, x_dIf, x_dChain, x_aNil, x_aCons, x_cNil, x_cCons, x_cDrw, x_iSeq, x_iRange1, x_iRange2, x_iZip2, x_iEnum1, x_iEnumZ, x_on2TT, x_nSortSet, x_onTupO, x_nSortSetI, x_nSortSetE, x_fMinL, x_fSumL, x_dDict0, x_sIns, x_sPut, x_sRaise, x_dCallE, x_sTry1, x_gN, x_gT, x_gCons, x_gNil, x_bYes, x_fLenL, x_fLenT, x_fLenS, x_fTupleL, x_fTupleT, x_fListL, x_fListT, x_fSorted, x_fAll, x_fAny, x_fSum, x_fIntI, x_fIntB, x_fMin2, x_fMax2, x_fRepr, x_dIsi, x_lend, x_lendD, x_lendO, x_lendR, x_lendU, x_lendS, x_wipe0, x_wipe1, x_addI, x_addS, x_addL, x_addT, x_sub, x_mod, x_div, x_mulW, x_divW, x_pow, x_mulI, x_mulL, x_mul2T, x_mul3T, x_dTwo, x_nSortSetL, x_sM2, x_sM3, x_on2C, x_on3C, x_mNil, x_mD, x_mN, x_aStar, x_fSortedT, x_isB, x_isN, x_isN0, x_isNI, x_isNT, x_isNL, x_isNS, x_isNB, x_lt, x_ltT, x_ord, x_ordT, x_ixL, x_ixT, x_ixS, x_fListD, x_fListDL, x_fReprD, x_dRev, x_nCat2, x_sOwnCat, x_onSeqRL, x_onSeqRT, x_onCat, x_eqT0, x_neL0, x_eqL0, x_neT0, x_addBI, x_addBB, x_fSortedD, x_dDc, x_dLend, x_bLend, x_nLend, x_sMut, x_dMutP, x_onMD, x_sPutM, x_sRetM, x_sRetS, x_onMt, x_cMut, x_onMx, x_stM, x_sCallM, x_sSetM, x_mTest, x_mCall, x_mAnd, x_sIfM, x_nSortSetT, x_fLenD, x_sUpdM, x_onDct, x_iSeqD, x_lendM, x_fMin2D, x_dFld, x_onLin, x_dMeth, x_sPutI, x_onIst, x_onDctF, x_sRetI, x_onIt, x_onIx, x_stI, x_mCallE, x_sDoI, x_sSetI, x_sExtI, x_sFldV, x_sFldM, x_dDcM, x_sMakeI, x_nComp2, x_bIfE, x_lendL, x_lendI, x_ownIx, x_ownLen, x_sColM, x_onAny, x_onMxM, x_onLs, x_stMM, x_colGo0, x_sAli2, x_dLendA, x_nLendA, x_lendA, x_aliD0, x_aliD1, x_onObj, x_lendO', x_sUnp, x_dNewF, x_dNewC, x_cNewL, x_dCallXM, x_sRetMN, x_sAsgM, x_sSelfM, x_sFrzM, x_sPopI, x_fMaxI, x_dGet, x_mSetd, x_gTL, x_iZipM, x_onStr, x_nSplit, x_dJoin, x_fStrI, x_fStrS, x_fIntT, x_oInSg, x_iTxt, x_sStar1, x_dDisp1, x_onMf, x_sAppM, x_sAppR, x_onFz, x_sRetSelfM, x_sInsR, x_sPopR, x_sPutR, x_sInsM, x_dIdx, x_oNotInSg, x_sRaise2, x_sTryN, x_nCompE, x_on2M, x_dSetEq, x_dHeard, x_dLenSet, oGe2, oLe2, oGt2, List.getElem?_cons_zero, List.getElem?_cons_succ, List.getElem?_nil, List.set_cons_zero, List.set_cons_succ, List.map_cons, List.map_nil, List.length_cons, List.length_nil, List.replicate, List.cons_append, List.nil_append, Nat.reduceSub, Nat.reduceAdd, Nat.zero_add, if_true, Bool.false_eq_true, if_false, bne_self_eq_false, Bool.true_bne, Bool.false_bne, Bool.not_true, Bool.not_false, true_and, and_true, Bool.bne_false, Bool.bne_true, k_eqI, k_neI, k_eqS, k_neS, k_eqT, k_neT, k_eqLL, k_neLL, k_eqTT, k_neTT, k_inLI, k_inLT, k_inTTT, k_inT, k_in23, k_eqLn, k_neLn, k_eqTn, k_neTn, k_eqTn', k_neTn', k_onSeq, k_onTupO, k_onSeqE, k_lenT, k_tupL, k_tupT, k_listT, k_addT, k_addT1, k_ixT, ixN_map, onS_map, k_isiT, k_isiTi, k_isiTb, k_isiTs, k_isiTl, k_isi, k_isil, k_isii, k_isiib, k_isis, k_isNT, k_flatT, k_flatI, k_flatLs, k_flatTLs, k_gT, k_on2T, k_ordT, k_ltT, k_gR, k_ixR0, k_ixR1, k_ixS0, k_ixS1, List.length_map, eq_self, Int.cast_ofNat_Int, Int.reduceEq, Int.reduceLE, Int.reduceLT, Int.reduceAdd, Int.reduceSub, Int.reduceNeg, decide_true, decide_false, or_true, true_or, or_false, false_or, k_ofS, String.reduceEq, sizeLine_eq, Nat.reduceLeDiff, k_at0, k_at1, k_at2, k_at3, $xs,*] $[$l:location]?)
variable {n : Nat} {rs : Rules} {l p : List Int} {Q : D → Prop}
/-! ### data that may be laid -/
structure Ly (k : Nat) (d : D) : Prop where
  lay : d.canLay0 = true
  dep : d.depth ≤ k
theorem Ly.mono {k k' : Nat} {d : D} (h : Ly k d) (hk : k ≤ k') : Ly k' d := ⟨h.lay, Nat.le_trans h.dep hk⟩
theorem Ly.of (d : D) [h : Shd d] : Ly 30 d := ⟨h.lay, h.dep⟩
theorem ly_all {k : Nat} : ∀ {ds : List D}, (∀ d ∈ ds, Ly k d) → PyData.canLayAll0 ds = true ∧ PyData.depthAll ds ≤ k
  | [], _ => ⟨rfl, Nat.zero_le _⟩
  | d :: ds, h => by
    have r := h d List.mem_cons_self
    have ih := ly_all (k := k) fun x hx => h x (List.mem_cons_of_mem _ hx)
    refine ⟨by rw [PyData.canLayAll0, r.lay, ih.1]; rfl, by rw [PyData.depthAll]; exact Nat.max_le.mpr ⟨r.dep, ih.2⟩⟩
theorem ly_lst {k : Nat} {ds : List D} (h : ∀ d ∈ ds, Ly k d) : Ly (k + 1) (.list ds) :=
  ⟨by rw [PyData.canLay0]; exact (ly_all h).1, by rw [PyData.depth]; exact Nat.succ_le_succ (ly_all h).2⟩
theorem ly_mem {k : Nat} {d : D} : ∀ {ds : List D}, PyData.canLayAll0 ds = true → PyData.depthAll ds ≤ k → d ∈ ds → Ly k d
  | [], _, _, h => by cases h
  | x :: ds, h1, h2, h => by
    rw [PyData.canLayAll0, Bool.and_eq_true] at h1
    rw [PyData.depthAll] at h2
    rcases List.mem_cons.mp h with e | e
    · subst e
      exact ⟨h1.1, Nat.le_trans (Nat.le_max_left _ _) h2⟩
    · exact ly_mem h1.2 (Nat.le_trans (Nat.le_max_right _ _) h2) e
theorem Ly.item {k : Nat} {d : D} {ds : List D} (h : Ly k (.tuple ds)) (hd : d ∈ ds) : Ly k d := by
  have h1 := h.lay
  have h2 := h.dep
  rw [PyData.canLay0] at h1
  rw [PyData.depth] at h2
  exact ly_mem h1 (by omega) hd
theorem Ly.shaped {k : Nat} {d : D} (h : Ly k d) (hk : k ≤ 64 := by decide) : SeqAt.shaped d = true := by
  unfold SeqAt.shaped
  rw [h.lay, decide_eq_true (Nat.le_trans h.dep hk)]
  rfl
theorem Ly.eqOk {k k' : Nat} {x y : D} (h : Ly k x) (h' : Ly k' y) (hk : k ≤ 64 := by decide) (hk' : k' ≤ 64 := by decide) : eqOk x y = true := by
  unfold DL.eqOk
  split
  · rfl
  · rw [h.shaped hk, h'.shaped hk']
    rfl
theorem ly_nilL : Ly 1 (.list []) := ⟨rfl, by decide⟩
theorem comp_nilN {α : Type} (h k : α → D) (p : α → Bool) {g : GT} {tt : BT} {te : ET} {η0 : EnvD} {xs : List α} {j : Nat} (hj : j ≤ 60)
    (each : ∀ a ∈ xs, ∀ (R1 : D → Prop) (R0 : Prop), (p a = true → R1 (k a)) → (p a = false → R0) → g (h a) η0 fun η1 => tt never η1 fun b => if b = true then te never η1 R1 else R0)
    (hl : xs.length ≤ sizeLine) (ly : ∀ a ∈ xs, Ly j (k a)) (q : Q (.bool (!xs.all fun x => !p x))) : compD g tt te η0 (xs.map h) [] fun ds => oNe (.list ds) (.list []) Q := by
  refine compD_fl h k p each (by simpa using hl) ?_
  rw [List.nil_append, x_ne]
  refine ⟨(ly_lst (k := j) fun d hd => ?_).eqOk ly_nilL (by omega), ?_⟩
  · obtain ⟨a, ha, rfl⟩ := List.mem_map.mp hd
    exact ly a (List.mem_filter.mp ha).1
  · rw [eqv_nil, List.isEmpty_map, filter_none]
    exact q
/-! ### whole numbers, rows -/
def wholeB (lo hi : Int) : D → Bool
  | .int i => decide (lo ≤ i) && decide (i ≤ hi)
  | _ => false
theorem wholeB_iff {lo hi : Int} {d : D} : wholeB lo hi d = true ↔ ∃ i, d = .int i ∧ lo ≤ i ∧ i ≤ hi := by
  cases d <;> simp [wholeB]
theorem sp_wholeB (d : D) (lo hi : Int) (q : Q (.bool (wholeB lo hi d))) : w_is_whole never [.dat d, .dat (.int lo), .dat (.int hi)] Q := by
  refine sp_is_whole d lo hi fun b hb => ?_
  have : b = wholeB lo hi d := by rw [Bool.eq_iff_iff, hb, wholeB_iff]
  rwa [this]
def rowB (n : Nat) : D → Bool
  | .tuple ds => decide (ds.length = n) && ds.all (wholeB 0 1000000000)
  | _ => false
def intsOf : D → List Int
  | .tuple ds => ds.map iOf
  | _ => []
theorem ints_whole {lo hi : Int} : ∀ {ds : List D}, ds.all (wholeB lo hi) = true → ds = (ds.map iOf).map .int ∧ ∀ x ∈ ds.map iOf, lo ≤ x ∧ x ≤ hi
  | [], _ => ⟨rfl, fun x hx => by cases hx⟩
  | d :: ds, h => by
    rw [List.all_cons, Bool.and_eq_true] at h
    obtain ⟨i, rfl, h1⟩ := wholeB_iff.mp h.1
    obtain ⟨e, h2⟩ := ints_whole h.2
    refine ⟨by rw [List.map_cons, List.map_cons, ← e]; rfl, fun x hx => ?_⟩
    rcases List.mem_cons.mp hx with z | z
    · subst z; exact h1
    · exact h2 x z
end Lw

/-! PL44: schemas judged, on any data. -/
namespace Lw
open PySem DL PL L2
open Lean.Parser.Tactic in
local macro_rules | `(tactic| simp_arith! only [$xs,*] $[$l:location]?) => `(tactic| simp -implicitDefEqProofs only [x_sSeq, x_sNext, x_sSet, x_sSetL, x_sOwn, x_sOwnL, x_sNew, x_sPar, x_sParN, x_sRet, x_sRetN, x_sIf, x_sDrop, x_sFor, x_sWhile, x_sNever, x_sFrz, x_sApp, x_sAppL, x_sExtL, x_sExtS, x_onSeqEL, x_onSeqET, x_sAug, x_sAsg, x_sBreak, x_sCont, x_onDat, x_onSeqL, x_onSeqT, x_on1I, x_on2I, x_on2L, x_on2T, x_onScr, x_ifB, x_onS, x_onOwn, x_onList, x_onInt, x_onCInt, x_isDrw, x_lenScr, x_dV, x_dK, x_dOp, x_dTup, x_dNew, x_nLst, x_nCall, x_nComp, x_nRg, x_dTupRg, x_gRg1, x_gRg2, x_dCall, x_dCallF, x_dSl, x_oNone, x_oSome, x_dAnd, x_dOr, x_dNot, x_oNeg, x_bVal, x_bAnd, x_bOr, x_bNot, x_dIf, x_dChain, x_aNil, x_aCons, x_cNil, x_cCons, x_cDrw, x_iSeq, x_iRange1, x_iRange2, x_iZip2, x_iEnum1, x_iEnumZ, x_on2TT, x_nSortSet, x_onTupO, x_nSortSetI, x_nSortSetE, x_fMinL, x_fSumL, x_dDict0, x_sIns, x_sPut, x_sRaise, x_dCallE, x_sTry1, x_gN, x_gT, x_gCons, x_gNil, x_bYes, x_fLenL, x_fLenT, x_fLenS, x_fTupleL, x_fTupleT, x_fListL, x_fListT, x_fSorted, x_fAll, x_fAny, x_fSum, x_fIntI, x_fIntB, x_fMin2, x_fMax2, x_fRepr, x_dIsi, x_lend, x_lendD, x_lendO, x_lendR, x_lendU, x_lendS, x_wipe0, x_wipe1, x_addI, x_addS, x_addL, x_addT, x_sub, x_mod, x_div, x_mulW, x_divW, x_pow, x_mulI, x_mulL, x_mul2T, x_mul3T, x_dTwo, x_nSortSetL, x_sM2, x_sM3, x_on2C, x_on3C, x_mNil, x_mD, x_mN, x_aStar, x_fSortedT, x_isB, x_isN, x_isN0, x_isNI, x_isNT, x_isNL, x_isNS, x_isNB, x_lt, x_ltT, x_ord, x_ordT, x_ixL, x_ixT, x_ixS, x_fListD, x_fListDL, x_fReprD, x_dRev, x_nCat2, x_sOwnCat, x_onSeqRL, x_onSeqRT, x_onCat, x_eqT0, x_neL0, x_eqL0, x_neT0, x_addBI, x_addBB, x_fSortedD, x_dDc, x_dLend, x_bLend, x_nLend, x_sMut, x_dMutP, x_onMD, x_sPutM, x_sRetM, x_sRetS, x_onMt, x_cMut, x_onMx, x_stM, x_sCallM, x_sSetM, x_mTest, x_mCall, x_mAnd, x_sIfM, x_nSortSetT, x_fLenD, x_sUpdM, x_onDct, x_iSeqD, x_lendM, x_fMin2D, x_dFld, x_onLin, x_dMeth, x_sPutI, x_onIst, x_onDctF, x_sRetI, x_onIt, x_onIx, x_stI, x_mCallE, x_sDoI, x_sSetI, x_sExtI, x_sFldV, x_sFldM, x_dDcM, x_sMakeI, x_nComp2, x_bIfE, x_lendL, x_lendI, x_ownIx, x_ownLen, x_sColM, x_onAny, x_onMxM, x_onLs, x_stMM, x_colGo0, x_sAli2, x_dLendA, x_nLendA, x_lendA, x_aliD0, x_aliD1, x_onObj, x_lendO', x_sUnp, x_dNewF, x_dNewC, x_cNewL, x_dCallXM, x_sRetMN, x_sAsgM, x_sSelfM, x_sFrzM, x_sPopI, x_fMaxI, x_dGet, x_mSetd, x_gTL, x_iZipM, x_onStr, x_nSplit, x_dJoin, x_fStrI, x_fStrS, x_fIntT, x_oInSg, x_iTxt, x_sStar1, x_dDisp1, x_onMf, x_sAppM, x_sAppR, x_onFz, x_sRetSelfM, x_sInsR, x_sPopR, x_sPutR, x_sInsM, x_dIdx, x_oNotInSg, x_sRaise2, x_sTryN, x_nCompE, x_on2M, x_dSetEq, x_dHeard, x_dLenSet, oGe2, oLe2, oGt2, List.getElem?_cons_zero, List.getElem?_cons_succ, List.getElem?_nil, List.set_cons_zero, List.set_cons_succ, List.map_cons, List.map_nil, List.length_cons, List.length_nil, List.replicate, List.cons_append, List.nil_append, Nat.reduceSub, Nat.reduceAdd, Nat.zero_add, if_true, Bool.false_eq_true, if_false, bne_self_eq_false, Bool.true_bne, Bool.false_bne, Bool.not_true, Bool.not_false, true_and, and_true, Bool.bne_false, Bool.bne_true, k_eqI, k_neI, k_eqS, k_neS, k_eqT, k_neT, k_eqLL, k_neLL, k_eqTT, k_neTT, k_inLI, k_inLT, k_inTTT, k_inT, k_in23, k_eqLn, k_neLn, k_eqTn, k_neTn, k_eqTn', k_neTn', k_onSeq, k_onTupO, k_onSeqE, k_lenT, k_tupL, k_tupT, k_listT, k_addT, k_addT1, k_ixT, ixN_map, onS_map, k_isiT, k_isiTi, k_isiTb, k_isiTs, k_isiTl, k_isi, k_isil, k_isii, k_isiib, k_isis, k_isNT, k_flatT, k_flatI, k_flatLs, k_flatTLs, k_gT, k_on2T, k_ordT, k_ltT, k_gR, k_ixR0, k_ixR1, k_ixS0, k_ixS1, List.length_map, eq_self, Int.cast_ofNat_Int, Int.reduceEq, Int.reduceLE, Int.reduceLT, Int.reduceAdd, Int.reduceSub, Int.reduceNeg, decide_true, decide_false, or_true, true_or, or_false, false_or, k_ofS, String.reduceEq, sizeLine_eq, Nat.reduceLeDiff, k_at0, k_at1, k_at2, k_at3, $xs,*] $[$l:location]?)
variable {Q : D → Prop}
theorem compD_id {g : GT} {tt : BT} {te : ET} {η0 : EnvD} {ds acc : List D} {K : List D → Prop} : compD g tt te η0 ds acc K = compD g tt te η0 (ds.map id) acc K := by rw [List.map_id]
theorem forD_enum {xs : List D} {g : GT} {tb : SD} {E : XP} {z : EndsD} (J : List D → EnvD → Prop)
    (h : ∀ done a rest η, xs = done ++ a :: rest → J done η → ∀ nx : EnvD → Prop, (∀ η', J (done ++ [a]) η' → nx η') → g (.tuple [.int (done.length : Nat), a]) η fun η1 => tb E { nx := nx, rt := z.rt, bk := z.nx, ct := nx } η1)
    (h0 : ∀ η, J xs η → z.nx η) {η : EnvD} (j : J [] η) : forD g tb E z (pairsD (rangeD 0 xs.length) xs) η := by
  have e := enum_map' id xs
  rw [List.map_id] at e
  rw [e]
  refine forD_inv (fun ds η => ∃ done rest, xs = done ++ rest ∧ ds = (rest.zipIdx done.length).map (fun p => .tuple [.int (p.2 : Nat), id p.1]) ∧ J done η) ?_ ?_ ⟨[], xs, rfl, rfl, j⟩
  · rintro d ds η ⟨done, rest, e, e2, hj⟩ nx hn
    cases rest with
    | nil => cases e2
    | cons a rest =>
      simp only [List.zipIdx_cons, List.map_cons, List.cons.injEq] at e2
      obtain ⟨rfl, rfl⟩ := e2
      exact h done a rest η e hj nx fun η' j' => hn η' ⟨done ++ [a], rest, by rw [e]; simp, by simp, j'⟩
  · rintro η ⟨done, rest, e, e2, hj⟩
    have : rest = [] := by cases rest with
      | nil => rfl
      | cons c r => cases e2
    subst this
    rw [List.append_nil] at e
    subst e
    exact h0 η hj
theorem wt_len : ∀ {ds : List D}, ds.length ≤ PyData.weightAll ds
  | [] => Nat.zero_le _
  | d :: ds => by rw [PyData.weightAll, List.length_cons]; have := wt_len (ds := ds); omega
theorem wt_mem : ∀ {ds : List D} {x : D}, x ∈ ds → x.weight + 1 ≤ PyData.weightAll ds
  | d :: ds, x, h => by
    rw [PyData.weightAll]
    rcases List.mem_cons.mp h with rfl | z
    · omega
    · have := wt_mem z; omega
theorem wt_t {ds : List D} : (PyData.tuple ds).weight = PyData.weightAll ds := by rw [PyData.weight]
def ascB (l : List Int) : Bool := (l.zip (l.drop 1)).all fun p => decide (p.1 < p.2)
def lotB (n : Int) : D → Bool
  | .tuple ds => ds.all (wholeB 0 (n - 1)) && ascB (ds.map iOf)
  | _ => false
theorem lotB_t {n : Int} {ds : List D} : lotB n (.tuple ds) = (ds.all (wholeB 0 (n - 1)) && ascB (ds.map iOf)) := rfl
theorem sp_is_lot_ofA {n : Int} (d : D) (hd : d.weight ≤ sizeLine) (q : Q (.bool (lotB n d))) : w_is_lot_of never [.dat (.int n), .dat d] Q := by
  refine body_in rfl ?_
  unfold t_is_lot_of
  cases d with
  | tuple ds =>
    have hl : ds.length ≤ sizeLine := Nat.le_trans wt_len (by rwa [wt_t] at hd)
    simp_arith! only []
    rw [compD_id]
    refine compD_mp id (fun d => .bool (wholeB 0 (n - 1) d)) (fun d hd R1 R0 r => ?_) (by simpa using hl) ?_
    · simp_arith! only [id]
      exact sp_wholeB _ _ _ r
    · rw [List.nil_append]
      refine ⟨all_bools _ _, ?_⟩
      rw [all_of]
      cases e : ds.all (wholeB 0 (n - 1)) with
      | false => simp_arith! only []; rw [lotB_t, e] at q; exact q
      | true =>
        simp_arith! only []
        rw [lotB_t, e, Bool.true_and] at q
        obtain ⟨e1, e2⟩ := ints_whole e
        rw [e1]
        refine sp_are_ascending (ds.map iOf) (by simpa using hl) fun b hb => ?_
        have : b = ascB (ds.map iOf) := by rw [Bool.eq_iff_iff, hb]; exact (pair_asc _).symm
        rwa [this]
  | _ => simp_arith! only [isiD, isiN, tyOf]; exact q
def ruleB (n : Int) : D → Bool
  | .tuple [x, y] => lotB n x && lotB n y
  | _ => false
theorem ruleB_2 {n : Int} {x y : D} : ruleB n (.tuple [x, y]) = (lotB n x && lotB n y) := rfl
theorem ruleB_ne {n : Int} {ds : List D} (h : ds.length ≠ 2) : ruleB n (.tuple ds) = false := by
  match ds, h with
  | [], _ => rfl
  | [_], _ => rfl
  | [_, _], h => exact absurd rfl h
  | _ :: _ :: _ :: _, _ => rfl
theorem len2 {ds : List D} (h : ds.length = 2) : ∃ x y, ds = [x, y] := by
  match ds, h with
  | [x, y], _ => exact ⟨x, y, rfl⟩
theorem sp_is_ruleA {n : Int} (d : D) (hd : d.weight ≤ sizeLine) (q : Q (.bool (ruleB n d))) : w_is_rule never [.dat (.int n), .dat d] Q := by
  refine body_in rfl ?_
  unfold t_is_rule
  cases d with
  | tuple ds =>
    simp_arith! only []
    by_cases h2 : ds.length = 2
    · obtain ⟨x, y, rfl⟩ := len2 h2
      rw [wt_t] at hd
      have hm := fun z (hz : z ∈ [x, y]) => Nat.le_trans (Nat.le_of_succ_le (wt_mem hz)) hd
      simp_arith! only []
      rw [compD_id]
      refine compD_mp id (fun d => .bool (lotB n d)) (fun d hd R1 R0 r => ?_) (by rw [sizeLine_eq]; simp) ?_
      · simp_arith! only [id]
        exact sp_is_lot_ofA _ (hm d hd) r
      · rw [List.nil_append]
        refine ⟨all_bools _ _, ?_⟩
        rw [all_of]
        simpa [ruleB_2] using q
    · rw [decide_eq_false (by omega)]
      rw [ruleB_ne h2] at q
      simp_arith! only []
      exact q
  | _ => simp_arith! only [isiD, isiN, tyOf]; exact q
end Lw

/-! PL45: the first place that cannot stand. -/
namespace Lw
open PySem DL PL L2
open Lean.Parser.Tactic in
local macro_rules | `(tactic| simp_arith! only [$xs,*] $[$l:location]?) => `(tactic| simp -implicitDefEqProofs only [x_sSeq, x_sNext, x_sSet, x_sSetL, x_sOwn, x_sOwnL, x_sNew, x_sPar, x_sParN, x_sRet, x_sRetN, x_sIf, x_sDrop, x_sFor, x_sWhile, x_sNever, x_sFrz, x_sApp, x_sAppL, x_sExtL, x_sExtS, x_onSeqEL, x_onSeqET, x_sAug, x_sAsg, x_sBreak, x_sCont, x_onDat, x_onSeqL, x_onSeqT, x_on1I, x_on2I, x_on2L, x_on2T, x_onScr, x_ifB, x_onS, x_onOwn, x_onList, x_onInt, x_onCInt, x_isDrw, x_lenScr, x_dV, x_dK, x_dOp, x_dTup, x_dNew, x_nLst, x_nCall, x_nComp, x_nRg, x_dTupRg, x_gRg1, x_gRg2, x_dCall, x_dCallF, x_dSl, x_oNone, x_oSome, x_dAnd, x_dOr, x_dNot, x_oNeg, x_bVal, x_bAnd, x_bOr, x_bNot, x_dIf, x_dChain, x_aNil, x_aCons, x_cNil, x_cCons, x_cDrw, x_iSeq, x_iRange1, x_iRange2, x_iZip2, x_iEnum1, x_iEnumZ, x_on2TT, x_nSortSet, x_onTupO, x_nSortSetI, x_nSortSetE, x_fMinL, x_fSumL, x_dDict0, x_sIns, x_sPut, x_sRaise, x_dCallE, x_sTry1, x_gN, x_gT, x_gCons, x_gNil, x_bYes, x_fLenL, x_fLenT, x_fLenS, x_fTupleL, x_fTupleT, x_fListL, x_fListT, x_fSorted, x_fAll, x_fAny, x_fSum, x_fIntI, x_fIntB, x_fMin2, x_fMax2, x_fRepr, x_dIsi, x_lend, x_lendD, x_lendO, x_lendR, x_lendU, x_lendS, x_wipe0, x_wipe1, x_addI, x_addS, x_addL, x_addT, x_sub, x_mod, x_div, x_mulW, x_divW, x_pow, x_mulI, x_mulL, x_mul2T, x_mul3T, x_dTwo, x_nSortSetL, x_sM2, x_sM3, x_on2C, x_on3C, x_mNil, x_mD, x_mN, x_aStar, x_fSortedT, x_isB, x_isN, x_isN0, x_isNI, x_isNT, x_isNL, x_isNS, x_isNB, x_lt, x_ltT, x_ord, x_ordT, x_ixL, x_ixT, x_ixS, x_fListD, x_fListDL, x_fReprD, x_dRev, x_nCat2, x_sOwnCat, x_onSeqRL, x_onSeqRT, x_onCat, x_eqT0, x_neL0, x_eqL0, x_neT0, x_addBI, x_addBB, x_fSortedD, x_dDc, x_dLend, x_bLend, x_nLend, x_sMut, x_dMutP, x_onMD, x_sPutM, x_sRetM, x_sRetS, x_onMt, x_cMut, x_onMx, x_stM, x_sCallM, x_sSetM, x_mTest, x_mCall, x_mAnd, x_sIfM, x_nSortSetT, x_fLenD, x_sUpdM, x_onDct, x_iSeqD, x_lendM, x_fMin2D, x_dFld, x_onLin, x_dMeth, x_sPutI, x_onIst, x_onDctF, x_sRetI, x_onIt, x_onIx, x_stI, x_mCallE, x_sDoI, x_sSetI, x_sExtI, x_sFldV, x_sFldM, x_dDcM, x_sMakeI, x_nComp2, x_bIfE, x_lendL, x_lendI, x_ownIx, x_ownLen, x_sColM, x_onAny, x_onMxM, x_onLs, x_stMM, x_colGo0, x_sAli2, x_dLendA, x_nLendA, x_lendA, x_aliD0, x_aliD1, x_onObj, x_lendO', x_sUnp, x_dNewF, x_dNewC, x_cNewL, x_dCallXM, x_sRetMN, x_sAsgM, x_sSelfM, x_sFrzM, x_sPopI, x_fMaxI, x_dGet, x_mSetd, x_gTL, x_iZipM, x_onStr, x_nSplit, x_dJoin, x_fStrI, x_fStrS, x_fIntT, x_oInSg, x_iTxt, x_sStar1, x_dDisp1, x_onMf, x_sAppM, x_sAppR, x_onFz, x_sRetSelfM, x_sInsR, x_sPopR, x_sPutR, x_sInsM, x_dIdx, x_oNotInSg, x_sRaise2, x_sTryN, x_nCompE, x_on2M, x_dSetEq, x_dHeard, x_dLenSet, oGe2, oLe2, oGt2, List.getElem?_cons_zero, List.getElem?_cons_succ, List.getElem?_nil, List.set_cons_zero, List.set_cons_succ, List.map_cons, List.map_nil, List.length_cons, List.length_nil, List.replicate, List.cons_append, List.nil_append, Nat.reduceSub, Nat.reduceAdd, Nat.zero_add, if_true, Bool.false_eq_true, if_false, bne_self_eq_false, Bool.true_bne, Bool.false_bne, Bool.not_true, Bool.not_false, true_and, and_true, Bool.bne_false, Bool.bne_true, k_eqI, k_neI, k_eqS, k_neS, k_eqT, k_neT, k_eqLL, k_neLL, k_eqTT, k_neTT, k_inLI, k_inLT, k_inTTT, k_inT, k_in23, k_eqLn, k_neLn, k_eqTn, k_neTn, k_eqTn', k_neTn', k_onSeq, k_onTupO, k_onSeqE, k_lenT, k_tupL, k_tupT, k_listT, k_addT, k_addT1, k_ixT, ixN_map, onS_map, k_isiT, k_isiTi, k_isiTb, k_isiTs, k_isiTl, k_isi, k_isil, k_isii, k_isiib, k_isis, k_isNT, k_flatT, k_flatI, k_flatLs, k_flatTLs, k_gT, k_on2T, k_ordT, k_ltT, k_gR, k_ixR0, k_ixR1, k_ixS0, k_ixS1, List.length_map, eq_self, Int.cast_ofNat_Int, Int.reduceEq, Int.reduceLE, Int.reduceLT, Int.reduceAdd, Int.reduceSub, Int.reduceNeg, decide_true, decide_false, or_true, true_or, or_false, false_or, k_ofS, String.reduceEq, sizeLine_eq, Nat.reduceLeDiff, k_at0, k_at1, k_at2, k_at3, $xs,*] $[$l:location]?)
variable {Q : D → Prop}
def badB (n : Int) (p : Option D) (d : D) : Bool := !ruleB n d || (match p with
  | none => false
  | some p => !PySem.W.dataLt p d)
def rulesF (n : Int) : Nat → Option D → List D → Option Nat
  | _, _, [] => none
  | i, p, d :: ds => if badB n p d = true then some i else rulesF n (i + 1) (some d) ds
def plc (ss : List D) : D := .tuple ss
def faultR (n : Int) : D → Option D
  | .tuple ds => if ds.length ≤ 10 then (rulesF n 0 none ds).map fun i => .tuple [.str (Str.ofString "rule"), .int (i : Nat)] else some (.tuple [.str (Str.ofString "rules")])
  | _ => some (.tuple [.str (Str.ofString "rules")])
def fault2 (x y : D) : Option D := if wholeB 1 6 x = true then faultR (iOf x) y else some (.tuple [.str (Str.ofString "wide")])
def faultK : D → Option D
  | .tuple [x, y] => fault2 x y
  | _ => some (.tuple [])
def optD : Option D → D
  | none => .none
  | some d => d
theorem faultK_ne {ds : List D} (h : ds.length ≠ 2) : faultK (.tuple ds) = some (.tuple []) := by
  match ds, h with
  | [], _ => rfl
  | [_], _ => rfl
  | [_, _], h => exact absurd rfl h
  | _ :: _ :: _ :: _, _ => rfl
theorem faultK_2 {x y : D} : faultK (.tuple [x, y]) = fault2 x y := rfl
theorem faultK_w {x y : D} (h : wholeB 1 6 x = false) : faultK (.tuple [x, y]) = some (.tuple [.str (Str.ofString "wide")]) := by
  rw [faultK_2]; unfold fault2
  rw [h]; rfl
theorem faultK_r {x : D} {ds : List D} (h : wholeB 1 6 x = true) (h2 : 10 < ds.length) : faultK (.tuple [x, .tuple ds]) = some (.tuple [.str (Str.ofString "rules")]) := by
  rw [faultK_2]; unfold fault2 faultR
  rw [h, if_pos rfl]
  simp only
  rw [if_neg (by omega)]
theorem faultK_t {x : D} {ds : List D} (h : wholeB 1 6 x = true) (h2 : ds.length ≤ 10) : faultK (.tuple [x, .tuple ds]) = (rulesF (iOf x) 0 none ds).map fun i => .tuple [.str (Str.ofString "rule"), .int (i : Nat)] := by
  rw [faultK_2]; unfold fault2 faultR
  rw [h, if_pos rfl]
  simp only
  rw [if_pos h2]
theorem faultK_o {x y : D} (h : wholeB 1 6 x = true) (hy : ∀ ds, y ≠ .tuple ds) : faultK (.tuple [x, y]) = some (.tuple [.str (Str.ofString "rules")]) := by
  rw [faultK_2]; unfold fault2
  rw [h, if_pos rfl]
  cases y <;> first | rfl | exact absurd rfl (hy _)
theorem faultK_tup {d p : D} (h : faultK d = some p) : ∃ ds, p = .tuple ds := by
  unfold faultK at h
  split at h
  · unfold fault2 at h
    split at h
    · unfold faultR at h
      split at h
      · split at h
        · obtain ⟨i, _, rfl⟩ := Option.map_eq_some_iff.mp h
          exact ⟨_, rfl⟩
        · cases h; exact ⟨_, rfl⟩
      · cases h; exact ⟨_, rfl⟩
    · cases h; exact ⟨_, rfl⟩
  · cases h; exact ⟨_, rfl⟩
theorem lot_of {n : Int} {d : D} (h : lotB n d = true) : ∃ l : List Int, d = T l := by
  cases d with
  | tuple ds =>
    rw [lotB_t, Bool.and_eq_true] at h
    obtain ⟨e, _⟩ := ints_whole h.1
    exact ⟨ds.map iOf, by unfold T; rw [← e]⟩
  | _ => cases h
theorem rule_of {n : Int} {d : D} (h : ruleB n d = true) : ∃ r : List Int × List Int, d = ruleD r := by
  cases d with
  | tuple ds =>
    by_cases h2 : ds.length = 2
    · obtain ⟨x, y, rfl⟩ := len2 h2
      rw [ruleB_2, Bool.and_eq_true] at h
      obtain ⟨l, rfl⟩ := lot_of h.1
      obtain ⟨m, rfl⟩ := lot_of h.2
      exact ⟨(l, m), rfl⟩
    · rw [ruleB_ne h2] at h; cases h
  | _ => cases h
theorem ge_rule (r s : List Int × List Int) (q : Q (.bool (!PySem.W.dataLt (ruleD r) (ruleD s)))) : oGe2 (ruleD r) (ruleD s) Q := by
  have al := alike_rule r s
  have dp : (ruleD r).depth ≤ 64 := by rw [depth_rule]; decide
  have nd1 : (ruleD r).hasDict = false := nd_alike _ (alike_rule _ _)
  have nd2 : (ruleD s).hasDict = false := nd_alike _ (alike_rule _ _)
  unfold ruleD at al dp nd1 nd2 q ⊢
  exact ⟨⟨al, dp, nd1, nd2⟩, q⟩
/-- the loop's state: what stands in front is rules, and what is to come is as from there -/
structure Inr (n : Int) (ds done : List D) : Prop where
  rul : ∀ d ∈ done, ruleB n d = true
  same : ∀ rest, ds = done ++ rest → rulesF n 0 none ds = rulesF n done.length done.getLast? rest
theorem Inr.nil {n : Int} {ds : List D} : Inr n ds [] := ⟨fun d h => (nomatch h), fun rest e => by rw [List.nil_append] at e; rw [e]; rfl⟩
theorem Inr.at_ {n : Int} {ds done rest : List D} {d : D} (I : Inr n ds done) (e : ds = done ++ d :: rest) : rulesF n 0 none ds = if badB n done.getLast? d = true then some done.length else rulesF n (done.length + 1) (some d) rest := by
  rw [I.same _ e]; rfl
theorem Inr.step {n : Int} {ds done rest : List D} {d : D} (I : Inr n ds done) (e : ds = done ++ d :: rest) (h : badB n done.getLast? d = false) : Inr n ds (done ++ [d]) := by
  refine ⟨fun x hx => ?_, fun r e' => ?_⟩
  · rcases List.mem_append.mp hx with z | z
    · exact I.rul x z
    · rw [List.mem_singleton.mp z]
      unfold badB at h
      rw [Bool.or_eq_false_iff] at h
      simpa using h.1
  · have : r = rest := by
      rw [e, List.append_assoc] at e'
      have := List.append_cancel_left e'
      simpa using this.symm
    subst this
    rw [I.at_ e, h, if_neg (by decide), List.length_append, List.length_singleton, List.getLast?_append]
    rfl
theorem last_at {done rest : List D} {d p : D} (h : done.getLast? = some p) : atI (done ++ d :: rest) ((done.length : Nat) - 1 : Int) = some p := by
  have h0 : done ≠ [] := fun z => by subst z; cases h
  have hl : 0 < done.length := List.length_pos_iff.mpr h0
  have := L2.atI_nat (xs := done ++ d :: rest) (j := done.length - 1) (v := p) (by rw [List.getElem?_append_left (by omega), ← List.getLast?_eq_getElem?]; exact h)
  rwa [show ((done.length - 1 : Nat) : Int) = (done.length : Int) - 1 by omega] at this
theorem sp_schema_faultA (d : D) (hd : d.weight ≤ sizeLine) (q : Q (optD (faultK d))) : w_schema_fault never [.dat d] Q := by
  refine body_in rfl ?_
  unfold t_schema_fault
  cases d with
  | tuple ds =>
    simp_arith! only []
    by_cases h2 : ds.length = 2
    · obtain ⟨x, y, rfl⟩ := len2 h2
      rw [wt_t] at hd
      have hm := fun z (hz : z ∈ [x, y]) => Nat.le_trans (Nat.le_of_succ_le (wt_mem hz)) hd
      simp_arith! only []
      refine sp_wholeB _ _ _ ?_
      cases ex : wholeB 1 6 x with
      | false =>
        rw [faultK_w ex] at q
        simp_arith! only []
        exact q
      | true =>
        obtain ⟨n, rfl, n1, n6⟩ := wholeB_iff.mp ex
        simp_arith! only []
        cases y with
        | tuple rs =>
          have hr := hm (.tuple rs) (by simp)
          rw [wt_t] at hr
          simp_arith! only []
          by_cases h10 : 10 < rs.length
          · rw [decide_eq_true (by omega)]
            rw [faultK_r ex h10] at q
            simp_arith! only []
            exact q
          · rw [decide_eq_false (by omega)]
            rw [faultK_t ex (by omega)] at q
            simp_arith! only []
            refine forD_enum (fun done η => Inr n rs done ∧ ∃ x1 x2, η = [.dat (.tuple [.int n, .tuple rs]), x1, x2]) ?_ ?_ ⟨.nil, _, _, rfl⟩
            · rintro done a rest η e ⟨I, x1, x2, rfl⟩ nx hn
              have ha : a ∈ rs := by rw [e]; simp
              have ea := I.at_ e
              simp_arith! only []
              refine sp_is_ruleA _ (Nat.le_trans (Nat.le_of_succ_le (wt_mem ha)) hr) ?_
              cases eb : ruleB n a with
              | false =>
                rw [show badB n done.getLast? a = true by unfold badB; rw [eb]; rfl, if_pos rfl] at ea
                rw [show iOf (.int n) = n from rfl, ea] at q
                simp_arith! only []
                exact q
              | true =>
                simp_arith! only []
                cases el : done.getLast? with
                | none =>
                  have : done = [] := List.getLast?_eq_none_iff.mp el
                  subst this
                  rw [decide_eq_false (by decide)]
                  simp_arith! only []
                  exact hn _ ⟨I.step e (by unfold badB; rw [eb]; rfl), _, _, rfl⟩
                | some p =>
                  have hpm : p ∈ done := List.mem_of_getLast? el
                  have h0 : 0 < done.length := List.length_pos_of_mem hpm
                  obtain ⟨r1, rfl⟩ := rule_of (I.rul p hpm)
                  obtain ⟨r2, rfl⟩ := rule_of eb
                  have hat := last_at (rest := rest) (d := ruleD r2) el
                  rw [← e] at hat
                  rw [decide_eq_true (by omega)]
                  simp_arith! only [hat]
                  refine ge_rule _ _ ?_
                  rw [el] at ea
                  have bd : badB n (some (ruleD r1)) (ruleD r2) = !PySem.W.dataLt (ruleD r1) (ruleD r2) := by unfold badB; rw [eb]; rfl
                  cases c : PySem.W.dataLt (ruleD r1) (ruleD r2) with
                  | true =>
                    simp_arith! only []
                    exact hn _ ⟨I.step e (by rw [el, bd, c]; rfl), _, _, rfl⟩
                  | false =>
                    rw [bd, c, Bool.not_false, if_pos rfl] at ea
                    rw [show iOf (.int n) = n from rfl, ea] at q
                    simp_arith! only []
                    exact q
            · rintro η ⟨I, x1, x2, rfl⟩
              have := I.same [] (by simp)
              rw [show iOf (.int n) = n from rfl, this] at q
              exact q
        | _ =>
          rw [faultK_o ex (fun ds z => by cases z)] at q
          simp_arith! only [isiD, isiN, tyOf]
          exact q
    · rw [faultK_ne h2] at q
      rw [decide_eq_false (by omega)]
      simp_arith! only []
      exact q
  | _ => simp_arith! only [isiD, isiN, tyOf]; exact q
end Lw

/-! PL46: a thing is read, or refused; what may be shown. -/
namespace Lw
open PySem DL PL L2
open Lean.Parser.Tactic in
local macro_rules | `(tactic| simp_arith! only [$xs,*] $[$l:location]?) => `(tactic| simp -implicitDefEqProofs only [x_sSeq, x_sNext, x_sSet, x_sSetL, x_sOwn, x_sOwnL, x_sNew, x_sPar, x_sParN, x_sRet, x_sRetN, x_sIf, x_sDrop, x_sFor, x_sWhile, x_sNever, x_sFrz, x_sApp, x_sAppL, x_sExtL, x_sExtS, x_onSeqEL, x_onSeqET, x_sAug, x_sAsg, x_sBreak, x_sCont, x_onDat, x_onSeqL, x_onSeqT, x_on1I, x_on2I, x_on2L, x_on2T, x_onScr, x_ifB, x_onS, x_onOwn, x_onList, x_onInt, x_onCInt, x_isDrw, x_lenScr, x_dV, x_dK, x_dOp, x_dTup, x_dNew, x_nLst, x_nCall, x_nComp, x_nRg, x_dTupRg, x_gRg1, x_gRg2, x_dCall, x_dCallF, x_dSl, x_oNone, x_oSome, x_dAnd, x_dOr, x_dNot, x_oNeg, x_bVal, x_bAnd, x_bOr, x_bNot, x_dIf, x_dChain, x_aNil, x_aCons, x_cNil, x_cCons, x_cDrw, x_iSeq, x_iRange1, x_iRange2, x_iZip2, x_iEnum1, x_iEnumZ, x_on2TT, x_nSortSet, x_onTupO, x_nSortSetI, x_nSortSetE, x_fMinL, x_fSumL, x_dDict0, x_sIns, x_sPut, x_sRaise, x_dCallE, x_sTry1, x_gN, x_gT, x_gCons, x_gNil, x_bYes, x_fLenL, x_fLenT, x_fLenS, x_fTupleL, x_fTupleT, x_fListL, x_fListT, x_fSorted, x_fAll, x_fAny, x_fSum, x_fIntI, x_fIntB, x_fMin2, x_fMax2, x_fRepr, x_dIsi, x_lend, x_lendD, x_lendO, x_lendR, x_lendU, x_lendS, x_wipe0, x_wipe1, x_addI, x_addS, x_addL, x_addT, x_sub, x_mod, x_div, x_mulW, x_divW, x_pow, x_mulI, x_mulL, x_mul2T, x_mul3T, x_dTwo, x_nSortSetL, x_sM2, x_sM3, x_on2C, x_on3C, x_mNil, x_mD, x_mN, x_aStar, x_fSortedT, x_isB, x_isN, x_isN0, x_isNI, x_isNT, x_isNL, x_isNS, x_isNB, x_lt, x_ltT, x_ord, x_ordT, x_ixL, x_ixT, x_ixS, x_fListD, x_fListDL, x_fReprD, x_dRev, x_nCat2, x_sOwnCat, x_onSeqRL, x_onSeqRT, x_onCat, x_eqT0, x_neL0, x_eqL0, x_neT0, x_addBI, x_addBB, x_fSortedD, x_dDc, x_dLend, x_bLend, x_nLend, x_sMut, x_dMutP, x_onMD, x_sPutM, x_sRetM, x_sRetS, x_onMt, x_cMut, x_onMx, x_stM, x_sCallM, x_sSetM, x_mTest, x_mCall, x_mAnd, x_sIfM, x_nSortSetT, x_fLenD, x_sUpdM, x_onDct, x_iSeqD, x_lendM, x_fMin2D, x_dFld, x_onLin, x_dMeth, x_sPutI, x_onIst, x_onDctF, x_sRetI, x_onIt, x_onIx, x_stI, x_mCallE, x_sDoI, x_sSetI, x_sExtI, x_sFldV, x_sFldM, x_dDcM, x_sMakeI, x_nComp2, x_bIfE, x_lendL, x_lendI, x_ownIx, x_ownLen, x_sColM, x_onAny, x_onMxM, x_onLs, x_stMM, x_colGo0, x_sAli2, x_dLendA, x_nLendA, x_lendA, x_aliD0, x_aliD1, x_onObj, x_lendO', x_sUnp, x_dNewF, x_dNewC, x_cNewL, x_dCallXM, x_sRetMN, x_sAsgM, x_sSelfM, x_sFrzM, x_sPopI, x_fMaxI, x_dGet, x_mSetd, x_gTL, x_iZipM, x_onStr, x_nSplit, x_dJoin, x_fStrI, x_fStrS, x_fIntT, x_oInSg, x_iTxt, x_sStar1, x_dDisp1, x_onMf, x_sAppM, x_sAppR, x_onFz, x_sRetSelfM, x_sInsR, x_sPopR, x_sPutR, x_sInsM, x_dIdx, x_oNotInSg, x_sRaise2, x_sTryN, x_nCompE, x_on2M, x_dSetEq, x_dHeard, x_dLenSet, oGe2, oLe2, oGt2, List.getElem?_cons_zero, List.getElem?_cons_succ, List.getElem?_nil, List.set_cons_zero, List.set_cons_succ, List.map_cons, List.map_nil, List.length_cons, List.length_nil, List.replicate, List.cons_append, List.nil_append, Nat.reduceSub, Nat.reduceAdd, Nat.zero_add, if_true, Bool.false_eq_true, if_false, bne_self_eq_false, Bool.true_bne, Bool.false_bne, Bool.not_true, Bool.not_false, true_and, and_true, Bool.bne_false, Bool.bne_true, k_eqI, k_neI, k_eqS, k_neS, k_eqT, k_neT, k_eqLL, k_neLL, k_eqTT, k_neTT, k_inLI, k_inLT, k_inTTT, k_inT, k_in23, k_eqLn, k_neLn, k_eqTn, k_neTn, k_eqTn', k_neTn', k_onSeq, k_onTupO, k_onSeqE, k_lenT, k_tupL, k_tupT, k_listT, k_addT, k_addT1, k_ixT, ixN_map, onS_map, k_isiT, k_isiTi, k_isiTb, k_isiTs, k_isiTl, k_isi, k_isil, k_isii, k_isiib, k_isis, k_isNT, k_flatT, k_flatI, k_flatLs, k_flatTLs, k_gT, k_on2T, k_ordT, k_ltT, k_gR, k_ixR0, k_ixR1, k_ixS0, k_ixS1, List.length_map, eq_self, Int.cast_ofNat_Int, Int.reduceEq, Int.reduceLE, Int.reduceLT, Int.reduceAdd, Int.reduceSub, Int.reduceNeg, decide_true, decide_false, or_true, true_or, or_false, false_or, k_ofS, String.reduceEq, sizeLine_eq, Nat.reduceLeDiff, k_at0, k_at1, k_at2, k_at3, $xs,*] $[$l:location]?)
variable {n : Nat} {rs : Rules} {Q : D → Prop}
theorem sp_need_schemaA {E : XP} (d : D) (hd : d.weight ≤ sizeLine) (q : faultK d = none → Q d) (e : ∀ p, faultK d = some p → E "BadSchema" [("place", p)]) : w_need_schema E [.dat d] Q := by
  refine body_in rfl ?_
  unfold t_need_schema
  simp_arith! only []
  refine sp_schema_faultA d hd ?_
  cases c : faultK d with
  | none =>
    simp_arith! only [optD]
    exact q c
  | some p =>
    obtain ⟨ds, rfl⟩ := faultK_tup c
    simp_arith! only [optD]
    exact e _ c
/-! ### a refusal told -/
theorem sp_refusal_schema {a dx : Addr} {d : D} (q : Q (.tuple [.str (Str.ofString "schema"), d])) : t_law_refusal a dx "BadSchema" never { nx := fun _ => Q .none, rt := Q } (.obj a (some (dx, "place", d)) :: List.replicate 4 .un) := by
  unfold t_law_refusal
  simp_arith! only [x_dIsE, x_dFldE]
  refine ⟨⟨_, _, rfl⟩, ⟨_, _, rfl⟩, ⟨_, _, rfl⟩, ⟨_, _, rfl⟩, ⟨_, _, rfl⟩, ⟨_, _, rfl⟩, ⟨_, _, rfl⟩, ⟨_, _, rfl⟩, ?_⟩
  rw [show (Str.ofString "BadSchema" == Str.ofString "BadSchema") = true by decide +kernel, show (Str.ofString "BadStore" == Str.ofString "BadSchema") = false by decide +kernel, show (Str.ofString "BadLot" == Str.ofString "BadSchema") = false by decide +kernel, show (Str.ofString "BadColumn" == Str.ofString "BadSchema") = false by decide +kernel,
    show (Str.ofString "BadCell" == Str.ofString "BadSchema") = false by decide +kernel, show (Str.ofString "BadNumber" == Str.ofString "BadSchema") = false by decide +kernel, show (Str.ofString "BadPaper" == Str.ofString "BadSchema") = false by decide +kernel, show (Str.ofString "TooMany" == Str.ofString "BadSchema") = false by decide +kernel]
  refine compD_fl (xs := [("schema", true), ("store", false), ("lot", false), ("column", false), ("cell", false), ("number", false), ("paper", false), ("many", false)]) (fun q : String × Bool => .tuple [.str (Str.ofString q.1), .bool q.2]) (fun q => .str (Str.ofString q.1)) (fun q => q.2) (fun q hq R1 R0 r1 r0 => ?_) (by (try simp only [sizeLine_eq, List.length_map, List.length_append, List.length_cons, List.length_nil]); first | omega | (simp; done) | (simp; omega)) ?_
  · simp_arith! only []
    cases e : q.2 with
    | true => exact r1 e
    | false => exact r0 e
  · show _
    simp_arith! only [List.filter_cons, List.filter_nil]
    rw [x_inT]
    refine ⟨by decide +kernel, by decide +kernel, ?_⟩
    simp_arith! only [List.any_cons, List.any_nil, eqv_strs, k_ofS]
    exact ⟨_, rfl, q⟩
theorem x_dTold {rF : Addr → Addr → Str → SD} {m : Nat} {ok : Str → Prop} {tb : ET} {E : XP} {η : EnvD} : dTold' rF m ok tb E η Q = tb (fun nm fs => ∃ f d, fs = [(f, d)] ∧ ok nm ∧ ∀ a dx, rF a dx nm never { nx := fun _ => Q .none, rt := Q } (.obj a (some (dx, f, d)) :: List.replicate m .un)) (drop η) fun d => Q (.list [d]) := id rfl
theorem x_drop0 : drop [] = [] := id rfl
theorem x_drop1 {x : Cell} {η : EnvD} : drop (x :: η) = dropC x :: drop η := id rfl
theorem x_dropD {d : D} : dropC (.dat d) = .dat d := id rfl
theorem x_dropO {ds : List D} : dropC (.own ds) = .un := id rfl
theorem x_dropU : dropC .un = .un := id rfl
theorem x_dropR : dropC .drw = .drw := id rfl
def dueK (d : D) : D := match faultK d with
  | none => .list [d]
  | some p => .tuple [.str (Str.ofString "schema"), p]
/-! ### what may be shown (whole numbers of 30 digits, dicts) -/
structure Sx (k w : Nat) (d : D) : Prop where
  dep : d.depth ≤ k
  wei : d.weight ≤ w
  can : d.showable = true
  lea : d.leavesShort 31 = true
theorem Sx.mono {k w k' w' : Nat} {d : D} (h : Sx k w d) (hk : k ≤ k') (hw : w ≤ w') : Sx k' w' d := ⟨Nat.le_trans h.dep hk, Nat.le_trans h.wei hw, h.can, h.lea⟩
theorem Sx.line {k w : Nat} {d : D} (h : Sx k w d) (hw : w ≤ 400000) : d.weight ≤ sizeLine := by
  have := h.wei
  rw [sizeLine_eq]
  omega
theorem Sx.repr {k w : Nat} {d : D} (h : Sx k w d) (hk : k ≤ 60) (hw : w ≤ 400000) : reprOk d := ⟨h.can, by
  have := PyData.shown_le 31 (by decide) d h.lea
  have := h.wei
  rw [sizeLine_eq]
  omega, Nat.le_trans h.dep hk⟩
theorem sx_all {k W : Nat} : ∀ {ds : List D}, (∀ d ∈ ds, Sx k W d) → PyData.depthAll ds ≤ k ∧ PyData.showableAll ds = true ∧ PyData.leavesShortAll 31 ds = true
  | [], _ => ⟨Nat.zero_le _, rfl, rfl⟩
  | d :: ds, h => by
    have r := h d List.mem_cons_self
    obtain ⟨i1, i3, i4⟩ := sx_all (ds := ds) (fun x hx => h x (List.mem_cons_of_mem _ hx))
    exact ⟨by rw [PyData.depthAll]; exact Nat.max_le.mpr ⟨r.dep, i1⟩, by rw [PyData.showableAll, r.can, i3]; rfl, by rw [PyData.leavesShortAll, r.lea, i4]; rfl⟩
theorem sx_tup {k w W : Nat} {ds : List D} (h : ∀ d ∈ ds, Sx k W d) (hw : PyData.weightAll ds ≤ w) : Sx (k + 1) w (.tuple ds) := by
  obtain ⟨i1, i3, i4⟩ := sx_all h
  exact ⟨by rw [PyData.depth]; exact Nat.succ_le_succ i1, by rw [PyData.weight]; exact hw, by rw [PyData.showable]; exact i3, by rw [PyData.leavesShort]; exact i4⟩
theorem sx_lst {k w W : Nat} {ds : List D} (h : ∀ d ∈ ds, Sx k W d) (hw : PyData.weightAll ds ≤ w) : Sx (k + 1) w (.list ds) := by
  obtain ⟨i1, i3, i4⟩ := sx_all h
  exact ⟨by rw [PyData.depth]; exact Nat.succ_le_succ i1, by rw [PyData.weight]; exact hw, by rw [PyData.showable]; exact i3, by rw [PyData.leavesShort]; exact i4⟩
theorem wt_le {w : Nat} : ∀ {ds : List D} (m : Nat), (∀ d ∈ ds, d.weight ≤ w) → ds.length ≤ m → PyData.weightAll ds ≤ m * (w + 1)
  | [], m, _, _ => Nat.zero_le _
  | d :: ds, m, h, hm => by
    have i2 := wt_le (ds := ds) ds.length (fun x hx => h x (List.mem_cons_of_mem _ hx)) (Nat.le_refl _)
    rw [PyData.weightAll]
    have h1 := h d List.mem_cons_self
    have h3 : (ds.length + 1) * (w + 1) ≤ m * (w + 1) := Nat.mul_le_mul_right _ (by simpa using hm)
    rw [Nat.add_mul, Nat.one_mul] at h3
    omega
theorem sx_tupM {k w : Nat} {ds : List D} (m : Nat) (h : ∀ d ∈ ds, Sx k w d) (hm : ds.length ≤ m) : Sx (k + 1) (m * (w + 1)) (.tuple ds) := sx_tup h (wt_le m (fun d hd => (h d hd).wei) hm)
theorem sx_lstM {k w : Nat} {ds : List D} (m : Nat) (h : ∀ d ∈ ds, Sx k w d) (hm : ds.length ≤ m) : Sx (k + 1) (m * (w + 1)) (.list ds) := sx_lst h (wt_le m (fun d hd => (h d hd).wei) hm)
theorem sx_of : ∀ {ds : List D} {k : Nat}, PyData.depthAll ds ≤ k → PyData.showableAll ds = true → PyData.leavesShortAll 31 ds = true → ∀ x ∈ ds, Sx k (PyData.weightAll ds) x
  | d :: ds, k, h1, h2, h3, x, hx => by
    rw [PyData.depthAll] at h1
    have h1 := Nat.max_le.mp h1
    rw [PyData.showableAll, Bool.and_eq_true] at h2
    rw [PyData.leavesShortAll, Bool.and_eq_true] at h3
    rcases List.mem_cons.mp hx with rfl | z
    · exact ⟨h1.1, by rw [PyData.weightAll]; omega, h2.1, h3.1⟩
    · exact (sx_of h1.2 h2.2 h3.2 x z).mono (Nat.le_refl _) (by rw [PyData.weightAll]; omega)
theorem Sx.tup {k w : Nat} {ds : List D} (h : Sx k w (.tuple ds)) : ∃ j, k = j + 1 ∧ (∀ x ∈ ds, Sx j w x) ∧ PyData.weightAll ds ≤ w := by
  obtain ⟨h1, h2, h3, h4⟩ := h
  rw [PyData.depth] at h1
  rw [PyData.weight] at h2
  rw [PyData.showable] at h3
  rw [PyData.leavesShort] at h4
  obtain ⟨j, rfl⟩ := Nat.exists_eq_add_of_le' (Nat.le_trans (Nat.succ_le_succ (Nat.zero_le _)) h1)
  exact ⟨j, rfl, fun x hx => (sx_of (k := j) (by omega) h3 h4 x hx).mono (Nat.le_refl _) h2, h2⟩
def sxB (k w : Nat) (d : D) : Bool := decide (d.depth ≤ k) && decide (d.weight ≤ w) && d.showable && d.leavesShort 31
theorem sx_by {k w : Nat} {d : D} (h : sxB k w d = true) : Sx k w d := by
  unfold sxB at h
  simp only [Bool.and_eq_true, decide_eq_true_eq] at h
  exact ⟨h.1.1.1, h.1.1.2, h.1.2, h.2⟩
end Lw

/-! PL250: k05: pairs of schemas, drawn ones. -/
namespace Lw
open PySem DL PL L2
open Lean.Parser.Tactic in
local macro_rules | `(tactic| simp_arith only [$xs,*] $[$l:location]?) => `(tactic| simp -implicitDefEqProofs only [x_sSeq, x_sNext, x_sSet, x_sSetL, x_sOwn, x_sOwnL, x_sNew, x_sPar, x_sParN, x_sRet, x_sRetN, x_sIf, x_sDrop, x_sFor, x_sWhile, x_sNever, x_sFrz, x_sApp, x_sAppL, x_sExtL, x_sExtS, x_onSeqEL, x_onSeqET, x_sAug, x_sAsg, x_sBreak, x_sCont, x_onDat, x_onSeqL, x_onSeqT, x_on1I, x_on2I, x_on2L, x_on2T, x_onScr, x_ifB, x_onS, x_onOwn, x_onList, x_onInt, x_onCInt, x_isDrw, x_lenScr, x_dV, x_dK, x_dOp, x_dTup, x_dNew, x_nLst, x_nCall, x_nComp, x_nRg, x_dTupRg, x_gRg1, x_gRg2, x_dCall, x_dCallF, x_dSl, x_oNone, x_oSome, x_dAnd, x_dOr, x_dNot, x_oNeg, x_bVal, x_bAnd, x_bOr, x_bNot, x_dIf, x_dChain, x_aNil, x_aCons, x_cNil, x_cCons, x_cDrw, x_iSeq, x_iRange1, x_iRange2, x_iZip2, x_iEnum1, x_iEnumZ, x_on2TT, x_nSortSet, x_onTupO, x_nSortSetI, x_nSortSetE, x_fMinL, x_fSumL, x_dDict0, x_sIns, x_sPut, x_sRaise, x_dCallE, x_sTry1, x_gN, x_gT, x_gCons, x_gNil, x_bYes, x_fLenL, x_fLenT, x_fLenS, x_fTupleL, x_fTupleT, x_fListL, x_fListT, x_fSorted, x_fAll, x_fAny, x_fSum, x_fIntI, x_fIntB, x_fMin2, x_fMax2, x_fRepr, x_dIsi, x_lend, x_lendD, x_lendO, x_lendR, x_lendU, x_lendS, x_wipe0, x_wipe1, x_addI, x_addS, x_addL, x_addT, x_sub, x_mod, x_div, x_mulW, x_divW, x_pow, x_mulI, x_mulL, x_eq, x_ne, x_inL, x_inT, x_mul2T, x_mul3T, x_dTwo, x_nSortSetL, x_sM2, x_sM3, x_on2C, x_on3C, x_mNil, x_mD, x_mN, x_aStar, x_fSortedT, x_isB, x_isN, x_isN0, x_isNI, x_isNT, x_isNL, x_isNS, x_isNB, x_lt, x_ltT, x_ord, x_ordT, x_ixL, x_ixT, x_ixS, x_fListD, x_fListDL, x_fReprD, x_dRev, x_nCat2, x_sOwnCat, x_onSeqRL, x_onSeqRT, x_onCat, x_eqT0, x_neL0, x_eqL0, x_neT0, x_addBI, x_addBB, x_fSortedD, x_dDc, x_dLend, x_bLend, x_nLend, x_sMut, x_dMutP, x_onMD, x_sPutM, x_sRetM, x_sRetS, x_onMt, x_cMut, x_onMx, x_stM, x_sCallM, x_sSetM, x_mTest, x_mCall, x_mAnd, x_sIfM, x_nSortSetT, x_fLenD, x_sUpdM, x_onDct, x_iSeqD, x_lendM, x_fMin2D, x_dFld, x_onLin, x_dMeth, x_sPutI, x_onIst, x_onDctF, x_sRetI, x_onIt, x_onIx, x_stI, x_mCallE, x_sDoI, x_sSetI, x_sExtI, x_sFldV, x_sFldM, x_dDcM, x_sMakeI, x_nComp2, x_bIfE, x_lendL, x_lendI, x_ownIx, x_ownLen, x_sColM, x_onAny, x_onMxM, x_onLs, x_stMM, x_colGo0, x_sAli2, x_dLendA, x_nLendA, x_lendA, x_aliD0, x_aliD1, x_onObj, x_lendO', x_sUnp, x_dNewF, x_dNewC, x_cNewL, x_dCallXM, x_sRetMN, x_sAsgM, x_sSelfM, x_sFrzM, x_sPopI, x_fMaxI, x_dGet, x_mSetd, x_gTL, x_iZipM, x_onStr, x_nSplit, x_dJoin, x_fStrI, x_fStrS, x_fIntT, x_oInSg, x_iTxt, x_sStar1, x_dDisp1, x_onMf, x_sAppM, x_sAppR, x_onFz, x_sRetSelfM, x_sInsR, x_sPopR, x_sPutR, x_sInsM, x_dIdx, x_oNotInSg, x_sRaise2, x_sTryN, x_nCompE, x_on2M, x_dSetEq, x_dHeard, x_dLenSet, oGe2, oLe2, oGt2, List.getElem?_cons_zero, List.getElem?_cons_succ, List.getElem?_nil, List.set_cons_zero, List.set_cons_succ, List.map_cons, List.map_nil, List.length_cons, List.length_nil, List.replicate, List.cons_append, List.nil_append, Nat.reduceSub, Nat.reduceAdd, Nat.zero_add, if_true, Bool.false_eq_true, if_false, bne_self_eq_false, Bool.true_bne, Bool.false_bne, Bool.not_true, Bool.not_false, true_and, and_true, Bool.bne_false, Bool.bne_true, $xs,*] $[$l:location]?)
open Lean.Parser.Tactic in
local macro_rules | `(tactic| simp_arith! only [$xs,*] $[$l:location]?) => `(tactic| simp -implicitDefEqProofs only [x_sSeq, x_sNext, x_sSet, x_sSetL, x_sOwn, x_sOwnL, x_sNew, x_sPar, x_sParN, x_sRet, x_sRetN, x_sIf, x_sDrop, x_sFor, x_sWhile, x_sNever, x_sFrz, x_sApp, x_sAppL, x_sExtL, x_sExtS, x_onSeqEL, x_onSeqET, x_sAug, x_sAsg, x_sBreak, x_sCont, x_onDat, x_onSeqL, x_onSeqT, x_on1I, x_on2I, x_on2L, x_on2T, x_onScr, x_ifB, x_onS, x_onOwn, x_onList, x_onInt, x_onCInt, x_isDrw, x_lenScr, x_dV, x_dK, x_dOp, x_dTup, x_dNew, x_nLst, x_nCall, x_nComp, x_nRg, x_dTupRg, x_gRg1, x_gRg2, x_dCall, x_dCallF, x_dSl, x_oNone, x_oSome, x_dAnd, x_dOr, x_dNot, x_oNeg, x_bVal, x_bAnd, x_bOr, x_bNot, x_dIf, x_dChain, x_aNil, x_aCons, x_cNil, x_cCons, x_cDrw, x_iSeq, x_iRange1, x_iRange2, x_iZip2, x_iEnum1, x_iEnumZ, x_on2TT, x_nSortSet, x_onTupO, x_nSortSetI, x_nSortSetE, x_fMinL, x_fSumL, x_dDict0, x_sIns, x_sPut, x_sRaise, x_dCallE, x_sTry1, x_gN, x_gT, x_gCons, x_gNil, x_bYes, x_fLenL, x_fLenT, x_fLenS, x_fTupleL, x_fTupleT, x_fListL, x_fListT, x_fSorted, x_fAll, x_fAny, x_fSum, x_fIntI, x_fIntB, x_fMin2, x_fMax2, x_fRepr, x_dIsi, x_lend, x_lendD, x_lendO, x_lendR, x_lendU, x_lendS, x_wipe0, x_wipe1, x_addI, x_addS, x_addL, x_addT, x_sub, x_mod, x_div, x_mulW, x_divW, x_pow, x_mulI, x_mulL, x_mul2T, x_mul3T, x_dTwo, x_nSortSetL, x_sM2, x_sM3, x_on2C, x_on3C, x_mNil, x_mD, x_mN, x_aStar, x_fSortedT, x_isB, x_isN, x_isN0, x_isNI, x_isNT, x_isNL, x_isNS, x_isNB, x_lt, x_ltT, x_ord, x_ordT, x_ixL, x_ixT, x_ixS, x_fListD, x_fListDL, x_fReprD, x_dRev, x_nCat2, x_sOwnCat, x_onSeqRL, x_onSeqRT, x_onCat, x_eqT0, x_neL0, x_eqL0, x_neT0, x_addBI, x_addBB, x_fSortedD, x_dDc, x_dLend, x_bLend, x_nLend, x_sMut, x_dMutP, x_onMD, x_sPutM, x_sRetM, x_sRetS, x_onMt, x_cMut, x_onMx, x_stM, x_sCallM, x_sSetM, x_mTest, x_mCall, x_mAnd, x_sIfM, x_nSortSetT, x_fLenD, x_sUpdM, x_onDct, x_iSeqD, x_lendM, x_fMin2D, x_dFld, x_onLin, x_dMeth, x_sPutI, x_onIst, x_onDctF, x_sRetI, x_onIt, x_onIx, x_stI, x_mCallE, x_sDoI, x_sSetI, x_sExtI, x_sFldV, x_sFldM, x_dDcM, x_sMakeI, x_nComp2, x_bIfE, x_lendL, x_lendI, x_ownIx, x_ownLen, x_sColM, x_onAny, x_onMxM, x_onLs, x_stMM, x_colGo0, x_sAli2, x_dLendA, x_nLendA, x_lendA, x_aliD0, x_aliD1, x_onObj, x_lendO', x_sUnp, x_dNewF, x_dNewC, x_cNewL, x_dCallXM, x_sRetMN, x_sAsgM, x_sSelfM, x_sFrzM, x_sPopI, x_fMaxI, x_dGet, x_mSetd, x_gTL, x_iZipM, x_onStr, x_nSplit, x_dJoin, x_fStrI, x_fStrS, x_fIntT, x_oInSg, x_iTxt, x_sStar1, x_dDisp1, x_onMf, x_sAppM, x_sAppR, x_onFz, x_sRetSelfM, x_sInsR, x_sPopR, x_sPutR, x_sInsM, x_dIdx, x_oNotInSg, x_sRaise2, x_sTryN, x_nCompE, x_on2M, x_dSetEq, x_dHeard, x_dLenSet, oGe2, oLe2, oGt2, List.getElem?_cons_zero, List.getElem?_cons_succ, List.getElem?_nil, List.set_cons_zero, List.set_cons_succ, List.map_cons, List.map_nil, List.length_cons, List.length_nil, List.replicate, List.cons_append, List.nil_append, Nat.reduceSub, Nat.reduceAdd, Nat.zero_add, if_true, Bool.false_eq_true, if_false, bne_self_eq_false, Bool.true_bne, Bool.false_bne, Bool.not_true, Bool.not_false, true_and, and_true, Bool.bne_false, Bool.bne_true, k_eqI, k_neI, k_eqS, k_neS, k_eqT, k_neT, k_eqLL, k_neLL, k_eqTT, k_neTT, k_inLI, k_inLT, k_inTTT, k_inT, k_in23, k_eqLn, k_neLn, k_eqTn, k_neTn, k_eqTn', k_neTn', k_onSeq, k_onTupO, k_onSeqE, k_lenT, k_tupL, k_tupT, k_listT, k_addT, k_addT1, k_ixT, ixN_map, onS_map, k_isiT, k_isiTi, k_isiTb, k_isiTs, k_isiTl, k_isi, k_isil, k_isii, k_isiib, k_isis, k_isNT, k_flatT, k_flatI, k_flatLs, k_flatTLs, k_gT, k_on2T, k_ordT, k_ltT, k_gR, k_ixR0, k_ixR1, k_ixS0, k_ixS1, List.length_map, eq_self, Int.cast_ofNat_Int, Int.reduceEq, Int.reduceLE, Int.reduceLT, Int.reduceAdd, Int.reduceSub, Int.reduceNeg, decide_true, decide_false, or_true, true_or, or_false, false_or, k_ofS, String.reduceEq, sizeLine_eq, Nat.reduceLeDiff, k_at0, k_at1, k_at2, k_at3, $xs,*] $[$l:location]?)
variable {n : Nat} {rs ss : Rules} {l m : List Int} {c : Int} {Q : D → Prop}
theorem setok_rulesN {F : Rules} (hl : F.length < 64) : SetOk (F.map ruleD) := by
  refine ⟨by rw [List.length_map]; omega, ?_, fun d hd d' hd' => ?_, fun d hd => ?_, fun d hd => ?_⟩
  · rw [List.all_eq_true]
    intro d hd
    obtain ⟨r, _, rfl⟩ := List.mem_map.mp hd
    exact itup_rule r
  · obtain ⟨r, _, rfl⟩ := List.mem_map.mp hd
    obtain ⟨r', _, rfl⟩ := List.mem_map.mp hd'
    exact alike_rule r r'
  · obtain ⟨r, _, rfl⟩ := List.mem_map.mp hd
    exact ⟨_, _, rfl⟩
  · obtain ⟨r, _, rfl⟩ := List.mem_map.mp hd
    rw [depth_rule]
    decide
theorem back_ascN {F : Rules} {ys : List D} (hp : ys.Pairwise fun a b => PySem.W.dataLt a b = true) (hm : ∀ d, d ∈ ys ↔ d ∈ F.map ruleD) : ∃ rs : Rules, ys = rs.map ruleD ∧ (∀ r ∈ rs, r ∈ F) ∧ rs.length ≤ F.length := by
  obtain ⟨rs, rfl, hr⟩ := back_rules fun y hy => (hm y).mp hy
  have nd : (rs.map ruleD).Nodup := hp.imp fun {a b} hab e => by
    subst e
    rw [lt_irrefl] at hab
    cases hab
  have := nodup_len nd fun y hy => (hm y).mp hy
  rw [List.length_map, List.length_map] at this
  exact ⟨rs, rfl, hr, this⟩
/-- a set of rules, sorted, is a schema's rules -/
theorem val_back (n1 : 1 ≤ n) (n6 : n ≤ 6) {F : Rules} (hF : ∀ r ∈ F, InL n r.1 ∧ InL n r.2) {ys : List D} (hp : ys.Pairwise fun a b => PySem.W.dataLt a b = true) (hm : ∀ d, d ∈ ys ↔ d ∈ F.map ruleD) : ∃ rs : Rules, ys = rs.map ruleD ∧ rs.length ≤ F.length ∧ (rs.length ≤ 10 → Val n rs) := by
  obtain ⟨rs, rfl, hr, hl⟩ := back_ascN hp hm
  exact ⟨rs, rfl, hl, fun few => ⟨n1, n6, few, fun r h => hF r (hr r h), List.pairwise_map.mp hp⟩⟩
theorem sp_law_schemaM {most : Int} (h1 : 1 ≤ n) (h6 : n ≤ 6) (m0 : 0 ≤ most) (m1 : most ≤ 10) (q : ∀ rs, Val n rs → (rs.length : Int) ≤ most → Q (schD n rs)) : w_law_schema never [.drw, .dat (.int n), .dat (.int most)] Q := by
  refine body_in rfl ?_
  unfold t_law_schema
  simp_arith only []
  refine ⟨by rw [sizeLine_eq]; decide, ?_⟩
  refine sp_next (by omega) (by omega) fun k k0 k1 => ?_
  simp_arith only []
  refine ⟨⟨by omega, by omega⟩, ?_⟩
  refine forD_inv (fun ds η => ∃ (F : Rules) (x4 : Cell), η = [.drw, .dat (.int n), .dat (.int most), .own (F.map ruleD), x4] ∧ ((F.length + ds.length : Nat) : Int) ≤ most ∧ ∀ r ∈ F, InL n r.1 ∧ InL n r.2) ?_ ?_ ⟨[], .un, rfl, by rw [rangeD_len]; simp; omega, fun r hr => by cases hr⟩
  · rintro d ds η ⟨F, x4, rfl, hl, hF⟩ nx hn
    rw [List.length_cons] at hl
    simp_arith only []
    refine ⟨by rw [sizeLine_eq]; decide, ?_⟩
    refine sp_law_among (by simp) (by simp) fun o ho => ?_
    obtain ⟨i, rfl, i0, i1⟩ : ∃ i : Int, o = .int i ∧ 0 < i ∧ i < 1000 := by
      simp only [List.mem_cons, List.not_mem_nil, or_false] at ho
      rcases ho with rfl | rfl | rfl
      · exact ⟨2, rfl, by decide, by decide⟩
      · exact ⟨3, rfl, by decide, by decide⟩
      · exact ⟨3, rfl, by decide, by decide⟩
    refine sp_law_lot (by omega) i0 i1 fun a ha => ?_
    refine sp_law_lot (by omega) (by decide) (by decide) fun b hb => ?_
    refine ⟨by rw [sizeLine_eq]; decide, by rw [sizeLine_eq, List.length_map]; omega, ?_⟩
    refine hn _ ⟨F ++ [(a, b)], .dat d, ?_, by rw [List.length_append, List.length_singleton]; omega, fun r hr => ?_⟩
    · rw [List.map_append]
      rfl
    · rcases List.mem_append.mp hr with z | z
      · exact hF r z
      · rw [List.mem_singleton] at z
        subst z
        exact ⟨ha, hb⟩
  · rintro η ⟨F, x4, rfl, hl, hF⟩
    simp_arith only []
    have hl' : (F.length : Int) ≤ most := by simpa using hl
    refine ⟨setok_rulesN (by omega), fun ys hp hm => ?_⟩
    obtain ⟨rs, rfl, hr, V⟩ := val_back h1 h6 hF hp hm
    refine ⟨by rw [sizeLine_eq]; decide, ?_⟩
    exact q rs (V (by omega)) (by omega)
/-! drawn schemas beside one -/
theorem sub_ints {l : List Int} {out : List D} (h : out.Sublist (l.map .int)) : ∃ k : List Int, out = k.map .int ∧ k.Sublist l := by
  obtain ⟨k, hk, rfl⟩ := List.sublist_map_iff.mp h
  exact ⟨k, rfl, hk⟩
theorem inl_subN (h : InL n l) (hm : m.Sublist l) : InL n m := .of_sub (hm.trans h.sub)
theorem add_rule (rs : Rules) (r : List Int × List Int) : rs.map ruleD ++ [ruleD r] = (rs ++ [r]).map ruleD := by rw [List.map_append]; rfl
theorem either {p : Prop} [Decidable p] {K : D → Prop} {A B : (D → Prop) → Prop} (hA : (∀ b, InL n b → K (T b)) → A K) (hB : (∀ b, InL n b → K (T b)) → B K) (k : ∀ b, InL n b → K (T b)) : if p then A K else B K := by
  split
  · exact hA k
  · exact hB k
theorem sp_law_with (h : Val n rs) (few : rs.length ≤ 9) (q : ∀ ss, Val n ss → Q (schD n ss)) : w_law_with never [.drw, .dat (schD n rs)] Q := by
  refine body_in rfl ?_
  have n6 := h.n6
  have n1 := h.n1
  unfold t_law_with
  simp_arith! only []
  unfold schD
  (try simp_arith! only [])
  refine sp_law_lot (by omega) (by decide) (by decide) fun a ha => ?_
  (try simp_arith! only [])
  refine sp_next (by decide) (by decide) fun r r0 r1 => ?_
  (try simp_arith! only [])
  refine either (n := n) (fun k => sp_law_settled h ha (k _ (settle_in n rs a))) (fun k => sp_law_lot (by omega) (by decide) (by decide) k) fun b hb => ?_
  have lb := hb.len
  rw [T_eq b]
  (try simp_arith! only [])
  refine compD_sub (fun d hd R1 R0 r1 r0 => ?_) (by rw [sizeLine_eq, List.length_nil, List.length_map]; omega) fun out ho => ?_
  · (try simp_arith! only [])
    refine sp_next (by decide) (by decide) fun r r0' r1' => ?_
    (try simp_arith! only [])
    split
    · exact r1
    · exact r0
  · rw [List.nil_append]
    obtain ⟨k, rfl, hk⟩ := sub_ints ho
    (try simp_arith! only [])
    rw [show PyData.tuple [T a, .tuple (k.map .int)] = ruleD (a, k) from rfl, add_rule]
    have hF : ∀ r ∈ rs ++ [(a, k)], InL n r.1 ∧ InL n r.2 := fun r hr => by
      rcases List.mem_append.mp hr with z | z
      · exact h.lots r z
      · rw [List.mem_singleton] at z
        subst z
        exact ⟨ha, inl_subN hb hk⟩
    have len : (rs ++ [(a, k)]).length ≤ 10 := by rw [List.length_append, List.length_singleton]; omega
    refine ⟨by omega, setok_rulesN (by omega), fun ys hp hm => ?_⟩
    obtain ⟨ss, rfl, hl, V⟩ := val_back n1 n6 hF hp hm
    (try simp_arith! only [])
    exact q ss (V (by omega))
theorem val_sub (h : Val n rs) (hs : ss.Sublist rs) : Val n ss := ⟨h.n1, h.n6, Nat.le_trans hs.length_le h.few, fun r hr => h.lots r (hs.subset hr), h.asc.sublist hs⟩
theorem sp_law_without (h : Val n rs) (q : ∀ ss, Val n ss → Q (schD n ss)) : w_law_without never [.drw, .dat (schD n rs)] Q := by
  refine body_in rfl ?_
  have few := h.few
  unfold t_law_without
  simp_arith! only []
  unfold schD
  (try simp_arith! only [])
  by_cases c : rs = []
  · subst c
    (try simp_arith! only [])
    exact q [] h
  · have lr : 0 < rs.length := List.length_pos_iff.mpr c
    (try simp_arith! only [])
    rw [if_neg (by simpa using c)]
    (try simp_arith! only [])
    refine sp_next (by omega) (by omega) fun k k0 k1 => ?_
    (try simp_arith! only [])
    rw [cut_map, cut_map, cut_take _ k0, cut_drop _ (by omega), ← List.map_append]
    refine ⟨by rw [List.length_map, List.length_map, List.length_take, List.length_drop]; omega, q _ (val_sub h ?_)⟩
    have : rs.take k.toNat ++ rs.drop (k + 1).toNat = rs.eraseIdx k.toNat := by
      rw [List.eraseIdx_eq_take_drop_succ]
      congr 2
      omega
    rw [this]
    exact List.eraseIdx_sublist _ _
def partsR (rs : Rules) : Rules := rs.flatMap fun r => r.2.map fun c => (r.1, [c])
theorem partsR_len (h : Val n rs) : (partsR rs).length ≤ 6 * rs.length := by
  have n6 := h.n6
  have : ∀ (R : Rules), (∀ r ∈ R, InL n r.2) → (partsR R).length ≤ 6 * R.length := by
    intro R
    induction R with
    | nil => intro _; exact Nat.le_refl _
    | cons r R ih =>
      intro hR
      have h1 := ih fun r hr => hR r (List.mem_cons_of_mem _ hr)
      have h2 := (hR r List.mem_cons_self).len
      unfold partsR at h1 ⊢
      rw [List.flatMap_cons, List.length_append, List.length_map, List.length_cons]
      omega
  exact this rs fun r hr => (h.lots r hr).2
theorem partsR_in (h : Val n rs) : ∀ r ∈ partsR rs, InL n r.1 ∧ InL n r.2 := by
  intro r hr
  obtain ⟨s, hs, hr⟩ := List.mem_flatMap.mp hr
  obtain ⟨c, hc, rfl⟩ := List.mem_map.mp hr
  have v := h.lots s hs
  exact ⟨v.1, ⟨List.pairwise_singleton _ _, fun x hx => by rw [List.mem_singleton.mp hx]; exact v.2.rng c hc⟩⟩
theorem partsR_snoc (R : Rules) (r : List Int × List Int) : partsR (R ++ [r]) = partsR R ++ r.2.map fun c => (r.1, [c]) := by
  unfold partsR
  rw [List.flatMap_append, List.flatMap_singleton]
theorem sp_law_parted (h : Val n rs) (few : rs.length ≤ 9) (q : ∀ ss, Val n ss → Q (schD n ss)) : w_law_parted never [.dat (schD n rs)] Q := by
  refine body_in rfl ?_
  have n1 := h.n1
  have n6 := h.n6
  have pl := partsR_len h
  unfold t_law_parted
  simp_arith! only []
  unfold schD
  (try simp_arith! only [])
  refine forD_dr ruleD (fun done η => ∃ x2 x3 x4, η = [.dat (.tuple [.int n, .tuple (rs.map ruleD)]), .dat (.list ((partsR done).map ruleD)), x2, x3, x4]) ?_ ?_ ⟨_, _, _, rfl⟩
  · rintro done r rest η e ⟨x2, x3, x4, rfl⟩ nx hn
    have hr := h.lots r (by rw [e]; simp)
    have lr := hr.2.len
    have pl1 : (partsR (done ++ [r])).length ≤ 6 * (done ++ [r]).length := partsR_len (n := n) (val_sub h (by rw [e, show done ++ r :: rest = (done ++ [r]) ++ rest by simp]; exact List.sublist_append_left _ _))
    have pl2 : (done ++ [r]).length ≤ rs.length := by rw [e]; simp
    rw [partsR_snoc, List.length_append, List.length_map] at pl1
    unfold ruleD
    (try simp_arith! only [])
    rw [T_eq r.2]
    (try simp_arith! only [])
    refine compD_mp .int (fun c => ruleD (r.1, [c])) (fun c hc R1 R0 r1 => ?_) (by rw [sizeLine_eq, List.length_nil]; omega) ?_
    · (try simp_arith! only [])
      exact r1
    · rw [List.nil_append]
      (try simp_arith! only [])
      refine ⟨by (try simp only [List.length_map]); omega, hn _ ⟨.dat (T r.1), .dat (T r.2), x4, ?_⟩⟩
      rw [partsR_snoc, List.map_append, List.map_map]
      rfl
  · rintro η ⟨x2, x3, x4, rfl⟩
    (try simp_arith! only [])
    refine ⟨setok_rulesN (by omega), fun ys hp hm => ?_⟩
    obtain ⟨ss, rfl, hl, V⟩ := val_back n1 n6 (partsR_in h) hp hm
    (try simp_arith! only [])
    by_cases c : ss.length ≤ 10
    · rw [if_pos (by simp; omega)]
      exact q ss (V c)
    · rw [if_neg (by simp; omega)]
      exact q rs h
theorem sp_law_widened (h : Val n rs) (q : ∀ ss, Val n ss → ss.length ≤ rs.length → Q (schD n ss)) : w_law_widened never [.dat (schD n rs)] Q := by
  refine body_in rfl ?_
  have n1 := h.n1
  have n6 := h.n6
  have few := h.few
  unfold t_law_widened
  simp_arith! only []
  unfold schD
  (try simp_arith! only [])
  refine compD_mp ruleD (fun r => ruleD (r.1, settle n rs r.1)) (fun r hr R1 R0 r1 => ?_) (by rw [sizeLine_eq, List.length_nil]; omega) ?_
  · have hr := h.lots r hr
    unfold ruleD at r1 ⊢
    (try simp_arith! only [])
    refine sp_law_settled h hr.1 ?_
    (try simp_arith! only [])
    exact r1
  · rw [List.nil_append, show (rs.map fun r => ruleD (r.1, settle n rs r.1)) = (rs.map fun r => (r.1, settle n rs r.1)).map ruleD by rw [List.map_map]; rfl]
    refine ⟨setok_rulesN (by rw [List.length_map]; omega), fun ys hp hm => ?_⟩
    obtain ⟨ss, rfl, hl, V⟩ := val_back n1 n6 (F := rs.map fun r => (r.1, settle n rs r.1)) (fun r hr => by
      obtain ⟨s, hs, rfl⟩ := List.mem_map.mp hr
      exact ⟨(h.lots s hs).1, settle_in n rs s.1⟩) hp hm
    rw [List.length_map] at hl
    (try simp_arith! only [])
    exact q ss (V (by omega)) hl
/-! told -/
theorem sp_are_alike {E : XP} (h : Val n rs) (h2 : Val n ss) (q : Q (.bool (decide (closedL n rs = closedL n ss)))) : w_are_alike E [.dat (schD n rs), .dat (schD n ss)] Q := by
  refine body_in rfl ?_
  have n6 := h.n6
  unfold t_are_alike
  simp_arith! only []
  refine sp_need_schema h ?_
  (try simp_arith! only [])
  refine sp_need_schema h2 ?_
  unfold schD
  (try simp_arith! only [])
  try rw [if_neg (by simp)]
  refine sp_closed_in h ?_
  refine sp_closed_in h2 ?_
  (try simp_arith! only [])
  exact q
theorem rp_pair (h : Val n rs) (h2 : Val n ss) : Rp 5 215166 (.list [schD n rs, schD n ss]) := rp_lst 2 (k := 4) (w := 107582) (fun d hd => by
  simp only [List.mem_cons, List.not_mem_nil, or_false] at hd
  rcases hd with rfl | rfl
  · exact h.rp
  · exact h2.rp) (Nat.le_refl _)
theorem rp_four (b : Bool) : Rp 1 4 (.list [.bool b, .bool b, .bool b, .bool b]) := rp_lst 4 (k := 0) (w := 0) (fun d hd => by
  simp only [List.mem_cons, List.not_mem_nil, or_false, or_self] at hd
  rw [hd]
  exact rp_bool b) (Nat.le_refl _)
theorem sp_law_is_told (h : Val n rs) (h2 : Val n ss) (q : Q (.bool true)) : w_law_is_told never [.dat (schD n rs), .dat (schD n ss)] Q := by
  refine body_in rfl ?_
  have r0 := (rp_pair h h2).repr (by decide) (by decide)
  have r1 := (rp_four (decide (closedL n rs = closedL n ss))).repr (by decide) (by decide)
  unfold t_law_is_told
  simp_arith! only []
  refine ⟨r0.1, r0.2, ?_⟩
  refine sp_law_closed h ?_
  refine sp_law_closed h2 ?_
  (try simp_arith! only [])
  refine sp_are_alike h h2 ?_
  refine sp_are_alike h2 h ?_
  rw [show decide (closedL n ss = closedL n rs) = decide (closedL n rs = closedL n ss) by rw [decide_eq_decide]; exact eq_comm]
  refine sp_are_alike h h2 ?_
  refine sp_are_alike h2 h ?_
  rw [show decide (closedL n ss = closedL n rs) = decide (closedL n rs = closedL n ss) by rw [decide_eq_decide]; exact eq_comm]
  (try simp_arith! only [])
  refine ⟨r1.1, r1.2, by decide, r1.1, r1.2, ?_⟩
  rw [if_pos (by exact decide_eq_true rfl)]
  exact ⟨r0.1, r0.2, q⟩
end Lw

/-! PL251: k05: what is refused; by hand. -/
namespace Lw
open PySem DL PL L2
open Lean.Parser.Tactic in
local macro_rules | `(tactic| simp_arith! only [$xs,*] $[$l:location]?) => `(tactic| simp -implicitDefEqProofs only [x_sSeq, x_sNext, x_sSet, x_sSetL, x_sOwn, x_sOwnL, x_sNew, x_sPar, x_sParN, x_sRet, x_sRetN, x_sIf, x_sDrop, x_sFor, x_sWhile, x_sNever, x_sFrz, x_sApp, x_sAppL, x_sExtL, x_sExtS, x_onSeqEL, x_onSeqET, x_sAug, x_sAsg, x_sBreak, x_sCont, x_onDat, x_onSeqL, x_onSeqT, x_on1I, x_on2I, x_on2L, x_on2T, x_onScr, x_ifB, x_onS, x_onOwn, x_onList, x_onInt, x_onCInt, x_isDrw, x_lenScr, x_dV, x_dK, x_dOp, x_dTup, x_dNew, x_nLst, x_nCall, x_nComp, x_nRg, x_dTupRg, x_gRg1, x_gRg2, x_dCall, x_dCallF, x_dSl, x_oNone, x_oSome, x_dAnd, x_dOr, x_dNot, x_oNeg, x_bVal, x_bAnd, x_bOr, x_bNot, x_dIf, x_dChain, x_aNil, x_aCons, x_cNil, x_cCons, x_cDrw, x_iSeq, x_iRange1, x_iRange2, x_iZip2, x_iEnum1, x_iEnumZ, x_on2TT, x_nSortSet, x_onTupO, x_nSortSetI, x_nSortSetE, x_fMinL, x_fSumL, x_dDict0, x_sIns, x_sPut, x_sRaise, x_dCallE, x_sTry1, x_gN, x_gT, x_gCons, x_gNil, x_bYes, x_fLenL, x_fLenT, x_fLenS, x_fTupleL, x_fTupleT, x_fListL, x_fListT, x_fSorted, x_fAll, x_fAny, x_fSum, x_fIntI, x_fIntB, x_fMin2, x_fMax2, x_fRepr, x_dIsi, x_lend, x_lendD, x_lendO, x_lendR, x_lendU, x_lendS, x_wipe0, x_wipe1, x_addI, x_addS, x_addL, x_addT, x_sub, x_mod, x_div, x_mulW, x_divW, x_pow, x_mulI, x_mulL, x_mul2T, x_mul3T, x_dTwo, x_nSortSetL, x_sM2, x_sM3, x_on2C, x_on3C, x_mNil, x_mD, x_mN, x_aStar, x_fSortedT, x_isB, x_isN, x_isN0, x_isNI, x_isNT, x_isNL, x_isNS, x_isNB, x_lt, x_ltT, x_ord, x_ordT, x_ixL, x_ixT, x_ixS, x_fListD, x_fListDL, x_fReprD, x_dRev, x_nCat2, x_sOwnCat, x_onSeqRL, x_onSeqRT, x_onCat, x_eqT0, x_neL0, x_eqL0, x_neT0, x_addBI, x_addBB, x_fSortedD, x_dDc, x_dLend, x_bLend, x_nLend, x_sMut, x_dMutP, x_onMD, x_sPutM, x_sRetM, x_sRetS, x_onMt, x_cMut, x_onMx, x_stM, x_sCallM, x_sSetM, x_mTest, x_mCall, x_mAnd, x_sIfM, x_nSortSetT, x_fLenD, x_sUpdM, x_onDct, x_iSeqD, x_lendM, x_fMin2D, x_dFld, x_onLin, x_dMeth, x_sPutI, x_onIst, x_onDctF, x_sRetI, x_onIt, x_onIx, x_stI, x_mCallE, x_sDoI, x_sSetI, x_sExtI, x_sFldV, x_sFldM, x_dDcM, x_sMakeI, x_nComp2, x_bIfE, x_lendL, x_lendI, x_ownIx, x_ownLen, x_sColM, x_onAny, x_onMxM, x_onLs, x_stMM, x_colGo0, x_sAli2, x_dLendA, x_nLendA, x_lendA, x_aliD0, x_aliD1, x_onObj, x_lendO', x_sUnp, x_dNewF, x_dNewC, x_cNewL, x_dCallXM, x_sRetMN, x_sAsgM, x_sSelfM, x_sFrzM, x_sPopI, x_fMaxI, x_dGet, x_mSetd, x_gTL, x_iZipM, x_onStr, x_nSplit, x_dJoin, x_fStrI, x_fStrS, x_fIntT, x_oInSg, x_iTxt, x_sStar1, x_dDisp1, x_onMf, x_sAppM, x_sAppR, x_onFz, x_sRetSelfM, x_sInsR, x_sPopR, x_sPutR, x_sInsM, x_dIdx, x_oNotInSg, x_sRaise2, x_sTryN, x_nCompE, x_on2M, x_dSetEq, x_dHeard, x_dLenSet, oGe2, oLe2, oGt2, List.getElem?_cons_zero, List.getElem?_cons_succ, List.getElem?_nil, List.set_cons_zero, List.set_cons_succ, List.map_cons, List.map_nil, List.length_cons, List.length_nil, List.replicate, List.cons_append, List.nil_append, Nat.reduceSub, Nat.reduceAdd, Nat.zero_add, if_true, Bool.false_eq_true, if_false, bne_self_eq_false, Bool.true_bne, Bool.false_bne, Bool.not_true, Bool.not_false, true_and, and_true, Bool.bne_false, Bool.bne_true, k_eqI, k_neI, k_eqS, k_neS, k_eqT, k_neT, k_eqLL, k_neLL, k_eqTT, k_neTT, k_inLI, k_inLT, k_inTTT, k_inT, k_in23, k_eqLn, k_neLn, k_eqTn, k_neTn, k_eqTn', k_neTn', k_onSeq, k_onTupO, k_onSeqE, k_lenT, k_tupL, k_tupT, k_listT, k_addT, k_addT1, k_ixT, ixN_map, onS_map, k_isiT, k_isiTi, k_isiTb, k_isiTs, k_isiTl, k_isi, k_isil, k_isii, k_isiib, k_isis, k_isNT, k_flatT, k_flatI, k_flatLs, k_flatTLs, k_gT, k_on2T, k_ordT, k_ltT, k_gR, k_ixR0, k_ixR1, k_ixS0, k_ixS1, List.length_map, eq_self, Int.cast_ofNat_Int, Int.reduceEq, Int.reduceLE, Int.reduceLT, Int.reduceAdd, Int.reduceSub, Int.reduceNeg, decide_true, decide_false, or_true, true_or, or_false, false_or, k_ofS, String.reduceEq, sizeLine_eq, Nat.reduceLeDiff, k_at0, k_at1, k_at2, k_at3, $xs,*] $[$l:location]?)
variable {n : Nat} {rs ss : Rules} {l m : List Int} {c : Int} {Q : D → Prop}
def numW (d : D) : D := .tuple [.str (Str.ofString "number"), d]
def schW (d : D) : D := .tuple [.str (Str.ofString "schema"), d]
theorem sp_refusal_number {a dx : Addr} {d : D} (q : Q (numW d)) : t_law_refusal a dx "BadNumber" never { nx := fun _ => Q .none, rt := Q } (.obj a (some (dx, "value", d)) :: List.replicate 4 .un) := by
  unfold t_law_refusal
  simp_arith! only [x_dIsE, x_dFldE]
  refine ⟨⟨_, _, rfl⟩, ⟨_, _, rfl⟩, ⟨_, _, rfl⟩, ⟨_, _, rfl⟩, ⟨_, _, rfl⟩, ⟨_, _, rfl⟩, ⟨_, _, rfl⟩, ⟨_, _, rfl⟩, ?_⟩
  rw [show (Str.ofString "BadSchema" == Str.ofString "BadNumber") = false by decide +kernel, show (Str.ofString "BadStore" == Str.ofString "BadNumber") = false by decide +kernel, show (Str.ofString "BadLot" == Str.ofString "BadNumber") = false by decide +kernel, show (Str.ofString "BadColumn" == Str.ofString "BadNumber") = false by decide +kernel,
    show (Str.ofString "BadCell" == Str.ofString "BadNumber") = false by decide +kernel, show (Str.ofString "BadNumber" == Str.ofString "BadNumber") = true by decide +kernel, show (Str.ofString "BadPaper" == Str.ofString "BadNumber") = false by decide +kernel, show (Str.ofString "TooMany" == Str.ofString "BadNumber") = false by decide +kernel]
  refine compD_fl (xs := [("schema", false), ("store", false), ("lot", false), ("column", false), ("cell", false), ("number", true), ("paper", false), ("many", false)]) (fun q : String × Bool => .tuple [.str (Str.ofString q.1), .bool q.2]) (fun q => .str (Str.ofString q.1)) (fun q => q.2) (fun q hq R1 R0 r1 r0 => ?_) (by (try simp only [sizeLine_eq, List.length_map, List.length_append, List.length_cons, List.length_nil]); first | omega | (simp; done) | (simp; omega)) ?_
  · simp_arith! only []
    cases e : q.2 with
    | true => exact r1 e
    | false => exact r0 e
  · show _
    simp_arith! only [List.filter_cons, List.filter_nil]
    rw [x_inT]
    refine ⟨by decide +kernel, by decide +kernel, ?_⟩
    simp_arith! only [List.any_cons, List.any_nil, eqv_strs, k_ofS]
    rw [x_inT]
    refine ⟨by decide +kernel, by decide +kernel, ?_⟩
    simp_arith! only [List.any_cons, List.any_nil, eqv_strs, k_ofS]
    exact ⟨_, rfl, q⟩
abbrev tellE (Q : D → Prop) : XP := fun nm fs => ∃ f d, fs = [(f, d)] ∧ okN nm ∧ ∀ a dx, t_law_refusal a dx nm never { nx := fun _ => Q .none, rt := Q } (.obj a (some (dx, f, d)) :: List.replicate 4 .un)
theorem tell_num {d : D} (q : Q (numW d)) : tellE Q "BadNumber" [("value", d)] := ⟨_, _, rfl, (by decide +kernel : Str.ofString "BadNumber" ∈ toldNames), fun a dx => sp_refusal_number q⟩
theorem tell_sch {d : D} (q : Q (schW d)) : tellE Q "BadSchema" [("place", d)] := ⟨_, _, rfl, (by decide +kernel : Str.ofString "BadSchema" ∈ toldNames), fun a dx => sp_refusal_schema q⟩
theorem alike_first {o : D} (d : D) (ho : o.weight ≤ sizeLine) {p : D} (hf : faultK o = some p) {P : D → Prop} (q : Q (schW p)) : w_are_alike (tellE Q) [.dat o, .dat d] P := by
  refine body_in rfl ?_
  unfold t_are_alike
  simp_arith! only []
  refine sp_need_schemaA o ho (fun z => by rw [hf] at z; cases z) fun p' hp => ?_
  rw [hf] at hp
  cases hp
  exact tell_sch q
theorem alike_second {o : D} (h : Val n rs) (ho : o.weight ≤ sizeLine) {p : D} (hf : faultK o = some p) {P : D → Prop} (q : Q (schW p)) : w_are_alike (tellE Q) [.dat (schD n rs), .dat o] P := by
  refine body_in rfl ?_
  unfold t_are_alike
  simp_arith! only []
  refine sp_need_schema h ?_
  (try simp_arith! only [])
  refine sp_need_schemaA o ho (fun z => by rw [hf] at z; cases z) fun p' hp => ?_
  rw [hf] at hp
  cases hp
  exact tell_sch q
theorem alike_wide {k : Nat} (h : Val n rs) (h2 : Val k ss) (ne : k ≠ n) {P : D → Prop} (q : Q (numW (.int k))) : w_are_alike (tellE Q) [.dat (schD n rs), .dat (schD k ss)] P := by
  refine body_in rfl ?_
  unfold t_are_alike
  simp_arith! only []
  refine sp_need_schema h ?_
  (try simp_arith! only [])
  refine sp_need_schema h2 ?_
  unfold schD
  (try simp_arith! only [])
  rw [if_pos (by simp; omega)]
  exact tell_num q
def oddsA (n : Nat) : List (D × D) := [(.none, .tuple []), (.tuple [], .tuple []), (.tuple [.int n], .tuple []), (.tuple [.int 7, .tuple []], .tuple [.str (Str.ofString "wide")]), (.tuple [.int 0, .none], .tuple [.str (Str.ofString "wide")]), (.tuple [.bool true, .tuple []], .tuple [.str (Str.ofString "wide")]),
  (.tuple [.int 2, .list [.tuple []]], .tuple [.str (Str.ofString "rules")]), (.tuple [.int 2, .tuple [.none]], .tuple [.str (Str.ofString "rule"), .int 0]), (.tuple [.int 2, .tuple [.tuple [.tuple [.int 0], .tuple []], .tuple [.tuple [.int 0], .tuple []]]], .tuple [.str (Str.ofString "rule"), .int 1])]
theorem oddsA_ok (n6 : n ≤ 6) : ∀ q ∈ oddsA n, q.1.weight ≤ sizeLine ∧ faultK q.1 = some q.2 ∧ Sx 1 60 q.2 ∧ q.2.hasDict = false := by
  intro q hq
  have w1 : (PyData.tuple [.int n]).weight ≤ sizeLine := by
    have : ∀ k : Nat, k ≤ 6 → (PyData.tuple [.int k]).weight ≤ 400000 := by decide +kernel
    have := this n n6
    rw [sizeLine_eq]
    omega
  unfold oddsA at hq
  simp only [List.mem_cons, List.not_mem_nil, or_false] at hq
  rcases hq with rfl | rfl | rfl | rfl | rfl | rfl | rfl | rfl | rfl
  · exact ⟨by decide +kernel, rfl, sx_by (by decide +kernel), rfl⟩
  · exact ⟨by decide +kernel, rfl, sx_by (by decide +kernel), rfl⟩
  · exact ⟨w1, faultK_ne (by simp), (sx_by (by decide +kernel) : Sx 1 60 (.tuple [])), rfl⟩
  · exact ⟨by decide +kernel, faultK_w (by decide +kernel), sx_by (by decide +kernel), rfl⟩
  · exact ⟨by decide +kernel, faultK_w (by decide +kernel), sx_by (by decide +kernel), rfl⟩
  · exact ⟨by decide +kernel, faultK_w (by decide +kernel), sx_by (by decide +kernel), rfl⟩
  · exact ⟨by decide +kernel, rfl, sx_by (by decide +kernel), rfl⟩
  · exact ⟨by decide +kernel, rfl, sx_by (by decide +kernel), rfl⟩
  · exact ⟨by decide +kernel, rfl, sx_by (by decide +kernel), rfl⟩
theorem sx_schW {d : D} (hd : Sx 1 60 d) : Sx 2 250 (schW d) := (sx_tupM 2 (k := 1) (w := 100) (fun x hx => by
  simp only [List.mem_cons, List.not_mem_nil, or_false] at hx
  rcases hx with rfl | rfl
  · exact (sx_by (by decide +kernel)).mono (k := 1) (w := 60) (by decide) (by decide)
  · exact hd.mono (by decide) (by decide)) (Nat.le_refl _)).mono (by decide) (by decide)
theorem val_none {k : Nat} (k1 : 1 ≤ k) (k6 : k ≤ 6) : Val k [] := ⟨k1, k6, Nat.zero_le _, fun r hr => (nomatch hr), List.Pairwise.nil⟩
theorem sp_law_refused_right (h : Val n rs) (q : Q (.bool true)) : w_law_refused_right never [.drw, .dat (schD n rs)] Q := by
  refine body_in rfl ?_
  have n6 := h.n6
  have n1 := h.n1
  have w1 := h.rp.wei
  unfold t_law_refused_right
  simp_arith! only []
  unfold schD
  (try simp_arith! only [])
  refine ⟨⟨by decide, by decide, by decide, by decide⟩, ?_⟩
  show compD _ _ _ _ (([1, 2, 3, 4, 5, 6] : List Int).map .int) _ _
  refine compD_fl (xs := [1, 2, 3, 4, 5, 6]) .int .int (fun k : Int => decide (k ≠ n)) (fun k hk R1 R0 r1 r0 => ?_) (by rw [sizeLine_eq]; decide) ?_
  · (try simp_arith! only [])
    by_cases c : k = n
    · rw [if_neg (by simp [c])]; exact r0 (by simp [c])
    · rw [if_pos (by simp [c])]; exact r1 (by simp [c])
  rw [List.nil_append]
  refine sp_law_among (by
    have : ∀ k : Nat, 1 ≤ k → k ≤ 6 → ([1, 2, 3, 4, 5, 6] : List Int).filter (fun j => decide (j ≠ (k : Int))) ≠ [] := by
      intro k k1 k6
      have : k = 1 ∨ k = 2 ∨ k = 3 ∨ k = 4 ∨ k = 5 ∨ k = 6 := by omega
      rcases this with rfl | rfl | rfl | rfl | rfl | rfl <;> decide
    simpa using this n n1 n6) (by rw [List.length_map]; exact Nat.le_trans (List.length_filter_le _ _) (by decide)) fun o ho => ?_
  obtain ⟨k, rfl, k1, k6, ne⟩ : ∃ k : Nat, o = .int k ∧ 1 ≤ k ∧ k ≤ 6 ∧ k ≠ n := by
    obtain ⟨j, hj, rfl⟩ := List.mem_map.mp ho
    obtain ⟨hj, nj⟩ := List.mem_filter.mp hj
    simp only [List.mem_cons, List.not_mem_nil, or_false] at hj
    have nj : j ≠ n := by simpa using nj
    exact ⟨j.toNat, by rw [show ((j.toNat : Nat) : Int) = j by omega], by omega, by omega, by omega⟩
  have V := val_none k1 k6
  (try simp_arith! only [])
  show forD _ _ _ _ ((oddsA n).map fun q => .tuple [q.1, q.2]) _
  refine forD_dr (fun q : D × D => PyData.tuple [q.1, q.2]) (fun done η => ∃ c2 c3 c4 c6 c7 c8 : Cell, η = [.drw, .dat (schD n rs), c2, c3, c4, .dat (schD k []), c6, c7, c8]) ?_ ?_ ⟨_, _, _, _, _, _, rfl⟩
  · rintro done ⟨o, p⟩ rest η e ⟨c2, c3, c4, c6, c7, c8, rfl⟩ nx hn
    obtain ⟨ow, of, op, od⟩ := oddsA_ok n6 (o, p) (by rw [e]; simp)
    have sw := sx_schW op
    have rr : reprOk (.list [schW p, schW p, schW p, schW p]) := (sx_lstM 4 (k := 2) (w := 250) (ds := [schW p, schW p, schW p, schW p]) (fun x hx => by
      simp only [List.mem_cons, List.not_mem_nil, or_false, or_self] at hx
      rw [hx]
      exact sw) (Nat.le_refl _)).repr (by decide) (by decide)
    (try simp_arith! only [])
    rw [x_dTold]
    simp_arith! only [x_drop0, x_drop1, x_dropD, x_dropO, x_dropU, x_dropR]
    refine alike_first _ ow of ?_
    rw [x_dTold]
    simp_arith! only [x_drop0, x_drop1, x_dropD, x_dropO, x_dropU, x_dropR]
    refine alike_second h ow of ?_
    (try simp_arith! only [])
    rw [x_dTold]
    simp_arith! only [x_drop0, x_drop1, x_dropD, x_dropO, x_dropU, x_dropR]
    refine alike_first _ ow of ?_
    rw [x_dTold]
    simp_arith! only [x_drop0, x_drop1, x_dropD, x_dropO, x_dropU, x_dropR]
    refine alike_first _ ow of ?_
    (try simp_arith! only [])
    have rd : PyData.hasDict (.list [schW p, schW p, schW p, schW p]) = false := by simp [schW, PyData.hasDict, PyData.hasDictAll, od]
    refine ⟨rr, rd, by decide, rr, rd, ?_⟩
    rw [if_neg (by
      show ¬ ((!decide ((PyData.list [schW p, schW p, schW p, schW p]).shown = (PyData.list [schW p, schW p, schW p, schW p]).shown)) = true)
      rw [decide_eq_true rfl]; decide)]
    exact hn _ ⟨_, _, _, _, _, _, rfl⟩
  · rintro η ⟨c2, c3, c4, c6, c7, c8, rfl⟩
    (try simp_arith! only [])
    rw [x_dTold]
    simp_arith! only [x_drop0, x_drop1, x_dropD, x_dropO, x_dropU, x_dropR]
    refine alike_wide h V ne ?_
    rw [x_dTold]
    simp_arith! only [x_drop0, x_drop1, x_dropD, x_dropO, x_dropU, x_dropR]
    refine alike_wide V h (Ne.symm ne) ?_
    have key : ∀ a : Nat, a ≤ 6 → ∀ b : Nat, b ≤ 6 → (eqOk (.list [numW (.int a), numW (.int b)]) (.list [numW (.int a), numW (.int b)]) && PyData.eqv (.list [numW (.int a), numW (.int b)]) (.list [numW (.int a), numW (.int b)])) = true := by decide +kernel
    refine (eq_lit (key k k6 n n6)).mpr ?_
    exact q
/-! by hand -/
abbrev Pr := Nat × Rules × Rules × Bool
def fA (q : Pr) : D := .tuple [schD q.1 q.2.1, schD q.1 q.2.2.1, .bool q.2.2.2]
def aR : Rules := [([0], [1]), ([1], [2]), ([2], [0])]
def aB : Rules := [([0], [2]), ([1], [0]), ([2], [1])]
def aW : Rules := [([0], [0, 1, 2]), ([1], [0, 1, 2]), ([2], [0, 1, 2])]
def aL : Rules := [([0], [1]), ([1], [2])]
def wR : Rules := [([0], [1]), ([1], [2]), ([2], [3]), ([3], [4]), ([4], [5])]
def wT : Rules := [([0], [0, 1, 2, 3, 4, 5]), ([1], [1, 2, 3, 4, 5]), ([2], [2, 3, 4, 5]), ([3], [3, 4, 5]), ([4], [4, 5])]
def hsA : List Pr := [(3, aR, aB, true), (3, aR, aW, true), (3, aR, aL, false), (6, [], [([0, 5], [5])], true), (3, aL, [([0], [1, 2]), ([1], [2])], true), (2, [([], [0])], [], false), (2, [([], [0, 1])], [([], [0]), ([0], [1])], true), (1, [], [([0], [])], true),
  (6, wR, wT, true), (6, wR, wR.take 4, false), (6, wR, wR.drop 1, false)]
theorem hsA_val : ∀ q ∈ hsA, Val q.1 q.2.1 ∧ Val q.1 q.2.2.1 := by
  intro q hq
  unfold hsA at hq
  simp only [List.mem_cons, List.not_mem_nil, or_false] at hq
  rcases hq with rfl | rfl | rfl | rfl | rfl | rfl | rfl | rfl | rfl | rfl | rfl <;> exact ⟨val_of (by decide +kernel), val_of (by decide +kernel)⟩
theorem hsA_due : ∀ q ∈ hsA, decide (closedL q.1 q.2.1 = closedL q.1 q.2.2.1) = q.2.2.2 := by decide +kernel
set_option maxHeartbeats 2000000 in
theorem sp_law_by_hand_right (q : Q (.bool true)) : w_law_by_hand_right never [] Q := by
  refine body_in rfl ?_
  unfold t_law_by_hand_right
  simp_arith! only []
  refine ⟨⟨by decide, by decide⟩, ?_⟩
  show compD _ _ _ _ (([0, 1, 2, 3, 4] : List Int).map .int) _ _
  refine compD_mp .int (fun k => ruleD ([k], [k + 1])) (fun k hk R1 R0 r1 => ?_) (by rw [sizeLine_eq]; decide) ?_
  · (try simp_arith! only [])
    exact r1
  rw [List.nil_append]
  (try simp_arith! only [])
  refine ⟨⟨by decide, by decide⟩, ?_⟩
  show compD _ _ _ _ (([0, 1, 2, 3, 4] : List Int).map .int) _ _
  refine compD_mp .int (fun k => ruleD ([k], (cols 6).filter fun x => decide (k ≤ x))) (fun k hk R1 R0 r1 => ?_) (by rw [sizeLine_eq]; decide) ?_
  · (try simp_arith! only [])
    have key : ∀ k ∈ ([0, 1, 2, 3, 4] : List Int), rangeD k (6 - k).toNat = ((cols 6).filter fun x => decide (k ≤ x)).map .int := by
      intro k hk
      simp only [List.mem_cons, List.not_mem_nil, or_false] at hk
      rcases hk with rfl | rfl | rfl | rfl | rfl <;> rfl
    have hk2 : 0 ≤ k ∧ k ≤ 4 := by
      simp only [List.mem_cons, List.not_mem_nil, or_false] at hk
      omega
    refine ⟨.of_le hk2.1 (by omega) (by omega) (by omega), ?_⟩
    rw [key k hk]
    exact r1
  rw [List.nil_append]
  (try simp_arith! only [])
  show forD _ _ _ _ (hsA.map fA) _
  refine forD_dr fA (fun done η => ∃ c0 c1 c2 c3 c4 c5 c6 c7 c8 c9 : Cell, η = [c0, c1, c2, c3, c4, c5, c6, c7, c8, c9]) ?_ ?_ ⟨_, _, _, _, _, _, _, _, _, _, rfl⟩
  · rintro done a rest η e ⟨c0, c1, c2, c3, c4, c5, c6, c7, c8, c9, rfl⟩ nx hn
    have ha : a ∈ hsA := by rw [e]; simp
    obtain ⟨V1, V2⟩ := hsA_val a ha
    have due := hsA_due a ha
    have rr := (rp_two (rp_bool a.2.2.2)).repr (by decide) (by decide)
    unfold fA
    (try simp_arith! only [])
    refine sp_are_alike V1 V2 ?_
    refine sp_are_alike V2 V1 ?_
    rw [show decide (closedL a.1 a.2.2.1 = closedL a.1 a.2.1) = decide (closedL a.1 a.2.1 = closedL a.1 a.2.2.1) by rw [decide_eq_decide]; exact eq_comm, due]
    (try simp_arith! only [])
    refine ⟨rr.1, rr.2, rr.1, rr.2, ?_⟩
    exact hn _ ⟨_, _, _, _, _, _, _, _, _, _, rfl⟩
  · rintro η ⟨c0, c1, c2, c3, c4, c5, c6, c7, c8, c9, rfl⟩
    (try simp_arith! only [])
    exact q
end Lw

/-! LAWk05: the law. -/
namespace Lw
open PySem DL PL L2
open Lean.Parser.Tactic in
local macro_rules | `(tactic| simp_arith! only [$xs,*] $[$l:location]?) => `(tactic| simp -implicitDefEqProofs only [x_sSeq, x_sNext, x_sSet, x_sSetL, x_sOwn, x_sOwnL, x_sNew, x_sPar, x_sParN, x_sRet, x_sRetN, x_sIf, x_sDrop, x_sFor, x_sWhile, x_sNever, x_sFrz, x_sApp, x_sAppL, x_sExtL, x_sExtS, x_onSeqEL, x_onSeqET, x_sAug, x_sAsg, x_sBreak, x_sCont, x_onDat, x_onSeqL, x_onSeqT, x_on1I, x_on2I, x_on2L, x_on2T, x_onScr, x_ifB, x_onS, x_onOwn, x_onList, x_onInt, x_onCInt, x_isDrw, x_lenScr, x_dV, x_dK, x_dOp, x_dTup, x_dNew, x_nLst, x_nCall, x_nComp, x_nRg, x_dTupRg, x_gRg1, x_gRg2, x_dCall, x_dCallF, x_dSl, x_oNone, x_oSome, x_dAnd, x_dOr, x_dNot, x_oNeg, x_bVal, x_bAnd, x_bOr, x_bNot, x_dIf, x_dChain, x_aNil, x_aCons, x_cNil, x_cCons, x_cDrw, x_iSeq, x_iRange1, x_iRange2, x_iZip2, x_iEnum1, x_iEnumZ, x_on2TT, x_nSortSet, x_onTupO, x_nSortSetI, x_nSortSetE, x_fMinL, x_fSumL, x_dDict0, x_sIns, x_sPut, x_sRaise, x_dCallE, x_sTry1, x_gN, x_gT, x_gCons, x_gNil, x_bYes, x_fLenL, x_fLenT, x_fLenS, x_fTupleL, x_fTupleT, x_fListL, x_fListT, x_fSorted, x_fAll, x_fAny, x_fSum, x_fIntI, x_fIntB, x_fMin2, x_fMax2, x_fRepr, x_dIsi, x_lend, x_lendD, x_lendO, x_lendR, x_lendU, x_lendS, x_wipe0, x_wipe1, x_addI, x_addS, x_addL, x_addT, x_sub, x_mod, x_div, x_mulW, x_divW, x_pow, x_mulI, x_mulL, x_mul2T, x_mul3T, x_dTwo, x_nSortSetL, x_sM2, x_sM3, x_on2C, x_on3C, x_mNil, x_mD, x_mN, x_aStar, x_fSortedT, x_isB, x_isN, x_isN0, x_isNI, x_isNT, x_isNL, x_isNS, x_isNB, x_lt, x_ltT, x_ord, x_ordT, x_ixL, x_ixT, x_ixS, x_fListD, x_fListDL, x_fReprD, x_dRev, x_nCat2, x_sOwnCat, x_onSeqRL, x_onSeqRT, x_onCat, x_eqT0, x_neL0, x_eqL0, x_neT0, x_addBI, x_addBB, x_fSortedD, x_dDc, x_dLend, x_bLend, x_nLend, x_sMut, x_dMutP, x_onMD, x_sPutM, x_sRetM, x_sRetS, x_onMt, x_cMut, x_onMx, x_stM, x_sCallM, x_sSetM, x_mTest, x_mCall, x_mAnd, x_sIfM, x_nSortSetT, x_fLenD, x_sUpdM, x_onDct, x_iSeqD, x_lendM, x_fMin2D, x_dFld, x_onLin, x_dMeth, x_sPutI, x_onIst, x_onDctF, x_sRetI, x_onIt, x_onIx, x_stI, x_mCallE, x_sDoI, x_sSetI, x_sExtI, x_sFldV, x_sFldM, x_dDcM, x_sMakeI, x_nComp2, x_bIfE, x_lendL, x_lendI, x_ownIx, x_ownLen, x_sColM, x_onAny, x_onMxM, x_onLs, x_stMM, x_colGo0, x_sAli2, x_dLendA, x_nLendA, x_lendA, x_aliD0, x_aliD1, x_onObj, x_lendO', x_sUnp, x_dNewF, x_dNewC, x_cNewL, x_dCallXM, x_sRetMN, x_sAsgM, x_sSelfM, x_sFrzM, x_sPopI, x_fMaxI, x_dGet, x_mSetd, x_gTL, x_iZipM, x_onStr, x_nSplit, x_dJoin, x_fStrI, x_fStrS, x_fIntT, x_oInSg, x_iTxt, x_sStar1, x_dDisp1, x_onMf, x_sAppM, x_sAppR, x_onFz, x_sRetSelfM, x_sInsR, x_sPopR, x_sPutR, x_sInsM, x_dIdx, x_oNotInSg, x_sRaise2, x_sTryN, x_nCompE, x_on2M, x_dSetEq, x_dHeard, x_dLenSet, oGe2, oLe2, oGt2, List.getElem?_cons_zero, List.getElem?_cons_succ, List.getElem?_nil, List.set_cons_zero, List.set_cons_succ, List.map_cons, List.map_nil, List.length_cons, List.length_nil, List.replicate, List.cons_append, List.nil_append, Nat.reduceSub, Nat.reduceAdd, Nat.zero_add, if_true, Bool.false_eq_true, if_false, bne_self_eq_false, Bool.true_bne, Bool.false_bne, Bool.not_true, Bool.not_false, true_and, and_true, Bool.bne_false, Bool.bne_true, k_eqI, k_neI, k_eqS, k_neS, k_eqT, k_neT, k_eqLL, k_neLL, k_eqTT, k_neTT, k_inLI, k_inLT, k_inTTT, k_inT, k_in23, k_eqLn, k_neLn, k_eqTn, k_neTn, k_eqTn', k_neTn', k_onSeq, k_onTupO, k_onSeqE, k_lenT, k_tupL, k_tupT, k_listT, k_addT, k_addT1, k_ixT, ixN_map, onS_map, k_isiT, k_isiTi, k_isiTb, k_isiTs, k_isiTl, k_isi, k_isil, k_isii, k_isiib, k_isis, k_isNT, k_flatT, k_flatI, k_flatLs, k_flatTLs, k_gT, k_on2T, k_ordT, k_ltT, k_gR, k_ixR0, k_ixR1, k_ixS0, k_ixS1, List.length_map, eq_self, Int.cast_ofNat_Int, Int.reduceEq, Int.reduceLE, Int.reduceLT, Int.reduceAdd, Int.reduceSub, Int.reduceNeg, decide_true, decide_false, or_true, true_or, or_false, false_or, k_ofS, String.reduceEq, sizeLine_eq, Nat.reduceLeDiff, k_at0, k_at1, k_at2, k_at3, $xs,*] $[$l:location]?)
variable {n : Nat} {rs ss : Rules} {Q : D → Prop}
theorem plain : ∀ ns : List Int, ns.length ≤ 63 → t_law never zLaw (lawEnv 4 ns) := by
  intro ns hns
  unfold t_law lawEnv zLaw
  simp_arith! only []
  have m0 : (0 : Int) ≤ (if (ns.length : Int) < 60 then (ns.length : Int) else 60) := by split <;> omega
  have m1 : (if (ns.length : Int) < 60 then (ns.length : Int) else 60) ≤ 60 := by split <;> omega
  generalize (if (ns.length : Int) < 60 then (ns.length : Int) else 60) = mm at m0 m1 ⊢
  refine ⟨by unfold CDiv; omega, ⟨by omega, by omega⟩, ?_⟩
  refine forD_inv (fun ds η => ∃ c2 c3 c4 c5, η = [.scr ns, .drw, c2, c3, c4, c5]) ?turn ?last ⟨_, _, _, _, rfl⟩
  case turn =>
    rintro d ds η ⟨c2, c3, c4, c5, rfl⟩ nx hn
    simp_arith! only []
    refine sp_next (by decide) (by decide) fun r r0 r1 => ?_
    (try simp_arith! only [])
    refine sp_law_among (by simp) (by simp) fun o ho => ?_
    obtain ⟨most, rfl, o0, o1⟩ : ∃ i : Int, o = .int i ∧ 0 ≤ i ∧ i ≤ 9 := by
      simp only [List.mem_cons, List.not_mem_nil, or_false] at ho
      rcases ho with rfl | rfl | rfl
      · exact ⟨2, rfl, by decide, by decide⟩
      · exact ⟨4, rfl, by decide, by decide⟩
      · exact ⟨9, rfl, by decide, by decide⟩
    obtain ⟨n, hn1, n1, n6⟩ : ∃ n : Nat, 1 + r = (n : Int) ∧ 1 ≤ n ∧ n ≤ 6 := ⟨(1 + r).toNat, by omega, by omega, by omega⟩
    rw [hn1]
    refine sp_law_schemaM n1 n6 o0 (by omega) fun rs V few => ?_
    have few : rs.length ≤ 9 := by omega
    (try simp_arith! only [])
    refine sp_law_with V few fun s1 V1 => ?_
    refine sp_law_without V fun s2 V2 => ?_
    refine sp_law_parted V few fun s3 V3 => ?_
    refine sp_law_widened V fun s4 V4 _ => ?_
    (try simp_arith! only [])
    refine sp_law_widened V fun s5 V5 _ => ?_
    refine sp_law_without V5 fun s6 V6 => ?_
    have e0 : atI ([.int n, .tuple (rs.map ruleD)] : List D) 0 = some (.int n) := rfl
    show w_law_schema never [.drw, .dat (.int n), .dat (.int 4)] _
    refine sp_law_schemaM n1 n6 (by decide) (by decide) fun s7 V7 _ => ?_
    (try simp_arith! only [])
    show compD _ _ _ _ (([rs, s1, s2, s3, s4, s6, s7] : List Rules).map (schD n)) _ _
    refine comp_nilN (j := 30) (schD n) (schD n) (fun _ => false) (by decide) (fun s hs R1 R0 r1 r0 => ?_) (by rw [sizeLine_eq]; simp) (fun s hs => ?_) ?_
    · have V' : Val n s := by
        simp only [List.mem_cons, List.not_mem_nil, or_false] at hs
        rcases hs with rfl | rfl | rfl | rfl | rfl | rfl | rfl <;> assumption
      (try simp_arith! only [])
      refine sp_law_is_told V V' ?_
      (try simp_arith! only [])
      exact r0 rfl
    · have V' : Val n s := by
        simp only [List.mem_cons, List.not_mem_nil, or_false] at hs
        rcases hs with rfl | rfl | rfl | rfl | rfl | rfl | rfl <;> assumption
      have := V'.rp
      exact ⟨this.lay, Nat.le_trans this.dep (by decide)⟩
    rw [show (([rs, s1, s2, s3, s4, s6, s7] : List Rules).all fun x => !(fun _ => false) x) = true from rfl]
    (try simp_arith! only [])
    refine sp_law_refused_right V ?_
    (try simp_arith! only [])
    exact hn _ ⟨_, _, _, _, rfl⟩
  case last =>
    rintro η ⟨c2, c3, c4, c5, rfl⟩
    simp_arith! only []
    exact sp_law_by_hand_right rfl
end Lw

section
open PySem PySem.Spec PyProof.Rows L2 DL Lw
theorem Lw.all_mk {P : Program} {w : World} {K : PySem.W.Frag} {h : Heap} {mg : Str → Option Value} {fa : Addr} (X : K.In h) (G : h.Ns mainGlobals mg) (hmg : mg "law" = some (.ref fa)) (hsys : K.lookup sysModules = none) {cd_law_refused_right : Addr}  (n_law_refused_right : h.get? 360 = some (PySem.W.tabObj #[])) (r_law_refused_right : PySem.W.codeHdIn K cd_law_refused_right 360 = true) (t_law_refused_right : PySem.W.tabIn K "_law_refused_right" = some (cd_law_refused_right, 360)) (o_law_refused_right : K.lookup 360 = none) (k_told : ToldTop K toldNames) (a_law_begun : DefAt K "_law_begun" s_law_begun) (a_law_next : DefAt K "_law_next" s_law_next) (a_is_whole : DefAt K "is_whole" s_is_whole) (a_are_ascending : DefAt K "are_ascending" s_are_ascending) (a_is_lot_of : DefAt K "is_lot_of" s_is_lot_of) (a_is_rule : DefAt K "is_rule" s_is_rule) (a_schema_fault : DefAt K "schema_fault" s_schema_fault) (a_need_schema : DefAt K "need_schema" s_need_schema) (a_is_inside : DefAt K "is_inside" s_is_inside) (a_all_lots : DefAt K "all_lots" s_all_lots) (a_columns_of : DefAt K "columns_of" s_columns_of) (a_settled_in : DefAt K "settled_in" s_settled_in) (a_closed_in : DefAt K "closed_in" s_closed_in) (a_are_alike : DefAt K "are_alike" s_are_alike) (a_law_among : DefAt K "_law_among" s_law_among) (a_law_lots : DefAt K "_law_lots" s_law_lots) (a_law_lot : DefAt K "_law_lot" s_law_lot) (a_law_schema : DefAt K "_law_schema" s_law_schema) (a_law_is_in : DefAt K "_law_is_in" s_law_is_in) (a_law_closed : DefAt K "_law_closed" s_law_closed) (a_law_settled : DefAt K "_law_settled" s_law_settled) (a_law_told : DefAt K "_law_told" s_law_told) (a_law_refusal : DefAt K "_law_refusal" s_law_refusal) (a_law_with : DefAt K "_law_with" s_law_with) (a_law_without : DefAt K "_law_without" s_law_without) (a_law_parted : DefAt K "_law_parted" s_law_parted) (a_law_widened : DefAt K "_law_widened" s_law_widened) (a_law_is_told : DefAt K "_law_is_told" s_law_is_told) (a_law_refused_right : DefAt K "_law_refused_right" s_law_refused_right) (a_law_by_hand_right : DefAt K "_law_by_hand_right" s_law_by_hand_right) (a_law : DefAt K "law" s_law) (z_all : PySem.W.nsIn K mainGlobals "all" = some none) (z_bool : PySem.W.nsIn K mainGlobals "bool" = some none) (z_enumerate : PySem.W.nsIn K mainGlobals "enumerate" = some none) (z_int : PySem.W.nsIn K mainGlobals "int" = some none) (z_isinstance : PySem.W.nsIn K mainGlobals "isinstance" = some none) (z_len : PySem.W.nsIn K mainGlobals "len" = some none) (z_list : PySem.W.nsIn K mainGlobals "list" = some none) (z_max : PySem.W.nsIn K mainGlobals "max" = some none) (z_min : PySem.W.nsIn K mainGlobals "min" = some none) (z_range : PySem.W.nsIn K mainGlobals "range" = some none) (z_repr : PySem.W.nsIn K mainGlobals "repr" = some none) (z_set : PySem.W.nsIn K mainGlobals "set" = some none) (z_sorted : PySem.W.nsIn K mainGlobals "sorted" = some none) (z_tuple : PySem.W.nsIn K mainGlobals "tuple" = some none) (z_zip : PySem.W.nsIn K mainGlobals "zip" = some none) (c_MOST_RULES : ConI K "MOST_RULES" (10)) (c_MOST_WIDE : ConI K "MOST_WIDE" (6)) (k_BadNumber : ClsAt P K "BadNumber" "value") (k_BadSchema : ClsAt P K "BadSchema" "place") :
    ∃ (fd : FuncData) (cs : List (Addr × Addr)), TabsC K h cs ∧ (∀ (s : Shared) (u : Value), BindsTo s fd ⟨[u], []⟩ [("_law_script", u)]) ∧ ∀ base : Heap, K.In base → base.Ns mainGlobals mg → (∀ p ∈ cs, LamX.TabB base mg p.1 p.2) → FnG P w K mg base CX0 10 fa fd ["_law_script"] (spLaw K) := by
  have B : Bl mg := ⟨PySem.W.mg_none_of X G z_all, PySem.W.mg_none_of X G z_bool, PySem.W.mg_none_of X G z_enumerate, PySem.W.mg_none_of X G z_int, PySem.W.mg_none_of X G z_isinstance, PySem.W.mg_none_of X G z_len, PySem.W.mg_none_of X G z_list, PySem.W.mg_none_of X G z_max, PySem.W.mg_none_of X G z_min, PySem.W.mg_none_of X G z_range, PySem.W.mg_none_of X G z_repr, PySem.W.mg_none_of X G z_set, PySem.W.mg_none_of X G z_sorted, PySem.W.mg_none_of X G z_tuple, PySem.W.mg_none_of X G z_zip, c_MOST_RULES.imp fun _ e => PySem.W.mg_of X G e, c_MOST_WIDE.imp fun _ e => PySem.W.mg_of X G e⟩
  have W : Df K mg := ⟨defIn X G a_law_begun (fun _ _ _ _ _ _ us hl => match us, hl with | [_], _ => rfl), defIn X G a_law_next (fun _ _ _ _ _ _ us hl => match us, hl with | [_, _], _ => rfl), defIn X G a_is_whole (fun _ _ _ _ _ _ us hl => match us, hl with | [_, _, _], _ => rfl), defIn X G a_are_ascending (fun _ _ _ _ _ _ us hl => match us, hl with | [_], _ => rfl), defIn X G a_is_lot_of (fun _ _ _ _ _ _ us hl => match us, hl with | [_, _], _ => rfl), defIn X G a_is_rule (fun _ _ _ _ _ _ us hl => match us, hl with | [_, _], _ => rfl), defIn X G a_schema_fault (fun _ _ _ _ _ _ us hl => match us, hl with | [_], _ => rfl), defIn X G a_need_schema (fun _ _ _ _ _ _ us hl => match us, hl with | [_], _ => rfl), defIn X G a_is_inside (fun _ _ _ _ _ _ us hl => match us, hl with | [_, _], _ => rfl), defIn X G a_all_lots (fun _ _ _ _ _ _ us hl => match us, hl with | [_], _ => rfl), defIn X G a_columns_of (fun _ _ _ _ _ _ us hl => match us, hl with | [_], _ => rfl), defIn X G a_settled_in (fun _ _ _ _ _ _ us hl => match us, hl with | [_, _], _ => rfl), defIn X G a_closed_in (fun _ _ _ _ _ _ us hl => match us, hl with | [_], _ => rfl), defIn X G a_are_alike (fun _ _ _ _ _ _ us hl => match us, hl with | [_, _], _ => rfl), defIn X G a_law_among (fun _ _ _ _ _ _ us hl => match us, hl with | [_, _], _ => rfl), defIn X G a_law_lots (fun _ _ _ _ _ _ us hl => match us, hl with | [_], _ => rfl), defIn X G a_law_lot (fun _ _ _ _ _ _ us hl => match us, hl with | [_, _, _], _ => rfl), defIn X G a_law_schema (fun _ _ _ _ _ _ us hl => match us, hl with | [_, _, _], _ => rfl), defIn X G a_law_is_in (fun _ _ _ _ _ _ us hl => match us, hl with | [_, _], _ => rfl), defIn X G a_law_closed (fun _ _ _ _ _ _ us hl => match us, hl with | [_], _ => rfl), defIn X G a_law_settled (fun _ _ _ _ _ _ us hl => match us, hl with | [_, _], _ => rfl), defIn X G a_law_told (fun _ _ _ _ _ _ us hl => match us, hl with | [_], _ => rfl), defIn X G a_law_refusal (fun _ _ _ _ _ _ us hl => match us, hl with | [_], _ => rfl), defIn X G a_law_with (fun _ _ _ _ _ _ us hl => match us, hl with | [_, _], _ => rfl), defIn X G a_law_without (fun _ _ _ _ _ _ us hl => match us, hl with | [_, _], _ => rfl), defIn X G a_law_parted (fun _ _ _ _ _ _ us hl => match us, hl with | [_], _ => rfl), defIn X G a_law_widened (fun _ _ _ _ _ _ us hl => match us, hl with | [_], _ => rfl), defIn X G a_law_is_told (fun _ _ _ _ _ _ us hl => match us, hl with | [_, _], _ => rfl), defIn X G a_law_refused_right (fun _ _ _ _ _ _ us hl => match us, hl with | [_, _], _ => rfl), defIn X G a_law_by_hand_right (fun _ _ _ _ _ _ us hl => match us, hl with | [], _ => rfl)⟩
  have CL : ErrC P K mg := ⟨clsIn_of X G k_BadNumber, clsIn_of X G k_BadSchema⟩
  have TC : TabsC K h [(cd_law_refused_right, 360)] := tabsC_of X hsys [(("_law_refused_right" : Str), cd_law_refused_right, 360)] rfl fun p hp => by
    simp only [List.mem_cons, List.mem_nil_iff, or_false] at hp
    rcases hp with rfl
    · exact ⟨t_law_refused_right, o_law_refused_right, r_law_refused_right, n_law_refused_right⟩
  have TOH : ∃ S1 S2, ToldB K mg okN S1 S2 := toldB_of X G k_told
  exact with_tabs TC (law_finL X G hmg a_law (fun _ _ _ _ _ _ us hl => match us, hl with | [_], _ => rfl) fun base f fd _ _ tb F => ok_law B W CL TOH ⟨⟨cd_law_refused_right, 360, lamAt_of X G t_law_refused_right (tb (cd_law_refused_right, 360) (by simp)) (by decide +kernel) (by decide +kernel)⟩⟩ F Lw.plain)
end
open PySem PySem.W PyProof.Rows
set_option maxHeartbeats 0 in
theorem PySem.Challenge.cw_restshares_k05_alike_holds : PySem.Challenge.rw_restshares_k05_alike.Holds := by
  w_on; o_law; k_head; (case hw => w_witness2)
  k_fill
  refine DL.walk_GL (l := PySem.Challenge.rw_restshares_k05_alike) (n := 63) (k := 10) (x := "_law_script") (sp := DL.spLaw) rfl (by decide) rfl ⟨rfl, by decide, by decide⟩ (by first | rfl | decide +kernel) (fun w h Y => PySem.W.km_in_of Y) ?F (fun K H a ns hl hO hS => ⟨a, ns, rfl, hl, hO, hS, fun _ => rfl⟩)
  case F =>
    intro w mg fa h Y KX G hmg
    refine' Lw.all_mk KX G hmg ?sy ?n_law_refused_right ?r_law_refused_right ?t_law_refused_right ?o_law_refused_right ?k_told ?a_law_begun ?a_law_next ?a_is_whole ?a_are_ascending ?a_is_lot_of ?a_is_rule ?a_schema_fault ?a_need_schema ?a_is_inside ?a_all_lots ?a_columns_of ?a_settled_in ?a_closed_in ?a_are_alike ?a_law_among ?a_law_lots ?a_law_lot ?a_law_schema ?a_law_is_in ?a_law_closed ?a_law_settled ?a_law_told ?a_law_refusal ?a_law_with ?a_law_without ?a_law_parted ?a_law_widened ?a_law_is_told ?a_law_refused_right ?a_law_by_hand_right ?a_law ?z_all ?z_bool ?z_enumerate ?z_int ?z_isinstance ?z_len ?z_list ?z_max ?z_min ?z_range ?z_repr ?z_set ?z_sorted ?z_tuple ?z_zip ?c_MOST_RULES ?c_MOST_WIDE ?k_BadNumber ?k_BadSchema
    (case t_law_refused_right => refine' DL.tabIn_of ?qa ?ql ?qc ?qd ?qv; (case qa => k_is); (case ql => k_is); (case qc => exact rfl); (case qd => k_is); (case qv => exact rfl))
    (case r_law_refused_right => refine' DL.codeHdIn_of ?rl ?re; (case rl => k_is); (case re => first | rfl | decide +kernel))
    (case n_law_refused_right => exact PySem.W.km_tabs_of Y _ (by decide +kernel))
    (case o_law_refused_right => first | k_is | rfl | kernel_rfl)
    (case sy => first | k_is | rfl | kernel_rfl)
    (case k_told =>
      refine' DL.toldTop ?s1 ?s2 ?al; (case s1 => k_is); (case s2 => k_is)
      (case al =>
        refine' DL.told_cons ?u0 (DL.told_cons ?u1 (DL.told_nil))
        (case u0 =>
          refine' DL.toldAt (b1 := false) (b2 := false) (b3 := false) (b4 := false) (b5 := false) (b6 := true) (b7 := false) (b8 := false) ?a ?i1 ?i2 ?i3 ?i4 ?i5 ?i6 ?i7 ?i8 ?j1 ?j2 ?j3 ?j4 ?j5 ?j6 ?j7 ?j8 ?eb ?ga ?gg ?exC ?hdC ?cl ?at_ ?gs ?tk ?ob ?n1 ?n2 ?n3 ?n4 ?em
          (case a => first | k_is | kernel_rfl | rfl)
          (case i1 => first | k_is | kernel_rfl | rfl)
          (case i2 => first | k_is | kernel_rfl | rfl)
          (case i3 => first | k_is | kernel_rfl | rfl)
          (case i4 => first | k_is | kernel_rfl | rfl)
          (case i5 => first | k_is | kernel_rfl | rfl)
          (case i6 => first | k_is | kernel_rfl | rfl)
          (case i7 => first | k_is | kernel_rfl | rfl)
          (case i8 => first | k_is | kernel_rfl | rfl)
          (case j1 => first | k_is | kernel_rfl | rfl)
          (case j2 => first | k_is | kernel_rfl | rfl)
          (case j3 => first | k_is | kernel_rfl | rfl)
          (case j4 => first | k_is | kernel_rfl | rfl)
          (case j5 => first | k_is | kernel_rfl | rfl)
          (case j6 => first | k_is | kernel_rfl | rfl)
          (case j7 => first | k_is | kernel_rfl | rfl)
          (case j8 => first | k_is | kernel_rfl | rfl)
          (case eb => first | rfl | decide +kernel)
          (case ga => first | k_is | kernel_rfl | rfl)
          (case gg => first | k_is | kernel_rfl | rfl)
          (case exC => first | k_is | kernel_rfl | rfl)
          (case hdC => first | k_is | kernel_rfl | rfl)
          (case cl => first | k_is | kernel_rfl | rfl)
          (case at_ => first | k_is | kernel_rfl | rfl)
          (case gs => first | k_is | kernel_rfl | rfl)
          (case tk => first | k_is | kernel_rfl | rfl)
          (case ob => first | k_is | kernel_rfl | rfl)
          (case n1 => first | k_is | kernel_rfl | rfl)
          (case n2 => first | k_is | kernel_rfl | rfl)
          (case n3 => first | k_is | kernel_rfl | rfl)
          (case n4 => first | k_is | kernel_rfl | rfl)
          (case em => first | k_is | kernel_rfl | rfl)
          )
        (case u1 =>
          refine' DL.toldAt (b1 := true) (b2 := false) (b3 := false) (b4 := false) (b5 := false) (b6 := false) (b7 := false) (b8 := false) ?a ?i1 ?i2 ?i3 ?i4 ?i5 ?i6 ?i7 ?i8 ?j1 ?j2 ?j3 ?j4 ?j5 ?j6 ?j7 ?j8 ?eb ?ga ?gg ?exC ?hdC ?cl ?at_ ?gs ?tk ?ob ?n1 ?n2 ?n3 ?n4 ?em
          (case a => first | k_is | kernel_rfl | rfl)
          (case i1 => first | k_is | kernel_rfl | rfl)
          (case i2 => first | k_is | kernel_rfl | rfl)
          (case i3 => first | k_is | kernel_rfl | rfl)
          (case i4 => first | k_is | kernel_rfl | rfl)
          (case i5 => first | k_is | kernel_rfl | rfl)
          (case i6 => first | k_is | kernel_rfl | rfl)
          (case i7 => first | k_is | kernel_rfl | rfl)
          (case i8 => first | k_is | kernel_rfl | rfl)
          (case j1 => first | k_is | kernel_rfl | rfl)
          (case j2 => first | k_is | kernel_rfl | rfl)
          (case j3 => first | k_is | kernel_rfl | rfl)
          (case j4 => first | k_is | kernel_rfl | rfl)
          (case j5 => first | k_is | kernel_rfl | rfl)
          (case j6 => first | k_is | kernel_rfl | rfl)
          (case j7 => first | k_is | kernel_rfl | rfl)
          (case j8 => first | k_is | kernel_rfl | rfl)
          (case eb => first | rfl | decide +kernel)
          (case ga => first | k_is | kernel_rfl | rfl)
          (case gg => first | k_is | kernel_rfl | rfl)
          (case exC => first | k_is | kernel_rfl | rfl)
          (case hdC => first | k_is | kernel_rfl | rfl)
          (case cl => first | k_is | kernel_rfl | rfl)
          (case at_ => first | k_is | kernel_rfl | rfl)
          (case gs => first | k_is | kernel_rfl | rfl)
          (case tk => first | k_is | kernel_rfl | rfl)
          (case ob => first | k_is | kernel_rfl | rfl)
          (case n1 => first | k_is | kernel_rfl | rfl)
          (case n2 => first | k_is | kernel_rfl | rfl)
          (case n3 => first | k_is | kernel_rfl | rfl)
          (case n4 => first | k_is | kernel_rfl | rfl)
          (case em => first | k_is | kernel_rfl | rfl)
          )
      ))
    (case a_law_begun => refine' DL.defAt ?a ?l ?c ?k; (case a => k_is); (case l => k_is); (case c => k_is); (case k => k_is))
    (case a_law_next => refine' DL.defAt ?a ?l ?c ?k; (case a => k_is); (case l => k_is); (case c => k_is); (case k => k_is))
    (case a_is_whole => refine' DL.defAt ?a ?l ?c ?k; (case a => k_is); (case l => k_is); (case c => k_is); (case k => k_is))
    (case a_are_ascending => refine' DL.defAt ?a ?l ?c ?k; (case a => k_is); (case l => k_is); (case c => k_is); (case k => k_is))
    (case a_is_lot_of => refine' DL.defAt ?a ?l ?c ?k; (case a => k_is); (case l => k_is); (case c => k_is); (case k => k_is))
    (case a_is_rule => refine' DL.defAt ?a ?l ?c ?k; (case a => k_is); (case l => k_is); (case c => k_is); (case k => k_is))
    (case a_schema_fault => refine' DL.defAt ?a ?l ?c ?k; (case a => k_is); (case l => k_is); (case c => k_is); (case k => k_is))
    (case a_need_schema => refine' DL.defAt ?a ?l ?c ?k; (case a => k_is); (case l => k_is); (case c => k_is); (case k => k_is))
    (case a_is_inside => refine' DL.defAt ?a ?l ?c ?k; (case a => k_is); (case l => k_is); (case c => k_is); (case k => k_is))
    (case a_all_lots => refine' DL.defAt ?a ?l ?c ?k; (case a => k_is); (case l => k_is); (case c => k_is); (case k => k_is))
    (case a_columns_of => refine' DL.defAt ?a ?l ?c ?k; (case a => k_is); (case l => k_is); (case c => k_is); (case k => k_is))
    (case a_settled_in => refine' DL.defAt ?a ?l ?c ?k; (case a => k_is); (case l => k_is); (case c => k_is); (case k => k_is))
    (case a_closed_in => refine' DL.defAt ?a ?l ?c ?k; (case a => k_is); (case l => k_is); (case c => k_is); (case k => k_is))
    (case a_are_alike => refine' DL.defAt ?a ?l ?c ?k; (case a => k_is); (case l => k_is); (case c => k_is); (case k => k_is))
    (case a_law_among => refine' DL.defAt ?a ?l ?c ?k; (case a => k_is); (case l => k_is); (case c => k_is); (case k => k_is))
    (case a_law_lots => refine' DL.defAt ?a ?l ?c ?k; (case a => k_is); (case l => k_is); (case c => k_is); (case k => k_is))
    (case a_law_lot => refine' DL.defAt ?a ?l ?c ?k; (case a => k_is); (case l => k_is); (case c => k_is); (case k => k_is))
    (case a_law_schema => refine' DL.defAt ?a ?l ?c ?k; (case a => k_is); (case l => k_is); (case c => k_is); (case k => k_is))
    (case a_law_is_in => refine' DL.defAt ?a ?l ?c ?k; (case a => k_is); (case l => k_is); (case c => k_is); (case k => k_is))
    (case a_law_closed => refine' DL.defAt ?a ?l ?c ?k; (case a => k_is); (case l => k_is); (case c => k_is); (case k => k_is))
    (case a_law_settled => refine' DL.defAt ?a ?l ?c ?k; (case a => k_is); (case l => k_is); (case c => k_is); (case k => k_is))
    (case a_law_told => refine' DL.defAt ?a ?l ?c ?k; (case a => k_is); (case l => k_is); (case c => k_is); (case k => k_is))
    (case a_law_refusal => refine' DL.defAt ?a ?l ?c ?k; (case a => k_is); (case l => k_is); (case c => k_is); (case k => k_is))
    (case a_law_with => refine' DL.defAt ?a ?l ?c ?k; (case a => k_is); (case l => k_is); (case c => k_is); (case k => k_is))
    (case a_law_without => refine' DL.defAt ?a ?l ?c ?k; (case a => k_is); (case l => k_is); (case c => k_is); (case k => k_is))
    (case a_law_parted => refine' DL.defAt ?a ?l ?c ?k; (case a => k_is); (case l => k_is); (case c => k_is); (case k => k_is))
    (case a_law_widened => refine' DL.defAt ?a ?l ?c ?k; (case a => k_is); (case l => k_is); (case c => k_is); (case k => k_is))
    (case a_law_is_told => refine' DL.defAt ?a ?l ?c ?k; (case a => k_is); (case l => k_is); (case c => k_is); (case k => k_is))
    (case a_law_refused_right => refine' DL.defAt ?a ?l ?c ?k; (case a => k_is); (case l => k_is); (case c => k_is); (case k => k_is))
    (case a_law_by_hand_right => refine' DL.defAt ?a ?l ?c ?k; (case a => k_is); (case l => k_is); (case c => k_is); (case k => k_is))
    (case a_law => refine' DL.defAt ?a ?l ?c ?k; (case a => k_is); (case l => k_is); (case c => k_is); (case k => k_is))
    (case z_all => k_is)
    (case z_bool => k_is)
    (case z_enumerate => k_is)
    (case z_int => k_is)
    (case z_isinstance => k_is)
    (case z_len => k_is)
    (case z_list => k_is)
    (case z_max => k_is)
    (case z_min => k_is)
    (case z_range => k_is)
    (case z_repr => k_is)
    (case z_set => k_is)
    (case z_sorted => k_is)
    (case z_tuple => k_is)
    (case z_zip => k_is)
    (case c_MOST_RULES => refine' DL.conI ?a; (case a => k_is))
    (case c_MOST_WIDE => refine' DL.conI ?a; (case a => k_is))
    (case k_BadNumber =>
      refine' DL.clsAt ?a ?lc ?i ?l ?lcode ?lcell ?lS ?fS ?hm ?hm2 ?co ?t ?c1 ?c2 ?c3 ?c5 ?c6 ?c7 ?c8 ?c9 ?c10 ?c11 ?c12 ?c14 ?c15 ?c16 ?c17 ?c18 ?hv ?hfile ?ns ?Sc ?h1 ?h2 ?h3 ?h4
      (case a => k_is)
      (case lc => k_is)
      (case i => k_is)
      (case l => k_is)
      (case lcode => k_is)
      (case lcell => k_is)
      (case hm => exact rfl)
      (case lS => k_is)
      (case hm2 => exact rfl)
      (case fS => k_is)
      (case co => k_is)
      (case t => k_is)
      (case c1 => first | rfl | decide +kernel)
      (case c2 => first | rfl | decide +kernel)
      (case c3 => k_is)
      (case c5 => k_is)
      (case c6 => k_is)
      (case c7 => k_is)
      (case c8 => k_is)
      (case c9 => k_is)
      (case c10 => k_is)
      (case c11 => k_is)
      (case c12 => k_is)
      (case c14 => k_is)
      (case c15 => k_is)
      (case c16 => k_is)
      (case c17 => k_is)
      (case c18 => k_is)
      (case hv => exact rfl)
      (case hfile => first | rfl | decide +kernel)
      (case ns => exact rfl)
      (case h3 => exact rfl)
      (case Sc => exact ⟨rfl, rfl, rfl, by decide +kernel, by decide +kernel, by decide +kernel, by decide +kernel, by decide +kernel, by decide +kernel, by decide +kernel⟩)
      (case h1 => intro env; exact ⟨_, rfl⟩)
      (case h2 => intro env; exact ⟨rfl, rfl⟩)
      (case h4 => intro us hl; exact match us, hl with | [_, _], _ => rfl))
    (case k_BadSchema =>
      refine' DL.clsAt ?a ?lc ?i ?l ?lcode ?lcell ?lS ?fS ?hm ?hm2 ?co ?t ?c1 ?c2 ?c3 ?c5 ?c6 ?c7 ?c8 ?c9 ?c10 ?c11 ?c12 ?c14 ?c15 ?c16 ?c17 ?c18 ?hv ?hfile ?ns ?Sc ?h1 ?h2 ?h3 ?h4
      (case a => k_is)
      (case lc => k_is)
      (case i => k_is)
      (case l => k_is)
      (case lcode => k_is)
      (case lcell => k_is)
      (case hm => exact rfl)
      (case lS => k_is)
      (case hm2 => exact rfl)
      (case fS => k_is)
      (case co => k_is)
      (case t => k_is)
      (case c1 => first | rfl | decide +kernel)
      (case c2 => first | rfl | decide +kernel)
      (case c3 => k_is)
      (case c5 => k_is)
      (case c6 => k_is)
      (case c7 => k_is)
      (case c8 => k_is)
      (case c9 => k_is)
      (case c10 => k_is)
      (case c11 => k_is)
      (case c12 => k_is)
      (case c14 => k_is)
      (case c15 => k_is)
      (case c16 => k_is)
      (case c17 => k_is)
      (case c18 => k_is)
      (case hv => exact rfl)
      (case hfile => first | rfl | decide +kernel)
      (case ns => exact rfl)
      (case h3 => exact rfl)
      (case Sc => exact ⟨rfl, rfl, rfl, by decide +kernel, by decide +kernel, by decide +kernel, by decide +kernel, by decide +kernel, by decide +kernel, by decide +kernel⟩)
      (case h1 => intro env; exact ⟨_, rfl⟩)
      (case h2 => intro env; exact ⟨rfl, rfl⟩)
      (case h4 => intro us hl; exact match us, hl with | [_, _], _ => rfl))
