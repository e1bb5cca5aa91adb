import PyProof.Rows.All
import Wide.All
import OpenK.AllK
import Wide.FinOn
import HandS.Lambda
import HandS.ForMost
import HandS.Dict
import HandS.ExcValue
import HandS.Deep
import HandS.TupAny
import HandS.IsInst
import HandS.Flow
import HandS.Conv
import HandS.Walk
import HandS.Zip
import HandS.Defaults
import HandS.Exc
import KE.SortData
import PyProof.ReprRoads
import PyProof.ReprReads
import KE.KDictKeyed
import KE.KeyNested
import KE.KDictPairs
import KE.GoesEnum
import HandS.Small
import PyProof.EvalArms
import KE.DataCmp
import HandS.TupMul
import HandS.Style
import HandS.Star
import KE.KDictZip
import HandS.Zip0
import PyProof.ReprLen
import HandS.TupSets
import KE.KDictList
import KE.KDictCopyH
import KE.KDictWalk
import HandS.SetFor
import PyProof.MinMaxWalk
import PyProof.SumWalk
import KE.KExcSuper
import KE.KExcLine
import HandS.ExcInit
import HandS.ExcField
import HandS.ExcIs
import HandS.TryMany
import HandS.More
import PyProof.EqAt
import HandS.DictComp
import PyProof.NeKinds
import KE.KTryMore
import KE.KExcIs
import KE.KNestM
import KE.KDflt
import HandS.Wide
import HandS.TupLen
import PyProof.Rows.IntBool
import HandS.TryOnly
import HandS.Text
import HandS.RaiseMore
import KE.KUnpackStar
import HandS.Comp
import HandS.SetIn
import HandS.Property
import PySem.Challenge.RW_restshares_k20_errors
set_option Elab.async false
set_option linter.all false
set_option maxRecDepth 100000
set_option maxHeartbeats 2000000
/-! DLT: the tables of code objects that the law's lambdas are noted in (none here; mk.py prints another for a law with lambdas). -/
namespace DL
/-- whether the law holds exceptions as values -/
def exOn : Bool := true
def lawTabs : List (PySem.Addr × PySem.Str) := []
end DL

/-! DL0: data in the abstract heap, what a slot holds, judgements over data. -/
namespace DL
open PySem PySem.Spec PyProof.Rows L2

abbrev D := PyData

/-- a tuple that stands at a for good -/
def TupAt (K : PySem.W.Frag) (H : Hp) (a : Addr) (xs : List V) : Prop :=
  H a = some (.tup xs) ∨ ∃ (o : Obj) (its : Array Value) (n : Nat), K.lookup a = some o ∧ o.cls = .type "tuple" ∧ o.data = .seq its n ∧ its.size ≤ sizeLine ∧ Vals xs its.toList
theorem TupAt.sq {K : PySem.W.Frag} {H : Hp} {a : Addr} {xs : List V} (h : TupAt K H a xs) : SqT K H a xs := by
  rcases h with h | h
  · exact .inl (.inl h)
  · exact .inr h

/-! ### dicts: keys are tuples of ints and of such tuples -/
mutual
/-- ints, tuples of such .. -/
def itup : D → Bool
  | .int _ => true
  | .tuple xs => itupAll xs
  | _ => false
def itupAll : List D → Bool
  | [] => true
  | x :: xs => itup x && itupAll xs
end
mutual
def nk : D → NestedKey
  | .int i => .num i
  | .tuple xs => .tup (nks xs)
  | _ => .none
def nks : List D → List NestedKey
  | [] => []
  | x :: xs => nk x :: nks xs
end
mutual
def hashD : D → Int
  | .int i => hashInt i
  | .tuple xs => reduceHash (Builtin.Tuple.tupleHashOf (hashesD xs))
  | _ => 0
def hashesD : List D → List Int
  | [] => []
  | x :: xs => hashD x :: hashesD xs
end
def isTup : D → Bool
  | .tuple _ => true
  | _ => false
def keyOk (d : D) : Bool := isTup d && itup d && decide (d.depth ≤ 8)
/-- a dict's object, by its entries -/
def dictO (a : Addr) (es : Array DictEntry) (ep : Nat) : HO := .ext fun h => ∃ o, h.get? a = some o ∧ o.ExactDict ∧ o.data = .dict es ep
def entsOf : List (D × D) → List Value → List Value → List DictEntry
  | p :: kvs, u :: us, x :: xs => ⟨hashD p.1, u, x⟩ :: entsOf kvs us xs
  | _, _, _ => []
structure DictOk (es : Array DictEntry) (ks vs : List V) (kvs : List (D × D)) : Prop where
  ents : ∃ us xs, Vals ks us ∧ Vals vs xs ∧ es.toList = entsOf kvs us xs
  keys : ∀ p ∈ kvs, keyOk p.1 = true
  nd : (kvs.map (·.1)).Nodup
  few : kvs.length ≤ sizeLine
/-- a key of a dict of whole numbers and texts -/
def kD : Key → D
  | .inl i => .int i
  | .inr x => .str x
/-- keys that are tuples, if any -/
def tkD : List (D × D) → Bool
  | (.tuple _, _) :: _ => true
  | _ => false
/-! ### exceptions that are held as values -/
def ClsOf (K : PySem.W.Frag) (nm : Str) (C : Addr) : Prop := PySem.W.nsIn K mainGlobals nm = some (some (.ref C))
/-- an exception object that is not raised, of the class at C, with its dict at dx -/
def ExD (C dx : Addr) (a : Addr) : HO := .ext fun h => ∃ (oe : Obj) (vs : Array Value), h.get? a = some oe ∧ Zc (.ref C) (some dx) oe ∧ oe.data = .fields vs
/-- it reads as this: its class's name, its fields -/
def excK (nm : Str) (fs : List (Str × D)) : List (D × D) := [(.none, .none), (.none, .str nm), (.none, .dict (fs.map fun q => (.str q.1, q.2)))]
def excD (nm : Str) (fs : List (Str × D)) : D := .dict (excK nm fs)
mutual
/-- the value v reads as the data d in H; no list of it stands at an address of O -/
inductive Rep (K : PySem.W.Frag) (O : Addr → Prop) (H : Hp) : V → D → Prop
  | non : Rep K O H .non .none
  | bl (b : Bool) : Rep K O H (.bl b) (.bool b)
  | int (i : Int) : Rep K O H (.int i) (.int i)
  | str (x : Str) : Rep K O H (.str x) (.str x)
  | lst {a : Addr} {xs : List V} {ds : List D} : ¬ O a → H a = some (.lst xs) → RepAll K O H xs ds → Rep K O H (.ref a) (.list ds)
  | tup {a : Addr} {xs : List V} {ds : List D} : TupAt K H a xs → RepAll K O H xs ds → Rep K O H (.ref a) (.tuple ds)
  | dct {a : Addr} {es : Array DictEntry} {ep : Nat} {ks vs : List V} {kvs : List (D × D)} : ¬ O a → H a = some (dictO a es ep) → (a == sysModules) = false → DictOk es ks vs kvs → RepAll K O H ks (kvs.map (·.1)) → RepAll K O H vs (kvs.map (·.2)) → Rep K O H (.ref a) (.dict kvs)
  | dci {a : Addr} {ks : List (Key × V)} {kvs : List (D × D)} : ¬ O a → H a = some (.dK ks) → ks.map (fun q => kD q.1) = kvs.map (·.1) → RepAll K O H (ks.map (·.2)) (kvs.map (·.2)) → Rep K O H (.ref a) (.dict kvs)
  | exc {a C dx : Addr} {nm : Str} {fs : List (Str × D)} {vs : List (Str × V)} {kvs : List (D × D)} : exOn = true → kvs = excK nm fs → ¬ O a → ¬ O dx → H a = some (ExD C dx a) → H dx = some (.xd vs) → ClsOf K nm C → vs.map (·.1) = fs.map (·.1) → RepAll K O H (vs.map (·.2)) (fs.map (·.2)) → Rep K O H (.ref a) (.dict kvs)
  | exc0 {a C : Addr} {nm : Str} {kvs : List (D × D)} : exOn = true → kvs = excK nm [] → ¬ O a → H a = some (ExO (.ref C) a) → ClsOf K nm C → Rep K O H (.ref a) (.dict kvs)
inductive RepAll (K : PySem.W.Frag) (O : Addr → Prop) (H : Hp) : List V → List D → Prop
  | nil : RepAll K O H [] []
  | cons {v : V} {vs : List V} {d : D} {ds : List D} : Rep K O H v d → RepAll K O H vs ds → RepAll K O H (v :: vs) (d :: ds)
end

section
variable {K : PySem.W.Frag} {O O' : Addr → Prop} {H H' : Hp}
mutual
theorem Rep.map (hl : ∀ a u, ¬ O a → H a = some u → ¬ O' a ∧ H' a = some u) (ht : ∀ a xs, H a = some (.tup xs) → H' a = some (.tup xs)) : ∀ {d : D} {v : V}, Rep K O H v d → Rep K O' H' v d
  | _, _, .non => .non
  | _, _, .bl b => .bl b
  | _, _, .int i => .int i
  | _, _, .str x => .str x
  | _, _, .lst o h r => .lst (hl _ _ o h).1 (hl _ _ o h).2 (RepAll.map hl ht r)
  | _, _, .tup h r => .tup (h.imp (ht _ _) id) (RepAll.map hl ht r)
  | _, _, .dct o h s d r1 r2 => .dct (hl _ _ o h).1 (hl _ _ o h).2 s d (RepAll.map hl ht r1) (RepAll.map hl ht r2)
  | _, _, .dci o h e r => .dci (hl _ _ o h).1 (hl _ _ o h).2 e (RepAll.map hl ht r)
  | _, _, .exc eo ek o1 o2 h1 h2 c e r => .exc eo ek (hl _ _ o1 h1).1 (hl _ _ o2 h2).1 (hl _ _ o1 h1).2 (hl _ _ o2 h2).2 c e (RepAll.map hl ht r)
  | _, _, .exc0 eo ek o1 h1 c => .exc0 eo ek (hl _ _ o1 h1).1 (hl _ _ o1 h1).2 c
theorem RepAll.map (hl : ∀ a u, ¬ O a → H a = some u → ¬ O' a ∧ H' a = some u) (ht : ∀ a xs, H a = some (.tup xs) → H' a = some (.tup xs)) : ∀ {ds : List D} {vs : List V}, RepAll K O H vs ds → RepAll K O' H' vs ds
  | _, _, .nil => .nil
  | _, _, .cons r t => .cons (Rep.map hl ht r) (RepAll.map hl ht t)
end
theorem Rep.weak (h : ∀ a, O' a → O a) {d : D} {v : V} (r : Rep K O H v d) : Rep K O' H v d := r.map (fun a _ o e => ⟨fun z => o (h a z), e⟩) (fun _ _ e => e)
theorem RepAll.weak (h : ∀ a, O' a → O a) {d : List D} {v : List V} (r : RepAll K O H v d) : RepAll K O' H v d := r.map (fun a _ o e => ⟨fun z => o (h a z), e⟩) (fun _ _ e => e)
theorem Rep.same (h : Same H H') {d : D} {v : V} (r : Rep K O H v d) : Rep K O H' v d := r.map (fun a _ o e => ⟨o, h _ _ e⟩) (fun _ _ e => h _ _ e)
theorem RepAll.same (h : Same H H') {d : List D} {v : List V} (r : RepAll K O H v d) : RepAll K O H' v d := r.map (fun a _ o e => ⟨o, h _ _ e⟩) (fun _ _ e => h _ _ e)
/-- a new owned address -/
theorem Rep.more {p : Addr} (h : H p = none) {d : D} {v : V} (r : Rep K O H v d) : Rep K (fun a => O a ∨ a = p) H v d :=
  r.map (fun a _ o e => ⟨fun z => z.elim o fun q => (by subst q; rw [h] at e; cases e), e⟩) (fun _ _ e => e)
theorem RepAll.more {p : Addr} (h : H p = none) {d : List D} {v : List V} (r : RepAll K O H v d) : RepAll K (fun a => O a ∨ a = p) H v d :=
  r.map (fun a _ o e => ⟨fun z => z.elim o fun q => (by subst q; rw [h] at e; cases e), e⟩) (fun _ _ e => e)
theorem RepAll.length : ∀ {vs : List V} {ds : List D}, RepAll K O H vs ds → vs.length = ds.length
  | _, _, .nil => rfl
  | _, _, .cons _ t => by rw [List.length_cons, List.length_cons, t.length]
theorem RepAll.append : ∀ {vs ws : List V} {ds es : List D}, RepAll K O H vs ds → RepAll K O H ws es → RepAll K O H (vs ++ ws) (ds ++ es)
  | _, _, _, _, .nil, s => s
  | _, _, _, _, .cons r t, s => .cons r (RepAll.append t s)
theorem RepAll.get : ∀ {vs : List V} {ds : List D} {i : Nat} {x : V}, RepAll K O H vs ds → vs[i]? = some x → ∃ d, ds[i]? = some d ∧ Rep K O H x d
  | _, _, _, _, .nil, e => by simp at e
  | _, _, 0, _, .cons r _, e => by simp at e; subst e; exact ⟨_, rfl, r⟩
  | _, _, i + 1, x, .cons _ t, e => by
    obtain ⟨u, h1, h2⟩ := RepAll.get (i := i) (x := x) t (by simpa using e)
    exact ⟨u, by simpa using h1, h2⟩
theorem RepAll.getD : ∀ {vs : List V} {ds : List D} {i : Nat} {d : D}, RepAll K O H vs ds → ds[i]? = some d → ∃ x, vs[i]? = some x ∧ Rep K O H x d
  | _, _, _, _, .nil, e => by simp at e
  | _, _, 0, _, .cons r _, e => by simp at e; subst e; exact ⟨_, rfl, r⟩
  | _, _, i + 1, x, .cons _ t, e => by
    obtain ⟨u, h1, h2⟩ := RepAll.getD (i := i) (d := x) t (by simpa using e)
    exact ⟨u, by simpa using h1, h2⟩
theorem RepAll.take : ∀ {vs : List V} {ds : List D} (n : Nat), RepAll K O H vs ds → RepAll K O H (vs.take n) (ds.take n)
  | _, _, 0, _ => .nil
  | _, _, _ + 1, .nil => .nil
  | _, _, n + 1, .cons r t => .cons r (RepAll.take n t)
theorem RepAll.drop : ∀ {vs : List V} {ds : List D} (n : Nat), RepAll K O H vs ds → RepAll K O H (vs.drop n) (ds.drop n)
  | _, _, 0, r => r
  | _, _, _ + 1, .nil => .nil
  | _, _, n + 1, .cons _ t => RepAll.drop n t
mutual
theorem Rep.dp : ∀ {d : D} {v : V}, d.hasDict = false → Rep K O H v d → Dp K H v d
  | _, _, _, .non => .non
  | _, _, _, .bl b => .bl b
  | _, _, _, .int i => .int i
  | _, _, _, .str x => .str x
  | _, _, n, .lst o h r => .lst (.of h) (RepAll.dp (by simpa [PyData.hasDict] using n) r)
  | _, _, n, .tup h r => .tup h.sq (RepAll.dp (by simpa [PyData.hasDict] using n) r)
  | _, _, n, .dct .. => absurd n (by simp [PyData.hasDict])
  | _, _, n, .dci .. => absurd n (by simp [PyData.hasDict])
  | _, _, n, .exc .. => absurd n (by simp [PyData.hasDict])
  | _, _, n, .exc0 .. => absurd n (by simp [PyData.hasDict])
theorem RepAll.dp : ∀ {ds : List D} {vs : List V}, PyData.hasDictAll ds = false → RepAll K O H vs ds → DpAll K H vs ds
  | _, _, _, .nil => .nil
  | _, _, n, .cons r t => .cons (Rep.dp (by simp only [PyData.hasDictAll, Bool.or_eq_false_iff] at n; exact n.1) r) (RepAll.dp (by simp only [PyData.hasDictAll, Bool.or_eq_false_iff] at n; exact n.2) t)
end
mutual
/-- no list in it -/
def flat : D → Bool
  | .none => true
  | .bool _ => true
  | .int _ => true
  | .str _ => true
  | .list _ => false
  | .tuple xs => flatAll xs
  | .dict _ => false
def flatAll : List D → Bool
  | [] => true
  | x :: xs => flat x && flatAll xs
end
mutual
theorem Rep.flat : ∀ {d : D} {v : V}, Rep K O H v d → flat d = true → Rep K O' H v d
  | _, _, .non, _ => .non
  | _, _, .bl b, _ => .bl b
  | _, _, .int i, _ => .int i
  | _, _, .str x, _ => .str x
  | _, _, .lst o h r, f => by simp [DL.flat] at f
  | _, _, .tup h r, f => .tup h (RepAll.flat r (by simpa [DL.flat] using f))
  | _, _, .dct .., f => by simp [DL.flat] at f
  | _, _, .dci .., f => by simp [DL.flat] at f
  | _, _, .exc .., f => by simp [DL.flat] at f
  | _, _, .exc0 .., f => by simp [DL.flat] at f
theorem RepAll.flat : ∀ {ds : List D} {vs : List V}, RepAll K O H vs ds → flatAll ds = true → RepAll K O' H vs ds
  | _, _, .nil, _ => .nil
  | _, _, .cons r t, f => .cons (Rep.flat r (by simp [DL.flatAll] at f; exact f.1)) (RepAll.flat t (by simp [DL.flatAll] at f; exact f.2))
end
end

/-! ### the state of a def's body -/
/-- the law's draws: the dict's address, that of its list of great cells -/
def bigM : Int := 2305843009213693951
def DrawO : Option (Addr × Addr) → Hp → Prop
  | none, _ => True
  | some (a, g), H => a ≠ g ∧ ∃ (m t : Int) (ns : List Int), H a = some (.dK [(.inr "mixed", .int m), (.inr "great", .ref g), (.inr "turn", .int t)]) ∧ (0 ≤ m ∧ m < bigM) ∧ 0 ≤ t ∧
      H g = some (.lst (ns.map V.int)) ∧ ns.length ≤ 63
/-- the tables of code objects, too -/
structure TabM (H : Hp) : Prop where
  t : LamX.Tabs lawTabs H
  /-- the interpreter's own dict stays -/
  m : ∃ o, H sysModules = some (.frz o (.own 0))
def DrawOk (G : Option (Addr × Addr)) (H : Hp) : Prop := DrawO G H ∧ TabM H
/-- what a slot holds -/
inductive Cell where
  | un
  | dat (d : D)
  | own (ds : List D)
  | drw
  | scr (ns : List Int)
  | obj (a : Addr) (o : Option (Addr × Str × D))
  /-- a structure that is owned deep down: what it reads as, its addresses; p: it is the parameter -/
  | mtb (p : Bool) (d : D) (fp : List Addr)
  /-- an instance of a class of the program, its fields by name; read only -/
  | lin (nm : Str) (fs : List (Str × D))
  /-- an instance that is owned; fp: its addresses and those of its fields' structures -/
  | ist (p : Bool) (nm : Str) (fs : List (Str × D)) (fp : List Addr)
/-- B: what may not be reached from what is told; G: the draws; H0: the heap at the entry; fr: what stands around; mf: the addresses of the parameter that is written -/
structure Ctx where
  B : Addr → Prop
  G : Option (Addr × Addr)
  H0 : Hp
  fr : List (V × D)
  mf : List Addr
def Wr (G : Option (Addr × Addr)) (a : Addr) : Prop := (∃ p, G = some p ∧ (a = p.1 ∨ a = p.2)) ∨ ∃ q, (a, q) ∈ lawTabs
/-- such an object can be -/
def Real (a : Addr) (es : Array DictEntry) (ep : Nat) : Prop := ∃ (h : Heap) (o : Obj), h.get? a = some o ∧ o.ExactDict ∧ o.data = .dict es ep
/-- no list, no dict is in it -/
abbrev FRep (K : PySem.W.Frag) (H : Hp) (v : V) (d : D) : Prop := Rep K (fun _ => True) H v d
mutual
/-- the value v reads as d; its lists and dicts stand at the addresses fp -/
inductive Deep (K : PySem.W.Frag) (H : Hp) : V → D → List Addr → Prop
  | val {v : V} {d : D} : FRep K H v d → Deep K H v d []
  | lst {a : Addr} {xs : List V} {ds : List D} {fs : List Addr} : H a = some (.lst xs) → DeepAll K H xs ds fs → Deep K H (.ref a) (.list ds) (a :: fs)
  | dct {a : Addr} {es : Array DictEntry} {ep : Nat} {ks vs : List V} {kvs : List (D × D)} : H a = some (dictO a es ep) → (a == sysModules) = false → Real a es ep → DictOk es ks vs kvs → RepAll K (fun _ => True) H ks (kvs.map (·.1)) → RepAll K (fun _ => True) H vs (kvs.map (·.2)) → Deep K H (.ref a) (.dict kvs) [a]
inductive DeepAll (K : PySem.W.Frag) (H : Hp) : List V → List D → List Addr → Prop
  | nil : DeepAll K H [] [] []
  | cons {v : V} {vs : List V} {d : D} {ds : List D} {f fs : List Addr} : Deep K H v d f → DeepAll K H vs ds fs → DeepAll K H (v :: vs) (d :: ds) (f ++ fs)
end
section
variable {K : PySem.W.Frag} {O : Addr → Prop} {H H' : Hp}
mutual
theorem Deep.map (ht : ∀ a xs, H a = some (.tup xs) → H' a = some (.tup xs)) : ∀ {d : D} {v : V} {fp : List Addr}, (∀ a ∈ fp, H' a = H a) → Deep K H v d fp → Deep K H' v d fp
  | _, _, _, _, .val r => .val (r.map (fun _ _ o _ => absurd trivial o) ht)
  | _, _, _, h, .lst e r => .lst ((h _ List.mem_cons_self).trans e) (DeepAll.map ht (fun a ha => h a (List.mem_cons_of_mem _ ha)) r)
  | _, _, _, h, .dct e s rl d r1 r2 => .dct ((h _ List.mem_cons_self).trans e) s rl d (r1.map (fun _ _ o _ => absurd trivial o) ht) (r2.map (fun _ _ o _ => absurd trivial o) ht)
theorem DeepAll.map (ht : ∀ a xs, H a = some (.tup xs) → H' a = some (.tup xs)) : ∀ {ds : List D} {vs : List V} {fp : List Addr}, (∀ a ∈ fp, H' a = H a) → DeepAll K H vs ds fp → DeepAll K H' vs ds fp
  | _, _, _, _, .nil => .nil
  | _, _, _, h, .cons r t => .cons (Deep.map ht (fun a ha => h a (List.mem_append_left _ ha)) r) (DeepAll.map ht (fun a ha => h a (List.mem_append_right _ ha)) t)
end
mutual
/-- what is not owned is plain -/
theorem Deep.rep : ∀ {d : D} {v : V} {fp : List Addr}, (∀ a ∈ fp, ¬ O a) → Deep K H v d fp → Rep K O H v d
  | _, _, _, _, .val r => r.weak fun _ _ => trivial
  | _, _, _, h, .lst e r => .lst (h _ List.mem_cons_self) e (DeepAll.rep (fun a ha => h a (List.mem_cons_of_mem _ ha)) r)
  | _, _, _, h, .dct e s _ d r1 r2 => .dct (h _ List.mem_cons_self) e s d (r1.weak fun _ _ => trivial) (r2.weak fun _ _ => trivial)
theorem DeepAll.rep : ∀ {ds : List D} {vs : List V} {fp : List Addr}, (∀ a ∈ fp, ¬ O a) → DeepAll K H vs ds fp → RepAll K O H vs ds
  | _, _, _, _, .nil => .nil
  | _, _, _, h, .cons r t => .cons (Deep.rep (fun a ha => h a (List.mem_append_left _ ha)) r) (DeepAll.rep (fun a ha => h a (List.mem_append_right _ ha)) t)
end
mutual
theorem Deep.alive : ∀ {d : D} {v : V} {fp : List Addr}, Deep K H v d fp → ∀ a ∈ fp, (∃ xs, H a = some (.lst xs)) ∨ ∃ es ep, H a = some (dictO a es ep)
  | _, _, _, .val _ => fun a h => nomatch h
  | _, _, _, .lst e r => fun a h => (List.mem_cons.mp h).elim (fun z => .inl ⟨_, z ▸ e⟩) (DeepAll.alive r a)
  | _, _, _, .dct e _ _ _ _ _ => fun a h => .inr (by rw [List.mem_singleton.mp h]; exact ⟨_, _, e⟩)
theorem DeepAll.alive : ∀ {ds : List D} {vs : List V} {fp : List Addr}, DeepAll K H vs ds fp → ∀ a ∈ fp, (∃ xs, H a = some (.lst xs)) ∨ ∃ es ep, H a = some (dictO a es ep)
  | _, _, _, .nil => fun a h => nomatch h
  | _, _, _, .cons r t => fun a h => (List.mem_append.mp h).elim (Deep.alive r a) (DeepAll.alive t a)
end
theorem Deep.head {v : V} {d : D} {a : Addr} {fs : List Addr} (h : Deep K H v d (a :: fs)) : v = .ref a := by
  cases h <;> rfl
end
/-! ### instances of the program's classes -/
def InsAt (K : PySem.W.Frag) (O : Addr → Prop) (H : Hp) (x : V) (nm : Str) (fs : List (Str × D)) : Prop := ∃ (a C dx : Addr) (vs : List (Str × V)), x = .ref a ∧ ¬ O a ∧ H a = some (.ins C dx vs) ∧ ClsOf K nm C ∧ vs.map (·.1) = fs.map (·.1) ∧ RepAll K O H (vs.map (·.2)) (fs.map (·.2))
def InsDp (K : PySem.W.Frag) (H : Hp) (x : V) (nm : Str) (fs : List (Str × D)) (fp : List Addr) : Prop := ∃ (a C dx : Addr) (vs : List (Str × V)) (gs : List Addr), x = .ref a ∧ fp = a :: dx :: gs ∧ H a = some (.ins C dx vs) ∧ H dx = some (.own a) ∧ ClsOf K nm C ∧ vs.map (·.1) = fs.map (·.1) ∧ DeepAll K H (vs.map (·.2)) (fs.map (·.2)) gs
section
variable {K : PySem.W.Frag} {O O' : Addr → Prop} {H H' : Hp} {x : V} {nm : Str} {fs : List (Str × D)} {fp : List Addr}
theorem InsAt.map (hl : ∀ a u, ¬ O a → H a = some u → ¬ O' a ∧ H' a = some u) (ht : ∀ a xs, H a = some (.tup xs) → H' a = some (.tup xs)) (h : InsAt K O H x nm fs) : InsAt K O' H' x nm fs := by
  obtain ⟨a, C, dx, vs, e, no, ha, c, n, r⟩ := h
  exact ⟨a, C, dx, vs, e, (hl _ _ no ha).1, (hl _ _ no ha).2, c, n, r.map hl ht⟩
theorem InsDp.map (ht : ∀ a xs, H a = some (.tup xs) → H' a = some (.tup xs)) (k : ∀ a ∈ fp, H' a = H a) (h : InsDp K H x nm fs fp) : InsDp K H' x nm fs fp := by
  obtain ⟨a, C, dx, vs, gs, e, ef, ha, hd, c, n, r⟩ := h
  subst ef
  exact ⟨a, C, dx, vs, gs, e, rfl, (k _ List.mem_cons_self).trans ha, (k _ (List.mem_cons_of_mem _ List.mem_cons_self)).trans hd, c, n, r.map ht fun b hb => k b (List.mem_cons_of_mem _ (List.mem_cons_of_mem _ hb))⟩
theorem InsDp.lin (k : ∀ a ∈ fp, ¬ O a) (h : InsDp K H x nm fs fp) : InsAt K O H x nm fs := by
  obtain ⟨a, C, dx, vs, gs, e, ef, ha, hd, c, n, r⟩ := h
  subst ef
  exact ⟨a, C, dx, vs, e, k _ List.mem_cons_self, ha, c, n, r.rep fun b hb => k b (List.mem_cons_of_mem _ (List.mem_cons_of_mem _ hb))⟩
theorem InsDp.alive (h : InsDp K H x nm fs fp) : ∀ a ∈ fp, ∃ o, H a = some o ∧ (∀ xs, o ≠ .tup xs) ∧ (∀ q u, o ≠ .frz q u) ∧ ∀ u, o ≠ .xd u := by
  obtain ⟨a, C, dx, vs, gs, e, ef, ha, hd, c, n, r⟩ := h
  subst ef
  intro b hb
  rcases List.mem_cons.mp hb with z | hb
  · subst z; exact ⟨_, ha, (fun _ z => nomatch z), (fun _ _ z => nomatch z), fun _ z => nomatch z⟩
  rcases List.mem_cons.mp hb with z | hb
  · subst z; exact ⟨_, hd, (fun _ z => nomatch z), (fun _ _ z => nomatch z), fun _ z => nomatch z⟩
  rcases r.alive b hb with ⟨xs, e⟩ | ⟨es, ep, e⟩
  · exact ⟨_, e, (fun _ z => nomatch z), (fun _ _ z => nomatch z), fun _ z => nomatch z⟩
  · exact ⟨_, e, (fun _ z => nomatch z), (fun _ _ z => nomatch z), fun _ z => nomatch z⟩
end
/-- what a cell owns -/
def foot : Cell → Option V → Addr → Prop
  | .own _, v, b => v = some (.ref b)
  | .mtb _ _ fp, _, b => b ∈ fp
  | .ist _ _ _ fp, _, b => b ∈ fp
  | _, _, _ => False
/-- the law's script -/
def ScrAt (K : PySem.W.Frag) (H : Hp) (a : Addr) (ns : List Int) : Prop :=
  (∃ o, H a = some (.frz o (.lst (ns.map V.int)))) ∨ ∃ (o : Obj) (its : Array Value) (n : Nat), K.lookup a = some o ∧ o.cls = .type "list" ∧ o.dict = none ∧ o.data = .seq its n ∧ its.size ≤ sizeLine ∧ Vals (ns.map V.int) its.toList
theorem ScrAt.sq {K : PySem.W.Frag} {H : Hp} {a : Addr} {ns : List Int} (h : ScrAt K H a ns) : SqL K H a (ns.map V.int) := h.elim (fun ⟨o, e⟩ => .inl (.inr ⟨o, e⟩)) .inr
theorem ScrAt.map {K : PySem.W.Frag} {H H' : Hp} (k : ∀ a o u, H a = some (.frz o u) → H' a = some (.frz o u)) {a : Addr} {ns : List Int} (h : ScrAt K H a ns) : ScrAt K H' a ns := h.imp (fun ⟨o, e⟩ => ⟨o, k _ _ _ e⟩) id
def CellOk (K : PySem.W.Frag) (c : Ctx) (O : Addr → Prop) (H : Hp) (v : Option V) : Cell → Prop
  | .un => True
  | .dat d => ∃ x, v = some x ∧ Rep K O H x d
  | .own ds => ∃ a xs, v = some (.ref a) ∧ H a = some (.lst xs) ∧ O a ∧ ¬ c.B a ∧ c.H0 a = none ∧ RepAll K O H xs ds
  | .drw => ∃ a g, v = some (.ref a) ∧ c.G = some (a, g)
  | .scr ns => ∃ a, v = some (.ref a) ∧ ScrAt K H a ns
  | .obj a o => v = some (.ref a) ∧ ∀ p, o = some p → ∃ y, H p.1 = some (.xd [(p.2.1, y)]) ∧ Rep K O H y p.2.2
  | .mtb p d fp => ∃ x, v = some x ∧ Deep K H x d fp ∧ fp ≠ [] ∧ fp.Nodup ∧ (∀ b ∈ fp, O b ∧ ¬ c.B b ∧ c.H0 b = none) ∧ (p = true → c.mf = fp)
  | .lin nm fs => ∃ x, v = some x ∧ InsAt K O H x nm fs
  | .ist p nm fs fp => ∃ x, v = some x ∧ InsDp K H x nm fs fp ∧ fp ≠ [] ∧ fp.Nodup ∧ (∀ b ∈ fp, O b ∧ ¬ c.B b ∧ c.H0 b = none) ∧ (p = true → c.mf ≠ [] ∧ c.mf.head? = fp.head? ∧ ∀ b ∈ c.mf, b ∈ fp)
abbrev EnvD := List Cell
structure Good (K : PySem.W.Frag) (c : Ctx) (O : Addr → Prop) (η : EnvD) (σ : L2.St) (H : Hp) : Prop where
  len : η.length = σ.length
  hB : ∀ a, c.B a → O a
  hW : ∀ a, Wr c.G a → c.B a
  hT : ∀ a, O a → H a ≠ none
  keep : ∀ a o, ¬ Wr c.G a → c.H0 a = some o → H a = some o
  draw : DrawOk c.G H
  cell : ∀ (i : Nat) (x : Cell), η[i]? = some x → CellOk K c O H (σ[i]?.join) x
  dis : ∀ (i j : Nat) (x y : Cell) (b : Addr), η[i]? = some x → η[j]? = some y → foot x (σ[i]?.join) b → foot y (σ[j]?.join) b → i = j
  fr : ∀ p ∈ c.fr, Rep K O H p.1 p.2
/-- what an expression may do to the heap -/
structure Step (G : Option (Addr × Addr)) (H H' : Hp) : Prop where
  keep : ∀ a o, ¬ Wr G a → H a = some o → H' a = some o
  draw : DrawOk G H'
section
variable {K : PySem.W.Frag} {c : Ctx} {G : Option (Addr × Addr)} {O O' : Addr → Prop} {η : EnvD} {σ : L2.St} {H H1 H2 : Hp}
theorem DrawOk.tr (h : DrawOk G H) : ∀ a, Wr G a → H a ≠ none := by
  rintro a (⟨⟨p1, p2⟩, rfl, h1⟩ | ⟨q, hq⟩)
  · obtain ⟨_, m, t, ns, e1, _, _, e2, _⟩ := h.1
    rcases h1 with h1 | h1 <;> (have h1 := h1; simp only at h1; subst h1)
    · rw [e1]; intro z; cases z
    · rw [e2]; intro z; cases z
  · obtain ⟨ps, e, _⟩ := h.2.t _ hq
    have e : H a = some (.tbl ps) := e
    rw [e]; intro z; cases z
theorem DrawOk.tup (h : DrawOk G H) : ∀ a xs, H a = some (.tup xs) → ¬ Wr G a := by
  rintro a xs e (⟨⟨p1, p2⟩, rfl, h1⟩ | ⟨q, hq⟩)
  · obtain ⟨_, m, t, ns, e1, _, _, e2, _⟩ := h.1
    rcases h1 with h1 | h1 <;> (have h1 := h1; simp only at h1; subst h1)
    · rw [e1] at e; cases e
    · rw [e2] at e; cases e
  · obtain ⟨ps, e1, _⟩ := h.2.t _ hq
    have e1 : H a = some (.tbl ps) := e1
    rw [e1] at e; cases e
theorem DrawOk.frz (h : DrawOk G H) : ∀ a o u, H a = some (.frz o u) → ¬ Wr G a := by
  rintro a o u e (⟨⟨p1, p2⟩, rfl, h1⟩ | ⟨q, hq⟩)
  · obtain ⟨_, m, t, ns, e1, _, _, e2, _⟩ := h.1
    rcases h1 with h1 | h1 <;> (have h1 := h1; simp only at h1; subst h1)
    · rw [e1] at e; cases e
    · rw [e2] at e; cases e
  · obtain ⟨ps, e1, _⟩ := h.2.t _ hq
    have e1 : H a = some (.tbl ps) := e1
    rw [e1] at e; cases e
theorem DrawOk.xd (h : DrawOk G H) : ∀ a fs, H a = some (.xd fs) → ¬ Wr G a := by
  rintro a fs e (⟨⟨p1, p2⟩, rfl, h1⟩ | ⟨q, hq⟩)
  · obtain ⟨_, m, t, ns, e1, _, _, e2, _⟩ := h.1
    rcases h1 with h1 | h1 <;> (have h1 := h1; simp only at h1; subst h1)
    · rw [e1] at e; cases e
    · rw [e2] at e; cases e
  · obtain ⟨ps, e1, _⟩ := h.2.t _ hq
    have e1 : H a = some (.tbl ps) := e1
    rw [e1] at e; cases e
/-- a table stays where only other things change -/
theorem tab_stay {P : Addr} {q : Str} (t : LamX.TabS H P q) (k : ∀ b o, H b = some o → ((∃ ps, o = .tbl ps) ∨ (∃ f, o = .ext f) ∨ ∃ q u, o = .frz q u) → H1 b = some o) : LamX.TabS H1 P q := by
  obtain ⟨ps, h1, h2, h3⟩ := t
  refine ⟨ps, k _ _ h1 (.inl ⟨_, rfl⟩), h2, fun pos cv hc => ?_⟩
  obtain ⟨c, e1, e2⟩ := h3 pos cv hc
  exact ⟨c, e1, k _ _ e2 (.inr (.inl ⟨_, rfl⟩))⟩
theorem tabm_stay (t : TabM H) (k : ∀ b o, H b = some o → ((∃ ps, o = .tbl ps) ∨ (∃ f, o = .ext f) ∨ ∃ q u, o = .frz q u) → H1 b = some o) : TabM H1 := ⟨fun p hp => tab_stay (t.t p hp) k, let ⟨o, e⟩ := t.m; ⟨o, k _ _ e (.inr (.inr ⟨_, _, rfl⟩))⟩⟩
theorem TabM.ext (t : TabM H) (k : ∀ b o, H b = some o → H1 b = some o) : TabM H1 := tabm_stay t fun b o e _ => k b o e
theorem tabs_upd {a : Addr} {xs : List V} {o : HO} (t : TabM H) (ha : H a = some (.lst xs)) : TabM (upd H a o) := tabm_stay t fun b u e hu => by
  rw [upd_ne (fun z => ?_)]
  · exact e
  · rw [z, ha] at e
    cases e
    rcases hu with ⟨_, z⟩ | ⟨_, z⟩ | ⟨_, _, z⟩ <;> cases z
theorem Step.refl (h : DrawOk G H) : Step G H H := ⟨fun _ _ _ e => e, h⟩
theorem Step.trans (a : Step G H H1) (b : Step G H1 H2) : Step G H H2 := ⟨fun x o n e => b.keep x o n (a.keep x o n e), b.draw⟩
theorem Step.same (h : DrawOk G H) (s : Same H H1) : Step G H H1 := by
  refine ⟨fun a o _ e => s a o e, ?_, h.2.ext s⟩
  replace h := h.1
  cases G with
  | none => trivial
  | some p =>
    obtain ⟨p1, p2⟩ := p
    obtain ⟨n, m, t, ns, e1, x1, x2, e2, x3⟩ := h
    exact ⟨n, m, t, ns, s _ _ e1, x1, x2, s _ _ e2, x3⟩
theorem same_upd {p : Addr} {o : HO} (h : H p = none) : Same H (upd H p o) := fun b x e => by
  rw [upd_ne (ne_of_none e h)]
  exact e
theorem Step.alloc (h : DrawOk G H) {p : Addr} {o : HO} (hp : H p = none) : Step G H (upd H p o) := .same h (same_upd hp)
theorem Step.rep (st : Step G H H1) (dr : DrawOk G H) (hW : ∀ a, Wr G a → O a) {d : D} {v : V} (r : Rep K O H v d) : Rep K O H1 v d :=
  r.map (fun a _ o e => ⟨o, st.keep a _ (fun z => o (hW a z)) e⟩) fun a xs e => st.keep a _ (dr.tup a xs e) e
theorem Step.repAll (st : Step G H H1) (dr : DrawOk G H) (hW : ∀ a, Wr G a → O a) {d : List D} {v : List V} (r : RepAll K O H v d) : RepAll K O H1 v d :=
  r.map (fun a _ o e => ⟨o, st.keep a _ (fun z => o (hW a z)) e⟩) fun a xs e => st.keep a _ (dr.tup a xs e) e
theorem Good.inj (g : Good K c O η σ H) (i j : Nat) (ds es : List D) (a : Addr) (h1 : η[i]? = some (.own ds)) (h2 : η[j]? = some (.own es)) (h3 : σ[i]?.join = some (.ref a)) (h4 : σ[j]?.join = some (.ref a)) : i = j := g.dis i j _ _ a h1 h2 h3 h4
theorem dis_put {η : EnvD} {σ : L2.St} (g : ∀ (i j : Nat) (x y : Cell) (b : Addr), η[i]? = some x → η[j]? = some y → foot x (σ[i]?.join) b → foot y (σ[j]?.join) b → i = j) (i : Nat) {z : Cell} (hz : ∀ v b, ¬ foot z v b) (w : Option V) : ∀ (j k : Nat) (x y : Cell) (b : Addr), (η.set i z)[j]? = some x → (η.set i z)[k]? = some y → foot x ((σ.set i w)[j]?.join) b → foot y ((σ.set i w)[k]?.join) b → j = k := by
  intro j k x y b h1 h2 h3 h4
  have nj : ∀ {m : Nat} {u : Cell} {v : Option V}, (η.set i z)[m]? = some u → foot u v b → i ≠ m := fun {m u v} h f e => by
    subst e
    by_cases hl : i < η.length
    · rw [List.getElem?_set_self hl] at h; cases h; exact hz _ _ f
    · rw [List.getElem?_eq_none (by rw [List.length_set]; omega)] at h; cases h
  have e1 := nj h1 h3
  have e2 := nj h2 h4
  rw [List.getElem?_set_ne e1] at h1 h3
  rw [List.getElem?_set_ne e2] at h2 h4
  exact g j k _ _ b h1 h2 h3 h4
theorem Good.wO (g : Good K c O η σ H) : ∀ a, Wr c.G a → O a := fun a h => g.hB a (g.hW a h)
theorem Good.step (g : Good K c O η σ H) (st : Step c.G H H1) : Good K c O η σ H1 where
  len := g.len
  hB := g.hB
  hW := g.hW
  hT := fun a h z => by
    by_cases w : Wr c.G a
    · exact st.draw.tr a w z
    · cases e : H a with
      | none => exact g.hT a h e
      | some o => rw [st.keep a o w e] at z; cases z
  keep := fun a o w e => st.keep a o w (g.keep a o w e)
  draw := st.draw
  cell := fun i x h => by
    have := g.cell i x h
    cases x with
    | un => trivial
    | dat d =>
      obtain ⟨v, e, r⟩ := this
      exact ⟨v, e, st.rep g.draw g.wO r⟩
    | own ds =>
      obtain ⟨a, xs, e, ha, oa, nb, h0, r⟩ := this
      exact ⟨a, xs, e, st.keep a _ (fun z => nb (g.hW a z)) ha, oa, nb, h0, st.repAll g.draw g.wO r⟩
    | drw => exact this
    | obj a o => exact ⟨this.1, fun p hp => (this.2 p hp).imp fun y q => ⟨st.keep _ _ (g.draw.xd _ _ q.1) q.1, st.rep g.draw g.wO q.2⟩⟩
    | scr ns =>
      obtain ⟨a, e, r⟩ := this
      exact ⟨a, e, r.map fun b o u x => st.keep b _ (g.draw.frz b o u x) x⟩
    | mtb p d fp =>
      obtain ⟨x, e, r, h1, h2, h3, h4⟩ := this
      refine ⟨x, e, r.map (fun a xs e => st.keep a _ (g.draw.tup a xs e) e) (fun a ha => ?_), h1, h2, h3, h4⟩
      have nw : ¬ Wr c.G a := fun z => (h3 a ha).2.1 (g.hW a z)
      rcases r.alive a ha with ⟨xs, e⟩ | ⟨es, ep, e⟩ <;> rw [e, st.keep a _ nw e]
    | lin nm fs =>
      obtain ⟨x, e, r⟩ := this
      exact ⟨x, e, r.map (fun a _ o e => ⟨o, st.keep a _ (fun z => o (g.wO a z)) e⟩) fun a xs e => st.keep a _ (g.draw.tup a xs e) e⟩
    | ist p nm fs fp =>
      obtain ⟨x, e, r, h1, h2, h3, h4⟩ := this
      refine ⟨x, e, r.map (fun a xs e => st.keep a _ (g.draw.tup a xs e) e) (fun a ha => ?_), h1, h2, h3, h4⟩
      have nw : ¬ Wr c.G a := fun z => (h3 a ha).2.1 (g.hW a z)
      obtain ⟨o, e, _⟩ := r.alive a ha
      rw [e, st.keep a _ nw e]
  dis := g.dis
  fr := fun p hp => st.rep g.draw g.wO (g.fr p hp)
end

/-! ### judgements -/
/-- what is wanted where an error leaves: the class's name, its fields -/
abbrev XP := Str → List (Str × D) → Prop
def never : XP := fun _ _ => False
abbrev ET := XP → EnvD → (D → Prop) → Prop
abbrev BT := XP → EnvD → (Bool → Prop) → Prop
abbrev AT := XP → EnvD → (List D → Prop) → Prop
/-- an exception of the class named nm whose dict holds the fields fs -/
def ErrG (K : PySem.W.Frag) (mg : Str → Option Value) (B : Addr → Prop) (G : Option (Addr × Addr)) (H0 : Hp) (E : XP) (cls : Value) (d : Option Addr) (H : Hp) : Prop := ∃ (nm : Str) (fs : List (Str × D)) (dx : Addr) (vs : List (Str × V)), E nm fs ∧ mg nm = some cls ∧ d = some dx ∧ H dx = some (.xd vs) ∧ vs.map (·.1) = fs.map (·.1) ∧
  RepAll K B H (vs.map (·.2)) (fs.map (·.2)) ∧ (∀ a o, ¬ Wr G a → H0 a = some o → H a = some o) ∧ DrawOk G H ∧ ∀ a, B a → H a ≠ none
def ErrAt (X : Cx) (c : Ctx) (E : XP) : WX := fun cls d _ H => ErrG X.K X.mg c.B c.G c.H0 E cls d H
/-- the wish about errors is taken -/
def EOk (X : Cx) (c : Ctx) (E : XP) : Prop := Takes X (ErrAt X c E)
theorem eok_never {X : Cx} {c : Ctx} : EOk X c never := fun _ _ ⟨_, _, _, _, _, _, _, _, _, _, _, _, _, _, _, _, _, _, _, _, z, _⟩ => z.elim
structure Gd (X : Cx) (c : Ctx) (E : XP) (O : Addr → Prop) (η : EnvD) (σ : L2.St) (H : Hp) : Prop extends Good X.K c O η σ H where
  er : EOk X c E
theorem Gd.step {X : Cx} {c : Ctx} {E : XP} {O : Addr → Prop} {η : EnvD} {σ : L2.St} {H H1 : Hp} (g : Gd X c E O η σ H) (st : Step c.G H H1) : Gd X c E O η σ H1 := { toGood := g.toGood.step st, er := g.er }
structure EndsD where
  nx : EnvD → Prop
  rt : D → Prop
  bk : EnvD → Prop := fun _ => False
  ct : EnvD → Prop := fun _ => False
abbrev SD := XP → EndsD → EnvD → Prop
/-- behind an expression -/
def DP (X : Cx) (c : Ctx) (O : Addr → Prop) (pins : List (Addr × Obj)) (σ : L2.St) (H : Hp) (Q : D → Prop) (u : Value) (s' : Shared) : Prop :=
  ∃ d v H', Inv X pins σ H' s' ∧ RelV v u ∧ Step c.G H H' ∧ Rep X.K O H' v d ∧ Q d
structure DE (X : Cx) (e : Expr) (t : ET) : Prop where
  run : ∀ (pins : List (Addr × Obj)) (s : Shared) (σ : L2.St) (H : Hp) (c : Ctx) (O : Addr → Prop) (η : EnvD) (E : XP) (Q : D → Prop), Inv X pins σ H s → Gd X c E O η σ H → t E η Q →
    wpAny (model X.prog X.w) X.A (eval e X.env) (DP X c O pins σ H Q) X.xe s
structure DT (X : Cx) (e : Expr) (t : BT) : Prop where
  run : ∀ (pins : List (Addr × Obj)) (s : Shared) (σ : L2.St) (H : Hp) (c : Ctx) (O : Addr → Prop) (η : EnvD) (E : XP) (Q : Bool → Prop), Inv X pins σ H s → Gd X c E O η σ H → t E η Q →
    wpAny (model X.prog X.w) X.A (isTrue e X.env (eval e X.env)) (fun b s' => ∃ H', Inv X pins σ H' s' ∧ Step c.G H H' ∧ Q b) X.xe s
structure DW (X : Cx) (e : Expr) (t : BT) : Prop where
  run : ∀ (whole : Sem Value) (pins : List (Addr × Obj)) (s : Shared) (σ : L2.St) (H : Hp) (c : Ctx) (O : Addr → Prop) (η : EnvD) (E : XP) (Q : Bool → Prop), Inv X pins σ H s → Gd X c E O η σ H → t E η Q →
    wpAny (model X.prog X.w) X.A (isTrue e X.env whole) (fun b s' => ∃ H', Inv X pins σ H' s' ∧ Step c.G H H' ∧ Q b) X.xe s
structure DA (X : Cx) (es : List Expr) (t : AT) : Prop where
  run : ∀ (pos : Pos) (pins : List (Addr × Obj)) (s : Shared) (σ : L2.St) (H : Hp) (c : Ctx) (O : Addr → Prop) (η : EnvD) (E : XP) (Q : List D → Prop), Inv X pins σ H s → Gd X c E O η σ H → t E η Q →
    wpAny (model X.prog X.w) X.A (spliced (backTo pos (starEach es X.env))) (fun us s' => ∃ ds vs H', Inv X pins σ H' s' ∧ Vals vs us ∧ Step c.G H H' ∧ RepAll X.K O H' vs ds ∧ Q ds) X.xe s
/-- the same as readings of the layer below -/
def liftE (X : Cx) (t : ET) : TE := fun σ H R => ∃ (c : Ctx) (O : Addr → Prop) (η : EnvD) (E : XP) (Q : D → Prop), Gd X c E O η σ H ∧ t E η Q ∧ ∀ d v H', Step c.G H H' → Rep X.K O H' v d → Q d → R v H'
def liftB (X : Cx) (t : BT) : TT := fun σ H R => ∃ (c : Ctx) (O : Addr → Prop) (η : EnvD) (E : XP) (Q : Bool → Prop), Gd X c E O η σ H ∧ t E η Q ∧ ∀ b H', Step c.G H H' → Q b → R b H'
def liftA (X : Cx) (t : AT) : TA := fun σ H R => ∃ (c : Ctx) (O : Addr → Prop) (η : EnvD) (E : XP) (Q : List D → Prop), Gd X c E O η σ H ∧ t E η Q ∧ ∀ ds vs H', Step c.G H H' → RepAll X.K O H' vs ds → Q ds → R vs H'
section
variable {X : Cx} {e : Expr} {es : List Expr}
theorem DE.pe {t : ET} (h : DE X e t) : PE X e (liftE X t) := ⟨fun pins s σ H R I ⟨c, O, η, E, Q, g, ht, k⟩ =>
  thn (h.run pins s σ H c O η E Q I g ht) fun u s' ⟨d, v, H', I', r, st, rp, q⟩ => ⟨v, H', I', r, k d v H' st rp q⟩⟩
theorem DE.of {t : ET} {T : TE} (h : PE X e T) (f : ∀ σ H c O η E Q, Gd X c E O η σ H → t E η Q → T σ H fun v H' => ∃ d, Step c.G H H' ∧ Rep X.K O H' v d ∧ Q d) : DE X e t :=
  ⟨fun pins s σ H c O η E Q I g ht => thn (h.run pins s σ H _ I (f σ H c O η E Q g ht)) fun u s' ⟨v, H', I', r, d, st, rp, q⟩ => ⟨d, v, H', I', r, st, rp, q⟩⟩
theorem DT.pt {t : BT} (h : DT X e t) : PT X e (liftB X t) := ⟨fun pins s σ H R I ⟨c, O, η, E, Q, g, ht, k⟩ =>
  thn (h.run pins s σ H c O η E Q I g ht) fun b s' ⟨H', I', st, q⟩ => ⟨H', I', k b H' st q⟩⟩
theorem DT.of {t : BT} {T : TT} (h : PT X e T) (f : ∀ σ H c O η E Q, Gd X c E O η σ H → t E η Q → T σ H fun b H' => Step c.G H H' ∧ Q b) : DT X e t :=
  ⟨fun pins s σ H c O η E Q I g ht => thn (h.run pins s σ H _ I (f σ H c O η E Q g ht)) fun b s' ⟨H', I', st, q⟩ => ⟨H', I', st, q⟩⟩
theorem DW.pw {t : BT} (h : DW X e t) : PW X e (liftB X t) := ⟨fun wh pins s σ H R I ⟨c, O, η, E, Q, g, ht, k⟩ =>
  thn (h.run wh pins s σ H c O η E Q I g ht) fun b s' ⟨H', I', st, q⟩ => ⟨H', I', k b H' st q⟩⟩
theorem DW.of {t : BT} {T : TT} (h : PW X e T) (f : ∀ σ H c O η E Q, Gd X c E O η σ H → t E η Q → T σ H fun b H' => Step c.G H H' ∧ Q b) : DW X e t :=
  ⟨fun wh pins s σ H c O η E Q I g ht => thn (h.run wh pins s σ H _ I (f σ H c O η E Q g ht)) fun b s' ⟨H', I', st, q⟩ => ⟨H', I', st, q⟩⟩
theorem DW.dt {t : BT} (h : DW X e t) : DT X e t := ⟨h.run _⟩
theorem DA.pa {t : AT} (h : DA X es t) : PA X es (liftA X t) := ⟨fun pos pins s σ H R I ⟨c, O, η, E, Q, g, ht, k⟩ =>
  thn (h.run pos pins s σ H c O η E Q I g ht) fun u s' ⟨d, v, H', I', r, st, rp, q⟩ => ⟨v, H', I', r, k d v H' st rp q⟩⟩
theorem DA.of {t : AT} {T : TA} (h : PA X es T) (f : ∀ σ H c O η E Q, Gd X c E O η σ H → t E η Q → T σ H fun vs H' => ∃ ds, Step c.G H H' ∧ RepAll X.K O H' vs ds ∧ Q ds) : DA X es t :=
  ⟨fun pos pins s σ H c O η E Q I g ht => thn (h.run pos pins s σ H _ I (f σ H c O η E Q g ht)) fun u s' ⟨v, H', I', r, d, st, rp, q⟩ => ⟨d, v, H', I', r, st, rp, q⟩⟩
end
/-- where no error may leave -/
def liftE0 (K : PySem.W.Frag) (t : ET) : TE := fun σ H R => ∃ (c : Ctx) (O : Addr → Prop) (η : EnvD) (Q : D → Prop), Good K c O η σ H ∧ t never η Q ∧ ∀ d v H', Step c.G H H' → Rep K O H' v d → Q d → R v H'
def liftB0 (K : PySem.W.Frag) (t : BT) : TT := fun σ H R => ∃ (c : Ctx) (O : Addr → Prop) (η : EnvD) (Q : Bool → Prop), Good K c O η σ H ∧ t never η Q ∧ ∀ b H', Step c.G H H' → Q b → R b H'
theorem DE.pe0 {X : Cx} {e : Expr} {t : ET} (h : DE X e t) : PE X e (liftE0 X.K t) := ⟨fun pins s σ H R I ⟨c, O, η, Q, g, ht, k⟩ => h.pe.run pins s σ H R I ⟨c, O, η, never, Q, ⟨g, eok_never⟩, ht, k⟩⟩
theorem DT.pt0 {X : Cx} {e : Expr} {t : BT} (h : DT X e t) : PT X e (liftB0 X.K t) := ⟨fun pins s σ H R I ⟨c, O, η, Q, g, ht, k⟩ => h.pt.run pins s σ H R I ⟨c, O, η, never, Q, ⟨g, eok_never⟩, ht, k⟩⟩
/-- told from a def that writes its parameter: the answer, and what the parameter is then -/
def pkM (d m : D) : D := .dict [(.none, d), (.none, m)]
/-- the parameter itself is told -/
def selfD : D := .dict [(.none, .none)]
/-- .. that writes an instance: the answer, the fields then -/
def pkI (d : D) (nm : Str) (fs : List (Str × D)) : D := .dict [(.none, d), (.str nm, .dict (fs.map fun q => (.str q.1, q.2)))]
def MRet (K : PySem.W.Frag) (c : Ctx) (H : Hp) (v : V) (p : D) : Prop := c.mf ≠ [] ∧ ((∃ d m v0, p = pkM d m ∧ (Rep K (fun b => c.B b ∨ b ∈ c.mf) H v d ∨ (d = selfD ∧ v = v0)) ∧ Deep K H v0 m c.mf) ∨
  ∃ d nm fs v0 fp, p = pkI d nm fs ∧ FRep K H v d ∧ InsDp K H v0 nm fs fp ∧ fp.Nodup ∧ c.mf.head? = fp.head? ∧ (∀ b ∈ c.mf, b ∈ fp) ∧ ∀ b ∈ fp, c.H0 b = none)
theorem not_kD {p : D × D} {kvs : List (D × D)} {ks : List (Key × V)} (h : ∀ k, p.1 ≠ kD k) (e : ks.map (fun q => kD q.1) = (p :: kvs).map (·.1)) : False := by
  cases ks with
  | nil => cases e
  | cons q ks =>
    rw [List.map_cons, List.map_cons] at e
    exact h q.1 (List.cons.inj e).1.symm
theorem no_mret {K : PySem.W.Frag} {c : Ctx} {H : Hp} {v : V} {d : D} (h : c.mf = []) (r : Rep K c.B H v d ∨ MRet K c H v d) : Rep K c.B H v d := r.elim id fun z => absurd h z.1
/-- behind a statement -/
def endsOf (X : Cx) (c : Ctx) (E : XP) (z : EndsD) : Ends where
  nx := fun σ H => ∃ O η, Gd X c E O η σ H ∧ z.nx η
  rt := fun v H => ∃ d, (∀ a o, ¬ Wr c.G a → c.H0 a = some o → H a = some o) ∧ DrawOk c.G H ∧ (Rep X.K c.B H v d ∨ MRet X.K c H v d) ∧ z.rt d
  bk := fun σ H => ∃ O η, Gd X c E O η σ H ∧ z.bk η
  ct := fun σ H => ∃ O η, Gd X c E O η σ H ∧ z.ct η
structure DS (X : Cx) (st : Stmt) (t : SD) : Prop where
  run : ∀ (pins : List (Addr × Obj)) (s : Shared) (σ : L2.St) (H : Hp) (c : Ctx) (O : Addr → Prop) (η : EnvD) (E : XP) (z : EndsD), Inv X pins σ H s → Gd X c E O η σ H → t E z η →
    wpAny (model X.prog X.w) X.A (exec st X.env) (SP X pins (endsOf X c E z)) X.xe s
structure DSs (X : Cx) (st : List Stmt) (t : SD) : Prop where
  run : ∀ (pins : List (Addr × Obj)) (s : Shared) (σ : L2.St) (H : Hp) (c : Ctx) (O : Addr → Prop) (η : EnvD) (E : XP) (z : EndsD), Inv X pins σ H s → Gd X c E O η σ H → t E z η →
    wpAny (model X.prog X.w) X.A (execs st X.env) (SP X pins (endsOf X c E z)) X.xe s
def liftS (X : Cx) (t : SD) : TS := fun D σ H => ∃ (c : Ctx) (O : Addr → Prop) (η : EnvD) (E : XP) (z : EndsD), Gd X c E O η σ H ∧ t E z η ∧
  (∀ σ' H', (endsOf X c E z).nx σ' H' → D.nx σ' H') ∧ (∀ v H', (endsOf X c E z).rt v H' → D.rt v H') ∧ (∀ σ' H', (endsOf X c E z).bk σ' H' → D.bk σ' H') ∧ ∀ σ' H', (endsOf X c E z).ct σ' H' → D.ct σ' H'
section
variable {X : Cx} {st : Stmt} {sts : List Stmt} {t : SD} {T : TS}
theorem sp_mono {pins : List (Addr × Obj)} {D D' : Ends} {f : Flow} {s : Shared} (h : SP X pins D f s) (h1 : ∀ σ' H', D.nx σ' H' → D'.nx σ' H') (h2 : ∀ v H', D.rt v H' → D'.rt v H') (h3 : ∀ σ' H', D.bk σ' H' → D'.bk σ' H') (h4 : ∀ σ' H', D.ct σ' H' → D'.ct σ' H') : SP X pins D' f s := by
  cases f with
  | next => obtain ⟨σ', H', I, q⟩ := h; exact ⟨σ', H', I, h1 _ _ q⟩
  | brk => obtain ⟨σ', H', I, q⟩ := h; exact ⟨σ', H', I, h3 _ _ q⟩
  | cont => obtain ⟨σ', H', I, q⟩ := h; exact ⟨σ', H', I, h4 _ _ q⟩
  | ret u => obtain ⟨v, σ', H', I, r, q⟩ := h; exact ⟨v, σ', H', I, r, h2 _ _ q⟩
theorem DS.ps (h : DS X st t) : PS X st (liftS X t) := ⟨fun pins s σ H D I ⟨c, O, η, E, z, g, ht, k1, k2, k3, k4⟩ =>
  thn (h.run pins s σ H c O η E z I g ht) fun f s' q => sp_mono q k1 k2 k3 k4⟩
theorem DSs.pss (h : DSs X sts t) : PSs X sts (liftS X t) := ⟨fun pins s σ H D I ⟨c, O, η, E, z, g, ht, k1, k2, k3, k4⟩ =>
  thn (h.run pins s σ H c O η E z I g ht) fun f s' q => sp_mono q k1 k2 k3 k4⟩
theorem DS.of (h : PS X st T) (f : ∀ σ H c O η E z, Gd X c E O η σ H → t E z η → T (endsOf X c E z) σ H) : DS X st t :=
  ⟨fun pins s σ H c O η E z I g ht => h.run pins s σ H _ I (f σ H c O η E z g ht)⟩
theorem DSs.of (h : PSs X sts T) (f : ∀ σ H c O η E z, Gd X c E O η σ H → t E z η → T (endsOf X c E z) σ H) : DSs X sts t :=
  ⟨fun pins s σ H c O η E z I g ht => h.run pins s σ H _ I (f σ H c O η E z g ht)⟩
/-! blocks -/
def sNext : SD := fun _ z η => z.nx η
def sSeq (t u : SD) : SD := fun E z η => t E { z with nx := u E z } η
variable {rest : List Stmt} {u : SD}
theorem dss_nil : DSs X [] sNext := .of pss_nil fun σ H c O η E z g h => ⟨O, η, g, h⟩
theorem dss_cons (h1 : DS X st t) (h2 : DSs X rest u) : DSs X (st :: rest) (sSeq t u) := .of (pss_cons h1.ps h2.pss) fun σ H c O η E z g h =>
  ⟨c, O, η, E, { z with nx := u E z }, g, h, fun σ' H' ⟨O', η', g', h'⟩ => ⟨c, O', η', E, z, g', h', fun _ _ q => q, fun _ _ q => q, fun _ _ q => q, fun _ _ q => q⟩, fun _ _ q => q, fun _ _ q => q, fun _ _ q => q⟩
theorem dss_one (h1 : DS X st t) : DSs X [st] t := .of (pss_one h1.ps) fun σ H c O η E z g h => ⟨c, O, η, E, z, g, h, fun _ _ q => q, fun _ _ q => q, fun _ _ q => q, fun _ _ q => q⟩
end
end DL

/-! DL1: expressions over data. -/
namespace DL
open PySem PySem.Spec PyProof.Rows L2
section
variable {X : Cx} {a b e : Expr} {es rest : List Expr} {pos : Pos} {ta tb tc t u : ET}

/-! ### names, constants -/
def dV (i : Nat) : ET := fun _ η Q => match η[i]? with | some (.dat d) => Q d | _ => False
def dK (d : D) : ET := fun _ _ Q => Q d
theorem de_var (i : Nat) {x : Str} (hN : X.N[i]? = some x := by rfl) (hv : Vis X.env.scope x := by first | exact Or.inl rfl | exact Or.inr (Or.inl rfl) | exact Or.inr (Or.inr rfl)) (hd : (x == ("__debug__" : Str)) = false := by decide)
    (hcd : (x == ("__classdict__" : Str)) = false := by decide) : DE X (.Name x pos) (dV i) := .of (pe_var hN hv hd hcd) fun σ H c O η E Q g h => by
  unfold dV at h
  split at h
  · rename_i d hd
    obtain ⟨v, e, r⟩ := g.cell i _ hd
    refine ⟨v, ?_, d, .refl g.draw, r, h⟩
    cases q : σ[i]? with
    | none => rw [q] at e; cases e
    | some w => rw [q] at e; exact congrArg some e
  · exact h.elim
theorem de_const {v : V} {d : D} (h : PE X e (tC v)) (r : ∀ K O H, Rep K O H v d) : DE X e (dK d) := .of h fun σ H c O η E Q g q => ⟨d, .refl g.draw, r _ _ _, q⟩
theorem de_int {i j} : DE X (.Constant (.int i) j pos) (dK (.int i)) := de_const pe_int fun _ _ _ => .int i
theorem de_bl {k j} : DE X (.Constant (.bool k) j pos) (dK (.bool k)) := de_const pe_bl fun _ _ _ => .bl k
theorem de_non {j} : DE X (.Constant .none j pos) (dK .none) := de_const pe_non fun _ _ _ => .non
theorem de_str {x j} : DE X (.Constant (.str x) j pos) (dK (.str x)) := de_const pe_str fun _ _ _ => .str x
/-! ### two operands -/
/-- an operation upon data -/
abbrev OpD := D → D → (D → Prop) → Prop
def dOp (r : OpD) (ta tb : ET) : ET := fun E η Q => ta E η fun x => tb E η fun y => r x y Q
/-- what stands while an operation runs -/
structure Base (G : Option (Addr × Addr)) (O : Addr → Prop) (H : Hp) : Prop where
  draw : DrawOk G H
  wO : ∀ a, Wr G a → O a
  hT : ∀ a, O a → H a ≠ none
theorem Good.base {K : PySem.W.Frag} {c : Ctx} {O : Addr → Prop} {η : EnvD} {σ : L2.St} {H : Hp} (g : Good K c O η σ H) : Base c.G O H := ⟨g.draw, g.wO, g.hT⟩
/-- the ways on -/
abbrev Way (K : PySem.W.Frag) (G : Option (Addr × Addr)) (O : Addr → Prop) (H : Hp) (Q : D → Prop) (R : VK) : Prop := ∀ d v H', Step G H H' → Rep K O H' v d → Q d → R v H'
/-- what an operation's rule has to show -/
def OpOk (K : PySem.W.Frag) (T : R2) (r : OpD) : Prop := ∀ (G : Option (Addr × Addr)) (O : Addr → Prop) (H : Hp) (x y : V) (dx dy : D) (Q : D → Prop) (R : VK), Base G O H → Rep K O H x dx → Rep K O H y dy → r dx dy Q → Way K G O H Q R → T x y H R
theorem bin_lift {X : Cx} {T : R2} {r : OpD} (ok : OpOk X.K T r) {σ : L2.St} {H : Hp} {c : Ctx} {O : Addr → Prop} {η : EnvD} {E : XP} {Q : D → Prop} {R : VK} (g : Gd X c E O η σ H) (h : dOp r ta tb E η Q) (k : Way X.K c.G O H Q R) :
    tOp T (liftE X ta) (liftE X tb) σ H R := by
  refine ⟨c, O, η, E, _, g, h, fun dx x H1 s1 r1 h1 => ?_⟩
  have g1 := g.step s1
  refine ⟨c, O, η, E, _, g1, h1, fun dy y H2 s2 r2 h2 => ?_⟩
  have g2 := g1.step s2
  exact ok c.G O H2 x y dx dy Q R g2.base (s2.rep g1.draw g1.wO r1) r2 h2 fun d v H' s3 r3 q => k d v H' (s1.trans (s2.trans s3)) r3 q
theorem de_op {op : Operator} {T : R2} {r : OpD} (ho : OpR X (binaryOp op) T) (ok : OpOk X.K T r) (ha : DE X a ta) (hb : DE X b tb) : DE X (.BinOp a op b pos) (dOp r ta tb) :=
  .of (pe_op ho ha.pe hb.pe) fun σ H c O η E Q g h => bin_lift ok g h fun d v H' s r q => ⟨d, s, r, q⟩
/-- two rules for one operation -/
theorem OpR.or {f : Value → Value → Sem Value} {T T' : R2} (h : OpR X f T) (h' : OpR X f T') : OpR X f fun x y H Q => T x y H Q ∨ T' x y H Q := fun pins s σ H x y v u Q I rx ry q => q.elim (h pins s σ H x y v u Q I rx ry) (h' pins s σ H x y v u Q I rx ry)
theorem way_here {K : PySem.W.Frag} {G : Option (Addr × Addr)} {O : Addr → Prop} {H : Hp} {Q : D → Prop} {R : VK} (B : Base G O H) (k : Way K G O H Q R) {d : D} {v : V} (r : Rep K O H v d) (q : Q d) : R v H := k d v H (.refl B.draw) r q
theorem Base.not {G : Option (Addr × Addr)} {O : Addr → Prop} {H : Hp} (B : Base G O H) {p : Addr} (h : H p = none) : ¬ O p := fun z => B.hT p z h
theorem way_new {K : PySem.W.Frag} {G : Option (Addr × Addr)} {O : Addr → Prop} {H : Hp} {Q : D → Prop} {R : VK} (B : Base G O H) (k : Way K G O H Q R) {ds : List D} {vs : List V} (r : RepAll K O H vs ds) (q : Q (.list ds)) : ∀ p, H p = none → R (.ref p) (upd H p (.lst vs)) := fun p hp =>
  k _ _ _ (.alloc B.draw hp) (.lst (B.not hp) upd_same (r.same (same_upd hp))) q
theorem way_newT {K : PySem.W.Frag} {G : Option (Addr × Addr)} {O : Addr → Prop} {H : Hp} {Q : D → Prop} {R : VK} (B : Base G O H) (k : Way K G O H Q R) {ds : List D} {vs : List V} (r : RepAll K O H vs ds) (q : Q (.tuple ds)) : ∀ p, H p = none → R (.ref p) (upd H p (.tup vs)) := fun p hp =>
  k _ _ _ (.alloc B.draw hp) (.tup (.inl upd_same) (r.same (same_upd hp))) q

/-- + -/
def oAdd : OpD
  | .int i, .int j, Q => Q (.int (i + j))
  | .str i, .str j, Q => i.length + j.length ≤ sizeLine ∧ Q (.str (i ++ j))
  | .list xs, .list ys, Q => xs.length + ys.length ≤ sizeLine ∧ Q (.list (xs ++ ys))
  | .tuple xs, .tuple ys, Q => xs.length + ys.length ≤ sizeLine ∧ Q (.tuple (xs ++ ys))
  | _, _, _ => False
theorem de_add (ha : DE X a ta) (hb : DE X b tb) : DE X (.BinOp a .Add b pos) (dOp oAdd ta tb) := by
  refine de_op (OpR.or op_add (OpR.or op_add_str (OpR.or op_cat op_catA))) ?_ ha hb
  intro G O H x y dx dy Q R B rx ry h k
  cases rx with
  | int i =>
    cases ry with
    | int j => exact .inl ⟨i, j, rfl, rfl, way_here B k (.int _) h⟩
    | _ => exact h.elim
  | str i =>
    cases ry with
    | str j => exact .inr (.inl ⟨i, j, rfl, rfl, h.1, way_here B k (.str _) h.2⟩)
    | _ => exact h.elim
  | lst o1 h1 r1 =>
    cases ry with
    | lst o2 h2 r2 => exact .inr (.inr (.inl ⟨_, _, _, _, rfl, rfl, h1, h2, by rw [r1.length, r2.length]; exact h.1, way_new B k (r1.append r2) h.2⟩))
    | _ => exact h.elim
  | tup h1 r1 =>
    cases ry with
    | tup h2 r2 =>
      refine .inr (.inr (.inr ⟨_, _, _, _, rfl, rfl, h1.sq, h2.sq, by rw [r1.length, r2.length]; exact h.1, fun e => ?_, fun e e' => ?_, fun _ _ => way_newT B k (r1.append r2) h.2⟩))
      · subst e
        cases r1
        exact way_here B k (.tup h2 r2) h.2
      · subst e'
        cases r2
        refine way_here B k (.tup h1 r1) ?_
        have q := h.2
        rwa [List.append_nil] at q
    | _ => exact h.elim
  | _ => cases ry <;> exact h.elim

/-- two ints -/
def oI (C : Int → Int → Prop) (f : Int → Int → Int) : OpD
  | .int i, .int j, Q => C i j ∧ Q (.int (f i j))
  | _, _, _ => False
theorem okI {K : PySem.W.Frag} {C : Int → Int → Prop} {f : Int → Int → Int} : OpOk K (rI C fun i j => .int (f i j)) (oI C f) := by
  intro G O H x y dx dy Q R B rx ry h k
  cases rx with
  | int i =>
    cases ry with
    | int j => exact ⟨i, j, rfl, rfl, h.1, way_here B k (.int _) h.2⟩
    | _ => exact h.elim
  | _ => cases ry <;> exact h.elim
def oSub : OpD := oI (fun _ _ => True) fun i j => i - j
theorem op_sub' : OpR X (binaryOp .Sub) (rI (fun _ _ => True) fun i j => .int (i - j)) := fun pins s σ H x y v u Q I rx ry h => by
  obtain ⟨i, j, e1, e2, _, q⟩ := h
  exact op_sub pins s σ H x y v u Q I rx ry ⟨i, j, e1, e2, q⟩
theorem de_sub (ha : DE X a ta) (hb : DE X b tb) : DE X (.BinOp a .Sub b pos) (dOp oSub ta tb) := de_op op_sub' okI ha hb
def oMod : OpD := oI (fun _ j => 0 < j) fun i j => i % j
def oDiv : OpD := oI CDiv fun i j => i / j
theorem de_div (ha : DE X a ta) (hb : DE X b tb) : DE X (.BinOp a .FloorDiv b pos) (dOp oDiv ta tb) := de_op op_fdiv okI ha hb
def oPow : OpD := oI CPow fun i j => i ^ j.toNat
theorem de_pow (ha : DE X a ta) (hb : DE X b tb) : DE X (.BinOp a .Pow b pos) (dOp oPow ta tb) := de_op op_pow okI ha hb
/-- * -/
def oMul : OpD
  | .int i, .int j, Q => CMul i j ∧ Q (.int (i * j))
  | .list xs, .int j, Q => (0 ≤ j ∧ j < 2 ^ 63 ∧ xs.length * j.toNat ≤ sizeLine) ∧ Q (.list (List.replicate j.toNat xs).flatten)
  | _, _, _ => False
theorem RepAll.rep {K : PySem.W.Frag} {O : Addr → Prop} {H : Hp} {vs : List V} {ds : List D} (r : RepAll K O H vs ds) : ∀ n : Nat, RepAll K O H (List.replicate n vs).flatten (List.replicate n ds).flatten
  | 0 => .nil
  | n + 1 => by
    rw [List.replicate_succ, List.replicate_succ, List.flatten_cons, List.flatten_cons]
    exact r.append (RepAll.rep r n)
theorem de_mul (ha : DE X a ta) (hb : DE X b tb) : DE X (.BinOp a .Mult b pos) (dOp oMul ta tb) := by
  refine de_op (OpR.or op_mul op_rep) ?_ ha hb
  intro G O H x y dx dy Q R B rx ry h k
  cases rx with
  | int i =>
    cases ry with
    | int j => exact .inl ⟨i, j, rfl, rfl, h.1, way_here B k (.int _) h.2⟩
    | _ => exact h.elim
  | lst o1 h1 r1 =>
    cases ry with
    | int j => exact .inr ⟨_, j, _, rfl, rfl, h1, by have := h.1.1; omega, h.1.2.1, by rw [r1.length]; exact h.1.2.2, way_new B k (r1.rep _) h.2⟩
    | _ => exact h.elim
  | _ => cases ry <;> exact h.elim

/-! ### comparisons -/
/-- a comparison's rule -/
def CmpR (X : Cx) (op : CmpOp) (r : OpD) : Prop := ∃ T, OpR X (compareOp op) T ∧ OpOk X.K T r
/-- the two may be asked for == -/
def eqOk : D → D → Bool
  | .str _, .str _ => true
  | x, y => SeqAt.shaped x && SeqAt.shaped y
def oEq : OpD := fun x y Q => eqOk x y = true ∧ Q (.bool (PyData.eqv x y))
def oNe : OpD := fun x y Q => eqOk x y = true ∧ Q (.bool (!PyData.eqv x y))
theorem eqOk_out {x y : D} (h : eqOk x y = true) : (∃ i j, x = .str i ∧ y = .str j) ∨ (SeqAt.shaped x = true ∧ SeqAt.shaped y = true) := by
  unfold eqOk at h
  split at h
  · exact .inl ⟨_, _, rfl, rfl⟩
  · exact .inr (by rwa [Bool.and_eq_true] at h)
theorem nd_shaped {d : D} (h : SeqAt.shaped d = true) : d.hasDict = false := PyData.hasDict_of_canLay d (SeqAt.canLay_of_shaped h)
theorem cm_eq (hu : X.A.units + 65 < cLine) : CmpR X .Eq oEq := by
  refine ⟨_, OpR.or (op_eqD (Nat.lt_of_succ_lt hu)) op_eq, fun G O H x y dx dy Q R B rx ry h k => ?_⟩
  rcases eqOk_out h.1 with ⟨i, j, rfl, rfl⟩ | ⟨h1, h2⟩
  · cases rx
    cases ry
    refine .inr ⟨rfl, ?_⟩
    have q := h.2
    rw [show PyData.eqv (.str i) (.str j) = (i == j) by simp [PyData.eqv], ← dec_str] at q
    exact way_here B k (.bl _) q
  · exact .inl ⟨dx, dy, rx.dp (nd_shaped h1), ry.dp (nd_shaped h2), h1, h2, way_here B k (.bl _) h.2⟩
theorem cm_ne (hu : X.A.units + 65 < cLine) : CmpR X .NotEq oNe := by
  refine ⟨_, OpR.or (op_neD (Nat.lt_of_succ_lt hu)) op_ne, fun G O H x y dx dy Q R B rx ry h k => ?_⟩
  rcases eqOk_out h.1 with ⟨i, j, rfl, rfl⟩ | ⟨h1, h2⟩
  · cases rx
    cases ry
    refine .inr ⟨rfl, ?_⟩
    have q := h.2
    rw [show PyData.eqv (.str i) (.str j) = (i == j) by simp [PyData.eqv], ← dec_str] at q
    exact way_here B k (.bl _) q
  · exact .inl ⟨dx, dy, rx.dp (nd_shaped h1), ry.dp (nd_shaped h2), h1, h2, way_here B k (.bl _) h.2⟩
/-- in -/
def oIn (neg : Bool) : OpD
  | x, .list ds, Q => SeqAt.shaped x = true ∧ SeqAt.shaped (.list ds) = true ∧ Q (.bool ((ds.any fun z => PyData.eqv z x) != neg))
  | x, .tuple ds, Q => SeqAt.shaped x = true ∧ SeqAt.shaped (.tuple ds) = true ∧ Q (.bool ((ds.any fun z => PyData.eqv z x) != neg))
  | .str i, .str j, Q => neg = false ∧ Q (.bool ((!(Builtin.Str.occurrences j i 0 j.length 1).isEmpty) != neg))
  | _, _, _ => False
def rInT (K : PySem.W.Frag) (neg : Bool) : R2 := fun x y H Q => ∃ d ds, Dp K H x d ∧ Dp K H y (.tuple ds) ∧ SeqAt.shaped d = true ∧ SeqAt.shaped (.tuple ds) = true ∧ Q (.bl ((ds.any fun z => PyData.eqv z d) != neg)) H
/-- is None -/
def oIs (neg : Bool) : OpD
  | .none, .none, Q => Q (.bool (true != neg))
  | .bool _, .none, Q => Q (.bool (false != neg))
  | .int _, .none, Q => Q (.bool (false != neg))
  | .str _, .none, Q => Q (.bool (false != neg))
  | .list _, .none, Q => Q (.bool (false != neg))
  | .tuple _, .none, Q => Q (.bool (false != neg))
  | .dict _, .none, Q => Q (.bool (false != neg))
  | _, _, _ => False
/-! ### order -/
def oLt : OpD
  | .int i, .int j, Q => Q (.bool (decide (i < j)))
  | .tuple xs, .tuple ys, Q => (PySem.W.alike (.tuple xs) (.tuple ys) = true ∧ (PyData.tuple xs).depth ≤ 64 ∧ PyData.hasDict (.tuple xs) = false ∧ PyData.hasDict (.tuple ys) = false) ∧ Q (.bool (PySem.W.dataLt (.tuple xs) (.tuple ys)))
  | _, _, _ => False
def rLtD (K : PySem.W.Frag) : R2 := fun x y H Q => ∃ xs ys, Dp K H x (.tuple xs) ∧ Dp K H y (.tuple ys) ∧ PySem.W.alike (.tuple xs) (.tuple ys) = true ∧ (PyData.tuple xs).depth ≤ 64 ∧ Q (.bl (PySem.W.dataLt (.tuple xs) (.tuple ys))) H
def oLe : OpD
  | .int i, .int j, Q => Q (.bool (decide (i ≤ j)))
  | _, _, _ => False
def oGt : OpD
  | .int i, .int j, Q => Q (.bool (decide (j < i)))
  | _, _, _ => False
/-! ### and, or, not, if -/
def ifB (x : D) (f : Bool → Prop) : Prop := match x with | .bool c => f c | _ => False
def dAnd (ta tb : ET) : ET := fun E η Q => ta E η fun x => ifB x fun c => if c = true then tb E η Q else Q (.bool false)
def dOr (ta tb : ET) : ET := fun E η Q => ta E η fun x => ifB x fun c => if c = true then Q (.bool true) else tb E η Q
def dNot (ta : ET) : ET := fun E η Q => ta E η fun x => ifB x fun c => Q (.bool (!c))
theorem ifB_bl {K : PySem.W.Frag} {O : Addr → Prop} {H : Hp} {v : V} {d : D} {f : Bool → Prop} (r : Rep K O H v d) (h : ifB d f) : ∃ c, d = .bool c ∧ v = .bl c ∧ f c := by
  cases r <;> first | exact ⟨_, rfl, rfl, h⟩ | exact h.elim
def oNeg (ta : ET) : ET := fun E η Q => ta E η fun x => match x with | .int i => Q (.int (-i)) | _ => False
theorem de_neg (ha : DE X a ta) : DE X (.UnaryOp .USub a pos) (oNeg ta) := .of (pe_un un_neg ha.pe) fun σ H c O η E Q g h => by
  refine ⟨c, O, η, E, _, g, h, fun d v H1 s1 r1 q => ?_⟩
  cases r1 <;> first | exact ⟨_, rfl, _, s1, .int _, q⟩ | exact q.elim
/-! tests -/
def bVal (t : ET) : BT := fun E η Q => t E η fun x => ifB x Q
theorem dt_val (h : DE X e t) (he : ∀ whole, isTrue e X.env whole = (do let v ← whole; standAt e.pos; holding [v] (truthy v)) := by intro _; rfl) : DT X e (bVal t) := .of (pt_val h.pe he) fun σ H c O η E Q g h => by
  refine ⟨c, O, η, E, _, g, h, fun d v H1 s1 r1 q => ?_⟩
  obtain ⟨k, rfl, rfl, q⟩ := ifB_bl r1 q
  exact ⟨k, rfl, s1, q⟩
theorem dt_cmp {op : CmpOp} {T : R2} {r : OpD} (ho : OpR X (compareOp op) T) (ok : OpOk X.K T r) (hm : behindInMarks op b = false) (ha : DE X a ta) (hb : DE X b tb) : DT X (.Compare a [op] [b] pos) (bVal (dOp r ta tb)) :=
  .of (pt_cmpR ho ha.pe hb.pe hm) fun σ H c O η E Q g h => by
    refine bin_lift ok g h fun d v H' s r q => ?_
    obtain ⟨k, rfl, rfl, q⟩ := ifB_bl r q
    exact ⟨k, rfl, s, q⟩
theorem dt_c {op : CmpOp} {r : OpD} (h : CmpR X op r) (ha : DE X a ta) (hb : DE X b tb) (hm : behindInMarks op b = false := by first | exact nomark _ | rfl) : DT X (.Compare a [op] [b] pos) (bVal (dOp r ta tb)) := by
  obtain ⟨T, h1, h2⟩ := h
  exact dt_cmp h1 h2 hm ha hb
/-- a < b < c -/
def dChain (r r' : OpD) (ta tb tc : ET) : ET := fun E η Q => ta E η fun x => tb E η fun y => r x y fun z => ifB z fun k => if k = true then tc E η fun w => r' y w Q else Q (.bool false)
def bAnd (t u : BT) : BT := fun E η Q => t E η fun c => if c = true then u E η Q else Q false
def bOr (t u : BT) : BT := fun E η Q => t E η fun c => if c = true then Q true else u E η Q
def bNot (t : BT) : BT := fun E η Q => t E η fun c => Q (!c)
variable {tA tB : BT}
theorem dw_or1 (ha : DT X a tA) : DW X (.BoolOp .Or [a] pos) tA := .of (pw_or1 ha.pt) fun σ H c O η E Q g h => ⟨c, O, η, E, Q, g, h, fun b H' s q => ⟨s, q⟩⟩
theorem dw_or (ha : DT X a tA) (hb : DW X (.BoolOp .Or (b :: rest) pos) tB) : DW X (.BoolOp .Or (a :: b :: rest) pos) (bOr tA tB) := .of (pw_or ha.pt hb.pw) fun σ H c O η E Q g h => by
  refine ⟨c, O, η, E, _, g, h, fun k H1 s1 q => ?_⟩
  cases k with
  | false => exact ⟨c, O, η, E, Q, g.step s1, q, fun b H' s q => ⟨s1.trans s, q⟩⟩
  | true => exact ⟨s1, q⟩
theorem dt_not (ha : DT X a tA) : DT X (.UnaryOp .Not a pos) (bNot tA) := .of (pt_not ha.pt) fun σ H c O η E Q g h => ⟨c, O, η, E, _, g, h, fun k H1 s1 q => ⟨s1, q⟩⟩
def dIf (t : BT) (ta tb : ET) : ET := fun E η Q => t E η fun c => if c = true then ta E η Q else tb E η Q
theorem de_if {cnd : Expr} (hc : DT X cnd tA) (ha : DE X a ta) (hb : DE X b tb) : DE X (.IfExp cnd a b pos) (dIf tA ta tb) := .of (pe_ifExp hc.pt ha.pe hb.pe) fun σ H c O η E Q g h => by
  refine ⟨c, O, η, E, _, g, h, fun k H1 s1 q => ?_⟩
  cases k with
  | true => exact ⟨c, O, η, E, Q, g.step s1, q, fun d v H' s r q => ⟨d, s1.trans s, r, q⟩⟩
  | false => exact ⟨c, O, η, E, Q, g.step s1, q, fun d v H' s r q => ⟨d, s1.trans s, r, q⟩⟩
end
end DL

/-! DL2: places, slices, displays, calls of built-ins. -/
namespace DL
open PySem PySem.Spec PyProof.Rows L2
section
variable {X : Cx} {a b e : Expr} {es rest : List Expr} {pos p : Pos} {ta tb tc t u : ET} {ts : AT}

theorem way_out {K : PySem.W.Frag} {G : Option (Addr × Addr)} {O : Addr → Prop} {H H1 : Hp} {Q : D → Prop} (s1 : Step G H H1) : Way K G O H1 Q fun v H' => ∃ d, Step G H H' ∧ Rep K O H' v d ∧ Q d := fun d v H' s r q => ⟨d, s1.trans s, r, q⟩
def onS {α : Type} (o : Option α) (k : α → Prop) : Prop := match o with | some x => k x | none => False
theorem onS_out {α : Type} {o : Option α} {k : α → Prop} (h : onS o k) : ∃ x, o = some x ∧ k x := by
  cases o with
  | none => exact h.elim
  | some x => exact ⟨x, rfl, h⟩
/-! ### arguments, displays -/
def aNil : AT := fun _ _ Q => Q []
def aCons (t : ET) (ts : AT) : AT := fun E η Q => t E η fun d => ts E η fun ds => Q (d :: ds)
theorem da_nil : DA X [] aNil := .of pa_nil fun σ H c O η E Q g h => ⟨[], .refl g.draw, .nil, h⟩
theorem da_cons (ha : DE X e t) (hr : DA X es ts) (hs : starEach (e :: es) X.env = (false, eval e X.env) :: starEach es X.env := by rfl) : DA X (e :: es) (aCons t ts) := .of (pa_cons ha.pe hr.pa hs) fun σ H c O η E Q g h => by
  refine ⟨c, O, η, E, _, g, h, fun d v H1 s1 r1 h1 => ?_⟩
  have g1 := g.step s1
  exact ⟨c, O, η, E, _, g1, h1, fun ds vs H2 s2 r2 q => ⟨d :: ds, s1.trans s2, .cons (s2.rep g1.draw g1.wO r1) r2, q⟩⟩
def dTup (ts : AT) : ET := fun E η Q => ts E η fun ds => ds.length ≤ sizeLine ∧ Q (.tuple ds)
theorem de_tup {k} (h : DA X es ts) : DE X (.Tuple es k pos) (dTup ts) := .of (pe_tup h.pa) fun σ H c O η E Q g h =>
  ⟨c, O, η, E, _, g, h, fun ds vs H1 s1 r1 q => ⟨by rw [r1.length]; exact q.1, way_newT (g.step s1).base (way_out s1) r1 q.2⟩⟩
/-! new lists -/
abbrev NT := XP → EnvD → (List D → Prop) → Prop
/-- a new list: where it stands, what it holds -/
def NewK (K : PySem.W.Frag) (c : Ctx) (O : Addr → Prop) (H : Hp) (Q : List D → Prop) : VK := fun v H' => ∃ ds a vs, v = .ref a ∧ Step c.G H H' ∧ H a = none ∧ H' a = some (.lst vs) ∧ RepAll K (fun b => O b ∨ b = a) H' vs ds ∧ Q ds
/-- the reading T tells a new list by t -/
def RdN (X : Cx) (T : TE) (t : NT) : Prop := ∀ (σ : L2.St) (H : Hp) (c : Ctx) (O : Addr → Prop) (η : EnvD) (E : XP) (Q : List D → Prop) (R : VK), Gd X c E O η σ H → t E η Q → (∀ v H', NewK X.K c O H Q v H' → R v H') → T σ H R
structure DN (X : Cx) (e : Expr) (t : NT) : Prop where
  ex : ∃ T, PE X e T ∧ RdN X T t
theorem DN.of {t : NT} {T : TE} (h : PE X e T) (f : RdN X T t) : DN X e t := ⟨T, h, f⟩
def dNew (t : NT) : ET := fun E η Q => t E η fun ds => Q (.list ds)
theorem DN.de {t : NT} (h : DN X e t) : DE X e (dNew t) := by
  obtain ⟨T, h1, h2⟩ := h.ex
  exact .of h1 fun σ H c O η E Q g ht => h2 σ H c O η E _ _ g ht fun v H' ⟨ds, a, vs, e1, st, h0, h1, rp, q⟩ => by
    subst e1
    exact ⟨.list ds, st, .lst (fun z => g.hT a z h0) h1 (rp.weak fun _ => .inl), q⟩
theorem Step.none {G : Option (Addr × Addr)} {H H1 : Hp} (st : Step G H H1) (dr : DrawOk G H) {p : Addr} (h : H1 p = none) : H p = none := by
  cases e : H p with
  | none => rfl
  | some o =>
    by_cases w : Wr G p
    · exact absurd h (st.draw.tr p w)
    · rw [st.keep p o w e] at h; cases h
theorem newk {X : Cx} {E : XP} {c : Ctx} {O : Addr → Prop} {η : EnvD} {σ : L2.St} {H H1 : Hp} {Q : List D → Prop} {R : VK} (g : Gd X c E O η σ H) (s1 : Step c.G H H1) {ds : List D} {vs : List V} (r : RepAll X.K O H1 vs ds) (q : Q ds) (k : ∀ v H', NewK X.K c O H Q v H' → R v H') :
    ∀ p, H1 p = none → R (.ref p) (upd H1 p (.lst vs)) := fun p hp =>
  k _ _ ⟨ds, p, vs, rfl, s1.trans (.alloc s1.draw hp), s1.none g.draw hp, upd_same, (r.more hp).same (same_upd hp), q⟩
def nLst (ts : AT) : NT := fun E η Q => ts E η fun ds => ds.length ≤ sizeLine ∧ Q ds
theorem dn_lst (h : DA X es ts) : DN X (.List es pos) (nLst ts) := .of (pe_lst h.pa) fun σ H c O η E Q R g h k =>
  ⟨c, O, η, E, _, g, h, fun ds vs H1 s1 r1 q => ⟨by rw [r1.length]; exact q.1, newk g s1 r1 q.2 k⟩⟩

/-! ### a[i], a[i:j] -/
def oIx : OpD
  | .list ds, .int i, Q => onS (atI ds i) Q
  | .tuple ds, .int i, Q => onS (atI ds i) Q
  | .str x, .int i, Q => x.length ≤ sizeLine ∧ onS (atI x.cps.toList i) fun n => Q (.str ⟨#[n]⟩)
  | _, _, _ => False
theorem RepAll.atI {K : PySem.W.Frag} {O : Addr → Prop} {H : Hp} {vs : List V} {ds : List D} (r : RepAll K O H vs ds) {i : Int} {d : D} (h : atI ds i = some d) : ∃ x, L2.atI vs i = some x ∧ Rep K O H x d := by
  unfold L2.atI at h ⊢
  rw [r.length]
  cases e : ixN ds.length i with
  | none => rw [e] at h; cases h
  | some j =>
    rw [e] at h
    exact r.getD h
theorem de_ix (ha : DE X a ta) (hb : DE X b tb) (hs : PlainIx b := by exact fun _ _ => rfl) : DE X (.Subscript a b pos) (dOp oIx ta tb) := .of (pe_ix ix_seq ha.pe hb.pe hs) fun σ H c O η E Q g h => by
  refine bin_lift (r := oIx) ?_ g h fun d v H' s r q => ⟨d, s, r, q⟩
  intro G O H x y dx dy Q R B rx ry h k
  cases rx with
  | lst o1 h1 r1 =>
    cases ry with
    | int i =>
      obtain ⟨d, hd, h⟩ := onS_out h
      obtain ⟨z, hz, rz⟩ := r1.atI hd
      exact .inl ⟨_, _, i, z, rfl, rfl, .of h1, hz, way_here B k rz h⟩
    | _ => exact h.elim
  | tup h1 r1 =>
    cases ry with
    | int i =>
      obtain ⟨d, hd, h⟩ := onS_out h
      obtain ⟨z, hz, rz⟩ := r1.atI hd
      exact .inr (.inl ⟨_, _, i, z, rfl, rfl, h1.sq, hz, way_here B k rz h⟩)
    | _ => exact h.elim
  | str x =>
    cases ry with
    | int i =>
      obtain ⟨hl, h⟩ := h
      obtain ⟨n, hn, h⟩ := onS_out h
      exact .inr (.inr ⟨x, i, n, rfl, rfl, hl, hn, way_here B k (.str _) h⟩)
    | _ => exact h.elim
  | _ => cases ry <;> exact h.elim
def cutD {α : Type} (xs : List α) (lo hi : Option Int) : List α := (xs.drop (HT.sIx xs.length 0 lo)).take (HT.sIx xs.length xs.length hi - HT.sIx xs.length 0 lo)
abbrev OT := XP → EnvD → (Option Int → Prop) → Prop
def oNone : OT := fun _ _ Q => Q none
def oSome (t : ET) : OT := fun E η Q => t E η fun x => match x with | .int i => Q (some i) | _ => False
structure DO (X : Cx) (e : Option Expr) (t : OT) : Prop where
  mk ::
  po : ∃ T, PO X e T ∧ ∀ σ H c O η E (Q : Option Int → Prop) (R : Option Int → Hp → Prop), Gd X c E O η σ H → t E η Q → (∀ i H', Step c.G H H' → Q i → R i H') → T σ H R
def dSl (ta : ET) (tl th : OT) : ET := fun E η Q => ta E η fun x => tl E η fun l => th E η fun h => match x with
  | .list ds => Q (.list (cutD ds l h))
  | .tuple ds => Q (.tuple (cutD ds l h))
  | _ => False
/-! ### calls of built-ins -/
abbrev CallD := List D → (D → Prop) → Prop
def dCall (r : CallD) (ts : AT) : ET := fun E η Q => ts E η fun ds => r ds Q
def CallOk (K : PySem.W.Frag) (T : List V → Hp → VK → Prop) (r : CallD) : Prop := ∀ (G : Option (Addr × Addr)) (O : Addr → Prop) (H : Hp) (xs : List V) (ds : List D) (Q : D → Prop) (R : VK), Base G O H → RepAll K O H xs ds → r ds Q → Way K G O H Q R → T xs H R
theorem call_lift {X : Cx} {T : List V → Hp → VK → Prop} {r : CallD} (ok : CallOk X.K T r) {σ : L2.St} {H : Hp} {c : Ctx} {O : Addr → Prop} {η : EnvD} {E : XP} {Q : D → Prop} (g : Gd X c E O η σ H) (h : dCall r ts E η Q) :
    tCB T (liftA X ts) σ H fun v H' => ∃ d, Step c.G H H' ∧ Rep X.K O H' v d ∧ Q d :=
  ⟨c, O, η, E, _, g, h, fun ds vs H1 s1 r1 h1 => ok c.G O H1 vs ds Q _ (g.step s1).base r1 h1 fun d v H' s r q => ⟨d, s1.trans s, r, q⟩⟩
theorem de_callB {T : List V → Hp → VK → Prop} {r : CallD} {id : String} {x : Str} (hc : CallR X (.builtin id) T) (ok : CallOk X.K T r) (hg : Gl X x) (hm : X.mg x = none) (hv : bootBuiltins x = some (.builtin id)) (ha : DA X (e :: es) ts) (hn : x ≠ "__name__" := by decide)
    (hdb : (x == ("__debug__" : Str)) = false := by decide) (he : starEach (e :: es) X.env = (false, eval e X.env) :: starEach es X.env := by rfl) (hpl : (backTo pos (starEach es X.env)).any (·.1) = false := by rfl) :
    DE X (.Call (.Name x p) (e :: es) [] pos) (dCall r ts) := .of (pe_callB hc hg hm hv ha.pa hn hdb he hpl) fun σ H c O η E Q g h => call_lift ok g h
end
end DL

/-! DLsort: sorted of alike data: tuples of any length among them, the empty one first. -/
namespace DL
open PySem PySem.Spec PyProof.Rows L2 PySem.W PySem.SeqAt
section
variable {prog : Program} {w : World} {A : Around} {s : Shared}
end
section
variable {prog : Program} {w : World} {A : Around} {s : Shared} {E : Value → Shared → Prop}
theorem first_tuple {v : Value} {xs : List PyData} {as : List Addr} {Q : Option Value → Shared → Prop} (r : Reads s.heap v (.tuple xs) as) (h : ∀ o, (o = none ↔ xs = []) → Q o s) : wpAny (model prog w) A (firstOfTuple' v) Q E s := by
  cases r with
  | @tuple a o vs n _ _ h1 h2 h3 h4 =>
    have n1 : vs.size = xs.length := by simpa using ReadsAll.length _ _ _ h4
    rw [kas_first_eq]
    refine wpAny_bind ((looks_reads (.tuple h1 h2 h3 h4)).here ?_)
    rw [if_neg (by show ¬ (Value.type "tuple" != Value.type "tuple") = true; decide)]
    refine wpAny_bind (wpAny_listItems h1 h3 (wpAny_pure (h _ ?_)))
    constructor
    · intro z
      have : vs.size ≤ 0 := by simpa using z
      cases xs with
      | nil => rfl
      | cons x r => rw [n1] at this; simp at this
    · rintro rfl
      have : vs.size = 0 := n1
      simp [this]
end
section
variable {prog : Program} {w : World} {A : Around} {s : Shared}
end
end DL

/-! DL3: the built-ins over data. -/
namespace DL
open PySem PySem.Spec PyProof.Rows L2
section
variable {K : PySem.W.Frag} {O : Addr → Prop} {H : Hp}
theorem RepAll.each {X : Cx} {pins : List (Addr × Obj)} {σ : L2.St} {s : Shared} (I : Inv X pins σ H s) : ∀ {vs : List V} {ds : List D} {us : List Value}, PyData.hasDictAll ds = false → RepAll X.K O H vs ds → Vals vs us → PySem.W.EachIs (fun u d => ∃ as, Reads s.heap u d as) us ds
  | _, _, _, _, .nil, .nil => .nil
  | _, _, _, n, .cons r t, .cons rv tv => .cons (Dp.reads I _ _ _ (r.dp (by simp only [PyData.hasDictAll, Bool.or_eq_false_iff] at n; exact n.1)) rv) (RepAll.each I (by simp only [PyData.hasDictAll, Bool.or_eq_false_iff] at n; exact n.2) t tv)
end
def sortD (ds : List D) : List D := ds.mergeSort (PySem.W.dataLe false id)
def SrtOk (ds : List D) : Prop := PySem.W.AllAlike ds ∧ (PySem.W.Sortable ds ∨ ((∀ d, d ∈ ds → ∃ xs, d = .tuple xs) ∧ ds[0]? = some (.tuple []))) ∧ ∀ d, d ∈ ds → d.depth ≤ 60
section
variable {X : Cx} {a b e : Expr} {es rest : List Expr} {pos p : Pos} {ta tb tc t u : ET} {ts : AT}
def rSortD (K : PySem.W.Frag) : List V → Hp → VK → Prop := fun vs H Q => ∃ (a : Addr) (xs : List V) (ds : List D) (O : Addr → Prop), vs = [.ref a] ∧ H a = some (.lst xs) ∧ RepAll K O H xs ds ∧ SrtOk ds ∧
  ∀ p ys, H p = none → RepAll K O H ys (sortD ds) → Q (.ref p) (upd H p (.lst ys))
/-! lists that are made -/
def nCall (r : List D → (List D → Prop) → Prop) (ts : AT) : NT := fun E η Q => ts E η fun ds => r ds Q
def NewOk (K : PySem.W.Frag) (T : List V → Hp → VK → Prop) (r : List D → (List D → Prop) → Prop) : Prop := ∀ (G : Option (Addr × Addr)) (O : Addr → Prop) (H : Hp) (xs : List V) (ds : List D) (Q : List D → Prop) (R : VK), Base G O H → RepAll K O H xs ds → r ds Q →
  (∀ es vs, RepAll K O H vs es → Q es → ∀ p, H p = none → R (.ref p) (upd H p (.lst vs))) → T xs H R
def fSorted : List D → (List D → Prop) → Prop
  | [.list xs], Q => SrtOk xs ∧ Q (sortD xs)
  | _, _ => False
/-- list(x) -/
def fList : List D → (List D → Prop) → Prop
  | [.list xs], Q => Q xs
  | [.tuple xs], Q => Q xs
  | _, _ => False
/-- tuple(x) -/
def fTuple : CallD
  | [.list xs], Q => Q (.tuple xs)
  | [.tuple xs], Q => Q (.tuple xs)
  | _, _ => False
/-- len(x) -/
def fLen : CallD
  | [.list xs], Q => Q (.int xs.length)
  | [.tuple xs], Q => Q (.int xs.length)
  | [.str x], Q => x.length ≤ sizeLine ∧ Q (.int x.length)
  | _, _ => False
theorem de_len (hg : Gl X "len") (hm : X.mg "len" = none) (ha : DA X [e] ts) (he : starEach [e] X.env = (false, eval e X.env) :: starEach [] X.env := by rfl) : DE X (.Call (.Name "len" p) [e] [] pos) (dCall fLen ts) := by
  refine de_callB call_len ?_ hg hm PySem.boot_len ha (he := he)
  intro G O H xs ds Q R B r h k
  match ds, h with
  | [.list zs], h =>
    cases r with
    | cons r1 r2 =>
      cases r2
      cases r1 with
      | lst o h0 rr => exact ⟨_, zs.length, rfl, .inl ⟨_, .of h0, rr.length.symm⟩, way_here B k (.int _) h⟩
  | [.tuple zs], h =>
    cases r with
    | cons r1 r2 =>
      cases r2
      cases r1 with
      | tup h0 rr => exact ⟨_, zs.length, rfl, .inr ⟨_, h0.sq, rr.length.symm⟩, way_here B k (.int _) h⟩
  | [.str x], ⟨hx, h⟩ =>
    cases r with
    | cons r1 r2 =>
      cases r2
      cases r1
      exact ⟨_, x.length, rfl, ⟨hx, rfl⟩, way_here B k (.int _) h⟩
/-! all, any, sum -/
def isB : D → Bool
  | .bool _ => true
  | _ => false
def bOf : D → Bool
  | .bool b => b
  | _ => false
def isI : D → Bool
  | .int _ => true
  | _ => false
def iOf : D → Int
  | .int i => i
  | _ => 0
def fAll : CallD
  | [.list xs], Q => xs.all isB = true ∧ Q (.bool ((xs.map bOf).all id))
  | _, _ => False
def fAny : CallD
  | [.list xs], Q => xs.all isB = true ∧ Q (.bool ((xs.map bOf).any id))
  | _, _ => False
def fSum : CallD
  | [.list xs], Q => xs.all isI = true ∧ Q (.int (xs.map iOf).sum)
  | _, _ => False
/-! int(x), max(a, b), min(a, b) -/
def fInt : CallD
  | [.int i], Q => Q (.int i)
  | [.bool b], Q => Q (.int (if b then 1 else 0))
  | _, _ => False
def fMin2 : CallD
  | [.int i, .int j], Q => Q (.int (if j < i then j else i))
  | _, _ => False
def fMax2 : CallD
  | [.int i, .int j], Q => Q (.int (if j > i then j else i))
  | _, _ => False
theorem de_min2 (hc : X.calm = true) (hg : Gl X "min") (hm : X.mg "min" = none) (ha : DA X [e, b] ts) (he : starEach [e, b] X.env = (false, eval e X.env) :: starEach [b] X.env := by rfl) (hpl : (backTo pos (starEach [b] X.env)).any (·.1) = false := by rfl) : DE X (.Call (.Name "min" p) [e, b] [] pos) (dCall fMin2 ts) := by
  refine de_callB (call_min2 hc) ?_ hg hm (by decide +kernel) ha (he := he) (hpl := hpl)
  intro G O H xs ds Q R B r h k
  match ds, h with
  | [.int i, .int j], h =>
    cases r with
    | cons r1 r2 =>
      cases r2 with
      | cons r2 r3 =>
        cases r3
        cases r1
        cases r2
        exact ⟨i, j, rfl, way_here B k (.int _) h⟩
/-! list + list, list * n as new lists -/
def nCat (ta tb : NT) : NT := fun E η Q => ta E η fun x => tb E η fun y => x.length + y.length ≤ sizeLine ∧ Q (x ++ y)
/-! isinstance -/
def tyOf : D → String
  | .none => "NoneType"
  | .bool _ => "bool"
  | .int _ => "int"
  | .str _ => "str"
  | .list _ => "list"
  | .tuple _ => "tuple"
  | .dict _ => "dict"
def isiN (T n : String) : Bool := n == T || (T == "int" && n == "bool")
def isiD (T : String) (d : D) : Bool := isiN T (tyOf d)
def dIsi (T : String) (ta : ET) : ET := fun E η Q => ta E η fun d => Q (.bool (isiD T d))
/-- a value's class, dicts among them -/
def TyD (K : PySem.W.Frag) (H : Hp) (v : V) (t : Value) : Prop := TyX K H v t ∨ (∃ a es ep, v = .ref a ∧ H a = some (dictO a es ep) ∧ t = .type "dict") ∨ ∃ a ns, v = .ref a ∧ H a = some (.dK ns) ∧ t = .type "dict"
def rIsiD (K : PySem.W.Frag) : List V → Hp → VK → Prop := fun xs H Q => ∃ (x c : V) (t u : Value) (b : Bool), xs = [x, c] ∧ ClsV c u ∧ TyD K H x t ∧ PySem.W.kitOne K t u = some b ∧ Q (.bl b) H
/-! repr -/
def reprOk (d : D) : Prop := d.showable = true ∧ d.shown.length ≤ sizeLine ∧ d.depth ≤ 60
def fRepr : CallD
  | [d], Q => reprOk d ∧ d.hasDict = false ∧ Q (.str d.shown)
  | _, _ => False
end
end DL

/-! DL4: what is walked; comprehensions. -/
namespace DL
open PySem PySem.Spec PyProof.Rows L2
/-- what is walked stands still: the pairs of F are read as they are -/
def Std (K : PySem.W.Frag) (F : List (V × D)) (H : Hp) : Prop := ∃ O : Addr → Prop, ∀ p ∈ F, Rep K O H p.1 p.2
/-- turn i gives the i-th of ds -/
def YD (K : PySem.W.Frag) (F : List (V × D)) (ds : List D) : Nat → Hp → V → Hp → Prop := fun i H x H' => ∃ d, ds[i]? = some d ∧ Same H H' ∧ ∀ O : Addr → Prop, (∀ p ∈ F, Rep K O H p.1 p.2) → Rep K O H' x d
abbrev WalkD (K : PySem.W.Frag) (J : It) (F : List (V × D)) (ds : List D) : Prop := Walk J ds.length (Std K F) (YD K F ds)
abbrev IT := XP → EnvD → (List D → Prop) → Prop
def liftI (X : Cx) (t : IT) : TI := fun σ H R => ∃ (c : Ctx) (O : Addr → Prop) (η : EnvD) (E : XP) (Q : List D → Prop), Gd X c E O η σ H ∧ t E η Q ∧ ∀ J H' ds F, Step c.G H H' → (∀ p ∈ F, Rep X.K O H' p.1 p.2) → WalkD X.K J F ds → Q ds → R J H'
structure DI (X : Cx) (tg iter : Expr) (t : IT) : Prop where
  pi : PI X tg iter (liftI X t)
section
variable {K : PySem.W.Frag}
theorem rep_list {O : Addr → Prop} {H : Hp} {v : V} {ds : List D} (r : Rep K O H v (.list ds)) : ∃ a xs, v = .ref a ∧ H a = some (.lst xs) ∧ RepAll K O H xs ds := by
  cases r with
  | lst o h rr => exact ⟨_, _, rfl, h, rr⟩
theorem rep_tup {O : Addr → Prop} {H : Hp} {v : V} {ds : List D} (r : Rep K O H v (.tuple ds)) : ∃ a xs, v = .ref a ∧ TupAt K H a xs ∧ RepAll K O H xs ds := by
  cases r with
  | tup h rr => exact ⟨_, _, rfl, h, rr⟩
theorem wd_list {a : Addr} {ds : List D} : WalkD K (Itl K a) [(.ref a, .list ds)] ds where
  goes := fun i H hi ⟨O, h⟩ => by
    obtain ⟨_, xs, e, h1, rr⟩ := rep_list (h _ (List.mem_singleton.mpr rfl))
    cases e
    obtain ⟨x, hx, _⟩ := rr.getD (List.getElem?_eq_getElem hi)
    exact ⟨xs, x, .of h1, hx⟩
  stops := fun H ⟨O, h⟩ => by
    obtain ⟨_, xs, e, h1, rr⟩ := rep_list (h _ (List.mem_singleton.mpr rfl))
    cases e
    exact ⟨xs, .of h1, Nat.le_of_eq rr.length⟩
  yields := fun i H x H' hi ⟨O, h⟩ ⟨e, y⟩ => by
    subst e
    refine ⟨ds[i], List.getElem?_eq_getElem hi, .refl _, fun O' h' => ?_⟩
    obtain ⟨_, xs, e, h1, rr⟩ := rep_list (h' _ (List.mem_singleton.mpr rfl))
    cases e
    obtain ⟨d, hd, r⟩ := rr.get (y xs (.of h1))
    rw [List.getElem?_eq_getElem hi] at hd
    cases hd
    exact r
theorem wd_tup {a : Addr} {ds : List D} : WalkD K (Itt K a) [(.ref a, .tuple ds)] ds where
  goes := fun i H hi ⟨O, h⟩ => by
    obtain ⟨_, xs, e, h1, rr⟩ := rep_tup (h _ (List.mem_singleton.mpr rfl))
    cases e
    obtain ⟨x, hx, _⟩ := rr.getD (List.getElem?_eq_getElem hi)
    exact ⟨xs, x, h1.sq, hx⟩
  stops := fun H ⟨O, h⟩ => by
    obtain ⟨_, xs, e, h1, rr⟩ := rep_tup (h _ (List.mem_singleton.mpr rfl))
    cases e
    exact ⟨xs, h1.sq, Nat.le_of_eq rr.length⟩
  yields := fun i H x H' hi ⟨O, h⟩ ⟨e, y⟩ => by
    subst e
    refine ⟨ds[i], List.getElem?_eq_getElem hi, .refl _, fun O' h' => ?_⟩
    obtain ⟨_, xs, e, h1, rr⟩ := rep_tup (h' _ (List.mem_singleton.mpr rfl))
    cases e
    obtain ⟨d, hd, r⟩ := rr.get (y xs h1.sq)
    rw [List.getElem?_eq_getElem hi] at hd
    cases hd
    exact r
def rangeD (lo : Int) (n : Nat) : List D := (List.range n).map fun i => .int (lo + (i : Nat))
theorem rangeD_len (lo : Int) (n : Nat) : (rangeD lo n).length = n := by simp [rangeD]
theorem wd_range {lo : Int} {n : Nat} : WalkD K (Itr lo n) [] (rangeD lo n) where
  goes := fun i H hi _ => by rw [rangeD_len] at hi; exact hi
  stops := fun H _ => by rw [rangeD_len]; exact Nat.le_refl _
  yields := fun i H x H' hi _ ⟨e, y⟩ => by
    subst e y
    rw [rangeD_len] at hi
    refine ⟨.int (lo + i), by simp [rangeD, hi], .refl _, fun _ _ => .int _⟩
/-- pairs -/
def pairsD (xs ys : List D) : List D := (xs.zip ys).map fun p => .tuple [p.1, p.2]
theorem pairsD_len (xs ys : List D) : (pairsD xs ys).length = min xs.length ys.length := by simp [pairsD]
theorem pairsD_get {xs ys : List D} {i : Nat} {x y : D} (hx : xs[i]? = some x) (hy : ys[i]? = some y) : (pairsD xs ys)[i]? = some (.tuple [x, y]) := by
  have : (xs.zip ys)[i]? = some (x, y) := List.getElem?_zip_eq_some.mpr ⟨hx, hy⟩
  simp [pairsD, this]
theorem pair_rep {O : Addr → Prop} {H : Hp} {T : Addr} {x y : V} {dx dy : D} (hT : H T = none) (rx : Rep K O H x dx) (ry : Rep K O H y dy) : Rep K O (upd H T (.tup [x, y])) (.ref T) (.tuple [dx, dy]) :=
  .tup (.inl upd_same) (.cons (rx.same (same_upd hT)) (.cons (ry.same (same_upd hT)) .nil))
theorem min_lt {i m n : Nat} (h : i < min m n) : i < m ∧ i < n := Nat.lt_min.mp h
theorem wd_zipL {a b : Addr} {ds es : List D} : WalkD K (Itz K a b) [(.ref a, .list ds), (.ref b, .list es)] (pairsD ds es) where
  goes := fun i H hi ⟨O, h⟩ => by
    rw [pairsD_len] at hi
    obtain ⟨h1, h2⟩ := min_lt hi
    obtain ⟨_, xs, e, ha, rr⟩ := rep_list (h (.ref a, .list ds) (by simp))
    cases e
    obtain ⟨_, ys, e, hb, rs⟩ := rep_list (h (.ref b, .list es) (by simp))
    cases e
    obtain ⟨x, hx, _⟩ := rr.getD (List.getElem?_eq_getElem h1)
    obtain ⟨y, hy, _⟩ := rs.getD (List.getElem?_eq_getElem h2)
    exact ⟨xs, ys, x, y, .of ha, .of hb, hx, hy⟩
  stops := fun H ⟨O, h⟩ => by
    rw [pairsD_len]
    obtain ⟨_, xs, e, ha, rr⟩ := rep_list (h (.ref a, .list ds) (by simp))
    cases e
    obtain ⟨_, ys, e, hb, rs⟩ := rep_list (h (.ref b, .list es) (by simp))
    cases e
    refine ⟨xs, ys, .of ha, .of hb, ?_⟩
    rw [rr.length, rs.length]
    omega
  yields := fun i H v H' hi ⟨O, h⟩ ⟨T, x, y, e1, hT, e2, fx, fy⟩ => by
    subst e1 e2
    rw [pairsD_len] at hi
    obtain ⟨h1, h2⟩ := min_lt hi
    refine ⟨.tuple [ds[i], es[i]], pairsD_get (List.getElem?_eq_getElem h1) (List.getElem?_eq_getElem h2), same_upd hT, fun O' h' => ?_⟩
    obtain ⟨_, xs, e, ha, rr⟩ := rep_list (h' (.ref a, .list ds) (by simp))
    cases e
    obtain ⟨_, ys, e, hb, rs⟩ := rep_list (h' (.ref b, .list es) (by simp))
    cases e
    obtain ⟨d, hd, r⟩ := rr.get (fx xs (.of ha))
    obtain ⟨d', hd', r'⟩ := rs.get (fy ys (.of hb))
    rw [List.getElem?_eq_getElem h1] at hd
    rw [List.getElem?_eq_getElem h2] at hd'
    cases hd
    cases hd'
    exact pair_rep hT r r'
theorem wd_zipT {a b : Addr} {ds es : List D} : WalkD K (RZ.ItzT K a b) [(.ref a, .tuple ds), (.ref b, .tuple es)] (pairsD ds es) where
  goes := fun i H hi ⟨O, h⟩ => by
    rw [pairsD_len] at hi
    obtain ⟨h1, h2⟩ := min_lt hi
    obtain ⟨_, xs, e, ha, rr⟩ := rep_tup (h (.ref a, .tuple ds) (by simp))
    cases e
    obtain ⟨_, ys, e, hb, rs⟩ := rep_tup (h (.ref b, .tuple es) (by simp))
    cases e
    obtain ⟨x, hx, _⟩ := rr.getD (List.getElem?_eq_getElem h1)
    obtain ⟨y, hy, _⟩ := rs.getD (List.getElem?_eq_getElem h2)
    exact ⟨xs, ys, x, y, ha.sq, hb.sq, hx, hy⟩
  stops := fun H ⟨O, h⟩ => by
    rw [pairsD_len]
    obtain ⟨_, xs, e, ha, rr⟩ := rep_tup (h (.ref a, .tuple ds) (by simp))
    cases e
    obtain ⟨_, ys, e, hb, rs⟩ := rep_tup (h (.ref b, .tuple es) (by simp))
    cases e
    refine ⟨xs, ys, ha.sq, hb.sq, ?_⟩
    rw [rr.length, rs.length]
    omega
  yields := fun i H v H' hi ⟨O, h⟩ ⟨T, x, y, e1, hT, e2, fx, fy⟩ => by
    subst e1 e2
    rw [pairsD_len] at hi
    obtain ⟨h1, h2⟩ := min_lt hi
    refine ⟨.tuple [ds[i], es[i]], pairsD_get (List.getElem?_eq_getElem h1) (List.getElem?_eq_getElem h2), same_upd hT, fun O' h' => ?_⟩
    obtain ⟨_, xs, e, ha, rr⟩ := rep_tup (h' (.ref a, .tuple ds) (by simp))
    cases e
    obtain ⟨_, ys, e, hb, rs⟩ := rep_tup (h' (.ref b, .tuple es) (by simp))
    cases e
    obtain ⟨d, hd, r⟩ := rr.get (fx xs ha.sq)
    obtain ⟨d', hd', r'⟩ := rs.get (fy ys hb.sq)
    rw [List.getElem?_eq_getElem h1] at hd
    rw [List.getElem?_eq_getElem h2] at hd'
    cases hd
    cases hd'
    exact pair_rep hT r r'
end
section
variable {X : Cx} {tg e e2 : Expr} {es : List Expr} {pos p : Pos} {ta tb t : ET} {ts : AT}
/-- a list or a tuple, whichever comes -/
def iSeq (t : ET) : IT := fun E η Q => t E η fun d => match d with | .list ds => Q ds | .tuple ds => Q ds | _ => False
def iBoth (K : PySem.W.Frag) (tl : TE) : TI := fun σ H R => tl σ H fun x H1 => ∃ a, x = .ref a ∧ ((∃ xs, SqL K H1 a xs ∧ R (Itl K a) H1) ∨ ∃ xs, SqT K H1 a xs ∧ R (Itt K a) H1)
/-- an iterator of one record, just made -/
theorem pie_new {pins : List (Addr × Obj)} {σ : L2.St} {H : Hp} {s : Shared} {R : It → Hp → Prop} {J : It} {tn : Nat → Heap → Prop} {o : Obj} (I : Inv X pins σ H s)
    (T : Turn X.prog X.w X.K tg J [s.heap.objs.size] s.heap.objs.size tn) (h0 : tn 0 (s.heap.push o)) (q : R J H) : PIE X pins σ tg R (.ref s.heap.objs.size) { s with heap := s.heap.push o } :=
  ⟨_, [s.heap.objs.size], tn, J, H, rfl, I.kept (t' := s.toks) (fun b u e => Heap.get?_push_of_some _ e), T, h0, fun b hb => by
    cases List.mem_singleton.mp hb
    exact I.fpOk (Nat.le_refl _) (I.hok.fresh (Nat.le_refl _)), q⟩
theorem pi_both {l : Expr} {tl : TE} (hl : PE X l tl) : PI X tg l (iBoth X.K tl) := ⟨fun pins s σ H R I h => thn (hl.run pins s σ H _ I h) fun v s1 ⟨x, H1, I1, r1, a, e, q⟩ => by
  subst e
  cases r1
  rcases q with ⟨xs, hq, q⟩ | ⟨xs, hq, q⟩
  · obtain ⟨its, rv, pl, hz⟩ := I1.list hq
    exact wpAny_pyIter_list pl.isList (pie_new I1 (turn_list a _) ⟨_, Heap.get?_push_size _ rfl, rfl, rfl⟩ q)
  · obtain ⟨its, rv, pl, hz⟩ := I1.tuple hq
    exact wpAny_pyIter_tuple (show s1.heap.IsTuple a its.toArray from pl) (pie_new I1 (turn_tuple a _) ⟨_, Heap.get?_push_size _ rfl, rfl, rfl⟩ q)⟩
theorem di_seq (h : DE X e t) : DI X tg e (iSeq t) := ⟨⟨fun pins s σ H R I ⟨c, O, η, E, Q, g, ht, k⟩ => (pi_both h.pe).run pins s σ H R I
  ⟨c, O, η, E, _, g, ht, fun d v H' s r q => by
    cases r with
    | lst o h0 rr => exact ⟨_, rfl, .inl ⟨_, .of h0, k _ H' _ _ s (fun p hp => by cases List.mem_singleton.mp hp; exact .lst o h0 rr) wd_list q⟩⟩
    | tup h0 rr => exact ⟨_, rfl, .inr ⟨_, h0.sq, k _ H' _ _ s (fun p hp => by cases List.mem_singleton.mp hp; exact .tup h0 rr) wd_tup q⟩⟩
    | _ => exact q.elim⟩⟩⟩
def iRange1 (ts : AT) : IT := fun E η Q => ts E η fun ds => match ds with | [.int j] => (-(2 ^ 62) ≤ j ∧ j < 2 ^ 62) ∧ Q (rangeD 0 j.toNat) | _ => False
theorem di_range1 (hg : Gl X "range") (hm : X.mg "range" = none) (ha : DA X [e] ts) (hs : starEach [e] X.env = [(false, eval e X.env)] := by rfl) : DI X tg (.Call (.Name "range" p) [e] [] pos) (iRange1 ts) := ⟨⟨fun pins s σ H R I ⟨c, O, η, E, Q, g, ht, k⟩ =>
  (pi_range1 hg hm ha.pa hs).run pins s σ H R I ⟨c, O, η, E, _, g, ht, fun ds vs H' s r q => by
    match ds, q with
    | [.int j], ⟨⟨h1, h2⟩, q⟩ =>
      cases r with
      | cons r1 r2 =>
        cases r2
        cases r1
        exact ⟨j, rfl, h1, h2, k _ H' _ [] s (fun p hp => absurd hp (by simp)) wd_range q⟩⟩⟩⟩
def iRange2 (ts : AT) : IT := fun E η Q => ts E η fun ds => match ds with | [.int i, .int j] => (-(2 ^ 62) ≤ i ∧ i < 2 ^ 62 ∧ -(2 ^ 62) ≤ j ∧ j < 2 ^ 62) ∧ Q (rangeD i (j - i).toNat) | _ => False
def iZip2 (ts : AT) : IT := fun E η Q => ts E η fun ds => match ds with | [.list xs, .list ys] => Q (pairsD xs ys) | [.tuple xs, .tuple ys] => Q (pairsD xs ys) | _ => False
theorem di_zip {elts : List Expr} {kk : Nat} {tpos : Pos} (hg : Gl X "zip") (hm : X.mg "zip" = none) (ha : DA X [e, e2] ts) (hs : starEach [e, e2] X.env = (false, eval e X.env) :: starEach [e2] X.env := by rfl) (hpl : (backTo pos (starEach [e2] X.env)).any (·.1) = false := by rfl) :
    DI X (.Tuple elts kk tpos) (.Call (.Name "zip" p) [e, e2] [] pos) (iZip2 ts) := ⟨⟨fun pins s σ H R I ⟨c, O, η, E, Q, g, ht, k⟩ =>
  (RZ.pi_zipA hg hm ha.pa hs hpl).run pins s σ H R I ⟨c, O, η, E, _, g, ht, fun ds vs H' s r q => by
    match ds, q with
    | [.list xs, .list ys], q =>
      cases r with
      | cons r1 r2 =>
        cases r2 with
        | cons r2 r3 =>
          cases r3
          obtain ⟨a, us, e1, h1, rr1⟩ := rep_list r1
          obtain ⟨b, ws, e2, h2, rr2⟩ := rep_list r2
          subst e1 e2
          exact ⟨a, b, us, ws, rfl, .inl ⟨.of h1, .of h2, k _ H' _ _ s (fun p hp => by
            simp only [List.mem_cons, List.mem_nil_iff, or_false] at hp
            rcases hp with rfl | rfl
            · exact r1
            · exact r2) wd_zipL q⟩⟩
    | [.tuple xs, .tuple ys], q =>
      cases r with
      | cons r1 r2 =>
        cases r2 with
        | cons r2 r3 =>
          cases r3
          obtain ⟨a, us, e1, h1, rr1⟩ := rep_tup r1
          obtain ⟨b, ws, e2, h2, rr2⟩ := rep_tup r2
          subst e1 e2
          exact ⟨a, b, us, ws, rfl, .inr ⟨h1.sq, h2.sq, k _ H' _ _ s (fun p hp => by
            simp only [List.mem_cons, List.mem_nil_iff, or_false] at hp
            rcases hp with rfl | rfl
            · exact r1
            · exact r2) wd_zipT q⟩⟩⟩⟩⟩
end
end DL

/-! DL4b: enumerate of a tuple. -/
namespace DL
open PySem PySem.Spec PyProof.Rows L2
section
variable {prog : Program} {w : World} {A : Around} {E : Value → Shared → Prop} {s : Shared}
end
/-- the tuple at a, each item in a new pair with its number -/
def IteT (K : PySem.W.Frag) (a : Addr) : It where
  go := fun i H => ∃ (xs : List V) (x : V), SqT K H a xs ∧ xs[i]? = some x
  yld := fun i H v H' => ∃ T x, v = .ref T ∧ H T = none ∧ H' = upd H T (.tup [.int (i : Nat), x]) ∧ ∀ xs, SqT K H a xs → xs[i]? = some x
  stop := fun i H => ∃ xs : List V, SqT K H a xs ∧ xs.length = i
section
variable {X : Cx} {tg e : Expr} {pos p : Pos} {ta : ET}
def iEnumE (K : PySem.W.Frag) (ta : TE) : TI := fun σ H R => ta σ H fun x H1 => ∃ a, x = .ref a ∧ ((∃ xs, SqL K H1 a xs ∧ R (Ite K a) H1) ∨ ∃ xs, SqT K H1 a xs ∧ R (IteT K a) H1)
def iEnum1 (t : ET) : IT := fun E η Q => t E η fun d => match d with | .list ds => Q (pairsD (rangeD 0 ds.length) ds) | .tuple ds => Q (pairsD (rangeD 0 ds.length) ds) | _ => False
end
end DL

/-! DL5: targets, comprehensions. -/
namespace DL
open PySem PySem.Spec PyProof.Rows L2
section
variable {K : PySem.W.Frag} {c : Ctx} {O : Addr → Prop} {η : EnvD} {σ : L2.St} {H H1 H' : Hp}
theorem join_set_self {σ : L2.St} {i : Nat} {x : V} (h : i < σ.length) : (σ.set i (some x))[i]?.join = some x := by
  rw [List.getElem?_set_self h]
  rfl
theorem Good.set (g : Good K c O η σ H) (i : Nat) {x : V} {d : D} (r : Rep K O H x d) : Good K c O (η.set i (.dat d)) (σ.set i (some x)) H where
  len := by rw [List.length_set, List.length_set, g.len]
  hB := g.hB
  hW := g.hW
  hT := g.hT
  keep := g.keep
  draw := g.draw
  cell := fun j y h => by
    by_cases e : i = j
    · subst e
      by_cases hl : i < η.length
      · rw [List.getElem?_set_self hl] at h
        cases h
        exact ⟨x, join_set_self (g.len ▸ hl), r⟩
      · rw [List.getElem?_eq_none (by rw [List.length_set]; omega)] at h
        cases h
    · rw [List.getElem?_set_ne e] at h ⊢
      exact g.cell j y h
  dis := dis_put g.dis i (z := .dat d) (fun _ _ h => h) _
  fr := g.fr
/-- the slots at vs forgotten -/
def wipeD (η : EnvD) : List Nat → EnvD
  | [] => η
  | v :: vs => (wipeD η vs).set v .un
theorem Good.unset (g : Good K c O η σ H) (i : Nat) : Good K c O (η.set i .un) (σ.set i none) H where
  len := by rw [List.length_set, List.length_set, g.len]
  hB := g.hB
  hW := g.hW
  hT := g.hT
  keep := g.keep
  draw := g.draw
  cell := fun j y h => by
    by_cases e : i = j
    · subst e
      by_cases hl : i < η.length
      · rw [List.getElem?_set_self hl] at h
        cases h
        trivial
      · rw [List.getElem?_eq_none (by rw [List.length_set]; omega)] at h
        cases h
    · rw [List.getElem?_set_ne e] at h ⊢
      exact g.cell j y h
  dis := dis_put g.dis i (z := .un) (fun _ _ h => h) _
  fr := g.fr
theorem Good.wipe (g : Good K c O η σ H) : ∀ vs : List Nat, Good K c O (wipeD η vs) (L2.wipe σ vs) H
  | [] => g
  | v :: vs => (Good.wipe g vs).unset v
/-- all that is owned may be read: nothing is changed meanwhile -/
def lendC : Cell → Cell
  | .own ds => .dat (.list ds)
  | .mtb _ d _ => .dat d
  | .ist _ nm fs _ => .lin nm fs
  | x => x
def lend (η : EnvD) : EnvD := η.map lendC
theorem Good.lend (g : Good K c O η σ H) : Good K c c.B (lend η) σ H where
  len := by unfold DL.lend; rw [List.length_map, g.len]
  hB := fun _ h => h
  hW := g.hW
  hT := fun a h => g.hT a (g.hB a h)
  keep := g.keep
  draw := g.draw
  cell := fun i x h => by
    unfold DL.lend at h
    rw [List.getElem?_map] at h
    cases e : η[i]? with
    | none => rw [e] at h; cases h
    | some y =>
      rw [e] at h
      cases h
      have q := g.cell i y e
      cases y with
      | un => trivial
      | dat d => obtain ⟨v, e1, r⟩ := q; exact ⟨v, e1, r.weak g.hB⟩
      | own ds => obtain ⟨a, xs, e1, ha, oa, nb, h0, r⟩ := q; exact ⟨.ref a, e1, .lst nb ha (r.weak g.hB)⟩
      | drw => exact q
      | obj a o => exact ⟨q.1, fun p hp => (q.2 p hp).imp fun y r => ⟨r.1, r.2.weak g.hB⟩⟩
      | scr ns => exact q
      | mtb p d fp => obtain ⟨v, e1, r, _, _, h3, _⟩ := q; exact ⟨v, e1, r.rep fun b hb => (h3 b hb).2.1⟩
      | lin nm fs => obtain ⟨v, e1, r⟩ := q; exact ⟨v, e1, r.map (fun a u o e => ⟨fun z => o (g.hB a z), e⟩) fun _ _ e => e⟩
      | ist p nm fs fp => obtain ⟨v, e1, r, _, _, h3, _⟩ := q; exact ⟨v, e1, r.lin fun b hb => (h3 b hb).2.1⟩
  dis := fun i j x y a h1 h2 h3 h4 => by
    unfold DL.lend at h1
    rw [List.getElem?_map] at h1
    cases e : η[i]? with
    | none => rw [e] at h1; cases h1
    | some y => rw [e] at h1; cases y <;> cases h1 <;> exact h3.elim
  fr := fun p hp => (g.fr p hp).weak g.hB
theorem Rep.upd {a : Addr} {xs ys : List V} (oa : O a) (ha : H a = some (.lst xs)) {v : V} {d : D} (r : Rep K O H v d) : Rep K O (L2.upd H a (.lst ys)) v d :=
  r.map (fun b zs ob e => ⟨ob, by rw [upd_ne (fun z : b = a => ob (by rw [z]; exact oa))]; exact e⟩) fun b zs e => by
    rw [upd_ne (fun z : b = a => by rw [z, ha] at e; cases e)]; exact e
theorem RepAll.upd {a : Addr} {xs ys : List V} (oa : O a) (ha : H a = some (.lst xs)) {v : List V} {d : List D} (r : RepAll K O H v d) : RepAll K O (L2.upd H a (.lst ys)) v d :=
  r.map (fun b zs ob e => ⟨ob, by rw [upd_ne (fun z : b = a => ob (by rw [z]; exact oa))]; exact e⟩) fun b zs e => by
    rw [upd_ne (fun z : b = a => by rw [z, ha] at e; cases e)]; exact e
/-- a list that no slot owns is changed -/
theorem Good.mut (g : Good K c O η σ H) {a : Addr} {xs ys : List V} (oa : O a) (ha : H a = some (.lst xs)) (nw : ¬ Wr c.G a) (h0 : c.H0 a = none) (no : ∀ (i : Nat) (x : Cell), η[i]? = some x → ¬ foot x (σ[i]?.join) a) : Good K c O η σ (upd H a (.lst ys)) := by
  have rp : ∀ {v : V} {d : D}, Rep K O H v d → Rep K O (upd H a (.lst ys)) v d := fun r => r.upd oa ha
  have rps : ∀ {v : List V} {d : List D}, RepAll K O H v d → RepAll K O (upd H a (.lst ys)) v d := fun r => r.upd oa ha
  refine ⟨g.len, g.hB, g.hW, fun b h => ?_, fun b o w e => ?_, ?_, fun i x h => ?_, g.dis, fun p hp => rp (g.fr p hp)⟩
  · by_cases e : b = a
    · subst e; rw [upd_same]; intro z; cases z
    · rw [upd_ne e]; exact g.hT b h
  · rw [upd_ne (fun z => by rw [z, h0] at e; cases e)]
    exact g.keep b o w e
  · refine ⟨?_, tabs_upd g.draw.2 ha⟩
    have := g.draw.1
    cases hG : c.G with
    | none => trivial
    | some p =>
      obtain ⟨p1, p2⟩ := p
      rw [hG] at this nw
      obtain ⟨n, m, t, ns, e1, x1, x2, e2, x3⟩ := this
      refine ⟨n, m, t, ns, ?_, x1, x2, ?_, x3⟩
      · rw [upd_ne (fun z => nw (.inl ⟨_, rfl, .inl z.symm⟩))]; exact e1
      · rw [upd_ne (fun z => nw (.inl ⟨_, rfl, .inr z.symm⟩))]; exact e2
  · have q := g.cell i x h
    cases x with
    | un => trivial
    | dat d => obtain ⟨v, e, r⟩ := q; exact ⟨v, e, rp r⟩
    | own ds =>
      obtain ⟨b, zs, e, hb, ob, nb, h0', r⟩ := q
      refine ⟨b, zs, e, ?_, ob, nb, h0', rps r⟩
      rw [upd_ne (fun z : b = a => no i _ h (by rw [← z]; exact e))]
      exact hb
    | drw => exact q
    | obj b o => exact ⟨q.1, fun p hp => (q.2 p hp).imp fun y r => ⟨by rw [upd_ne (fun z : p.1 = a => by have := r.1; rw [z, ha] at this; cases this)]; exact r.1, rp r.2⟩⟩
    | scr ns =>
      obtain ⟨b, e, r⟩ := q
      exact ⟨b, e, r.map fun b' o u x => by rw [upd_ne (fun z : b' = a => by rw [z, ha] at x; cases x)]; exact x⟩
    | mtb p d fp =>
      obtain ⟨x, e, r, h1, h2, h3, h4⟩ := q
      exact ⟨x, e, r.map (fun b' xs x => by rw [upd_ne (fun z : b' = a => by rw [z, ha] at x; cases x)]; exact x) (fun b' hb => upd_ne (fun z : b' = a => no i _ h (z ▸ hb))), h1, h2, h3, h4⟩
    | lin nm fs =>
      obtain ⟨x, e, r⟩ := q
      exact ⟨x, e, r.map (fun b u nb e => ⟨nb, by rw [upd_ne (fun z : b = a => nb (z ▸ oa))]; exact e⟩) fun b' xs x => by rw [upd_ne (fun z : b' = a => by rw [z, ha] at x; cases x)]; exact x⟩
    | ist p nm fs fp =>
      obtain ⟨x, e, r, h1, h2, h3, h4⟩ := q
      exact ⟨x, e, r.map (fun b' xs x => by rw [upd_ne (fun z : b' = a => by rw [z, ha] at x; cases x)]; exact x) (fun b' hb => upd_ne (fun z : b' = a => no i _ h (z ▸ hb))), h1, h2, h3, h4⟩
/-- a new list's address joins -/
theorem Good.more (g : Good K c O η σ H) (st : Step c.G H H1) {a : Addr} {ys : List V} (h : H a = none) (h1 : H1 a = some (.lst ys)) : Good K c (fun b => O b ∨ b = a) η σ H1 := by
  have w1 : ∀ b, Wr c.G b → (O b ∨ b = a) := fun b w => .inl (g.wO b w)
  have rp : ∀ {v : V} {d : D}, Rep K O H v d → Rep K (fun b => O b ∨ b = a) H1 v d := fun r => st.rep g.draw w1 (r.more h)
  have rps : ∀ {v : List V} {d : List D}, RepAll K O H v d → RepAll K (fun b => O b ∨ b = a) H1 v d := fun r => st.repAll g.draw w1 (r.more h)
  have g1 := g.step st
  refine ⟨g.len, fun b hb => .inl (g.hB b hb), g.hW, fun b hb => hb.elim (g1.hT b) (fun z => by rw [z, h1]; intro q; cases q), g1.keep, g1.draw, fun i x hx => ?_, g.dis, fun p hp => rp (g.fr p hp)⟩
  have q := g.cell i x hx
  cases x with
  | un => trivial
  | dat d => obtain ⟨v, e, r⟩ := q; exact ⟨v, e, rp r⟩
  | own ds =>
    obtain ⟨b, zs, e, hb, ob, nb, h0, r⟩ := q
    exact ⟨b, zs, e, st.keep b _ (fun z => nb (g.hW b z)) hb, .inl ob, nb, h0, rps r⟩
  | drw => exact q
  | obj a o => exact ⟨q.1, fun p hp => (q.2 p hp).imp fun y r => ⟨st.keep _ _ (g.draw.xd _ _ r.1) r.1, rp r.2⟩⟩
  | scr ns =>
    obtain ⟨b, e, r⟩ := q
    exact ⟨b, e, r.map fun b' o u x => st.keep b' _ (g.draw.frz b' o u x) x⟩
  | mtb p d fp =>
    obtain ⟨x, e, r, h1, h2, h3, h4⟩ := g1.cell i _ hx
    exact ⟨x, e, r, h1, h2, fun b hb => ⟨.inl (h3 b hb).1, (h3 b hb).2⟩, h4⟩
  | lin nm fs =>
    obtain ⟨x, e, r⟩ := q
    exact ⟨x, e, r.map (fun b u nb e => ⟨fun z => z.elim nb fun q => (by rw [q, h] at e; cases e), st.keep b _ (fun z => nb (g.wO b z)) e⟩) fun b xs e => st.keep b _ (g.draw.tup b xs e) e⟩
  | ist p nm fs fp =>
    obtain ⟨x, e, r, h1, h2, h3, h4⟩ := g1.cell i _ hx
    exact ⟨x, e, r, h1, h2, fun b hb => ⟨.inl (h3 b hb).1, (h3 b hb).2⟩, h4⟩
theorem Good.fresh0 (g : Good K c O η σ H) {a : Addr} (h : H a = none) : ¬ Wr c.G a ∧ c.H0 a = none := by
  have nw : ¬ Wr c.G a := fun z => g.draw.tr a z h
  refine ⟨nw, ?_⟩
  cases e : c.H0 a with
  | none => rfl
  | some o =>
    have := g.keep a o nw e
    rw [h] at this; cases this
theorem Good.foot_ne (g : Good K c O η σ H) {a : Addr} (h : H a = none) (i : Nat) (x : Cell) (hi : η[i]? = some x) : ¬ foot x (σ[i]?.join) a := fun z => by
  have q := g.cell i _ hi
  cases x with
  | own ds =>
    obtain ⟨b, zs, e, hb, _⟩ := q
    have z : σ[i]?.join = some (.ref a) := z
    rw [z] at e
    cases e
    rw [h] at hb; cases hb
  | mtb p d fp =>
    obtain ⟨x, e, r, _⟩ := q
    rcases r.alive a z with ⟨xs, e⟩ | ⟨es, ep, e⟩ <;> rw [h] at e <;> cases e
  | ist p nm fs fp =>
    obtain ⟨x, e, r, _⟩ := q
    obtain ⟨o, e, _⟩ := r.alive a z
    rw [h] at e
    cases e
  | _ => exact z.elim
end

/-! ### targets -/
abbrev GT := D → EnvD → (EnvD → Prop) → Prop
abbrev GTs := List D → EnvD → (EnvD → Prop) → Prop
def gN (i : Nat) : GT := fun d η Q => Q (η.set i (.dat d))
def gNil' : GTs := fun ds η Q => match ds with | [] => Q η | _ => False
def gCons' (g : GT) (gs : GTs) : GTs := fun ds η Q => match ds with | d :: r => g d η fun η1 => gs r η1 Q | [] => False
def gT (gs : GTs) : GT := fun d η Q => match d with | .tuple ds => gs ds η Q | _ => False
/-- the slots in is are stored, no others -/
def liftG (K : PySem.W.Frag) (is : List Nat) (g : GT) : TG := fun v σ H R => ∃ (c : Ctx) (O : Addr → Prop) (η : EnvD) (d : D) (Q : EnvD → Prop), Good K c O η σ H ∧ Rep K O H v d ∧ g d η Q ∧
  ∀ σ' η', Good K c O η' σ' H → σ'.length = σ.length → (∀ j : Nat, j ∉ is → σ'[j]? = σ[j]?) → Q η' → R σ' H
def liftGs (K : PySem.W.Frag) (is : List Nat) (g : GTs) : TGs := fun vs σ H R => ∃ (c : Ctx) (O : Addr → Prop) (η : EnvD) (ds : List D) (Q : EnvD → Prop), Good K c O η σ H ∧ RepAll K O H vs ds ∧ g ds η Q ∧
  ∀ σ' η', Good K c O η' σ' H → σ'.length = σ.length → (∀ j : Nat, j ∉ is → σ'[j]? = σ[j]?) → Q η' → R σ' H
structure DG (X : Cx) (tg : Expr) (is : List Nat) (g : GT) : Prop where
  pg : PG X tg (liftG X.K is g)
structure DGs (X : Cx) (tgs : List Expr) (is : List Nat) (g : GTs) : Prop where
  pgs : PGs X tgs (liftGs X.K is g)
section
variable {X : Cx} {pos : Pos} {tg : Expr} {tgs : List Expr} {is js : List Nat} {g : GT} {gs : GTs}
theorem dg_name (i : Nat) {x : Str} (hN : X.N.Nodup) (hi : X.N[i]? = some x := by rfl) (hx : Loc X.env.scope x := by first | exact Or.inl rfl | exact Or.inr rfl) (hf : X.fn x = true ∨ X.env.scope.names.lookup x = some .local := by first | exact .inl rfl | exact .inr rfl) : DG X (.Name x pos) [i] (gN i) :=
  ⟨⟨fun pins s σ H v u R I r ⟨c, O, η, d, Q, g, rp, q, k⟩ => (pg_name hN hi hx hf).run pins s σ H v u R I r (k _ _ (g.set i rp) (List.length_set ..) (fun j hj => List.getElem?_set_ne (fun z : i = j => hj (by rw [z]; exact List.mem_singleton.mpr rfl))) q)⟩⟩
theorem dgs_nil : DGs X [] [] gNil' := ⟨⟨fun pins s σ H vs us R I r ⟨c, O, η, ds, Q, g, rp, q, k⟩ => pgs_nil.run pins s σ H vs us R I r (by
  cases rp with
  | nil => exact ⟨rfl, k σ η g rfl (fun _ _ => rfl) q⟩
  | cons _ _ => exact q.elim)⟩⟩
theorem dgs_cons (h1 : DG X tg is g) (h2 : DGs X tgs js gs) (hs : (assignEach (tg :: tgs) X.env).map (·.2) = assign tg X.env :: (assignEach tgs X.env).map (·.2) := by rfl) : DGs X (tg :: tgs) (is ++ js) (gCons' g gs) :=
  ⟨⟨fun pins s σ H vs us R I r ⟨c, O, η, ds, Q, g, rp, q, k⟩ => (pgs_cons h1.pg h2.pgs hs).run pins s σ H vs us R I r (by
    cases rp with
    | nil => exact q.elim
    | cons r1 r2 =>
      refine ⟨_, _, rfl, c, O, η, _, _, g, r1, q, fun σ1 η1 g1 l1 e1 q1 => ⟨c, O, η1, _, Q, g1, r2, q1, fun σ2 η2 g2 l2 e2 q2 => k σ2 η2 g2 (l2.trans l1) (fun j hj => ?_) q2⟩⟩
      rw [List.mem_append, not_or] at hj
      exact (e2 j hj.2).trans (e1 j hj.1))⟩⟩
theorem dg_tup {k n : Nat} (hc : X.calm = true) (h : DGs X tgs is gs) (hn : (assignEach tgs X.env).length = n := by rfl) (hst : (assignEach tgs X.env).findIdx? (·.1) = none := by rfl) (hgs : ∀ ds η Q, gs ds η Q → ds.length = n) :
    DG X (.Tuple tgs k pos) is (gT gs) := ⟨⟨fun pins s σ H v u R I r ⟨c, O, η, d, Q, g, rp, q, kk⟩ => (pg_tup hc h.pgs hn hst).run pins s σ H v u R I r (by
  cases rp with
  | tup h1 rr => exact ⟨_, _, rfl, h1.sq, rr.length.trans (hgs _ _ _ q), c, O, η, _, Q, g, rr, q, kk⟩
  | _ => exact q.elim)⟩⟩
end

/-! ### comprehensions -/

structure DTs (X : Cx) (ifs : List Expr) (t : BT) : Prop where
  pts : PTs X ifs (liftB0 X.K t)
def bYes : BT := fun _ _ Q => Q true
section
variable {X : Cx} {e : Expr} {t : BT}
theorem dts_one (h : DT X e t) : DTs X [e] t := ⟨pts_one h.pt0⟩
end
def compD (g : GT) (tt : BT) (te : ET) (η0 : EnvD) : List D → List D → (List D → Prop) → Prop
  | [], acc, Q => Q acc
  | d :: ds, acc, Q => g d η0 fun η1 => tt never η1 fun b => if b = true then te never η1 fun y => acc.length < sizeLine ∧ compD g tt te η0 ds (acc ++ [y]) Q else compD g tt te η0 ds acc Q
def nComp (own : List Nat) (ti : IT) (g : GT) (tt : BT) (te : ET) : NT := fun E η Q => ti E η fun ds => compD g tt te (wipeD η own) ds [] Q
theorem wipe_get {σ : L2.St} : ∀ {vs : List Nat} {i : Nat}, (L2.wipe σ vs)[i]? = if i ∈ vs then σ[i]?.map (fun _ => none) else σ[i]?
  | [], i => by simp [L2.wipe]
  | v :: vs, i => by
    show ((L2.wipe σ vs).set v none)[i]? = _
    rw [List.getElem?_set]
    by_cases e : v = i
    · subst e
      rw [if_pos rfl, L2.wipe_length]
      by_cases hl : v < σ.length
      · rw [if_pos hl, if_pos (List.mem_cons_self), List.getElem?_eq_getElem hl]; rfl
      · rw [if_neg hl, if_pos (List.mem_cons_self), List.getElem?_eq_none (by omega)]; rfl
    · rw [if_neg e, wipe_get]
      by_cases hm : i ∈ vs
      · rw [if_pos hm, if_pos (List.mem_cons_of_mem _ hm)]
      · rw [if_neg hm, if_neg (by simp [hm]; exact fun z => e z.symm)]
theorem wipe_eq {σ σ' : L2.St} {vs : List Nat} (hl : σ'.length = σ.length) (h : ∀ j : Nat, j ∉ vs → σ'[j]? = σ[j]?) : L2.wipe σ' vs = L2.wipe σ vs := by
  apply List.ext_getElem?
  intro i
  rw [wipe_get, wipe_get]
  by_cases hm : i ∈ vs
  · rw [if_pos hm, if_pos hm]
    by_cases hi : i < σ.length
    · rw [List.getElem?_eq_getElem hi, List.getElem?_eq_getElem (hl ▸ hi)]; rfl
    · rw [List.getElem?_eq_none (by omega), List.getElem?_eq_none (by omega)]
  · rw [if_neg hm, if_neg hm, h i hm]
theorem wipe_wipe {σ : L2.St} {vs : List Nat} : L2.wipe (L2.wipe σ vs) vs = L2.wipe σ vs := by
  apply List.ext_getElem?
  intro i
  rw [wipe_get, wipe_get]
  by_cases hm : i ∈ vs
  · rw [if_pos hm, if_pos hm]; cases σ[i]? <;> rfl
  · rw [if_neg hm, if_neg hm]
theorem lc_lift {X : Cx} {ti : IT} {is own : List Nat} {g : GT} {tt : BT} {te : ET} (hsub : ∀ i ∈ is, i ∈ own) : RdN X (tLc (liftI X ti) (liftG X.K is g) (liftB0 X.K tt) (liftE0 X.K te) own) (nComp own ti g tt te) := by
  intro σ H c O η E Q R gd ht k
  refine ⟨c, O, η, E, _, gd, ht, fun J H1 ds F s1 hF w q D hD => ?_⟩
  have g1 := gd.toGood.step s1
  have fr0 := g1.fresh0 hD
  have hDs := s1.none gd.draw hD
  have gm : Good X.K c (fun b => O b ∨ b = D) η σ (upd H1 D (.lst [])) := g1.more (.alloc g1.draw hD) hD upd_same
  have gw := gm.wipe own
  have no : ∀ (i : Nat) (x : Cell), (wipeD η own)[i]? = some x → ¬ foot x ((L2.wipe σ own)[i]?.join) D := (g1.wipe own).foot_ne hD
  refine lc_it w (fun i H2 => ∃ vs acc, Good X.K c (fun b => O b ∨ b = D) (wipeD η own) (L2.wipe σ own) H2 ∧ H2 D = some (.lst vs) ∧ RepAll X.K (fun b => O b ∨ b = D) H2 vs acc ∧ (∀ p ∈ F, Rep X.K (fun b => O b ∨ b = D) H2 p.1 p.2) ∧
    Step c.G H1 H2 ∧ compD g tt te (wipeD η own) (ds.drop i) acc Q) ?_ ?_ ?_ ?_
  · exact ⟨[], [], gw, upd_same, .nil, fun p hp => ((hF p hp).more hD).same (same_upd hD), .alloc g1.draw hD, q⟩
  · rintro i H2 _ ⟨vs, acc, _, _, _, h4, _⟩
    exact ⟨_, h4⟩
  · rintro i x H2 H3 hi ⟨vs, acc, g2, hD2, r2, hF2, s2, q2⟩ ⟨d, hd, sm, hx⟩
    have s3 : Step c.G H2 H3 := .same g2.draw sm
    have g3 := g2.step s3
    have ed : ds.drop i = d :: ds.drop (i + 1) := by
      obtain ⟨hl, he⟩ := List.getElem?_eq_some_iff.mp hd
      rw [List.drop_eq_getElem_cons hl, he]
    rw [ed] at q2
    refine ⟨c, _, _, d, _, g3, hx _ hF2, q2, fun σ4 η4 g4 l4 e4 q4 => ⟨?_, ?_⟩⟩
    · rw [← wipe_wipe (σ := σ)]
      exact wipe_eq l4 fun j hj => e4 j fun z => hj (hsub j z)
    · refine ⟨c, _, η4, _, g4, q4, fun b H5 s5 q5 => ?_⟩
      have f5 : ∀ p ∈ F, Rep X.K (fun b => O b ∨ b = D) H5 p.1 p.2 := fun p hp => s5.rep g3.draw g3.wO ((hF2 p hp).same sm)
      have r5 := s5.repAll g3.draw g3.wO (r2.same sm)
      have gw5 := g3.step s5
      have hD5 : H5 D = some (.lst vs) := s5.keep D _ fr0.1 (sm _ _ hD2)
      cases b with
      | false => exact ⟨vs, acc, gw5, hD5, r5, f5, s2.trans (s3.trans s5), q5⟩
      | true =>
        refine ⟨c, _, η4, _, g4.step s5, q5, fun y v H6 s6 ry q6 => ?_⟩
        obtain ⟨hz, q6⟩ := q6
        have hD6 : H6 D = some (.lst vs) := s6.keep D _ fr0.1 hD5
        have r6 := s6.repAll gw5.draw gw5.wO r5
        refine ⟨vs, hD6, by rw [r6.length]; exact hz, vs ++ [v], acc ++ [y], ?_, upd_same, ?_, ?_, ?_, q6⟩
        · exact (gw5.step s6).mut (.inr rfl) hD6 fr0.1 fr0.2 no
        · exact (r6.append (.cons ry .nil)).upd (.inr rfl) hD6
        · exact fun p hp => (s6.rep gw5.draw gw5.wO (f5 p hp)).upd (.inr rfl) hD6
        · have st := s2.trans (s3.trans (s5.trans s6))
          have gg := (gw5.step s6).mut (ys := vs ++ [v]) (.inr rfl) hD6 fr0.1 fr0.2 no
          refine ⟨fun b o w e => ?_, gg.draw⟩
          rw [upd_ne (fun z => by rw [z, hD] at e; cases e)]
          exact st.keep b o w e
  · rintro H2 ⟨vs, acc, g2, hD2, r2, hF2, s2, q2⟩
    rw [List.drop_length] at q2
    exact k _ _ ⟨acc, D, vs, rfl, s1.trans s2, hDs, hD2, r2, q2⟩
section
variable {X : Cx} {elt tg iter : Expr} {ifs : List Expr} {scope : Scope} {own : List (Str × Nat)} {is : List Nat} {pos : Pos} {ti : IT} {g : GT} {tt : BT} {te : ET}
theorem dn_lc (hc : X.calm = true) (hN : X.N.Nodup) (hi : DI X tg iter ti) (ok : BlkOk X.N X.env.scope scope own) (hsub : ∀ i ∈ is, i ∈ own.map (·.2))
    (hg : ∀ (s : Shared) (H : Hp) (C : Addr) (cl : List (Str × Addr)) (fp : List Addr), DG (X.blk s H scope (compEnvC scope cl C X.env) fp) tg is g) (ht : ∀ (s : Shared) (H : Hp) (C : Addr) (cl : List (Str × Addr)) (fp : List Addr), DTs (X.blk s H scope (compEnvC scope cl C X.env) fp) ifs tt)
    (he : ∀ (s : Shared) (H : Hp) (C : Addr) (cl : List (Str × Addr)) (fp : List Addr), DE (X.blk s H scope (compEnvC scope cl C X.env) fp) elt te) (hs : ∀ x, foldedSetIterable iter X.env x = pure x := by intro _; rfl) :
    DN X (.ListComp elt [⟨tg, iter, ifs, 0⟩] scope pos) (nComp (own.map (·.2)) ti g tt te) :=
  .of (pe_lc hc hN hi.pi ok (fun s H C cl fp => (hg s H C cl fp).pg) (fun s H C cl fp => (ht s H C cl fp).pts) (fun s H C cl fp => (he s H C cl fp).pe0) hs) (lc_lift hsub)
end
section
variable {X : Cx} {c : Ctx} {E : XP} {O : Addr → Prop} {η : EnvD} {σ : L2.St} {H H1 : Hp}
theorem Gd.set (g : Gd X c E O η σ H) (i : Nat) {x : V} {d : D} (r : Rep X.K O H x d) : Gd X c E O (η.set i (.dat d)) (σ.set i (some x)) H := ⟨g.toGood.set i r, g.er⟩
theorem Gd.unset (g : Gd X c E O η σ H) (i : Nat) : Gd X c E O (η.set i .un) (σ.set i none) H := ⟨g.toGood.unset i, g.er⟩
theorem Gd.wipe (g : Gd X c E O η σ H) (vs : List Nat) : Gd X c E O (wipeD η vs) (L2.wipe σ vs) H := ⟨g.toGood.wipe vs, g.er⟩
theorem Gd.lend (g : Gd X c E O η σ H) : Gd X c E c.B (lend η) σ H := ⟨g.toGood.lend, g.er⟩
theorem Gd.mut (g : Gd X c E O η σ H) {a : Addr} {xs ys : List V} (oa : O a) (ha : H a = some (.lst xs)) (nw : ¬ Wr c.G a) (h0 : c.H0 a = none) (no : ∀ (i : Nat) (x : Cell), η[i]? = some x → ¬ foot x (σ[i]?.join) a) : Gd X c E O η σ (upd H a (.lst ys)) := ⟨g.toGood.mut oa ha nw h0 no, g.er⟩
theorem Gd.more (g : Gd X c E O η σ H) (st : Step c.G H H1) {a : Addr} {ys : List V} (h : H a = none) (h1 : H1 a = some (.lst ys)) : Gd X c E (fun b => O b ∨ b = a) η σ H1 := ⟨g.toGood.more st h h1, g.er⟩
end
end DL

/-! DL6: statements. -/
namespace DL
open PySem PySem.Spec PyProof.Rows L2
/-! lengths of targets -/
def GX (g : GT) : Prop := ∀ d η Q, g d η Q → ∃ η', Q η'
def GL (gs : GTs) (n : Nat) : Prop := ∀ ds η Q, gs ds η Q → ds.length = n ∧ ∃ η', Q η'
theorem gx_n (i : Nat) : GX (gN i) := fun d η Q h => ⟨_, h⟩
theorem gl_nil : GL gNil' 0 := fun ds η Q h => by
  cases ds with
  | nil => exact ⟨rfl, _, h⟩
  | cons _ _ => exact h.elim
theorem gl_cons {g : GT} {gs : GTs} {n : Nat} (h1 : GX g) (h2 : GL gs n) : GL (gCons' g gs) (n + 1) := fun ds η Q h => by
  cases ds with
  | nil => exact h.elim
  | cons d r =>
    obtain ⟨η', h'⟩ := h1 _ _ _ h
    obtain ⟨e, q⟩ := h2 _ _ _ h'
    exact ⟨by rw [List.length_cons, e], q⟩
section
variable {X : Cx} {e : Expr} {es rest : List Expr} {pos p : Pos} {t : ET} {ts : AT} {K : PySem.W.Frag}
abbrev NPr : EnvD → Prop := fun _ => True
/-- behind an expression in the lent state: the state as it was -/
theorem lend_lift {σ : L2.St} {H : Hp} {c : Ctx} {O : Addr → Prop} {η : EnvD} {E : XP} {Q : D → Prop} {R : VK} (g : Gd X c E O η σ H) (h : t E (lend η) Q) (k : ∀ d v H', Step c.G H H' → Rep X.K c.B H' v d → Q d → Gd X c E O η σ H' → R v H') : liftE X t σ H R :=
  ⟨c, c.B, lend η, E, Q, g.lend, h, fun d v H' s r q => k d v H' s r q (g.step s)⟩
theorem lend_liftB {t : BT} {σ : L2.St} {H : Hp} {c : Ctx} {O : Addr → Prop} {η : EnvD} {E : XP} {Q : Bool → Prop} {R : Bool → Hp → Prop} (g : Gd X c E O η σ H) (h : t E (lend η) Q) (k : ∀ b H', Step c.G H H' → Q b → Gd X c E O η σ H' → R b H') : liftB X t σ H R :=
  ⟨c, c.B, lend η, E, Q, g.lend, h, fun b H' s q => k b H' s q (g.step s)⟩

/-! name = e -/
def sSet (i : Nat) (t : ET) : SD := fun E z η => t E η fun d => z.nx (η.set i (.dat d))
def sSetL (i : Nat) (t : ET) : SD := fun E z η => t E (lend η) fun d => flat d = true ∧ z.nx (η.set i (.dat d))
def sOwn (i : Nat) (t : NT) : SD := fun E z η => t E η fun ds => z.nx (η.set i (.own ds))
def sOwnL (i : Nat) (t : NT) : SD := fun E z η => t E (lend η) fun ds => flatAll ds = true ∧ z.nx (η.set i (.own ds))
variable {x : Str} {pos' : Pos} {i : Nat}
theorem ds_set (i : Nat) {x : Str} {pos' : Pos} (hN : X.N.Nodup) (he : DE X e t) (hi : X.N[i]? = some x := by rfl) (hx : Loc X.env.scope x := by first | exact Or.inl rfl | exact Or.inr rfl) (hs : swapsWith e (some (.Name x pos')) pos.line X.env = pure false := by rfl)
    (hf : X.fn x = true ∨ X.env.scope.names.lookup x = some .local := by first | exact .inl rfl | exact .inr rfl) : DS X (.Assign [.Name x pos'] e pos) (sSet i t) := .of (ps_set (i := i) hN hi hx he.pe hs hf) fun σ H c O η E z g h =>
  ⟨c, O, η, E, _, g, h, fun d v H' s r q => ⟨O, _, (g.step s).set i r, q⟩⟩
/-- a new list as plain data: y = [..] -/
def sNew (i : Nat) (t : NT) : SD := fun E z η => t E η fun ds => z.nx (η.set i (.dat (.list ds)))
/-! y = [..] in one row, y a local: the comprehension's own store -/
section
variable {elt tg iter : Expr} {ifs : List Expr} {scope : Scope} {own : List (Str × Nat)} {is : List Nat} {cpos : Pos} {ti : IT} {g : GT} {tt : BT} {te : ET} {y : Str} {py : Pos}
end

/-! return, if, an expression alone -/
def sRet (t : ET) : SD := fun E z η => t E (lend η) z.rt
theorem ds_ret (h : DE X e t) : DS X (.Return (some e) pos) (sRet t) := .of (ps_ret h.pe) fun σ H c O η E z g ht => lend_lift g ht fun d v H' s r q g' => ⟨d, g'.keep, g'.draw, .inl r, q⟩
def sRetN : SD := fun _ z _ => z.rt .none
def sIf (b : BT) (t u : SD) : SD := fun E z η => b E (lend η) fun k => if k = true then t E z η else u E z η
theorem ds_if {cnd : Expr} {a b : List Stmt} {tb : BT} {t u : SD} (hc : DT X cnd tb) (ha : DSs X a t) (hb : DSs X b u) : DS X (.If cnd a b pos) (sIf tb t u) := .of (ps_if hc.pt ha.pss hb.pss) fun σ H c O η E z g h =>
  lend_liftB g h fun k H' s q g' => by
    cases k with
    | true => exact ⟨c, O, η, E, z, g', q, fun _ _ q => q, fun _ _ q => q, fun _ _ q => q, fun _ _ q => q⟩
    | false => exact ⟨c, O, η, E, z, g', q, fun _ _ q => q, fun _ _ q => q, fun _ _ q => q, fun _ _ q => q⟩
def sDrop (t : ET) : SD := fun E z η => t E (lend η) fun _ => z.nx η
def sBreak : SD := fun _ z η => z.bk η
def sCont : SD := fun _ z η => z.ct η
def sNever : SD := fun _ _ _ => False
/-! what is owned becomes plain -/
def frz (i : Nat) (η : EnvD) : EnvD := match η[i]? with | some (.own ds) => η.set i (.dat (.list ds)) | _ => η
theorem Good.frz {c : Ctx} {O : Addr → Prop} {η : EnvD} {σ : L2.St} {H : Hp} (g : Good K c O η σ H) (i : Nat) : ∃ O', Good K c O' (DL.frz i η) σ H := by
  unfold DL.frz
  split
  · rename_i ds hi
    obtain ⟨a, xs, e, ha, oa, nb, h0, r⟩ := g.cell i _ hi
    have w : ∀ b, (O b ∧ b ≠ a) → O b := fun b h => h.1
    refine ⟨fun b => O b ∧ b ≠ a, by rw [List.length_set, g.len], fun b h => ⟨g.hB b h, fun z => nb (by rw [← z]; exact h)⟩, g.hW, fun b h => g.hT b h.1, g.keep, g.draw, fun j y hj => ?_, fun j k x y b h1 h2 h3 h4 => ?_, fun p hp => (g.fr p hp).weak w⟩
    · by_cases ej : i = j
      · subst ej
        rw [List.getElem?_set_self (List.getElem?_eq_some_iff.mp hi).1] at hj
        cases hj
        exact ⟨.ref a, e, .lst (fun z => z.2 rfl) ha (r.weak w)⟩
      · rw [List.getElem?_set_ne ej] at hj
        have q := g.cell j y hj
        cases y with
        | un => trivial
        | dat d => obtain ⟨v, e1, r1⟩ := q; exact ⟨v, e1, r1.weak w⟩
        | own es =>
          obtain ⟨b, zs, e1, hb, ob, nb1, h01, r1⟩ := q
          exact ⟨b, zs, e1, hb, ⟨ob, fun z => ej (g.inj i j ds es a hi hj e (by rw [← z]; exact e1))⟩, nb1, h01, r1.weak w⟩
        | drw => exact q
        | obj a o => exact ⟨q.1, fun p hp => (q.2 p hp).imp fun y r => ⟨r.1, r.2.weak w⟩⟩
        | scr ns => exact q
        | mtb p d fp =>
          obtain ⟨x, e1, r1, k1, k2, k3, k4⟩ := q
          exact ⟨x, e1, r1, k1, k2, fun b hb => ⟨⟨(k3 b hb).1, fun z => ej (g.dis i j _ _ a hi hj e (show a ∈ fp from z ▸ hb))⟩, (k3 b hb).2⟩, k4⟩
        | lin nm fs => obtain ⟨x, e1, r1⟩ := q; exact ⟨x, e1, r1.map (fun b u nb e => ⟨fun z => nb z.1, e⟩) fun _ _ e => e⟩
        | ist p nm fs fp =>
          obtain ⟨x, e1, r1, k1, k2, k3, k4⟩ := q
          exact ⟨x, e1, r1, k1, k2, fun b hb => ⟨⟨(k3 b hb).1, fun z => ej (g.dis i j _ _ a hi hj e (show a ∈ fp from z ▸ hb))⟩, (k3 b hb).2⟩, k4⟩
    · have ne : ∀ {m : Nat} {u : Cell} {v : Option V}, (η.set i (.dat (.list ds)))[m]? = some u → foot u v b → i ≠ m := fun {m u v} q f z => by
        subst z
        rw [List.getElem?_set_self (List.getElem?_eq_some_iff.mp hi).1] at q
        cases q
        exact f
      rw [List.getElem?_set_ne (ne h1 h3)] at h1
      rw [List.getElem?_set_ne (ne h2 h4)] at h2
      exact g.dis j k _ _ b h1 h2 h3 h4
  · exact ⟨O, g⟩
theorem Gd.frz {c : Ctx} {E : XP} {O : Addr → Prop} {η : EnvD} {σ : L2.St} {H : Hp} (g : Gd X c E O η σ H) (i : Nat) : ∃ O', Gd X c E O' (DL.frz i η) σ H := (g.toGood.frz i).imp fun _ h => ⟨h, g.er⟩
def sFrz (i : Nat) (t : SD) : SD := fun E z η => t E z (frz i η)
/-! x.append(e), x.extend(e) -/
def onOwn (o : Option Cell) (k : List D → Prop) : Prop := match o with | some (.own ds) => k ds | _ => False
def onList (d : D) (k : List D → Prop) : Prop := match d with | .list es => k es | _ => False
def onInt (d : D) (k : Int → Prop) : Prop := match d with | .int n => k n | _ => False
def onCInt (o : Option Cell) (k : Int → Prop) : Prop := match o with | some (.dat (.int n)) => k n | _ => False
def sApp (i : Nat) (t : ET) : SD := fun E z η => onOwn η[i]? fun ds => t E η fun d => ds.length < sizeLine ∧ z.nx (η.set i (.own (ds ++ [d])))
def sAppL (i : Nat) (t : ET) : SD := fun E z η => onOwn η[i]? fun ds => t E (lend η) fun d => flat d = true ∧ ds.length < sizeLine ∧ z.nx (η.set i (.own (ds ++ [d])))
def sExtL (i : Nat) (t : ET) : SD := fun E z η => onOwn η[i]? fun ds => t E (lend η) fun d => onList d fun es => flatAll es = true ∧ ds.length + es.length ≤ sizeLine ∧ z.nx (η.set i (.own (ds ++ es)))
theorem own_out {c : Ctx} {O : Addr → Prop} {η : EnvD} {σ : L2.St} {H : Hp} (g : Good K c O η σ H) {i : Nat} {ds : List D} (hi : η[i]? = some (.own ds)) : ∃ a xs, σ[i]? = some (some (.ref a)) ∧ H a = some (.lst xs) ∧ O a ∧ ¬ c.B a ∧ c.H0 a = none ∧ RepAll K O H xs ds := by
  obtain ⟨a, xs, e, r⟩ := g.cell i _ hi
  refine ⟨a, xs, ?_, r⟩
  cases q : σ[i]? with
  | none => rw [q] at e; cases e
  | some w => rw [q] at e; exact congrArg some e
theorem Good.grown {c : Ctx} {O : Addr → Prop} {η : EnvD} {σ : L2.St} {H : Hp} (g : Good K c O η σ H) {i : Nat} {ds : List D} (hi : η[i]? = some (.own ds)) {a : Addr} (ea : σ[i]? = some (some (.ref a))) {ys : List V} {es : List D} (r : RepAll K O H ys es) :
    Good K c O (η.set i (.own es)) σ (upd H a (.lst ys)) := by
  obtain ⟨a', xs, e, ha, oa, nb, h0, _⟩ := own_out g hi
  rw [ea] at e
  cases e
  have nw : ¬ Wr c.G a := fun z => nb (g.hW a z)
  -- the slot is emptied first
  have gi : Good K c O (η.set i .un) (σ.set i none) H := g.unset i
  have no : ∀ (j : Nat) (x : Cell), (η.set i .un)[j]? = some x → ¬ foot x ((σ.set i none)[j]?.join) a := fun j x hj q => by
    by_cases ej : i = j
    · subst ej
      rw [List.getElem?_set_self (List.getElem?_eq_some_iff.mp hi).1] at hj
      cases hj
      exact q
    · rw [List.getElem?_set_ne ej] at hj q
      exact ej (g.dis i j _ _ a hi hj (by rw [ea]; rfl) q)
  have g1 := gi.mut (ys := ys) oa ha nw h0 no
  refine ⟨by rw [List.length_set, g.len], g1.hB, g1.hW, g1.hT, g1.keep, g1.draw, fun j y hj => ?_, fun j k x y b h1 h2 h3 h4 => ?_, g1.fr⟩
  · by_cases ej : i = j
    · subst ej
      rw [List.getElem?_set_self (List.getElem?_eq_some_iff.mp hi).1] at hj
      cases hj
      exact ⟨a, ys, by rw [ea]; rfl, upd_same, oa, nb, h0, r.upd oa ha⟩
    · rw [List.getElem?_set_ne ej] at hj
      have q := g1.cell j y (by rw [List.getElem?_set_ne ej]; exact hj)
      rwa [List.getElem?_set_ne ej] at q
  · have there : ∀ {m : Nat} {u : Cell}, (η.set i (.own es))[m]? = some u → foot u (σ[m]?.join) b → ∃ u', η[m]? = some u' ∧ foot u' (σ[m]?.join) b := fun {m u} q f => by
      by_cases e : i = m
      · subst e
        rw [List.getElem?_set_self (List.getElem?_eq_some_iff.mp hi).1] at q
        cases q
        exact ⟨_, hi, f⟩
      · rw [List.getElem?_set_ne e] at q; exact ⟨u, q, f⟩
    obtain ⟨u1, q1, f1⟩ := there h1 h3
    obtain ⟨u2, q2, f2⟩ := there h2 h4
    exact g.dis j k u1 u2 b q1 q2 f1 f2
theorem Gd.grown {c : Ctx} {E : XP} {O : Addr → Prop} {η : EnvD} {σ : L2.St} {H : Hp} (g : Gd X c E O η σ H) {i : Nat} {ds : List D} (hi : η[i]? = some (.own ds)) {a : Addr} (ea : σ[i]? = some (some (.ref a))) {ys : List V} {es : List D} (r : RepAll X.K O H ys es) : Gd X c E O (η.set i (.own es)) σ (upd H a (.lst ys)) := ⟨g.toGood.grown hi ea r, g.er⟩
section
variable {apos npos : Pos}
end

/-! for, while -/
def forD (g : GT) (tb : SD) (E : XP) (z : EndsD) : List D → EnvD → Prop
  | [], η => z.nx η
  | d :: ds, η => g d η fun η1 => tb E { nx := forD g tb E z ds, rt := z.rt, bk := z.nx, ct := forD g tb E z ds } η1
def sFor (ti : IT) (g : GT) (tb : SD) : SD := fun E z η => ti E η fun ds => forD g tb E z ds η
theorem Good.frame {c : Ctx} {O : Addr → Prop} {η : EnvD} {σ : L2.St} {H : Hp} (g : Good K c O η σ H) {F : List (V × D)} (h : ∀ p ∈ F, Rep K O H p.1 p.2) : Good K { c with fr := F ++ c.fr } O η σ H where
  len := g.len
  hB := g.hB
  hW := g.hW
  hT := g.hT
  keep := g.keep
  draw := g.draw
  cell := g.cell
  dis := g.dis
  fr := fun p hp => (List.mem_append.mp hp).elim (h p) (g.fr p)
theorem Good.unframe {c : Ctx} {F : List (V × D)} {O : Addr → Prop} {η : EnvD} {σ : L2.St} {H : Hp} (g : Good K { c with fr := F ++ c.fr } O η σ H) : Good K c O η σ H where
  len := g.len
  hB := g.hB
  hW := g.hW
  hT := g.hT
  keep := g.keep
  draw := g.draw
  cell := g.cell
  dis := g.dis
  fr := fun p hp => g.fr p (List.mem_append_right _ hp)
theorem Gd.frame {c : Ctx} {E : XP} {O : Addr → Prop} {η : EnvD} {σ : L2.St} {H : Hp} (g : Gd X c E O η σ H) {F : List (V × D)} (h : ∀ p ∈ F, Rep X.K O H p.1 p.2) : Gd X { c with fr := F ++ c.fr } E O η σ H := ⟨g.toGood.frame h, g.er⟩
theorem Gd.unframe {c : Ctx} {E : XP} {F : List (V × D)} {O : Addr → Prop} {η : EnvD} {σ : L2.St} {H : Hp} (g : Gd X { c with fr := F ++ c.fr } E O η σ H) : Gd X c E O η σ H := ⟨g.toGood.unframe, g.er⟩
theorem ds_for {tg iter : Expr} {body : List Stmt} {ti : IT} {is : List Nat} {g : GT} {tb : SD} (hp : PassesOwn (model X.prog X.w) X.A X.env X.xe) (hc : X.calm = true) (hi : DI X tg iter ti) (hg : DG X tg is g) (hb : DSs X body tb) (hs : ∀ x, foldedSetIterable iter X.env x = pure x := by intro _; rfl) :
    DS X (.For tg iter body [] pos) (sFor ti g tb) := .of (ps_for hp hc hi.pi hg.pg hb.pss hs) fun σ H c O η E z gd h => by
  refine ⟨c, O, η, E, _, gd, h, fun J H1 ds F s1 hF w q => ?_⟩
  have g1 := (gd.step s1).frame hF
  refine for_it w (fun i σ2 H2 => ∃ O2 η2, Gd X { c with fr := F ++ c.fr } E O2 η2 σ2 H2 ∧ forD g tb E z (ds.drop i) η2) ⟨O, η, g1, q⟩ ?_ ?_ ?_
  · rintro i σ2 H2 _ ⟨O2, η2, g2, _⟩
    exact ⟨O2, fun p hp => g2.fr p (List.mem_append_left _ hp)⟩
  · rintro i x σ2 H2 H3 hi ⟨O2, η2, g2, q2⟩ ⟨d, hd, sm, hx⟩
    have ed : ds.drop i = d :: ds.drop (i + 1) := by
      obtain ⟨hl, he⟩ := List.getElem?_eq_some_iff.mp hd
      rw [List.drop_eq_getElem_cons hl, he]
    rw [ed] at q2
    refine ⟨_, O2, η2, d, _, (g2.step (.same g2.draw sm)).toGood, hx O2 fun p hp => g2.fr p (List.mem_append_left _ hp), q2, fun σ4 η4 g4 _ _ q4 => ?_⟩
    exact ⟨_, O2, η4, E, _, ⟨g4, g2.er⟩, q4, fun _ _ q => q, fun _ _ q => q, fun _ _ ⟨O5, η5, g5, q5⟩ => ⟨O5, η5, g5.unframe, q5⟩, fun _ _ q => q⟩
  · rintro σ2 H2 ⟨O2, η2, g2, q2⟩
    rw [List.drop_length] at q2
    exact ⟨O2, η2, g2.unframe, q2⟩
def whileD (b : BT) (tb : SD) (E : XP) (z : EndsD) : Nat → EnvD → Prop
  | 0, _ => False
  | n + 1, η => b E (lend η) fun k => if k = true then tb E { nx := whileD b tb E z n, rt := z.rt, bk := z.nx, ct := whileD b tb E z n } η else z.nx η
def sWhile (b : BT) (tb : SD) : SD := fun E z η => ∃ n, whileD b tb E z n η
/-! x += e, (a, b) = e -/
def sAug (i : Nat) (t : ET) : SD := fun E z η => onCInt η[i]? fun m => t E (lend η) fun d => onInt d fun n => z.nx (η.set i (.dat (.int (m + n))))
def sAsg (t : ET) (g : GT) : SD := fun E z η => t E η fun d => g d η z.nx
theorem ds_asg {tg : Expr} {is : List Nat} {g : GT} (he : DE X e t) (hg : DG X tg is g) (hs : swapsWithSole [tg] e pos.line X.env = pure false := by rfl) (hw : swappedStores [tg] e X.env = pure none := by rfl) (h1 : (assignEach [tg] X.env).map (·.2) = [assign tg X.env] := by rfl) :
    DS X (.Assign [tg] e pos) (sAsg t g) := .of (ps_asg he.pe hg.pg hs hw h1) fun σ H c O η E z gd h =>
  ⟨c, O, η, E, _, gd, h, fun d v H' s r q => ⟨c, O, η, d, _, (gd.step s).toGood, r, q, fun σ' η' g' _ _ q' => ⟨O, η', ⟨g', gd.er⟩, q'⟩⟩⟩
/-! (x, y) = (a, b), plain or new -/
/-- what an argument list gives: plain things and new lists -/
abbrev MT := XP → EnvD → (List Cell → Prop) → Prop
def lenScr (i : Nat) : ET := fun _ η Q => match η[i]? with | some (.scr ns) => Q (.int ns.length) | _ => False
theorem de_lenScr (i : Nat) {x : Str} {npos : Pos} (hg : Gl X "len") (hm : X.mg "len" = none) (hN : X.N[i]? = some x := by rfl) (hv : Vis X.env.scope x := by first | exact Or.inl rfl | exact Or.inr (Or.inl rfl) | exact Or.inr (Or.inr rfl)) (hd : (x == ("__debug__" : Str)) = false := by decide) (hcd : (x == ("__classdict__" : Str)) = false := by decide)
    (he : starEach [.Name x npos] X.env = (false, eval (.Name x npos) X.env) :: starEach [] X.env := by rfl) : DE X (.Call (.Name "len" p) [.Name x npos] [] pos) (lenScr i) := .of (pe_callB call_len_seq hg hm PySem.boot_len (pa_cons (pe_var hN hv hd hcd) pa_nil he)) fun σ H c O η E Q g h => by
  unfold lenScr at h
  split at h
  · rename_i ns hi
    obtain ⟨a, ea, r⟩ := g.cell i _ hi
    have es : σ[i]? = some (some (.ref a)) := by
      cases q : σ[i]? with
      | none => rw [q] at ea; cases ea
      | some w => rw [q] at ea; exact congrArg some ea
    exact ⟨.ref a, es, a, _, rfl, .inl r.sq, .int ns.length, .refl g.draw, by rw [List.length_map]; exact .int _, h⟩
  · exact h.elim
end
end DL

/-! DL7: defs, calls, the law's end. -/
namespace DL
open PySem PySem.Spec PyProof.Rows L2
/-- a def keeps its promise where no repr is under way -/
structure FnG (P : Program) (w : World) (K : PySem.W.Frag) (mg : Str → Option Value) (base : Heap) (CX : CXT) (k : Nat) (f : Addr) (fd : FuncData) (ps : List Str) (sp : Sp) : Prop where
  len : ∀ vs H Q E, sp vs H Q E → vs.length = ps.length
  run : ∀ (A : Around) (outer : List Env) (s : Shared) (H : Hp) (args : Args) (us : List Value) (vs : List V) (Q : VK) (E : XK), A.guards = some [] → Room k A → Env0 P w K mg base A outer s H → BindsTo s fd args (ps.zip us) → Vals vs us →
    sp vs H Q E → codeAny (model P w) A (.call (.ref f) args) (CR CX outer P w H s Q E) s
section
variable {P : Program} {w : World} {K : PySem.W.Frag} {mg : Str → Option Value} {base : Heap} {CX : CXT} {k : Nat} {f : Addr} {fd : FuncData} {ps N : List Str} {sp : Sp}
theorem FnG.mono {j : Nat} (F : FnG P w K mg base CX j f fd ps sp) (h : j ≤ k) : FnG P w K mg base CX k f fd ps sp := ⟨F.len, fun A outer s H args us vs Q E hg hr => F.run A outer s H args us vs Q E hg (hr.mono h)⟩
/-- from its body -/
theorem fnG_of {x qual : Str} {st : Stmt} (F : Fun K x qual st f fd) (S : FnScope N ps (defScope st)) (len : ∀ vs H Q E, sp vs H Q E → vs.length = ps.length)
    (hbody : ∀ (cdv : Value) (A : Around) (outer : List Env) (s : Shared) (H : Hp) (vs : List V) (Q : VK) (E : XK), A.guards = some [] → Room k (A.deeper (envOfC qual (defScope st) s.heap.objs.size f cdv)) → sp vs H Q E →
      ∃ t, PSs (cxOf CX P w K mg base N qual (defScope st) f cdv A outer s H E) (defBody st) t ∧ t { nx := fun _ H' => Q .non H', rt := Q } (start N vs) H) : FnG P w K mg base CX (k + 1) f fd ps sp := by
  obtain ⟨oc, od, kV, doc, pm, an, cdv, ct, osl, rfl, lk, hcd⟩ := F.ex
  refine ⟨len, fun A outer s H args us vs Q E hg hr e0 hb r hsp => ?_⟩
  have hl := len _ _ _ _ hsp
  have inH : ∀ b o, base.get? b = some o → s.heap.get? b = some o := fun b o e => (e0.bs b o e).1
  have KX : K.In s.heap := e0.mod.kin.keeps inH
  have lim : s.heap.NoLimit := e0.mod.nolimit.keeps inH
  have kinds : ∀ y ∈ ps.zip us, (defScope st).names.lookup y.1 = some .local ∨
      ((defScope st).names.lookup y.1 = some .cell ∧ ((cellsFrom (s.heap.objs.size + 1) (defScope st).names []).lookup y.1).isSome = true) := by
    intro y hy
    have hm := (List.of_mem_zip (a := y.1) (b := y.2) hy).1
    exact (S.par y.1 hm).imp id fun q => ⟨q, PySem.W.cellsFrom_some _ _ _ (.inl q)⟩
  refine codeAny_call_function hr.depth (KX _ _ lk) rfl S.co S.gen rfl (PySem.W.codeRec_of KX hcd) (hb _ _ _ _ ?_)
  refine wpAny_newFunctionEnv_cells S.kind kinds fun env he s1 IC => ?_
  subst he
  refine ⟨lim.keeps IC.toInCall.keep, codeAny_func ?_⟩
  obtain ⟨t, ht, hq⟩ := hbody cdv A outer s H vs Q E hg (hr.deeper _) hsp
  have I := inv_start (CX := CX) (E := E) S hr.hd e0 hl r IC
  have leave : ∀ {σ' : L2.St} {H' : Hp} {v : V} {u : Value} {s' : Shared}, Inv (cxOf CX P w K mg base N qual (defScope st) f cdv A outer s H E) [] σ' H' s' → RelV v u → Q v H' → CE outer P w H s Q u s' :=
    fun J rv q => ⟨_, _, J.os, J.bare, J.base, J.hok, rv, q⟩
  refine wpAny_mono (ht.run [] s1 (start N vs) H _ I hq) (fun fl s' hs => ?_) fun e s' hs => hs
  match fl, hs with
  | .ret u, ⟨v, σ', H', J, rv, q⟩ => exact leave J rv q
  | .next, ⟨σ', H', J, q⟩ => exact leave (v := .non) J rfl q
  | .brk, ⟨_, _, _, q⟩ => exact q.elim
  | .cont, ⟨_, _, _, q⟩ => exact q.elim
end
section
variable {X : Cx} {CX : CXT} {k : Nat} {f : Addr} {fd : FuncData} {ps : List Str} {sp : Sp} {E : XK} {x : Str} {p pos : Pos} {e : Expr} {es : List Expr} {t : TA}
theorem run_fnG {pins : List (Addr × Obj)} {σ : L2.St} {H : Hp} {s : Shared} {Q : VK} {us : List Value} {vs : List V} (F : FnG X.prog X.w X.K X.mg X.base CX k f fd ps sp) (hgd : X.A.guards = some []) (hr : Room k X.A) (hb : Binds X.K fd ps []) (hx : Passes CX X E)
    (I : Inv X pins σ H s) (r : Vals vs us) (h : sp vs H Q E) : wpAny (model X.prog X.w) X.A (call (.ref f) us) (EP X pins σ Q) X.xe s := by
  have hl : (us ++ []).length = ps.length := by rw [List.append_nil, ← r.length]; exact F.len _ _ _ _ h
  have hb' := hb s us I.kIn hl
  rw [List.append_nil] at hb'
  refine wpAny_call (codeAny_mono (F.run X.A X.stack s H ⟨us, []⟩ us vs Q E hgd hr I.env0 hb' r h) fun out s' hq => ?_)
  match out, hq with
  | .error e, hq => exact hx pins σ H s e s' I hq
  | .ok (.ret u), hq => exact I.after hq
theorem pe_callG (F : FnG X.prog X.w X.K X.mg X.base CX k f fd ps sp) (hgd : X.A.guards = some []) (hr : Room k X.A) (hg : Gl X x) (hm : X.mg x = some (.ref f)) (hk : PySem.W.keepIn X.K (.ref f) = true) (hb : Binds X.K fd ps []) (hx : Passes CX X E) (ha : PA X (e :: es) t)
    (hdb : (x == ("__debug__" : Str)) = false := by decide) (he : starEach (e :: es) X.env = (false, eval e X.env) :: starEach es X.env := by rfl) (hpl : (backTo pos (starEach es X.env)).any (·.1) = false := by rfl) :
    PE X (.Call (.Name x p) (e :: es) [] pos) (tCB (fun vs H Q => sp vs H Q E) t) := ⟨fun pins s σ H Q I h =>
  wpAny_Call_Name_kw (ld_glob I hg hm (PySem.W.callWith_K (h₀ := X.base) I.ok.mod.kin hk (thn (ha.run pos pins s σ H _ I h) fun us s1 ⟨vs, H1, I1, r, q⟩ => ⟨I1.kIn, run_fnG F hgd hr hb hx I1 r q⟩) he hpl) hdb)⟩
theorem pe_callG0 (F : FnG X.prog X.w X.K X.mg X.base CX k f fd ps sp) (hgd : X.A.guards = some []) (hr : Room k X.A) (hg : Gl X x) (hm : X.mg x = some (.ref f)) (hk : PySem.W.keepIn X.K (.ref f) = true) (hb : Binds X.K fd ps []) (hx : Passes CX X E)
    (hdb : (x == ("__debug__" : Str)) = false := by decide) : PE X (.Call (.Name x p) [] [] pos) (tCB (fun vs H Q => sp vs H Q E) tNil) := ⟨fun pins s σ H Q I h =>
  wpAny_Call_Name_kw (ld_glob I hg hm (PySem.W.callWith_K0 I.kIn hk (run_fnG (us := []) F hgd hr hb hx I .nil h)) hdb)⟩
end

/-! ### promises over data -/
def ArgOk (K : PySem.W.Frag) (B : Addr → Prop) (G : Option (Addr × Addr)) (H : Hp) (v : V) : Cell → Prop
  | .dat d => Rep K B H v d
  | .drw => ∃ a g, v = .ref a ∧ G = some (a, g)
  | .lin nm fs => InsAt K B H v nm fs
  | _ => False
def ArgsOk (K : PySem.W.Frag) (B : Addr → Prop) (G : Option (Addr × Addr)) (H : Hp) : List V → List Cell → Prop := Paired (ArgOk K B G H)
abbrev FT := XP → List Cell → (D → Prop) → Prop
/-- what a def over data promises -/
def spD (K : PySem.W.Frag) (n : Nat) (wf : FT) : Sp := fun vs H Q _ => vs.length = n ∧ ∃ B G cs R, (∀ a, B a → H a ≠ none) ∧ (∀ a, Wr G a → B a) ∧ DrawOk G H ∧ ArgsOk K B G H vs cs ∧ wf never cs R ∧ ∀ d v H', Step G H H' → Rep K B H' v d → R d → Q v H'
abbrev FnD (P : Program) (w : World) (K : PySem.W.Frag) (mg : Str → Option Value) (base : Heap) (k : Nat) (f : Addr) (fd : FuncData) (ps : List Str) (wf : FT) : Prop := FnG P w K mg base CX0 k f fd ps (spD K ps.length wf)
/-- a body's run -/
def bodyD (m n : Nat) (t : SD) : FT := fun E cs Q => cs.length = m ∧ t E { nx := fun _ => Q .none, rt := Q } (cs ++ List.replicate (n - cs.length) .un)
theorem bodyD_len {m n : Nat} {t : SD} : ∀ cs R, bodyD m n t never cs R → cs.length = m := fun _ _ h => h.1
theorem arg_cell {K : PySem.W.Frag} {B : Addr → Prop} {G : Option (Addr × Addr)} {H : Hp} {v : V} : ∀ {x : Cell}, ArgOk K B G H v x → CellOk K ⟨B, G, H, [], []⟩ B H (some v) x
  | .dat _, r => ⟨v, rfl, r⟩
  | .drw, ⟨a, g, e1, e2⟩ => ⟨a, g, congrArg some e1, e2⟩
  | .lin _ _, r => ⟨v, rfl, r⟩
theorem args_cell {K : PySem.W.Frag} {B : Addr → Prop} {G : Option (Addr × Addr)} {H : Hp} {x : Cell} : ∀ {vs : List V} {cs : List Cell} {i : Nat}, ArgsOk K B G H vs cs → cs[i]? = some x → CellOk K ⟨B, G, H, [], []⟩ B H (vs[i]?.map some).join x
  | _, _, _, .nil, e => by simp at e
  | _, _, 0, .cons r t, e => by
    simp at e
    subst e
    exact arg_cell r
  | _, _, i + 1, .cons r t, e => by
    have := args_cell (i := i) t (by simpa using e)
    simpa using this
theorem start_good {K : PySem.W.Frag} {B : Addr → Prop} {G : Option (Addr × Addr)} {H : Hp} {N : List Str} (hB : ∀ a, B a → H a ≠ none) (hW : ∀ a, Wr G a → B a) (hd : DrawOk G H) {vs : List V} {cs : List Cell} (ha : ArgsOk K B G H vs cs) :
    Good K ⟨B, G, H, [], []⟩ B (cs ++ List.replicate (N.length - cs.length) .un) (start N vs) H := by
  have hl : vs.length = cs.length := Paired.length ha
  have own : ∀ (i : Nat) (x : Cell) (v : Option V) (b : Addr), (cs ++ List.replicate (N.length - cs.length) Cell.un)[i]? = some x → ¬ foot x v b := fun i x v b e f => by
    by_cases hi : i < cs.length
    · rw [List.getElem?_append_left hi] at e
      have : ∀ {vs : List V} {cs : List Cell} {i : Nat}, ArgsOk K B G H vs cs → cs[i]? = some x → False := by
        intro vs cs i h
        induction h generalizing i with
        | nil => simp
        | cons r t ih =>
          cases i with
          | zero => intro e; simp at e; rw [e] at r; cases x <;> first | exact r | exact f
          | succ i => simpa using ih
      exact this ha e
    · rw [List.getElem?_append_right (by omega), List.getElem?_replicate] at e
      split at e <;> cases e
      exact f
  refine ⟨?_, fun _ h => h, hW, hB, fun _ _ _ e => e, hd, fun i x h => ?_, fun i j x y b h1 _ f _ => absurd f (own i x _ b h1), fun p hp => absurd hp (by simp)⟩
  · unfold L2.start
    rw [List.length_append, List.length_append, List.length_map, List.length_replicate, List.length_replicate, hl]
  · unfold L2.start
    by_cases hi : i < cs.length
    · rw [List.getElem?_append_left hi] at h
      rw [List.getElem?_append_left (by rw [List.length_map]; omega), List.getElem?_map]
      exact args_cell ha h
    · rw [List.getElem?_append_right (by omega), List.getElem?_replicate] at h
      split at h
      · cases h; trivial
      · cases h
theorem fnD_of {P : Program} {w : World} {K : PySem.W.Frag} {mg : Str → Option Value} {base : Heap} {k : Nat} {f : Addr} {fd : FuncData} {ps N : List Str} {x qual : Str} {st : Stmt} {t : SD} (F : Fun K x qual st f fd) (S : FnScope N ps (defScope st))
    (hbody : ∀ (cdv : Value) (A : Around) (outer : List Env) (s : Shared) (H : Hp) (E : XK), A.guards = some [] → Room k (A.deeper (envOfC qual (defScope st) s.heap.objs.size f cdv)) → DSs (cxOf CX0 P w K mg base N qual (defScope st) f cdv A outer s H E).nox (defBody st) t) :
    FnD P w K mg base (k + 1) f fd ps (bodyD ps.length N.length t) := by
  refine fnG_of F S (fun vs H Q E h => h.1) fun cdv A outer s H vs Q E hg hr h => ?_
  obtain ⟨hl, B, G, cs, R, hB, hW, hd, ha, hw, kk⟩ := h
  refine ⟨_, (hbody cdv A outer s H E hg hr).pss.nox, ⟨B, G, H, [], []⟩, B, _, never, _, ⟨start_good (N := N) hB hW hd ha, eok_never⟩, hw.2, fun σ' H' ⟨O, η, g, q⟩ => ?_, fun v H' ⟨d, h1, h2, h3, h4⟩ => kk d v H' ⟨h1, h2⟩ (no_mret rfl h3) h4, fun σ' H' ⟨O, η, g, q⟩ => q.elim, fun σ' H' ⟨O, η, g, q⟩ => q.elim⟩
  exact kk .none .non H' ⟨g.keep, g.draw⟩ .non q
/-- arguments, the draws among them -/
abbrev CT := XP → EnvD → (List Cell → Prop) → Prop
def liftC (X : Cx) (t : CT) : TA := fun σ H R => ∃ (c : Ctx) (O : Addr → Prop) (η : EnvD) (E : XP) (Q : List Cell → Prop), Gd X c E O η σ H ∧ t E η Q ∧ ∀ cs vs H', Step c.G H H' → ArgsOk X.K O c.G H' vs cs → Q cs → R vs H'
structure DC (X : Cx) (es : List Expr) (t : CT) : Prop where
  pa : PA X es (liftC X t)
def cNil : CT := fun _ _ Q => Q []
def cCons (t : ET) (ts : CT) : CT := fun E η Q => t E η fun d => ts E η fun cs => Q (.dat d :: cs)
def isDrw (o : Option Cell) (k : Prop) : Prop := match o with | some .drw => k | _ => False
def cDrw (i : Nat) (ts : CT) : CT := fun E η Q => isDrw η[i]? (ts E η fun cs => Q (.drw :: cs))
theorem isDrw_out {o : Option Cell} {k : Prop} (h : isDrw o k) : o = some .drw ∧ k := by
  unfold isDrw at h
  split at h
  · exact ⟨rfl, h⟩
  · exact h.elim
section
variable {X : Cx} {e : Expr} {es : List Expr} {t : ET} {ts : CT} {pos p : Pos}
theorem dc_nil : DC X [] cNil := ⟨⟨fun pos pins s σ H R I ⟨c, O, η, E, Q, g, q, k⟩ => pa_nil.run pos pins s σ H R I (k [] [] H (.refl g.draw) .nil q)⟩⟩
theorem ArgOk.step {K : PySem.W.Frag} {O : Addr → Prop} {G : Option (Addr × Addr)} {H H1 : Hp} (st : Step G H H1) (dr : DrawOk G H) (hW : ∀ a, Wr G a → O a) {v : V} {x : Cell} (h : ArgOk K O G H v x) : ArgOk K O G H1 v x := by
  cases x with
  | dat d => exact st.rep dr hW h
  | drw => exact h
  | un => exact h
  | own ds => exact h
  | scr ns => exact h
  | obj a o => exact h
  | mtb p d fp => exact h
  | lin nm fs => exact InsAt.map (fun a _ o e => ⟨o, st.keep a _ (fun z => o (hW a z)) e⟩) (fun a xs e => st.keep a _ (dr.tup a xs e) e) h
  | ist p nm fs fp => exact h
theorem dc_cons (h : DE X e t) (hr : DC X es ts) (hs : starEach (e :: es) X.env = (false, eval e X.env) :: starEach es X.env := by rfl) : DC X (e :: es) (cCons t ts) := ⟨⟨fun pos pins s σ H R I ⟨c, O, η, E, Q, g, q, k⟩ => (pa_cons h.pe hr.pa hs).run pos pins s σ H R I
  ⟨c, O, η, E, _, g, q, fun d v H1 s1 r1 q1 => ⟨c, O, η, E, _, g.step s1, q1, fun cs vs H2 s2 r2 q2 => k _ _ H2 (s1.trans s2) (.cons (show ArgOk X.K O c.G H2 v (.dat d) from s2.rep s1.draw g.wO r1) r2) q2⟩⟩⟩⟩
theorem dc_drw (i : Nat) {x : Str} (hr : DC X es ts) (hN : X.N[i]? = some x := by rfl) (hv : Vis X.env.scope x := by first | exact Or.inl rfl | exact Or.inr (Or.inl rfl) | exact Or.inr (Or.inr rfl)) (hd : (x == ("__debug__" : Str)) = false := by decide) (hcd : (x == ("__classdict__" : Str)) = false := by decide)
    (hs : starEach (.Name x p :: es) X.env = (false, eval (.Name x p) X.env) :: starEach es X.env := by rfl) : DC X (.Name x p :: es) (cDrw i ts) := ⟨⟨fun pos pins s σ H R I ⟨c, O, η, E, Q, g, q, k⟩ => (pa_cons (pe_var hN hv hd hcd) hr.pa hs).run pos pins s σ H R I (by
  obtain ⟨hi, q⟩ := isDrw_out q
  obtain ⟨a, gr, e1, e2⟩ := g.cell i _ hi
  refine ⟨.ref a, ?_, c, O, η, E, _, g, q, fun cs vs H2 s2 r2 q2 => k _ _ H2 s2 (.cons (show ArgOk X.K O c.G H2 (.ref a) .drw from ⟨a, gr, rfl, e2⟩) r2) q2⟩
  cases z : σ[i]? with
  | none => rw [z] at e1; cases e1
  | some w => rw [z] at e1; exact congrArg some e1)⟩⟩
def dCallF (wf : FT) (ts : CT) : ET := fun E η Q => ts E η fun cs => wf never cs Q
theorem callF_lift {X : Cx} {n : Nat} {wf : FT} {σ : L2.St} {H : Hp} {c : Ctx} {O : Addr → Prop} {η : EnvD} {E : XP} {Q : D → Prop} (hn : ∀ cs R, wf never cs R → cs.length = n) (g : Gd X c E O η σ H) (h : dCallF wf ts E η Q) :
    tCB (fun vs H Q => spD X.K n wf vs H Q E0) (liftC X ts) σ H fun v H' => ∃ d, Step c.G H H' ∧ Rep X.K O H' v d ∧ Q d :=
  ⟨c, O, η, E, _, g, h, fun cs vs H1 s1 r1 q => ⟨(Paired.length r1).trans (hn _ _ q), O, c.G, cs, Q, (g.step s1).hT, g.wO, s1.draw, r1, q, fun d v H' s r q => ⟨d, s1.trans s, r, q⟩⟩⟩
theorem de_call {k : Nat} {f : Addr} {fd : FuncData} {ps : List Str} {wf : FT} {x : Str} (F : FnD X.prog X.w X.K X.mg X.base k f fd ps wf) (hn : ∀ cs R, wf never cs R → cs.length = ps.length) (hgd : X.A.guards = some []) (hr : Room k X.A) (hg : Gl X x) (hm : X.mg x = some (.ref f)) (hk : PySem.W.keepIn X.K (.ref f) = true) (hb : Binds X.K fd ps [])
    (ha : DC X (e :: es) ts) (hdb : (x == ("__debug__" : Str)) = false := by decide) (he : starEach (e :: es) X.env = (false, eval e X.env) :: starEach es X.env := by rfl) (hpl : (backTo pos (starEach es X.env)).any (·.1) = false := by rfl) : DE X (.Call (.Name x p) (e :: es) [] pos) (dCallF wf ts) :=
  .of (pe_callG F hgd hr hg hm hk hb pass0 ha.pa hdb he hpl) fun σ H c O η E Q g h => callF_lift hn g h
theorem de_call0 {k : Nat} {f : Addr} {fd : FuncData} {ps : List Str} {wf : FT} {x : Str} (F : FnD X.prog X.w X.K X.mg X.base k f fd ps wf) (hn : ∀ cs R, wf never cs R → cs.length = ps.length) (hgd : X.A.guards = some []) (hr : Room k X.A) (hg : Gl X x) (hm : X.mg x = some (.ref f)) (hk : PySem.W.keepIn X.K (.ref f) = true) (hb : Binds X.K fd ps [])
    (hdb : (x == ("__debug__" : Str)) = false := by decide) : DE X (.Call (.Name x p) [] [] pos) (dCallF wf cNil) :=
  .of (pe_callG0 F hgd hr hg hm hk hb pass0 hdb) fun σ H c O η E Q g h => ⟨hn _ _ h, O, c.G, [], Q, g.hT, g.wO, g.draw, .nil, h, fun d v H' s r q => ⟨d, s, r, q⟩⟩
end
end DL

/-! DL8: the law's end. -/
namespace DL
open PySem PySem.Spec PyProof.Rows L2
/-- nothing is tracked but the script and the tables -/
def OnlyL (H : Hp) : Prop := (∀ a, H a = none ∨ (∃ o u, H a = some (.frz o u)) ∨ ∃ ps, H a = some (.tbl ps)) ∧ TabM H
/-- the tables, as the head leaves them -/
structure TabsC (K : PySem.W.Frag) (h : Heap) (cs : List (Addr × Addr)) : Prop where
  sys : K.lookup sysModules = none
  all : lawTabs.map (·.1) = cs.map (·.2)
  new : ∀ p ∈ cs, h.get? p.2 = some { cls := .none, data := .fields #[] }
  off : ∀ p ∈ cs, K.lookup p.2 = none
  code : ∀ p ∈ cs, PySem.W.CodeHd h p.1 p.2
theorem law_callG {P : Program} {w : World} {K : PySem.W.Frag} {mg mb : Str → Option Value} {k : Nat} {fa a : Addr} {cs : List (Addr × Addr)} {fd : FuncData} {x : Str} {sp : Sp} {s1 : Shared} {vs : List Value} {ns : List Int} (KX : K.In s1.heap) (hns : s1.heap.Ns mainGlobals mg) (hb : s1.heap.Ns builtinsNs mb)
    (hbb : ∀ x : Str, x ≠ "__name__" → mb x = bootBuiltins x) (hlim : s1.heap.NoLimit) (hg : s1.gens = #[]) (T : TabsC K s1.heap cs) (hsys : ∃ mm, s1.heap.Ns sysModules mm)
    (hbm : ∃ (bm : Addr) (ob : Obj), mg "__builtins__" = some (.ref bm) ∧ bm ≠ builtinsNs ∧ s1.heap.get? bm = some ob ∧ ob.cls = .type "module" ∧ ob.dict = some builtinsNs ∧ ob.data = .plain)
    (ha : s1.heap.get? a = some { cls := .type "list", data := .seq vs.toArray }) (hi : IntsAre vs ns) (hl : ns.length ≤ sizeLine) (hr : Room k callerA)
    (F : ∀ base : Heap, K.In base → base.Ns mainGlobals mg → (∀ p ∈ cs, LamX.TabB base mg p.1 p.2) → FnG P w K mg base CX0 k fa fd [x] sp) (hbind : ∀ (s : Shared) (u : Value), BindsTo s fd ⟨[u], []⟩ [(x, u)])
    (hsp : ∀ H : Hp, OnlyL H → SqL K H a (ns.map V.int) → sp [.ref a] H (fun v _ => v = .bl true) fun _ _ _ => False) :
    codeAny (model P w) callerA (.call (.ref fa) ⟨[.ref a], []⟩) (fun r s' => r = .ok (.ret (.bool true)) ∧ OldK s1.heap s'.heap ∧ s'.os = s1.os ∧ AllBare s'.gens) s1 := by
  have rv := vals_ints hi
  have lenV := hi.length
  -- a table's address
  have tabAt : ∀ b, (∃ q, (b, q) ∈ lawTabs) → ∃ p ∈ cs, p.2 = b := fun b ⟨q, hq⟩ => by
    have : b ∈ cs.map (·.2) := by rw [← T.all]; exact List.mem_map.mpr ⟨_, hq, rfl⟩
    exact List.mem_map.mp this
  have tabs0 : ∀ {H : Hp}, (∀ p ∈ cs, H p.2 = some (.tbl #[])) → LamX.Tabs lawTabs H := fun h p hp => by
    obtain ⟨c, hc, e⟩ := tabAt p.1 ⟨p.2, hp⟩
    exact .nil (by rw [← e]; exact h c hc)
  have aT : ∀ p ∈ cs, p.2 ≠ a := fun p hp z => by
    have q := T.new p hp
    rw [z, ha] at q
    cases q
  obtain ⟨mmS, oS, esS, epS, eS, dS, rS⟩ := hsys
  have aS : a ≠ sysModules := fun z => by
    rw [z, eS] at ha
    cases ha
    cases dS
  have pS : ∀ p ∈ cs, p.2 ≠ sysModules := fun p hp z => by
    have q := T.new p hp
    rw [z, eS] at q
    cases q
    cases dS
  have main : ∀ H : Hp, OnlyL H → (∀ p ∈ cs, H p.2 = some (.tbl #[])) → SqL K H a (ns.map V.int) → HOk P w H s1.heap → (∀ b u, H b = some u → (b = a ∧ K.lookup a = none) ∨ (∃ p ∈ cs, p.2 = b) ∨ b = sysModules) →
      codeAny (model P w) callerA (.call (.ref fa) ⟨[.ref a], []⟩) (fun r s' => r = .ok (.ret (.bool true)) ∧ OldK s1.heap s'.heap ∧ s'.os = s1.os ∧ AllBare s'.gens) s1 := by
    intro H hO hH hS hok hA
    -- what is neither a list nor an empty table is not tracked
    have free : ∀ {b : Addr} {o : Obj}, b ≠ sysModules → s1.heap.get? b = some o → (∀ vs n, o.data ≠ .seq vs n) → o.data ≠ .fields #[] → H b = none := by
      intro b o nS e n1 n2
      cases q : H b with
      | none => rfl
      | some u =>
        rcases hA b u q with ⟨rfl, _⟩ | ⟨p, hp, rfl⟩ | z
        · rw [ha] at e
          cases e
          exact (n1 _ _ rfl).elim
        · rw [T.new p hp] at e
          cases e
          exact (n2 rfl).elim
        · exact absurd z nS
    have dictFree : ∀ {b : Addr} {o : Obj} {es : Array DictEntry} {ep : Nat}, b ≠ sysModules → s1.heap.get? b = some o → o.data = .dict es ep → H b = none := fun nS e d => free nS e (fun vs n z => by rw [d] at z; cases z) (fun z => by rw [d] at z; cases z)
    have nsB : ∀ {b : Addr} {m : Str → Option Value}, b ≠ sysModules → s1.heap.Ns b m → (hidT s1.heap H).Ns b m := by
      rintro b m nS ⟨o, es, ep, e, d, r⟩
      exact ⟨o, es, ep, hidT_get e (dictFree nS e d), d, r⟩
    have kB : K.In (hidT s1.heap H) := by
      intro b o e
      refine hidT_get (KX b o e) ?_
      cases q : H b with
      | none => rfl
      | some u =>
        rcases hA b u q with ⟨rfl, z⟩ | ⟨p, hp, rfl⟩ | rfl
        · rw [z] at e
          cases e
        · rw [T.off p hp] at e
          cases e
        · rw [T.sys] at e
          cases e
    have mB : Mod K mg (hidT s1.heap H) := ⟨kB, nsB (by decide) hns, ⟨mb, nsB (by decide) hb, hbb⟩, let ⟨m, q1, q2⟩ := hlim; ⟨m, nsB (by decide) q1, q2⟩⟩
    have tB : ∀ p ∈ cs, LamX.TabB (hidT s1.heap H) mg p.1 p.2 := by
      intro p hp
      have hP := T.new p hp
      refine ⟨?_, ?_, fun z => ?_⟩
      · obtain ⟨o, us, file, tf, flags, tg, inF, text, tt, e1, r1, r2, r3, rest⟩ := T.code p hp
        refine ⟨o, us, file, tf, flags, tg, inF, text, tt, hidT_get e1 (free (fun z => ?_) e1 (fun vs n z => ?_) fun z => ?_), r1, r2, r3, rest⟩
        · rw [z, eS] at e1; cases e1; rw [r2] at dS; cases dS
        · rw [r2] at z; cases z
        · rw [r2] at z; cases z; cases r3
      · obtain ⟨bm, ob, b1, b2, b3, b4, b5, b6⟩ := hbm
        have plainAt : ∀ {o : Obj}, s1.heap.get? bm = some o → o.data = .plain := fun e => by
          rw [b3] at e
          cases e
          exact b6
        refine ⟨bm, ob, b1, b2, fun q => ?_, fun q => ?_, hidT_get b3 (free (fun z => by rw [z, eS] at b3; cases b3; rw [b6] at dS; cases dS) b3 (fun vs n z => by rw [b6] at z; cases z) fun z => by rw [b6] at z; cases z), b4, b5, b6⟩
        · obtain ⟨o, es, ep, e, hd, _⟩ := hns
          rw [← q] at e
          rw [plainAt e] at hd
          cases hd
        · rw [← q] at hP
          cases plainAt hP
      · obtain ⟨o, es, ep, e, hd, _⟩ := hns
        rw [z, hP] at e
        cases e
        cases hd
    have e0 : Env0 P w K mg (hidT s1.heap H) callerA [] s1 H := ⟨rfl, mB, fun b o e => of_hidT e, Nat.le_of_eq (hidT_size _ _), trivial, fun b hb => (nomatch hb), hok, .of_eq hg⟩
    refine codeAny_mono ((F _ kB (nsB (by decide) hns) tB).run callerA [] s1 H ⟨[.ref a], []⟩ [.ref a] [.ref a] _ _ rfl hr e0 (hbind s1 (.ref a)) (.cons rfl .nil) (hsp H hO hS)) fun r s' h => ?_
    match r, h with
    | .error e, h => exact False.elim h
    | .ok (.ret u), ⟨v, H', os, bare, un, hok', r', q⟩ =>
      have q : v = .bl true := q
      subst q
      have r' : u = Value.bool true := r'
      subst r'
      have grown : ∀ p ∈ cs, ∃ more : Array Value, s'.heap.get? p.2 = some { cls := .none, data := .fields more } := fun p hp => by
        obtain ⟨more, z⟩ := un.tbls p.2 #[] (hH p hp)
        exact ⟨_, hok' p.2 _ z⟩
      have stays : ∀ b o, (¬ ∃ p ∈ cs, p.2 = b) → s1.heap.get? b = some o → s'.heap.get? b = some o := fun b o nb e => by
        cases z : H b with
        | none => exact un.keep b o e z (fun m => nomatch m) (fun m => nomatch m)
        | some u =>
          rcases hO.1 b with z' | ⟨ob, xs, z'⟩ | ⟨ps, z'⟩
          · rw [z] at z'; cases z'
          · obtain ⟨e1, _⟩ := hok b _ z'
            obtain ⟨e2, _⟩ := hok' b _ (un.frzs b ob _ z')
            rw [e] at e1
            cases e1
            exact e2
          · rcases hA b _ z' with ⟨rfl, _⟩ | y | y
            · rcases hS with (y | ⟨oo, y⟩) | ⟨oo, its, n, y, _⟩
              · rw [z'] at y; cases y
              · rw [z'] at y; cases y
              · rcases hA b _ z' with ⟨_, y2⟩ | y2 | y2
                · rw [y2] at y; cases y
                · exact absurd y2 nb
                · exact absurd y2 aS
            · exact absurd y nb
            · obtain ⟨o9, e9⟩ := hO.2.m
              rw [y, e9] at z'
              cases z'
      refine ⟨rfl, ⟨fun b o e => ?_, fun b o e => ?_⟩, os, bare⟩
      · by_cases hbT : ∃ p ∈ cs, p.2 = b
        · obtain ⟨p, hp, rfl⟩ := hbT
          obtain ⟨more, hm⟩ := grown p hp
          rw [T.new p hp] at e
          cases e
          exact .inr (.inl ⟨((T.code p hp).tab (T.new p hp)).isCodeTable, rfl, #[], more, rfl, by rw [Array.empty_append]; exact hm⟩)
        · exact .inl (stays b o hbT e)
      · by_cases hbT : ∃ p ∈ cs, p.2 = b
        · obtain ⟨p, hp, rfl⟩ := hbT
          obtain ⟨more, hm⟩ := grown p hp
          exact ⟨_, hm⟩
        · exact ⟨o, stays b o hbT e⟩
  classical
  cases hk : K.lookup a with
  | some o =>
    have e := KX a o hk
    rw [ha] at e
    cases e
    have main2 := fun H hO hH hS hok hA => main H hO hH hS hok hA
    let H0 : Hp := fun b => if b = sysModules then some (.frz oS (.own 0)) else if ∃ p ∈ cs, p.2 = b then some (.tbl #[]) else none
    have at_S : H0 sysModules = some (.frz oS (.own 0)) := if_pos rfl
    have at_ : ∀ p ∈ cs, H0 p.2 = some (HO.tbl #[]) := fun p hp => (if_neg (pS p hp)).trans (if_pos ⟨p, hp, rfl⟩)
    have out : ∀ (b : Addr) (u : HO), H0 b = some u → (b = sysModules ∧ u = .frz oS (.own 0)) ∨ ((∃ p ∈ cs, p.2 = b) ∧ u = .tbl #[]) := fun b u z => by
      have z : (if b = sysModules then some (HO.frz oS (.own 0)) else if ∃ p ∈ cs, p.2 = b then some (HO.tbl #[]) else none) = some u := z
      by_cases h0 : b = sysModules
      · rw [if_pos h0] at z; exact .inl ⟨h0, (Option.some.inj z).symm⟩
      · rw [if_neg h0] at z
        by_cases hb : ∃ p ∈ cs, p.2 = b
        · rw [if_pos hb] at z
          exact .inr ⟨hb, (Option.some.inj z).symm⟩
        · rw [if_neg hb] at z; cases z
    refine main2 H0 ⟨fun b => ?_, tabs0 at_, oS, at_S⟩ at_ (.inr ⟨_, vs.toArray, _, hk, rfl, rfl, rfl, by rw [List.size_toArray, lenV]; exact hl, by simpa using rv⟩) (fun b u z => ?_) fun b u z => (out b u z).elim (fun y => .inr (.inr y.1)) fun y => .inr (.inl y.1)
    · by_cases h0 : b = sysModules
      · exact .inr (.inl ⟨_, _, h0 ▸ at_S⟩)
      · by_cases hb : ∃ p ∈ cs, p.2 = b
        · exact .inr (.inr ⟨_, (if_neg h0).trans (if_pos hb)⟩)
        · exact .inl ((if_neg h0).trans (if_neg hb))
    · rcases out b u z with ⟨rfl, rfl⟩ | ⟨⟨p, hp, rfl⟩, rfl⟩
      · exact ⟨eS, oS, eS⟩
      · exact T.new p hp
  | none =>
    let H0 : Hp := fun b => if b = sysModules then some (.frz oS (.own 0)) else if b = a then some (.frz { cls := .type "list", data := .seq vs.toArray } (.lst (ns.map V.int))) else if ∃ p ∈ cs, p.2 = b then some (.tbl #[]) else none
    have at_S : H0 sysModules = some (.frz oS (.own 0)) := if_pos rfl
    have at_a : H0 a = some (HO.frz { cls := .type "list", data := .seq vs.toArray } (.lst (ns.map V.int))) := (if_neg aS).trans (if_pos rfl)
    have at_ : ∀ p ∈ cs, H0 p.2 = some (HO.tbl #[]) := fun p hp => (if_neg (pS p hp)).trans ((if_neg (aT p hp)).trans (if_pos ⟨p, hp, rfl⟩))
    have out : ∀ (b : Addr) (u : HO), H0 b = some u → (b = sysModules ∧ u = .frz oS (.own 0)) ∨ (b = a ∧ u = HO.frz { cls := .type "list", data := .seq vs.toArray } (.lst (ns.map V.int))) ∨ ((∃ p ∈ cs, p.2 = b) ∧ u = .tbl #[]) := by
      intro b u z
      have z : (if b = sysModules then some (HO.frz oS (.own 0)) else if b = a then some (HO.frz { cls := .type "list", data := .seq vs.toArray } (.lst (ns.map V.int))) else if ∃ p ∈ cs, p.2 = b then some (HO.tbl #[]) else none) = some u := z
      by_cases h0 : b = sysModules
      · rw [if_pos h0] at z; exact .inl ⟨h0, (Option.some.inj z).symm⟩
      rw [if_neg h0] at z
      by_cases hb : b = a
      · rw [if_pos hb] at z
        exact .inr (.inl ⟨hb, (Option.some.inj z).symm⟩)
      · rw [if_neg hb] at z
        by_cases hb2 : ∃ p ∈ cs, p.2 = b
        · rw [if_pos hb2] at z
          exact .inr (.inr ⟨hb2, (Option.some.inj z).symm⟩)
        · rw [if_neg hb2] at z; cases z
    refine main H0 ⟨fun b => ?_, tabs0 at_, oS, at_S⟩ at_ (.inl (.inr ⟨_, at_a⟩)) (fun b u z => ?_) fun b u z => (out b u z).elim (fun y => .inr (.inr y.1)) fun y => y.elim (fun y => .inl ⟨y.1, hk⟩) fun y => .inr (.inl y.1)
    · by_cases h0 : b = sysModules
      · exact .inr (.inl ⟨_, _, h0 ▸ at_S⟩)
      by_cases hb : b = a
      · exact .inr (.inl ⟨_, _, (if_neg h0).trans (if_pos hb)⟩)
      · by_cases hb2 : ∃ p ∈ cs, p.2 = b
        · exact .inr (.inr ⟨_, (if_neg h0).trans ((if_neg hb).trans (if_pos hb2))⟩)
        · exact .inl ((if_neg h0).trans ((if_neg hb).trans (if_neg hb2)))
    · rcases out b u z with ⟨rfl, rfl⟩ | ⟨rfl, rfl⟩ | ⟨⟨p, hp, rfl⟩, rfl⟩
      · exact ⟨eS, oS, eS⟩
      · exact ⟨ha, by rw [List.length_map]; exact hl, vs, _, rv, ha⟩
      · exact T.new p hp
/-- what the head tells of the tables -/
def TabsOf (q : Program) (K : PySem.W.Frag) (h : Heap) : Prop := ∀ {d : DefRec} {x : Str} {c P : Addr}, (recsOf q).find? (fun e => e.name == x) = some d → PySem.W.tabIn K x = some (c, P) → PySem.W.CodeHd h c P ∧ h.get? P = some (PySem.W.tabObj #[])
/-- the goal that k_head leaves, from the law's promise -/
theorem walk_G {l : PySem.W.OpenLaw} {n k : Nat} {q : Program} {loose : List Str} {XP : (Str → Option Value) → Heap → Prop} {YP : World → Heap → Prop} {d : DefRec} {K : Params → PySem.W.Frag} {sp : PySem.W.Frag → Sp} {x : Str} (hn : l.most = some n) (hn2 : n ≤ sizeLine) (hdf : d.params.defaults = []) (hr : Room k callerA) (him : importsNone q = true)
    (hY : ∀ (w : World) (h : Heap), YP w h → (K w.params).In h)
    (F : ∀ (w : World) (mg : Str → Option Value) (fa : Addr) (h : Heap), (K w.params).In h → h.Ns mainGlobals mg → mg d.name = some (.ref fa) → TabsOf q (K w.params) h →
      ∃ (fd : FuncData) (cs : List (Addr × Addr)), TabsC (K w.params) h cs ∧ (∀ (s : Shared) (u : Value), BindsTo s fd ⟨[u], []⟩ [(x, u)]) ∧ ∀ base : Heap, (K w.params).In base → base.Ns mainGlobals mg → (∀ p ∈ cs, LamX.TabB base mg p.1 p.2) → FnG l.prog w (K w.params) mg base CX0 k fa fd [x] (sp (K w.params)))
    (hsp : ∀ (K : PySem.W.Frag) (H : Hp) (a : Addr) (ns : List Int), ns.length ≤ n → OnlyL H → SqL K H a (ns.map V.int) → sp K [.ref a] H (fun v _ => v = .bl true) fun _ _ _ => False) :
    PySem.W.WalkO q loose XP YP l.row.toRowW d [] (fun f vs => PySem.call f vs) := by
  refine Att.attach_call hn hdf fun w s₀ s₁ mg mb fa o pm cd doc a vs ns G Y ho hd hcd hmg hobj hints hlen hg => ?_
  have KX := hY w _ Y
  obtain ⟨fd, cs, T, hb, hF⟩ := F w mg fa _ KX G.T.g hmg fun hr ht => PySem.W.tab_of G.T KX hr ht
  exact law_callG KX G.T.g G.T.b G.T.builtins G.T.nolimit hg T (let ⟨mm, q1, _⟩ := (G.T.seer him).mods; ⟨mm, q1⟩) G.T.bmain hobj hints (Nat.le_trans hlen hn2) hr hF hb fun H hO hS => hsp _ H a ns hlen hO hS
/-- no lambdas -/
theorem no_tabs {K : PySem.W.Frag} {h : Heap} {A : FuncData → Prop} {B : FuncData → Heap → Prop} {C : Heap → Prop} {C2 : Heap → Prop} {mg : Str → Option Value} (e : lawTabs = []) (hsys : K.lookup sysModules = none) (h' : ∃ fd, A fd ∧ ∀ base, C base → C2 base → B fd base) :
    ∃ (fd : FuncData) (cs : List (Addr × Addr)), TabsC K h cs ∧ A fd ∧ ∀ base : Heap, C base → C2 base → (∀ p ∈ cs, LamX.TabB base mg p.1 p.2) → B fd base := by
  obtain ⟨fd, h1, h2⟩ := h'
  exact ⟨fd, [], ⟨hsys, by rw [e]; rfl, fun p hp => (nomatch hp), fun p hp => (nomatch hp), fun p hp => (nomatch hp)⟩, h1, fun base c c2 _ => h2 base c c2⟩
end DL

/-! DL9: draws, defs by name, parallel stores. -/
namespace DL
open PySem PySem.Spec PyProof.Rows L2
def dw (x y z : V) : List (Key × V) := [(.inr "mixed", x), (.inr "great", y), (.inr "turn", z)]
theorem key_mg : ¬ (Sum.inr "mixed" : Key) = .inr "great" := by decide
theorem key_mt : ¬ (Sum.inr "mixed" : Key) = .inr "turn" := by decide
theorem key_gt : ¬ (Sum.inr "great" : Key) = .inr "turn" := by decide
theorem dw_mixed (x y z : V) : valV (dw x y z) (.inr "mixed" : Key) = some x := valV_pos rfl
theorem dw_great (x y z : V) : valV (dw x y z) (.inr "great" : Key) = some y := (valV_neg key_mg).trans (valV_pos rfl)
theorem dw_turn (x y z : V) : valV (dw x y z) (.inr "turn" : Key) = some z := (valV_neg key_mt).trans ((valV_neg key_gt).trans (valV_pos rfl))
theorem dw_put_turn (x y z v : V) : putK (dw x y z) (.inr "turn" : Key) v = dw x y v := by
  have e1 : ¬ (Sum.inr "mixed" : Key) = .inr "turn" := by decide
  have e2 : ¬ (Sum.inr "great" : Key) = .inr "turn" := by decide
  simp [putK, dw, e1, e2]
theorem dw_put_mixed (x y z v : V) : putK (dw x y z) (.inr "mixed" : Key) v = dw v y z := by
  have e1 : ¬ (Sum.inr "great" : Key) = .inr "mixed" := by decide
  have e2 : ¬ (Sum.inr "turn" : Key) = .inr "mixed" := by decide
  simp [putK, dw, e1, e2]
theorem dget_of {H : Hp} {a : Addr} {kvs : List (Key × V)} {k : Key} {v : V} (h : H a = some (.dK kvs)) (e : valV kvs k = some v) : DGet H a (kV k) (some v) := by
  rw [← e]
  exact DGet.k h
theorem dp_ints {K : PySem.W.Frag} {H : Hp} : ∀ ns : List Int, DpAll K H (ns.map V.int) (ns.map PyData.int)
  | [] => .nil
  | n :: ns => .cons (.int n) (dp_ints ns)
theorem lay_ints : ∀ ns : List Int, PyData.canLayAll0 (ns.map PyData.int) = true
  | [] => rfl
  | n :: ns => by
    show (PyData.canLay0 (.int n) && PyData.canLayAll0 (ns.map PyData.int)) = true
    rw [lay_ints ns]
    rfl
theorem shaped_ints (ns : List Int) : SeqAt.shaped (.list (ns.map PyData.int)) = true := by
  unfold SeqAt.shaped
  have h1 : (PyData.list (ns.map PyData.int)).canLay0 = true := lay_ints ns
  have h2 : (PyData.list (ns.map PyData.int)).depth ≤ 64 := by
    simp [PyData.depth, PySem.W.depth_ints]
  rw [h1, decide_eq_true h2]
  rfl
theorem ixN_nat {n j : Nat} (h : j < n) : ixN n (j : Int) = some j := by
  unfold ixN
  simp
  omega
/-- a draw's step -/
def StepO (a g : Addr) (H H' : Hp) : Prop := (∀ b o, b ≠ a → b ≠ g → H b = some o → H' b = some o) ∧ DrawO (some (a, g)) H'
theorem step_of {a g : Addr} {H H' : Hp} (k : ∀ b o, b ≠ a → b ≠ g → H b = some o → H' b = some o) (d : DrawO (some (a, g)) H') : StepO a g H H' := ⟨k, d⟩
theorem StepO.step {a g : Addr} {H H' : Hp} (st : StepO a g H H') (h : DrawOk (some (a, g)) H) : Step (some (a, g)) H H' := by
  obtain ⟨k, d⟩ := st
  refine ⟨fun b o n e => k b o (fun z => n (.inl ⟨_, rfl, .inl z⟩)) (fun z => n (.inl ⟨_, rfl, .inr z⟩)) e, d, tabm_stay h.2 fun b u e hu => ?_⟩
  obtain ⟨_, m, t, ns, e1, _, _, e2, _⟩ := h.1
  refine k b u (fun z => ?_) (fun z => ?_) e
  · rw [z, e1] at e
    cases e
    rcases hu with ⟨_, z⟩ | ⟨_, z⟩ | ⟨_, _, z⟩ <;> cases z
  · rw [z, e2] at e
    cases e
    rcases hu with ⟨_, z⟩ | ⟨_, z⟩ | ⟨_, _, z⟩ <;> cases z

/-- a new row of draws -/
def spBegun (K : PySem.W.Frag) : Sp := fun vs H Q _ => ∃ (a : Addr) (ns : List Int), vs = [.ref a] ∧ SqL K H a (ns.map V.int) ∧ ns.length ≤ 63 ∧ ∀ d g H', H d = none → H g = none → Same H H' → DrawO (some (d, g)) H' → Q (.ref d) H'
/-- the next number below a bound -/
def spNext : Sp := fun vs H Q _ => ∃ (a g : Addr) (b : Int), vs = [.ref a, .int b] ∧ DrawO (some (a, g)) H ∧ 0 < b ∧ b < 1073741824 ∧ ∀ r H', 0 ≤ r → r < b → StepO a g H H' → Q (.int r) H'
def wNextB (Q : D → Prop) : Cell → Prop
  | .dat (.int b) => (0 < b ∧ b < 1073741824) ∧ ∀ r, 0 ≤ r → r < b → Q (.int r)
  | _ => False
def w_next : FT := fun _ cs Q => match cs with
  | [.drw, x] => wNextB Q x
  | _ => False
theorem next_len : ∀ cs R, w_next never cs R → cs.length = 2 := fun cs R h => by
  unfold w_next at h
  split at h
  · rfl
  · exact h.elim
section
variable {P : Program} {w : World} {K : PySem.W.Frag} {mg : Str → Option Value} {base : Heap} {k : Nat}
theorem next_imp {vs : List V} {H : Hp} {Q : VK} {E : XK} (h : spD K 2 w_next vs H Q E) : spNext vs H Q E := by
  obtain ⟨hl, B, G, cs, R, hB, hW, hd, ha, hw, kk⟩ := h
  unfold w_next at hw
  split at hw
  · rename_i x
    cases ha with
    | cons r1 r2 =>
      cases r2 with
      | cons r2 r3 =>
        cases r3
        obtain ⟨a, g, rfl, rfl⟩ := r1
        cases x with
        | dat d =>
          have r2 : Rep K B H _ d := r2
          cases r2 with
          | int b => exact ⟨a, g, b, rfl, hd.1, hw.1.1, hw.1.2, fun r H' h0 h1 st => kk _ _ _ (st.step hd) (.int r) (hw.2 r h0 h1)⟩
          | _ => exact hw.elim
        | _ => exact hw.elim
  · exact hw.elim
/-- a def of the text, by its name -/
structure DefIn (K : PySem.W.Frag) (mg : Str → Option Value) (x : Str) (st : Stmt) (ps : List Str) : Prop where
  ex : ∃ f fd, Fun K x x st f fd ∧ mg x = some (.ref f) ∧ Binds K fd ps []
structure HasF (P : Program) (w : World) (K : PySem.W.Frag) (mg : Str → Option Value) (base : Heap) (x : Str) (k : Nat) (ps : List Str) (wf : FT) : Prop where
  ex : ∃ f fd, mg x = some (.ref f) ∧ PySem.W.keepIn K (.ref f) = true ∧ Binds K fd ps [] ∧ FnD P w K mg base k f fd ps wf
  len : ∀ cs R, wf never cs R → cs.length = ps.length
theorem hasF_of {x : Str} {st : Stmt} {ps N : List Str} {t : SD} (Df : DefIn K mg x st ps) (S : FnScope N ps (defScope st))
    (hbody : ∀ (f : Addr) (cdv : Value) (A : Around) (outer : List Env) (s : Shared) (H : Hp) (E : XK), A.guards = some [] → Room k (A.deeper (envOfC x (defScope st) s.heap.objs.size f cdv)) → DSs (cxOf CX0 P w K mg base N x (defScope st) f cdv A outer s H E).nox (defBody st) t) :
    HasF P w K mg base x (k + 1) ps (bodyD ps.length N.length t) := by
  obtain ⟨f, fd, F, hm, hb⟩ := Df.ex
  exact ⟨⟨f, fd, hm, F.kp, hb, fnD_of F S (hbody f)⟩, bodyD_len⟩
theorem hasF_next {x : Str} {st : Stmt} {ps : List Str} (Df : DefIn K mg x st ps) (hp : ps.length = 2) (h : ∀ f fd, Fun K x x st f fd → FnG P w K mg base CX0 k f fd ps spNext) : HasF P w K mg base x k ps w_next := by
  obtain ⟨f, fd, F, hm, hb⟩ := Df.ex
  refine ⟨⟨f, fd, hm, F.kp, hb, fun vs H Q E q => q.1, fun A outer s H args us vs Q E hg hr he hbt hv hs => (h f fd F).run A outer s H args us vs Q E hg hr he hbt hv (next_imp (by rw [← hp]; exact hs))⟩, fun cs R q => (next_len cs R q).trans hp.symm⟩
end
section
variable {X : Cx} {e : Expr} {es : List Expr} {ts : CT} {pos p : Pos} {k j : Nat} {ps : List Str} {wf : FT} {x : Str}
theorem de_f (F : HasF X.prog X.w X.K X.mg X.base x j ps wf) (hgd : X.A.guards = some []) (hr : Room k X.A) (ha : DC X (e :: es) ts) (hj : j ≤ k := by decide) (hg : Gl X x := by rfl) (hdb : (x == ("__debug__" : Str)) = false := by decide) (he : starEach (e :: es) X.env = (false, eval e X.env) :: starEach es X.env := by rfl)
    (hpl : (backTo pos (starEach es X.env)).any (·.1) = false := by rfl) : DE X (.Call (.Name x p) (e :: es) [] pos) (dCallF wf ts) := by
  obtain ⟨f, fd, hm, hk, hb, G⟩ := F.ex
  exact de_call G F.len hgd (hr.mono hj) hg hm hk hb ha hdb he hpl
theorem de_f0 (F : HasF X.prog X.w X.K X.mg X.base x j ps wf) (hgd : X.A.guards = some []) (hr : Room k X.A) (hj : j ≤ k := by decide) (hg : Gl X x := by rfl) (hdb : (x == ("__debug__" : Str)) = false := by decide) : DE X (.Call (.Name x p) [] [] pos) (dCallF wf cNil) := by
  obtain ⟨f, fd, hm, hk, hb, G⟩ := F.ex
  exact de_call0 G F.len hgd (hr.mono hj) hg hm hk hb hdb
end
/-! two names at once -/
section
variable {X : Cx} {a b : Expr} {t u : ET} {tn : NT} {pos : Pos}
def sPar (i j : Nat) (t u : ET) : SD := fun E z η => t E η fun x => u E η fun y => z.nx ((η.set i (.dat x)).set j (.dat y))
def sParN (i j : Nat) (tn : NT) (u : ET) : SD := fun E z η => tn E η fun ds => u E η fun y => z.nx ((η.set i (.own ds)).set j (.dat y))
end
end DL

/-! DL36: instances of the program's classes: fields read, methods that only read. -/
namespace DL
open PySem PySem.Spec PyProof.Rows L2
def onLin (o : Option Cell) (k : Str → List (Str × D) → Prop) : Prop := match o with | some (.lin nm fs) => k nm fs | _ => False
/-- f is a plain field of the class's instances -/
def FldOk (K : PySem.W.Frag) (nm f : Str) : Prop := ∀ C, ClsOf K nm C → L2.Cls K C ∧ L2.NoAttr K C f
section
variable {X : Cx} {x nm f m : Str} {p pos apos : Pos} {e o : Expr} {es : List Expr} {ts : CT}
/-- o.f -/
def dFld (i : Nat) (nm f : Str) : ET := fun E η Q => onLin η[i]? fun nm' fs => nm' = nm ∧ ∃ d, fs.lookup f = some d ∧ Q d
/-! ### methods -/
/-- a method of the class keeps its promise; the instance is its first argument -/
structure HasMt (P : Program) (w : World) (K : PySem.W.Frag) (mg : Str → Option Value) (base : Heap) (nm m : Str) (k : Nat) (ps : List Str) (wf : FT) : Prop where
  ex : ∀ C, ClsOf K nm C → L2.Cls K C ∧ ∃ f fd, L2.Meth K C m f ∧ Binds K fd ps [] ∧ FnD P w K mg base k f fd ps wf
  len : ∀ cs R, wf never cs R → cs.length = ps.length
/-- what the head tells of a method -/
def MethIn (K : PySem.W.Frag) (nm m : Str) (st : Stmt) (ps : List Str) : Prop := ∀ C, ClsOf K nm C → L2.Cls K C ∧ ∃ f fd, L2.Meth K C m f ∧ Fun K m (nm ++ ("." : Str) ++ m) st f fd ∧ Binds K fd ps []
/-- o.m(e, ..) -/
def dMeth (i : Nat) (nm m : Str) (wf : FT) (ts : CT) : ET := fun E η Q => onLin η[i]? fun nm' fs => nm' = nm ∧ fs.lookup m = none ∧ ts E η fun cs => wf never (.lin nm fs :: cs) Q
end
end DL

/-! DL38: a conditional expression as a test. -/
namespace DL
open PySem PySem.Spec PyProof.Rows L2
def bIfE (c a b : BT) : BT := fun E η Q => c E η fun k => if k = true then a E η Q else b E η Q
theorem x_bIfE {c a b : BT} {E : XP} {η : EnvD} {QB : Bool → Prop} : bIfE c a b E η QB = c E η (fun k => if k = true then a E η QB else b E η QB) := id rfl
end DL

/-! DL10: order of tuples, ranges as lists and tuples. -/
namespace DL
open PySem PySem.Spec PyProof.Rows L2
section
variable {X : Cx} {a b e e2 : Expr} {es rest : List Expr} {pos p p2 q2 : Pos} {ta tb tc t u : ET} {ts : AT}
/-- two ints, or two tuples of one form -/
def oOrd (f : Int → Int → Bool) (g : D → D → Bool) : OpD
  | .int i, .int j, Q => Q (.bool (f i j))
  | .tuple xs, .tuple ys, Q => (PySem.W.alike (.tuple xs) (.tuple ys) = true ∧ (PyData.tuple xs).depth ≤ 64 ∧ PyData.hasDict (.tuple xs) = false ∧ PyData.hasDict (.tuple ys) = false) ∧ Q (.bool (g (.tuple xs) (.tuple ys)))
  | _, _, _ => False
def rOrdD (K : PySem.W.Frag) (g : D → D → Bool) : R2 := fun x y H Q => ∃ xs ys, Dp K H x (.tuple xs) ∧ Dp K H y (.tuple ys) ∧ PySem.W.alike (.tuple xs) (.tuple ys) = true ∧ (PyData.tuple xs).depth ≤ 64 ∧ Q (.bl (g (.tuple xs) (.tuple ys))) H
abbrev oGt2 : OpD := oOrd (fun i j => decide (j < i)) fun x y => PySem.W.dataLt y x
abbrev oLe2 : OpD := oOrd (fun i j => decide (i ≤ j)) fun x y => !PySem.W.dataLt y x
abbrev oGe2 : OpD := oOrd (fun i j => decide (j ≤ i)) fun x y => !PySem.W.dataLt x y
/-! list(range(..)), tuple(range(..)) -/
/-- the bounds of a range -/
abbrev GRg := XP → EnvD → (Int → Int → Prop) → Prop
def gRg1 (ta : ET) : GRg := fun E η Q => ta E η fun x => match x with | .int j => RgOk 0 j ∧ Q 0 j | _ => False
def gRg2 (ta tb : ET) : GRg := fun E η Q => ta E η fun x => tb E η fun y => match x, y with | .int i, .int j => RgOk i j ∧ Q i j | _, _ => False
/-- a range's rule -/
def RRg (X : Cx) (e : Expr) (t : GRg) : Prop := ∃ te, PRg X e te ∧ ∀ (σ : L2.St) (H : Hp) (c : Ctx) (O : Addr → Prop) (η : EnvD) (E : XP) (Q : Int → Int → Prop) (R : Int → Int → Hp → Prop), Gd X c E O η σ H → t E η Q → (∀ i j H', Step c.G H H' → RgOk i j → Q i j → R i j H') → te σ H R
def nRg (t : GRg) : NT := fun E η Q => t E η fun i j => Q (rangeD i (j - i).toNat)
def dTupRg (t : GRg) : ET := fun E η Q => t E η fun i j => Q (.tuple (rangeD i (j - i).toNat))
variable {tg : GRg}
end
end DL

/-! DL11: the law's def, what the head tells. -/
namespace DL
open PySem PySem.Spec PyProof.Rows L2
theorem hu65 {k : Nat} {A : Around} (r : Room k A) : A.units + 65 < cLine := by
  have := r.un
  omega
/-- what the law has to keep -/
def spLaw (K : PySem.W.Frag) : Sp := fun vs H Q _ => ∃ (a : Addr) (ns : List Int), vs = [.ref a] ∧ ns.length ≤ 63 ∧ OnlyL H ∧ SqL K H a (ns.map V.int) ∧ ∀ H', Q (.bl true) H'
theorem spLaw_len {K : PySem.W.Frag} {vs : List V} {H : Hp} {Q : VK} {E : XK} (h : spLaw K vs H Q E) : vs.length = ["_law_script"].length := by
  obtain ⟨a, ns, rfl, _⟩ := h
  rfl
/-- the ends that the law may take -/
def zLaw : EndsD := { nx := fun _ => False, rt := fun d => d = .bool true }
def lawEnv (n : Nat) (ns : List Int) : EnvD := .scr ns :: .drw :: List.replicate n .un
theorem scr_of {K : PySem.W.Frag} {H : Hp} {a : Addr} {ns : List Int} (hO : OnlyL H) (hS : SqL K H a (ns.map V.int)) : ScrAt K H a ns := by
  rcases hS with (h | h) | h
  · rcases hO.1 a with z | ⟨o, xs, z⟩ | ⟨ps, z⟩
    · rw [h] at z; cases z
    · rw [h] at z; cases z
    · rw [h] at z; cases z
  · exact .inl h
  · exact .inr h
theorem law_go {X : Cx} {t : SD} {N : List Str} {n : Nat} {vs : List V} {H : Hp} {Q : VK} {E : XK} (hN : N.length = n + 2) (h : spLaw X.K vs H Q E) (pl : ∀ ns : List Int, ns.length ≤ 63 → t never zLaw (lawEnv n ns)) :
    tSeq (tAsg (tCB (fun vs H Q => spBegun X.K vs H Q E0) (tCons (tVar 0) tNil)) (gName 1)) (liftS X t) { nx := fun _ H' => Q .non H', rt := Q } (start N vs) H := by
  obtain ⟨a, ns, rfl, hl, hO, hS, q⟩ := h
  have e : start N [V.ref a] = some (.ref a) :: none :: List.replicate n none := by
    unfold L2.start
    rw [show ([V.ref a] : List V).length = 1 from rfl, hN, show n + 2 - 1 = n + 1 by omega]
    rfl
  rw [e]
  refine ⟨.ref a, rfl, a, ns, rfl, hS, hl, fun d g H' hd hg sm dr => ?_⟩
  have ad : d ≠ g := dr.1
  have drk : DrawOk (some (d, g)) H' := ⟨dr, hO.2.ext sm⟩
  refine ⟨⟨Wr (some (d, g)), some (d, g), H', [], []⟩, Wr (some (d, g)), lawEnv n ns, never, zLaw, ?_, pl ns hl, fun σ' H'' z => ?_, fun v H'' z => ?_, fun σ' H'' z => ?_, fun σ' H'' z => ?_⟩
  · refine ⟨⟨?_, fun b hb => hb, fun b hb => hb, DrawOk.tr drk, fun _ _ _ x => x, drk, ?_, ?_, fun p hp => absurd hp (by simp)⟩, eok_never⟩
    · show (lawEnv n ns).length = (some (V.ref a) :: some (V.ref d) :: List.replicate n none).length
      simp [lawEnv]
    · intro i x hx
      match i, hx with
      | 0, hx =>
        cases hx
        exact ⟨a, rfl, (scr_of hO hS).map fun b o u z => sm b _ z⟩
      | 1, hx =>
        cases hx
        exact ⟨d, g, rfl, rfl⟩
      | i + 2, hx =>
        have hx : (List.replicate n Cell.un)[i]? = some x := hx
        rw [List.getElem?_replicate] at hx
        split at hx
        · cases hx; trivial
        · cases hx
    · intro i j x y b hi _ f _
      exfalso
      match i, hi, f with
      | 0, hi, f => cases hi; exact f
      | 1, hi, f => cases hi; exact f
      | i + 2, hi, f =>
        have hi : (List.replicate n Cell.un)[i]? = some x := hi
        rw [List.getElem?_replicate] at hi
        split at hi <;> cases hi
        exact f
  · obtain ⟨O, η, g', z⟩ := z
    exact z.elim
  · obtain ⟨d', k1, k2, r, z⟩ := z
    have z : d' = .bool true := z
    subst z
    have r := no_mret rfl r
    cases r
    exact q _
  · obtain ⟨O, η, g', z⟩ := z
    exact z.elim
  · obtain ⟨O, η, g', z⟩ := z
    exact z.elim
/-- a def that the top has written -/
def DefAt (K : PySem.W.Frag) (x : Str) (st : Stmt) : Prop := ∃ (f : Addr) (oc : Value) (od : Option Addr) (kV doc pm : Value) (an : Option Addr) (cdv ct : Value) (osl : Array (Option Value)), PySem.W.nsIn K mainGlobals x = some (some (.ref f)) ∧
  K.lookup f = some ⟨oc, od, .func (PySem.W.fnOf x x (defArgs st) (defBody st) (defScope st) .none kV doc pm an cdv ct), osl⟩ ∧ PySem.W.codeIn K cdv x = true ∧ PySem.W.keepIn K (.ref f) = true
section
variable {P : Program} {w : World} {K : PySem.W.Frag} {mg : Str → Option Value} {h : Heap} {x : Str} {st : Stmt} {ps : List Str} {k : Nat}
theorem defAt {f : Addr} {oc : Value} {od : Option Addr} {kV doc pm : Value} {an : Option Addr} {cdv ct : Value} {osl : Array (Option Value)} (a : PySem.W.nsIn K mainGlobals x = some (some (.ref f)))
    (l : K.lookup f = some ⟨oc, od, .func (PySem.W.fnOf x x (defArgs st) (defBody st) (defScope st) .none kV doc pm an cdv ct), osl⟩) (c : PySem.W.codeIn K cdv x = true) (k : PySem.W.keepIn K (.ref f) = true) : DefAt K x st := ⟨f, oc, od, kV, doc, pm, an, cdv, ct, osl, a, l, c, k⟩
def ConI (K : PySem.W.Frag) (x : Str) (i : Int) : Prop := ∃ t, PySem.W.nsIn K mainGlobals x = some (some (.int i t))
def ConS (K : PySem.W.Frag) (x : Str) (y : Str) : Prop := ∃ t, PySem.W.nsIn K mainGlobals x = some (some (.str y t))
abbrev BindsAs (x : Str) (st : Stmt) (ps : List Str) : Prop := ∀ (kV doc pm : Value) (an : Option Addr) (cdv ct : Value) (us : List Value), us.length = ps.length → bindArgs (PySem.W.fnOf x x (defArgs st) (defBody st) (defScope st) .none kV doc pm an cdv ct) ⟨us, []⟩ = pure (ps.zip us)
theorem defIn (X : K.In h) (G : h.Ns mainGlobals mg) (a : DefAt K x st) (hb : BindsAs x st ps) : DefIn K mg x st ps := by
  obtain ⟨f, oc, od, kV, doc, pm, an, cdv, ct, osl, a1, l1, c1, k1⟩ := a
  have F := fun_mk (st := st) l1 c1 k1
  exact ⟨⟨f, _, F, PySem.W.mg_of X G a1, F.binds hb⟩⟩
theorem law_fin {fa : Addr} (X : K.In h) (G : h.Ns mainGlobals mg) (hmg : mg "law" = some (.ref fa)) (a : DefAt K "law" st) (hb : BindsAs "law" st ["_law_script"])
    (ok : ∀ (base : Heap) (f : Addr) (fd : FuncData), K.In base → base.Ns mainGlobals mg → Fun K "law" "law" st f fd → FnG P w K mg base CX0 k f fd ["_law_script"] (spLaw K)) :
    ∃ fd : FuncData, (∀ (s : Shared) (u : Value), BindsTo s fd ⟨[u], []⟩ [("_law_script", u)]) ∧ ∀ base : Heap, K.In base → base.Ns mainGlobals mg → FnG P w K mg base CX0 k fa fd ["_law_script"] (spLaw K) := by
  obtain ⟨f, oc, od, kV, doc, pm, an, cdv, ct, osl, a1, l1, c1, k1⟩ := a
  have e := hmg.symm.trans (PySem.W.mg_of X G a1)
  cases e
  have F := fun_mk (st := st) l1 c1 k1
  exact ⟨_, fun s u => .of_eq (hb kV doc pm an cdv ct [u] rfl), fun base b1 b2 => ok base _ _ b1 b2 F⟩
end
end DL

/-! DL12: tuple * int. -/
namespace DL
open PySem PySem.Spec PyProof.Rows L2
section
variable {X : Cx} {a b : Expr} {pos : Pos} {ta tb : ET}
def rOnce (K : PySem.W.Frag) : R2 := fun x y H Q => ∃ l xs, x = .ref l ∧ y = .int 1 ∧ SqT K H l xs ∧ Q (.ref l) H
/-- *, tuples among them -/
def oMul2 : OpD
  | .tuple xs, .int j, Q => (xs ≠ [] ∧ 1 ≤ j ∧ j ≤ 1000 ∧ xs.length ≤ 1000) ∧ Q (.tuple (List.replicate j.toNat xs).flatten)
  | .int i, .int j, Q => CMul i j ∧ Q (.int (i * j))
  | .list xs, .int j, Q => (0 ≤ j ∧ j < 2 ^ 63 ∧ xs.length * j.toNat ≤ sizeLine) ∧ Q (.list (List.replicate j.toNat xs).flatten)
  | _, _, _ => False
end
end DL

/-! DL13: several names at once: plain things and new lists. -/
namespace DL
open PySem PySem.Spec PyProof.Rows L2
section
variable {K : PySem.W.Frag} {c : Ctx} {O O' : Addr → Prop} {η η' ζ : EnvD} {σ σ' τ : L2.St} {H H1 : Hp}
/-- the same things under other numbers -/
theorem Good.renum (g : Good K c O η σ H) (f : Nat → Nat) (hl : η'.length = σ'.length) (h : ∀ m x, η'[m]? = some x → η[f m]? = some x ∧ σ'[m]?.join = σ[f m]?.join) (inj : ∀ m n x y, η'[m]? = some x → η'[n]? = some y → f m = f n → m = n) : Good K c O η' σ' H where
  len := hl
  hB := g.hB
  hW := g.hW
  hT := g.hT
  keep := g.keep
  draw := g.draw
  cell := fun m x hm => by
    obtain ⟨h1, h2⟩ := h m x hm
    rw [h2]
    exact g.cell _ x h1
  dis := fun m n x y a h1 h2 h3 h4 => by
    obtain ⟨k1, k2⟩ := h m _ h1
    obtain ⟨l1, l2⟩ := h n _ h2
    exact inj m n _ _ h1 h2 (g.dis _ _ x y a k1 l1 (k2 ▸ h3) (l2 ▸ h4))
  fr := g.fr
theorem Good.head (g : Good K c O (η ++ ζ) (σ ++ τ) H) (hl : η.length = σ.length) : Good K c O η σ H := g.renum id hl (fun m x hm => by
  have := (List.getElem?_eq_some_iff.mp hm).1
  exact ⟨by rw [id, List.getElem?_append_left this]; exact hm, by rw [id, List.getElem?_append_left (by omega)]⟩) fun _ _ _ _ _ _ e => e
/-- the first of the pending things is stored at i -/
theorem Good.store {x : Cell} {v : Option V} (g : Good K c O (η ++ x :: ζ) (σ ++ v :: τ) H) (hl : η.length = σ.length) (i : Nat) : Good K c O (η.set i x ++ ζ) (σ.set i v ++ τ) H := by
  have ln := g.len
  simp only [List.length_append, List.length_cons] at ln
  refine g.renum (fun m => if m < η.length then (if m = i then η.length else m) else m + 1) (by simp only [List.length_append, List.length_set]; omega) (fun m y hm => ?_) fun m n y z hm hn e => ?_
  · by_cases h1 : m < η.length
    · have hm2 : (η.set i x)[m]? = some y := by rwa [List.getElem?_append_left (by rw [List.length_set]; exact h1)] at hm
      have e1 : (σ.set i v ++ τ)[m]? = (σ.set i v)[m]? := List.getElem?_append_left (by rw [List.length_set]; omega)
      by_cases h2 : m = i
      · subst h2
        rw [List.getElem?_set_self h1] at hm2
        cases hm2
        have fm : (if m < η.length then (if m = m then η.length else m) else m + 1) = η.length := by
          rw [if_pos h1, if_pos rfl]
        rw [fm, e1, List.getElem?_set_self (by omega)]
        refine ⟨by rw [List.getElem?_append_right (Nat.le_refl _), Nat.sub_self]; rfl, ?_⟩
        rw [hl, List.getElem?_append_right (Nat.le_refl _), Nat.sub_self]
        rfl
      · rw [List.getElem?_set_ne (Ne.symm h2)] at hm2
        have fm : (if m < η.length then (if m = i then η.length else m) else m + 1) = m := by
          rw [if_pos h1, if_neg h2]
        rw [fm, e1, List.getElem?_set_ne (Ne.symm h2)]
        exact ⟨by rw [List.getElem?_append_left h1]; exact hm2, by rw [List.getElem?_append_left (by omega)]⟩
    · have hm2 : ζ[m - η.length]? = some y := by rwa [List.getElem?_append_right (by rw [List.length_set]; omega), List.length_set] at hm
      have fm : (if m < η.length then (if m = i then η.length else m) else m + 1) = m + 1 := by
        rw [if_neg h1]
      have e1 : m + 1 - η.length = (m - η.length) + 1 := by omega
      have e2 : m + 1 - σ.length = (m - σ.length) + 1 := by omega
      rw [fm]
      refine ⟨by rw [List.getElem?_append_right (by omega), e1, List.getElem?_cons_succ]; exact hm2, ?_⟩
      rw [List.getElem?_append_right (by rw [List.length_set]; omega), List.length_set, List.getElem?_append_right (by omega), e2, List.getElem?_cons_succ]
  · have e : (if m < η.length then (if m = i then η.length else m) else m + 1) = (if n < η.length then (if n = i then η.length else n) else n + 1) := e
    by_cases h1 : m < η.length
    · by_cases h2 : n < η.length
      · rw [if_pos h1, if_pos h2] at e
        split at e <;> split at e <;> omega
      · rw [if_pos h1, if_neg h2] at e
        split at e <;> omega
    · by_cases h2 : n < η.length
      · rw [if_neg h1, if_pos h2] at e
        split at e <;> omega
      · rw [if_neg h1, if_neg h2] at e
        omega
end
/-! ### lists of things, plain or new -/
structure MOut (K : PySem.W.Frag) (c : Ctx) (O : Addr → Prop) (η : EnvD) (σ : L2.St) (H : Hp) (cs : List Cell) (vs : List V) (H' : Hp) (O' : Addr → Prop) : Prop where
  st : Step c.G H H'
  up : ∀ b, O b → O' b
  dn : ∀ b, O' b → O b ∨ H b = none
  gd : Good K c O' (η ++ cs) (σ ++ vs.map some) H'
  len : cs.length = vs.length
  new : ∀ (j : Nat) (y : Cell) (b : Addr), cs[j]? = some y → foot y ((vs.map some)[j]?.join) b → H b = none
def liftM (X : Cx) (t : MT) : TA := fun σ H R => ∃ (c : Ctx) (O : Addr → Prop) (η : EnvD) (E : XP) (Q : List Cell → Prop), Gd X c E O η σ H ∧ t E η Q ∧ ∀ cs vs H' O', MOut X.K c O η σ H cs vs H' O' → Q cs → R vs H'
structure DM (X : Cx) (es : List Expr) (t : MT) : Prop where
  pa : PA X es (liftM X t)
def mNil : MT := fun _ _ Q => Q []
def mD (t : ET) (ms : MT) : MT := fun E η Q => t E η fun d => ms E η fun cs => Q (.dat d :: cs)
def mN (t : NT) (ms : MT) : MT := fun E η Q => t E η fun ds => ms E η fun cs => Q (.own ds :: cs)
section
variable {K : PySem.W.Frag} {c : Ctx} {O O2 : Addr → Prop} {G : Option (Addr × Addr)} {H H1 H2 : Hp}
theorem Rep.on (st : Step G H1 H2) (dr : DrawOk G H1) (hW : ∀ a, Wr G a → O a) (dn : ∀ b, O2 b → O b ∨ H1 b = none) {d : D} {v : V} (r : Rep K O H1 v d) : Rep K O2 H2 v d :=
  r.map (fun a _ o e => ⟨fun z => (dn a z).elim o fun q => (by rw [q] at e; cases e), st.keep a _ (fun z => o (hW a z)) e⟩) fun a xs e => st.keep a _ (dr.tup a xs e) e
theorem RepAll.on (st : Step G H1 H2) (dr : DrawOk G H1) (hW : ∀ a, Wr G a → O a) (dn : ∀ b, O2 b → O b ∨ H1 b = none) {d : List D} {v : List V} (r : RepAll K O H1 v d) : RepAll K O2 H2 v d :=
  r.map (fun a _ o e => ⟨fun z => (dn a z).elim o fun q => (by rw [q] at e; cases e), st.keep a _ (fun z => o (hW a z)) e⟩) fun a xs e => st.keep a _ (dr.tup a xs e) e
end
section
variable {X : Cx} {e : Expr} {es : List Expr} {t : ET} {tn : NT} {ms : MT}
end
def on2C (cs : List Cell) (k : Cell → Cell → Prop) : Prop := match cs with | [x, y] => k x y | _ => False
def on3C (cs : List Cell) (k : Cell → Cell → Cell → Prop) : Prop := match cs with | [x, y, z] => k x y z | _ => False
def sM2 (i j : Nat) (m : MT) : SD := fun E z η => m E η fun cs => on2C cs fun x y => z.nx ((η.set i x).set j y)
def sM3 (i j k : Nat) (m : MT) : SD := fun E z η => m E η fun cs => on3C cs fun x y u => z.nx (((η.set i x).set j y).set k u)
section
variable {X : Cx} {a b d : Expr} {m : MT} {pos : Pos}
end
end DL

/-! DL14: starred items. -/
namespace DL
open PySem PySem.Spec PyProof.Rows L2
section
variable {X : Cx} {e : Expr} {es : List Expr} {t : ET} {ts : AT} {p : Pos}
def aStar (t : ET) (ts : AT) : AT := fun E η Q => t E η fun d => match d with
  | .list ds => ts E η fun es => Q (ds ++ es)
  | .tuple ds => ts E η fun es => Q (ds ++ es)
  | _ => False
end
end DL

/-! DL16: the turns of a zip of two tuples whose pair is kept. -/
namespace DL
open PySem PySem.Spec PyProof.Rows L2
section
variable {prog : Program} {w : World} {A : Around} {E : Value → Shared → Prop} {s : Shared}
/-- the zip's object -/
def IsZ (h : Heap) (z TI TO : Addr) (f0 : Value) (f1 : Bool) : Prop := h.get? z = some { cls := .type "zip", dict := none, data := .fields #[f0, .bool f1, .bool false, .ref TI, .ref TO], slots := #[] }
/-- the zip of two tuples, its pair free or kept, after k turns -/
structure ZSt (h : Heap) (z TI TO i1 i2 l1 l2 : Addr) (k : Nat) : Prop where
  ob : ∃ f0 f1, IsZ h z TI TO f0 f1 ∧ (f0 = .none ∨ ∃ T : Addr, f0 = rawInt T)
  its : IsPair h TI (.ref i1) (.ref i2)
  own : ∃ u v, IsPair h TO u v
  it1 : h.IsTupleIter i1 l1 k
  it2 : h.IsTupleIter i2 l2 k
end
end DL

/-! DL17: enumerate of a zip of two tuples: its turns. -/
namespace DL
open PySem PySem.Spec PyProof.Rows L2
section
variable {prog : Program} {w : World} {A : Around} {E : Value → Shared → Prop} {s : Shared}
end
end DL

/-! DL18: enumerate(zip(a, b)), a and b tuples. -/
namespace DL
open PySem PySem.Spec PyProof.Rows L2
section
variable {X : Cx} {pins : List (Addr × Obj)} {σ : L2.St} {H H' : Hp} {s : Shared} {h' : Heap}
end
section
variable {prog : Program} {w : World} {A : Around} {E : Value → Shared → Prop} {s : Shared}
end
end DL

/-! DL19: enumerate(zip(a, b)) as an iterable. -/
namespace DL
open PySem PySem.Spec PyProof.Rows L2
/-- the tuples at a and b, the items in new pairs, each with its number in another new pair -/
def IteZ (K : PySem.W.Frag) (a b : Addr) : It where
  go := fun i H => ∃ (xs ys : List V) (x y : V), SqT K H a xs ∧ SqT K H b ys ∧ xs[i]? = some x ∧ ys[i]? = some y
  yld := fun i H v H' => ∃ T U x y, v = .ref U ∧ H T = none ∧ H U = none ∧ T ≠ U ∧ H' = upd (upd H T (.tup [x, y])) U (.tup [.int (i : Nat), .ref T]) ∧ (∀ xs, SqT K H a xs → xs[i]? = some x) ∧ ∀ ys, SqT K H b ys → ys[i]? = some y
  stop := fun i H => ∃ xs ys : List V, SqT K H a xs ∧ SqT K H b ys ∧ xs.length = i
end DL

/-! DL20: enumerate(zip(a, b)): made. -/
namespace DL
open PySem PySem.Spec PyProof.Rows L2
section
variable {prog : Program} {w : World} {A : Around} {E : Value → Shared → Prop} {s : Shared}
end
end DL

/-! DL21: enumerate(zip(a, b)) of two tuples, in the head of a loop. -/
namespace DL
open PySem PySem.Spec PyProof.Rows L2
section
variable {X : Cx} {e e2 : Expr} {pos p pos2 p2 tpos : Pos} {ts : AT} {elts : List Expr} {kk : Nat}
def iEnumZA (K : PySem.W.Frag) (ta : TA) : TI := fun σ H R => ta σ H fun vs H1 => ∃ a b xs ys, vs = [.ref a, .ref b] ∧ SqT K H1 a xs ∧ SqT K H1 b ys ∧ R (IteZ K a b) H1
def iEnumZ (ts : AT) : IT := fun E η Q => ts E η fun ds => match ds with | [.tuple xs, .tuple ys] => xs.length ≤ ys.length ∧ Q (pairsD (rangeD 0 xs.length) (pairsD xs ys)) | _ => False
end
end DL

/-! DL22: list.extend by a tuple. -/
namespace DL
open PySem PySem.Spec PyProof.Rows L2
section
variable {X : Cx} {e : Expr} {pos p apos : Pos} {t : ET}
def rExtT (K : PySem.W.Frag) : V → List V → Hp → VK → Prop := fun x vs H Q => ∃ l b xs zs, x = .ref l ∧ vs = [.ref b] ∧ H l = some (.lst xs) ∧ SqT K H b zs ∧ xs.length + zs.length ≤ sizeLine ∧ Q .non (upd H l (.lst (xs ++ zs)))
theorem MtM.or {id : String} {r r' : V → List V → Hp → VK → Prop} (h : MtM X id r) (h' : MtM X id r') : MtM X id (fun x xs H Q => r x xs H Q ∨ r' x xs H Q) := by
  intro pins s σ H x v vs us Q I rx rv q
  exact q.elim (h pins s σ H x v vs us Q I rx rv) (h' pins s σ H x v vs us Q I rx rv)
def onSeqE (d : D) (k : List D → Prop) : Prop := match d with | .list es => k es | .tuple es => k es | _ => False
def sExtS (i : Nat) (t : ET) : SD := fun E z η => onOwn η[i]? fun ds => t E (lend η) fun d => onSeqE d fun es => flatAll es = true ∧ ds.length + es.length ≤ sizeLine ∧ z.nx (η.set i (.own (ds ++ es)))
end
end DL

/-! PL0: data, order, loops: no program in sight. -/
namespace PL
open PySem DL
/-! ### data of ints -/
def T (l : List Int) : D := .tuple (l.map .int)
theorem eqv_int (i j : Int) : PyData.eqv (.int i) (.int j) = decide (i = j) := by
  unfold PyData.eqv
  rw [Bool.eq_iff_iff]
  simp
mutual
/-- no truth value, no dict -/
def noB : D → Bool
  | .none => true
  | .bool _ => false
  | .int _ => true
  | .str _ => true
  | .list xs => noBs xs
  | .tuple xs => noBs xs
  | .dict _ => false
def noBs : List D → Bool
  | [] => true
  | x :: xs => noB x && noBs xs
end
mutual
theorem eqv_iff : ∀ x y : D, noB x = true → noB y = true → (PyData.eqv x y = true ↔ x = y)
  | .none, y, _, hy => by cases y <;> simp_all [PyData.eqv, noB]
  | .bool _, y, h, _ => by simp [noB] at h
  | .int i, y, _, hy => by cases y <;> simp_all [PyData.eqv, noB]
  | .str x, y, _, hy => by cases y <;> simp_all [PyData.eqv, noB]
  | .list xs, y, hx, hy => by
    cases y with
    | list ys =>
      have := eqvs_iff xs ys (by simpa [noB] using hx) (by simpa [noB] using hy)
      simpa [PyData.eqv] using this
    | _ => simp_all [PyData.eqv, noB]
  | .tuple xs, y, hx, hy => by
    cases y with
    | tuple ys =>
      have := eqvs_iff xs ys (by simpa [noB] using hx) (by simpa [noB] using hy)
      simpa [PyData.eqv] using this
    | _ => simp_all [PyData.eqv, noB]
  | .dict _, _, h, _ => by simp [noB] at h
theorem eqvs_iff : ∀ xs ys : List D, noBs xs = true → noBs ys = true → (PyData.eqvAll xs ys = true ↔ xs = ys)
  | [], [], _, _ => by simp [PyData.eqvAll]
  | [], _ :: _, _, _ => by simp [PyData.eqvAll]
  | _ :: _, [], _, _ => by simp [PyData.eqvAll]
  | x :: xs, y :: ys, hx, hy => by
    simp only [noBs, Bool.and_eq_true] at hx hy
    have h1 := eqv_iff x y hx.1 hy.1
    have h2 := eqvs_iff xs ys hx.2 hy.2
    simp only [PyData.eqvAll, Bool.and_eq_true, h1, h2, List.cons.injEq]
end
theorem noBs_map {α : Type} (f : α → D) (h : ∀ a, noB (f a) = true) : ∀ l : List α, noBs (l.map f) = true
  | [] => rfl
  | a :: l => by
    rw [List.map_cons, noBs, h a, noBs_map f h l]
    rfl
theorem noB_T (l : List Int) : noB (T l) = true := by
  unfold T noB
  exact noBs_map _ (fun _ => rfl) l
theorem map_int_inj : ∀ {l m : List Int}, l.map PyData.int = m.map PyData.int → l = m
  | [], [], _ => rfl
  | [], _ :: _, h => by simp at h
  | _ :: _, [], h => by simp at h
  | a :: l, b :: m, h => by
    simp only [List.map_cons, List.cons.injEq, PyData.int.injEq] at h
    rw [h.1, map_int_inj h.2]
theorem T_inj {l m : List Int} (h : T l = T m) : l = m := by
  unfold T at h
  exact map_int_inj (PyData.tuple.inj h)
theorem eqv_T (l m : List Int) : PyData.eqv (T l) (T m) = decide (l = m) := by
  rw [Bool.eq_iff_iff, eqv_iff _ _ (noB_T l) (noB_T m), decide_eq_true_eq]
  exact ⟨T_inj, fun e => by rw [e]⟩
/-! ### data that may be compared and shown -/
structure Rp (k w : Nat) (d : D) : Prop where
  lay : d.canLay0 = true
  dep : d.depth ≤ k
  wei : d.weight ≤ w
  sho : d.intsShort 13 = true
  can : d.showable = true
theorem Rp.mono {k w k' w' : Nat} {d : D} (r : Rp k w d) (h : k ≤ k') (h' : w ≤ w') : Rp k' w' d := ⟨r.lay, Nat.le_trans r.dep h, Nat.le_trans r.wei h', r.sho, r.can⟩
theorem Rp.shaped {k w : Nat} {d : D} (r : Rp k w d) (h : k ≤ 64) : SeqAt.shaped d = true := by
  unfold SeqAt.shaped
  rw [r.lay, decide_eq_true (Nat.le_trans r.dep h)]
  rfl
theorem Rp.repr {k w : Nat} {d : D} (r : Rp k w d) (h : k ≤ 60) (hw : w ≤ 2 ^ 20) : reprOk d ∧ d.hasDict = false := by
  refine ⟨⟨r.can, ?_, Nat.le_trans r.dep h⟩, PyData.hasDict_of_canLay d r.lay⟩
  refine PyData.shown_fits_of_layable0 (B := 13) (by decide) (by decide) ?_ r.sho
  unfold PyData.layable0
  have h1 := r.dep
  have h2 := r.wei
  rw [r.lay, decide_eq_true (show d.depth ≤ 64 by omega), decide_eq_true (show d.weight ≤ 2 ^ 20 by omega)]
  rfl
theorem log2_lt {n k : Nat} (h : n < 2 ^ k) (hk : 0 < k) : n.log2 < k := by
  by_cases e : n = 0
  · subst e
    simpa using hk
  · exact (Nat.log2_lt e).mpr h
theorem rp_int {i : Int} (h : i.natAbs < 10 ^ 12) : Rp 0 41 (.int i) := by
  have h0 : i.natAbs.log2 < 40 := log2_lt (Nat.lt_trans h (by decide)) (by decide)
  refine ⟨rfl, Nat.le_refl _, ?_, ?_, ?_⟩
  · unfold PyData.weight
    split <;> omega
  · have := PyData.intsShortAll_ints [i] (by simpa using h)
    simpa [PyData.intsShortAll] using this
  · unfold PyData.showable
    exact decide_eq_true (by omega)
structure Rps (k w : Nat) (ds : List D) : Prop where
  lay : PyData.canLayAll0 ds = true
  dep : PyData.depthAll ds ≤ k
  wei : PyData.weightAll ds ≤ w
  sho : PyData.intsShortAll 13 ds = true
  can : PyData.showableAll ds = true
theorem rps_of {k w : Nat} : ∀ {ds : List D} {n : Nat}, (∀ d ∈ ds, Rp k w d) → ds.length ≤ n → Rps k (n * (w + 1)) ds
  | [], n, _, _ => ⟨rfl, Nat.zero_le _, Nat.zero_le _, rfl, rfl⟩
  | d :: ds, n, h, hn => by
    have r := h d List.mem_cons_self
    have ih := rps_of (n := ds.length) (fun x hx => h x (List.mem_cons_of_mem _ hx)) (Nat.le_refl _)
    refine ⟨?_, ?_, ?_, ?_, ?_⟩
    · rw [PyData.canLayAll0, r.lay, ih.lay]; rfl
    · rw [PyData.depthAll]; exact Nat.max_le.mpr ⟨r.dep, ih.dep⟩
    · rw [PyData.weightAll]
      have h1 := r.wei
      have h2 := ih.wei
      have h3 : (ds.length + 1) * (w + 1) ≤ n * (w + 1) := Nat.mul_le_mul_right _ (by simpa using hn)
      rw [Nat.add_mul, Nat.one_mul] at h3
      omega
    · rw [PyData.intsShortAll, r.sho, ih.sho]; rfl
    · rw [PyData.showableAll, r.can, ih.can]; rfl
theorem Rps.tup {k w : Nat} {ds : List D} (r : Rps k w ds) : Rp (k + 1) w (.tuple ds) := by
  refine ⟨?_, ?_, ?_, ?_, ?_⟩
  · rw [PyData.canLay0]; exact r.lay
  · rw [PyData.depth]; exact Nat.succ_le_succ r.dep
  · rw [PyData.weight]; exact r.wei
  · rw [PyData.intsShort]; exact r.sho
  · rw [PyData.showable]; exact r.can
theorem Rps.lst {k w : Nat} {ds : List D} (r : Rps k w ds) : Rp (k + 1) w (.list ds) := by
  refine ⟨?_, ?_, ?_, ?_, ?_⟩
  · rw [PyData.canLay0]; exact r.lay
  · rw [PyData.depth]; exact Nat.succ_le_succ r.dep
  · rw [PyData.weight]; exact r.wei
  · rw [PyData.intsShort]; exact r.sho
  · rw [PyData.showable]; exact r.can
theorem rp_tup {k w : Nat} {ds : List D} (n : Nat) (h : ∀ d ∈ ds, Rp k w d) (hn : ds.length ≤ n) : Rp (k + 1) (n * (w + 1)) (.tuple ds) := (rps_of h hn).tup
/-! ### loops -/
/-- the kept ones, each told by k -/
theorem compD_fl {α : Type} (h k : α → D) (p : α → Bool) {g : GT} {tt : BT} {te : ET} {η0 : EnvD} : ∀ {xs : List α} {acc : List D} {Q : List D → Prop},
    (∀ a ∈ xs, ∀ (R1 : D → Prop) (R0 : Prop), (p a = true → R1 (k a)) → (p a = false → R0) → g (h a) η0 fun η1 => tt never η1 fun b => if b = true then te never η1 R1 else R0) → acc.length + xs.length ≤ sizeLine → Q (acc ++ (xs.filter p).map k) → compD g tt te η0 (xs.map h) acc Q
  | [], acc, Q, _, _, q => by
    simp only [List.filter_nil, List.map_nil, List.append_nil] at q
    exact q
  | a :: xs, acc, Q, each, hl, q => by
    rw [List.length_cons] at hl
    refine each a List.mem_cons_self _ _ (fun e => ⟨by omega, ?_⟩) fun e => ?_
    · refine compD_fl h k p (fun x hx => each x (List.mem_cons_of_mem _ hx)) (by rw [List.length_append, List.length_singleton]; omega) ?_
      rw [List.filter_cons_of_pos e, List.map_cons] at q
      rwa [List.append_assoc, List.singleton_append]
    · refine compD_fl h k p (fun x hx => each x (List.mem_cons_of_mem _ hx)) (by omega) ?_
      rwa [List.filter_cons_of_neg (by rw [e]; decide)] at q
theorem forD_inv {g : GT} {tb : SD} {E : XP} {z : EndsD} (J : List D → EnvD → Prop) (h : ∀ d ds η, J (d :: ds) η → ∀ nx : EnvD → Prop, (∀ η', J ds η' → nx η') → g d η fun η1 => tb E { nx := nx, rt := z.rt, bk := z.nx, ct := nx } η1) (h0 : ∀ η, J [] η → z.nx η) :
    ∀ {ds : List D} {η : EnvD}, J ds η → forD g tb E z ds η
  | [], η, j => h0 η j
  | d :: ds, η, j => h d ds η j _ fun η' j' => forD_inv J h h0 j'
/-! ### order -/
def ltL : List Int → List Int → Bool
  | [], [] => false
  | [], _ :: _ => true
  | _ :: _, [] => false
  | a :: l, b :: m => if a = b then ltL l m else decide (a < b)
theorem dataLt_T : ∀ l m : List Int, PySem.W.dataLt (T l) (T m) = ltL l m
  | [], [] => by decide +kernel
  | [], b :: m => by
    unfold T ltL
    rw [PySem.W.dataLt_tuple, List.map_cons, PySem.W.toks_all_cons]
    rfl
  | a :: l, [] => by
    unfold T ltL
    rw [PySem.W.dataLt_tuple, List.map_cons, PySem.W.toks_all_cons]
    rfl
  | a :: l, b :: m => by
    have ih := dataLt_T l m
    unfold T at ih ⊢
    rw [PySem.W.dataLt_tuple] at ih ⊢
    unfold ltL
    rw [List.map_cons, List.map_cons]
    by_cases e : a = b
    · rw [if_pos e, PySem.W.dataLt_all_yes rfl (by rw [eqv_int, decide_eq_true e])]
      exact ih
    · rw [if_neg e, PySem.W.dataLt_all_no rfl (by rw [eqv_int, decide_eq_false e]), PySem.W.dataLt_int]
/-- ascending -/
abbrev Asc (l : List Int) : Prop := l.Pairwise (· < ·)
/-- two ascending lists of the same members are one -/
theorem asc_ext : ∀ {l m : List Int}, Asc l → Asc m → (∀ x, x ∈ l ↔ x ∈ m) → l = m
  | [], [], _, _, _ => rfl
  | [], b :: m, _, _, h => absurd ((h b).mpr List.mem_cons_self) (by simp)
  | a :: l, [], _, _, h => absurd ((h a).mp List.mem_cons_self) (by simp)
  | a :: l, b :: m, hl, hm, h => by
    obtain ⟨l1, l2⟩ := List.pairwise_cons.mp hl
    obtain ⟨m1, m2⟩ := List.pairwise_cons.mp hm
    have e : a = b := by
      rcases List.mem_cons.mp ((h a).mp List.mem_cons_self) with e | ha
      · exact e
      · rcases List.mem_cons.mp ((h b).mpr List.mem_cons_self) with e | hb
        · exact e.symm
        · have := m1 a ha
          have := l1 b hb
          omega
    subst e
    refine congrArg _ (asc_ext l2 m2 fun x => ⟨fun hx => ?_, fun hx => ?_⟩)
    · rcases List.mem_cons.mp ((h x).mp (List.mem_cons_of_mem _ hx)) with e | z
      · have := l1 x hx
        omega
      · exact z
    · rcases List.mem_cons.mp ((h x).mpr (List.mem_cons_of_mem _ hx)) with e | z
      · have := m1 x hx
        omega
      · exact z
end PL

/-! DLset0: a set of nested tuples: searching, adding. -/
namespace DS
open PySem PySem.Spec PyProof.Rows L2
variable {P : Program} {w : World} {A : Around} {E : Value → Shared → Prop} {s : Shared}
mutual
/-- ints, tuples of such .. -/
def numK : NestedKey → Bool
  | .num _ => true
  | .tup ks => numKs ks
  | _ => false
def numKs : List NestedKey → Bool
  | [] => true
  | k :: ks => numK k && numKs ks
end
/-- the key k at a -/
structure At (h : Heap) (k : NestedKey) (a : Addr) : Prop where
  is : NestedIs h k (.ref a)
  dep : k.depth ≤ 8
  num : numK k = true
abbrev hsh (w : World) (k : NestedKey) : Int := k.hash w
theorem At.keep {h h' : Heap} {k : NestedKey} {a : Addr} (x : At h k a) (hk : ∀ c o, h.get? c = some o → h'.get? c = some o) : At h' k a := ⟨NestedIs.at (fun c o vs n e _ => hk c o e) _ _ x.is, x.dep, x.num⟩
/-- the rows of the set at its addresses and keys -/
abbrev Row := Addr × NestedKey
def rws (w : World) (L : List Row) : List (Int × Value) := L.map fun p => (hsh w p.2, Value.ref p.1)
theorem rws_len (L : List Row) : (rws w L).length = L.length := List.length_map _
structure SetK (w : World) (h : Heap) (a : Addr) (L : List Row) (es : Array (Int × Value)) (ep : Nat) (t : SetTable) : Prop where
  here : ∃ o, h.get? a = some o ∧ o.ExactSet ∧ o.data = .set es ep t
  row : es.toList = rws w L
  ok : TabOk t (L.map fun p => hsh w p.2)
  one : (L.map Prod.snd).Nodup
  at_ : ∀ p ∈ L, At h p.2 p.1
  pl : t.plain = true
  ld : w.params.followText "set-order" = true ∨ t.led = true
  lo : L.length * 5 < t.mask * 3
  lt : L.length < 64
variable {a : Addr} {L : List Row} {es : Array (Int × Value)} {ep : Nat} {t : SetTable}
theorem SetK.size (S : SetK w s.heap a L es ep t) : es.size = L.length := by
  have := congrArg List.length S.row
  rwa [Array.length_toList, rws_len] at this
/-- the n-th step of the way of the hash h -/
abbrev step (m : Nat) (h : Int) (n : Nat) : SetTable.Probe := nth m (runAt m (SetTable.bits h % (m + 1)) (SetTable.bits h)) n
end DS

/-! DLset1: adding, set(xs). -/
namespace DS
open PySem PySem.Spec PyProof.Rows L2
variable {P : Program} {w : World} {A : Around} {E : Value → Shared → Prop} {s : Shared}
variable {a : Addr} {L : List Row} {es : Array (Int × Value)} {ep : Nat} {t : SetTable}
/-- a key stays, whatever becomes of the set -/
theorem At.but {h h' : Heap} {k : NestedKey} {b : Addr} {o : Obj} (x : At h k b) (ho : h.get? a = some o) (hd : o.data = .set es ep t) (hs : Heap.SameBut a h h') : At h' k b := by
  refine ⟨NestedIs.at (fun c oc vs n e d => ?_) _ _ x.is, x.dep, x.num⟩
  have ne : c ≠ a := fun z => by
    subst z
    rw [ho] at e
    cases e
    rw [hd] at d
    cases d
  exact (hs.2 c ne).trans e
end DS

/-! DLset2: set(xs) of a list of nested tuples. -/
namespace DS
open PySem PySem.Spec PyProof.Rows L2
variable {P : Program} {w : World} {A : Around} {E : Value → Shared → Prop} {s : Shared}
/-- what the set has of the first i rows -/
structure From (ks : List Row) (i : Nat) (L : List Row) : Prop where
  sub : ∀ p ∈ L, p ∈ ks.take i
  all : ∀ p ∈ ks.take i, p.2 ∈ L.map Prod.snd
  len : L.length ≤ i
theorem From.next {ks L L' : List Row} {i : Nat} {x : Row} (g : From ks i L) (h : ks[i]? = some x) (c : (x.2 ∈ L.map Prod.snd ∧ L' = L) ∨ (x.2 ∉ L.map Prod.snd ∧ L'.Perm (x :: L))) : From ks (i + 1) L' := by
  have e := take_next h
  rcases c with ⟨hm, rfl⟩ | ⟨_, pm⟩
  · refine ⟨fun p hp => ?_, fun p hp => ?_, Nat.le_succ_of_le g.len⟩
    · rw [e]; exact List.mem_append_left _ (g.sub p hp)
    · rw [e] at hp
      rcases List.mem_append.mp hp with z | z
      · exact g.all p z
      · rw [List.mem_singleton] at z
        subst z
        exact hm
  · have mem : ∀ y, y ∈ L' ↔ y = x ∨ y ∈ L := fun y => by rw [pm.mem_iff, List.mem_cons]
    refine ⟨fun p hp => ?_, fun p hp => ?_, by rw [pm.length_eq]; exact Nat.succ_le_succ g.len⟩
    · rw [e]
      rcases (mem p).mp hp with z | z
      · exact List.mem_append_right _ (List.mem_singleton.mpr z)
      · exact List.mem_append_left _ (g.sub p z)
    · rw [e] at hp
      rw [(pm.map Prod.snd).mem_iff, List.map_cons, List.mem_cons]
      rcases List.mem_append.mp hp with z | z
      · exact .inr (g.all p z)
      · rw [List.mem_singleton] at z
        exact .inl (by rw [z])
theorem SetK.on {h h' : Heap} {a : Addr} {L : List Row} {es : Array (Int × Value)} {ep : Nat} {t : SetTable} (S : SetK w h a L es ep t) (ha : ∀ o, h.get? a = some o → h'.get? a = some o) (hk : ∀ p ∈ L, At h' p.2 p.1) : SetK w h' a L es ep t := by
  obtain ⟨o, ho, r⟩ := S.here
  exact ⟨⟨o, ha o ho, r⟩, S.row, S.ok, S.one, hk, S.pl, S.ld, S.lo, S.lt⟩
/-- the object of a new set -/
abbrev newSet (w : World) : Obj := { cls := .type "set", dict := none, data := .set #[] 0 (.fresh 0 0 (!w.params.followText "set-order")) }
end DS

/-! DLset3: sorted(set). -/
namespace DS
open PySem PySem.Spec PyProof.Rows L2 DL
mutual
def keyD : D → NestedKey
  | .int i => .num i
  | .tuple xs => .tup (keyDs xs)
  | _ => .none
def keyDs : List D → List NestedKey
  | [] => []
  | x :: xs => keyD x :: keyDs xs
end
mutual
def datK : NestedKey → D
  | .num i => .int i
  | .tup ks => .tuple (datKs ks)
  | _ => .none
def datKs : List NestedKey → List D
  | [] => []
  | k :: ks => datK k :: datKs ks
end
section
variable {P : Program} {w : World} {A : Around} {E : Value → Shared → Prop} {s : Shared} {a : Addr} {L : List Row} {es : Array (Int × Value)} {ep : Nat} {t : SetTable}
end
end DS

/-! DLset: sorted(set(xs)), xs a list of tuples of ints, nested. -/
namespace DL
open PySem PySem.Spec PyProof.Rows L2
/-- what may stand in the set -/
def SetOk (xs : List D) : Prop := xs.length < 64 ∧ xs.all itup = true ∧ PySem.W.AllAlike xs ∧ (∀ d, d ∈ xs → ∃ x r, d = .tuple (x :: r)) ∧ ∀ d, d ∈ xs → d.depth ≤ 8
def nSortSet (t : ET) : NT := fun E η Q => t E η fun d => match d with
  | .list xs => SetOk xs ∧ ∀ ys, ys.Pairwise (fun a b => PySem.W.dataLt a b = true) → (∀ d, d ∈ ys ↔ d ∈ xs) → Q ys
  | _ => False
def tSortSet (K : PySem.W.Frag) (ta : TE) : TE := fun σ H Q => ta σ H fun x H1 => ∃ (l : Addr) (xs : List V) (ds : List D) (O : Addr → Prop), x = V.ref l ∧ H1 l = some (.lst xs) ∧ RepAll K O H1 xs ds ∧ SetOk ds ∧
  ∀ p ys es, H1 p = none → RepAll K O H1 ys es → es.Pairwise (fun a b => PySem.W.dataLt a b = true) → (∀ d, d ∈ es ↔ d ∈ ds) → ys.length ≤ sizeLine → Q (.ref p) (upd H1 p (.lst ys))
section
variable {X : Cx} {e : Expr} {t : ET} {p p2 q2 pos : Pos}
end
end DL

/-! DL15: sorted of a tuple. -/
namespace DL
open PySem PySem.Spec PyProof.Rows L2
section
variable {prog : Program} {w : World} {A : Around} {E : Value → Shared → Prop} {s : Shared}
end
section
variable {X : Cx} {e : Expr} {ts : AT} {p pos : Pos}
def SrtT (ds : List D) : Prop := ds.all itup = true ∧ PySem.W.AllAlike ds ∧ PySem.W.Sortable ds ∧ ∀ d, d ∈ ds → d.depth ≤ 60
def rSortTup (K : PySem.W.Frag) : List V → Hp → VK → Prop := fun vs H Q => ∃ (a : Addr) (xs : List V) (ds : List D) (O : Addr → Prop), vs = [.ref a] ∧ SqT K H a xs ∧ RepAll K O H xs ds ∧ SrtT ds ∧ ∀ p ys, H p = none → RepAll K O H ys (sortD ds) → Q (.ref p) (upd H p (.lst ys))
def fSortedT : List D → (List D → Prop) → Prop
  | [.tuple xs], Q => SrtT xs ∧ Q (sortD xs)
  | _, _ => False
end
end DL

/-! DL23: dicts whose keys are tuples of ints (nested): dict(pairs), d[k], list(d), {}. -/
namespace DL
open PySem PySem.Spec PyProof.Rows L2
/-! ### keys -/
section
variable {X : Cx} {pins : List (Addr × Obj)} {σ : L2.St} {H : Hp} {s : Shared} {O : Addr → Prop}
mutual
theorem Rep.nested (I : Inv X pins σ H s) : ∀ {d : D} {v : V} {u : Value}, itup d = true → Rep X.K O H v d → RelV v u → NestedIs s.heap (nk d) u
  | _, _, u, _, .int i, r => by
    obtain ⟨t, rfl⟩ := r
    exact .int i t
  | _, _, u, h, .tup ht ra, r => by
    cases r
    obtain ⟨its, rv, ⟨o, ho, hc, n, hd⟩, _⟩ := I.tuple ht.sq
    exact .tup ho hc hd (by simpa using RepAll.nested I (by simpa [itup] using h) ra rv)
  | _, _, _, h, .non, _ => by simp [itup] at h
  | _, _, _, h, .bl _, _ => by simp [itup] at h
  | _, _, _, h, .str _, _ => by simp [itup] at h
  | _, _, _, h, .lst .., _ => by simp [itup] at h
  | _, _, _, h, .dct .., _ => by simp [itup] at h
  | _, _, _, h, .dci .., _ => by simp [itup] at h
  | _, _, _, h, .exc .., _ => by simp [itup] at h
  | _, _, _, h, .exc0 .., _ => by simp [itup] at h
theorem RepAll.nested (I : Inv X pins σ H s) : ∀ {ds : List D} {vs : List V} {us : List Value}, itupAll ds = true → RepAll X.K O H vs ds → Vals vs us → NestedAll s.heap (nks ds) us
  | _, _, _, _, .nil, .nil => .nil
  | _, _, _, h, .cons r t, .cons q l => by
    simp only [itupAll, Bool.and_eq_true] at h
    exact .cons (Rep.nested I h.1 r q) (RepAll.nested I h.2 t l)
end
/-- the dict's table -/
def tabOf : List (D × D) → List Addr → List Value → List (NestedKey × Addr × Value)
  | p :: kvs, b :: bs, x :: xs => (nk p.1, b, x) :: tabOf kvs bs xs
  | _, _, _ => []
end
/-! ### d[k] -/
def dLook (kvs : List (D × D)) (k : D) : Option D := (kvs.find? fun p => PyData.eqv p.1 k).map (·.2)
section
variable {X : Cx} {a b e : Expr} {es : List Expr} {pos p : Pos} {ta tb : ET} {ts : AT}
def rIxDict (K : PySem.W.Frag) : R2 := fun x y H Q => ∃ (O : Addr → Prop) (kvs : List (D × D)) (k d : D), Rep K O H x (.dict kvs) ∧ Rep K O H y k ∧ keyOk k = true ∧ dLook kvs k = some d ∧ ∀ v, Rep K O H v d → Q v H
def oIxD : OpD
  | .dict kvs, k, Q => keyOk k = true ∧ onS (dLook kvs k) Q
  | x, k, Q => oIx x k Q
end
end DL

/-! DL24: dict(pairs), list(d). -/
namespace DL
open PySem PySem.Spec PyProof.Rows L2
def pairD (p : D × D) : D := .tuple [p.1, p.2]
/-- what dict(..) asks of its pairs -/
structure KvOk (kvs : List (D × D)) : Prop where
  keys : ∀ p ∈ kvs, keyOk p.1 = true
  nd : (kvs.map (·.1)).Nodup
section
variable {X : Cx} {pins : List (Addr × Obj)} {σ : L2.St} {H : Hp} {s : Shared} {O : Addr → Prop}
theorem dictO_ok {P : Program} {w : World} {H : Hp} {h : Heap} {a : Addr} {es : Array DictEntry} {ep : Nat} (x : ∃ o, h.get? a = some o ∧ o.ExactDict ∧ o.data = .dict es ep) : ObjOk P w H h a (dictO a es ep) := by
  obtain ⟨o, h1, h2, h3⟩ := x
  exact ⟨⟨o, h1, h2, h3⟩, ⟨o, h1⟩, fun _ _ ⟨o, e1, e2, e3⟩ st => ⟨o, st o e1, e2, e3⟩⟩
end
section
variable {X : Cx} {e : Expr} {pos p : Pos} {ts : AT}
def rDictP (K : PySem.W.Frag) : List V → Hp → VK → Prop := fun vs H Q => ∃ (a : Addr) (xs : List V) (kvs : List (D × D)) (O : Addr → Prop), vs = [.ref a] ∧ H a = some (.lst xs) ∧ RepAll K O H xs (kvs.map pairD) ∧ KvOk kvs ∧
  ∀ p es ep ks vs, H p = none → (p == sysModules) = false → Real p es ep → DictOk es ks vs kvs → RepAll K O H ks (kvs.map (·.1)) → RepAll K O H vs (kvs.map (·.2)) → Q (.ref p) (upd H p (dictO p es ep))
def fDictP : CallD
  | [.list ps], Q => ∃ kvs, ps = kvs.map pairD ∧ KvOk kvs ∧ Q (.dict kvs)
  | _, _ => False
/-! list(d) -/
def rListD (K : PySem.W.Frag) : List V → Hp → VK → Prop := fun vs H Q => ∃ (O : Addr → Prop) (v : V) (kvs : List (D × D)), vs = [v] ∧ Rep K O H v (.dict kvs) ∧ tkD kvs = true ∧ ∀ p ks, H p = none → RepAll K O H ks (kvs.map (·.1)) → Q (.ref p) (upd H p (.lst ks))
def fListD : List D → (List D → Prop) → Prop
  | [.dict kvs], Q => tkD kvs = true ∧ Q (kvs.map (·.1))
  | ds, Q => fList ds Q
end
end DL

/-! DLset4: sorted(set(xs)), xs a tuple of ints. -/
namespace DL
open PySem PySem.Spec PyProof.Rows L2
def nSortSetI (t : ET) : NT := fun E η Q => t E η fun d => match d with
  | .tuple xs => xs.length < 64 ∧ xs.all isI = true ∧ ∀ ns : List Int, ns.Pairwise (· < ·) → (∀ i, i ∈ ns ↔ i ∈ xs.map iOf) → Q (ns.map .int)
  | _ => False
def tSortSetI (K : PySem.W.Frag) (ta : TE) : TE := fun σ H Q => ta σ H fun x H1 => ∃ (l : Addr) (ns : List Int), x = V.ref l ∧ SqT K H1 l (ns.map V.int) ∧ ns.length < 64 ∧
  ∀ (p : Addr) (ns' : List Int), H1 p = none → ns'.Pairwise (· < ·) → (∀ i, i ∈ ns' ↔ i ∈ ns) → ns'.length ≤ ns.length → Q (.ref p) (upd H1 p (.lst (ns'.map V.int)))
section
variable {X : Cx} {e : Expr} {t : ET} {p p2 q2 pos : Pos}
end
end DL

/-! DLmin: min of a list of data, sum of lists. -/
namespace DL
open PySem PySem.Spec PyProof.Rows L2
def CmpOn (h0 : Heap) (prog : Program) (w : World) (A : Around) (op : CmpOp) (P : Nat → Value → Prop) (bt : Nat → Nat → Bool) : Prop :=
  ∀ i j vi vj (s : Shared) (Q : Value → Shared → Prop) (E : Value → Shared → Prop), (∀ c o, h0.get? c = some o → s.heap.get? c = some o) → P i vi → P j vj → Q (.bool (bt i j)) s → wpAny (model prog w) A (richCompare op vi vj) Q E s
section
variable {prog : Program} {w : World} {A : Around} {R : Result → Shared → Prop} {I : Addr} {fp wr : List Addr} {n : Nat} {P : Nat → Value → Prop} {St : Nat → Heap → Prop} {h0 : Heap}
end
section
variable {prog : Program} {w : World} {A : Around} {E : Value → Shared → Prop} {s : Shared} {l : Addr} {its : List Value}
end
end DL
namespace DL
open PySem PySem.Spec PyProof.Rows L2
/-- the least of some data: the first of the least -/
def pickD (b d : D) : D := bif PySem.W.dataLt d b then d else b
def minD : List D → D
  | [] => .none
  | x :: xs => xs.foldl pickD x
def ltAt (ds : List D) (i j : Nat) : Bool := PySem.W.dataLt (ds.getD i .none) (ds.getD j .none)
def MinOk (ds : List D) : Prop := ds ≠ [] ∧ PySem.W.AllAlike ds ∧ ∀ d, d ∈ ds → d ≠ .none ∧ d.depth ≤ 60
def rMinD (K : PySem.W.Frag) : List V → Hp → VK → Prop := fun vs H Q => ∃ (a : Addr) (xs : List V) (ds : List D) (O : Addr → Prop), vs = [.ref a] ∧ SqL K H a xs ∧ RepAll K O H xs ds ∧ MinOk ds ∧ ∀ x, Rep K O H x (minD ds) → Q x H
def fMinL : CallD
  | [.list xs], Q => MinOk xs ∧ Q (minD xs)
  | _, _ => False
/-! sum of lists -/
def accL (ys : List V) (ls : List (Addr × List V)) (i : Nat) : List V := ys ++ ((ls.take i).map (·.2)).flatten
section
variable {prog : Program} {w : World} {A : Around} {R : Result → Shared → Prop} {I : Addr} {fp wr : List Addr} {n : Nat} {P : Nat → Value → Prop} {St : Nat → Heap → Prop} {h0 : Heap}
end
section
variable {prog : Program} {w : World} {A : Around} {E : Value → Shared → Prop} {s : Shared} {l b0 : Addr} {items : List Value}
end
/-- lists of lists -/
def isL : D → Bool
  | .list _ => true
  | _ => false
def lOf : D → List D
  | .list xs => xs
  | _ => []
def rSumL (K : PySem.W.Frag) : List V → Hp → VK → Prop := fun vs H Q => ∃ (a b0 : Addr) (ys : List V) (ls : List (Addr × List V)), vs = [.ref a, .ref b0] ∧ SqL K H a (ls.map fun p => V.ref p.1) ∧ H b0 = some (.lst ys) ∧ (∀ p, p ∈ ls → H p.1 = some (.lst p.2)) ∧ (accL ys ls ls.length).length ≤ sizeLine ∧
  (ls = [] → Q (.ref b0) H) ∧ ∀ p, H p = none → Q (.ref p) (upd H p (.lst (accL ys ls ls.length)))
def fSumL : CallD
  | [.list xs, .list ys], Q => xs.all isL = true ∧ ys.length + (xs.map lOf).flatten.length ≤ sizeLine ∧ Q (.list (ys ++ (xs.map lOf).flatten))
  | _, _ => False
end DL

/-! DLe1: C(v): an exception class of the program whose __init__ says super().__init__(text) and keeps its argument in a field. -/
namespace DL
open PySem PySem.Spec PyProof.Rows L2
/-- what the written part says of such a class -/
structure ExFacts (P : Program) (K : PySem.W.Frag) (B newId initId : String) (bmB : List Value) (C : Addr) (fld : Str) (fI cc cda : Addr) (q : Str) (params : Arguments) (body : List Stmt) (scope : Scope) (fd : FuncData) : Prop where
  base : ExcBaseFacts B newId initId bmB
  kxs : PySem.W.KxsFacts B initId
  sto : StoreFacts B bmB "object.__setattr__" "object"
  cls : PySem.W.excInitIn K C bmB newId = true
  over : PySem.W.excOver K C bmB = true
  ini : PySem.W.findIn K (.ref C) "__init__" = some (some (.ref fI))
  iniT : PySem.W.typeIn K (.ref fI) = some (.type "function")
  fn : ∃ oc od osl, K.lookup fI = some ⟨oc, od, .func fd, osl⟩
  fdE : ∃ dV kV doc pm an ct, fd = PySem.W.ksFn "__init__" q params body scope dV kV doc pm an (.ref cda) ct cc
  code : PySem.W.codeIn K (.ref cda) q = true
  file : ∃ ccl cdd vs ccs f tf, K.lookup cda = some ⟨ccl, cdd, .fields vs, ccs⟩ ∧ vs[2]? = some (.str f tf) ∧ ((P.main.file : Str) == f) = true
  cell : ∃ cl cld csl, K.lookup cc = some ⟨cl, cld, .cell (some (.ref C)), csl⟩
  sub : PySem.W.mroIn K C (.ref C) = some true
  sup : PySem.W.ks_superIn K C C "__init__" = some (some (.builtin initId))
  subB : PySem.W.subIn K (.ref C) (.type B) = some true
  noAny : PySem.W.nsIn K cStatics "thirdparty.any" = some none
  noSuper : (P.main.scope.names.lookup ("super" : Str)).isSome = false
  sa : PySem.W.findIn K (.ref C) "__setattr__" = some (some (.builtin "object.__setattr__"))
  noF : PySem.W.takerIn K C fld = some none
  hasD : PySem.W.hasDictIn K C = true
  exC : PySem.W.subIn K (.ref C) (.type "BaseException") = some true
  tyC : PySem.W.typeIn K (.ref C) = some (.type "type")
  kC : PySem.W.keepIn K (.ref C) = true
abbrev exObj (C t : Addr) (dd : Option Addr) : Obj := { cls := .ref C, dict := dd, data := .fields #[.ref t, .none, .none, .none, .bool false, .none] }
/-- the body of such an __init__ -/
abbrev exBody (fld msg : Str) (j : Nat) (p0 p1 p2 p3 p4 p5 p6 p7 p8 p9 : Pos) : List Stmt :=
  [.Expr (.Call (.Attribute (.Call (.Name "super" p0) [] [] p1) "__init__" p2) [.Constant (.str msg) j p3] [] p4) p5, .Assign [.Attribute (.Name "self" p6) fld p7] (.Name fld p8) p9]
def SuperCall (msg : Str) (j : Nat) (p0 p1 p2 p3 p4 : Pos) : Prop := ∀ env : Env, ∃ pl : Sem Bool, eval (.Call (.Attribute (.Call (.Name "super" p0) [] [] p1) "__init__" p2) [.Constant (.str msg) j p3] [] p4) env = (do
      let ov ← attributeBase (.Call (.Name "super" p0) [] [] p1) "__init__" env (eval (.Call (.Name "super" p0) [] [] p1) env)
      standAt p2.atName
      let (f, first) ← holding [ov] (getMethod ov "__init__" pl)
      callWith p4 f first (backTo p4 (starEach [.Constant (.str msg) j p3] env)) [])
/-- no store of it is swapped with another -/
def NoSwap (fld msg : Str) (j : Nat) (p0 p1 p2 p3 p4 p5 p6 p7 p8 p9 : Pos) : Prop := ∀ env : Env,
  swapsWith (.Call (.Attribute (.Call (.Name "super" p0) [] [] p1) "__init__" p2) [.Constant (.str msg) j p3] [] p4) none p5.line env = pure false ∧ swapsWith (.Name fld p8) (some (.Attribute (.Name "self" p6) fld p7)) p9.line env = pure false
structure ExScope (scope : Scope) (fld : Str) : Prop where
  kind : scope.kind = .function
  co : scope.isCoroutine = false
  gen : scope.isGenerator = false
  cells : ∀ x ∈ scope.names, x.2 ≠ .cell
  self : scope.names.lookup ("self" : Str) = some .local
  fldL : scope.names.lookup fld = some .local
  sup : scope.names.lookup ("super" : Str) = some .globalImplicit
  cls : scope.names.lookup ("__class__" : Str) = some .free
  ne : fld ≠ "self"
  dbg : (fld == ("__debug__" : Str)) = false
section
variable {prog : Program} {w : World} {A : Around} {E : Value → Shared → Prop} {s : Shared} {K : PySem.W.Frag} {B newId initId : String} {bmB : List Value} {C u x t0 : Addr}
theorem mw_call {Q : Value → Shared → Prop} {msg : Str} {tk : Tok} (FB : ExcBaseFacts B newId initId bmB) (X : K.In s.heap) (q : PySem.W.excInitIn K C bmB newId = true) (hu : s.heap.get? u = some (PySem.W.kxs_mw initId x)) (he : s.heap.get? x = some (exObj C t0 none))
    (h : ∀ h', (∀ b o, b ≠ x → s.heap.get? b = some o → h'.get? b = some o) → h'.get? x = some (exObj C s.heap.objs.size none) → Q .none { s with heap := h' }) : wpAny (model prog w) A (call (.ref u) [.str msg tk]) Q E s := by
  obtain ⟨nm, N', qn, bs, bm, hdct, sn, sub, ab, col, dd, k0, k1, k2, k3, k5, hC, hT⟩ := PySem.W.excInit_of X q
  obtain ⟨hh, g, d, tk', os⟩ := s
  refine wpAny_call (codeAny_of_tree ?_)
  show wpAny _ A.in1 (callAny (.ref u) ⟨[.str msg tk], []⟩) _ _ _
  simp only [callAny]
  refine wpAny_bind (wpAny_load hu ?_)
  simp only [PySem.W.kxs_mw, show (Value.type "method-wrapper" == Value.type "method" || Value.type "method-wrapper" == Value.type "builtin_function_or_method" || Value.type "method-wrapper" == Value.type "method-wrapper") = true by decide, if_true]
  refine PySem.W.KFB.if_so (by decide) ?_
  refine wpAny_bind (PySem.W.check_bound_init FB.toExcCallFacts hC he rfl ?_)
  refine wpAny_bind (wpAny_pure (wpAny_pure ?_))
  refine ⟨plainId_quiet FB.init.plain _, codeAny_builtin FB.initEntry ?_⟩
  exact PySem.W.exc_init_tree (cls := .ref C) (t0 := t0) (dv := none) (c2 := .none) (c3 := .none) (b4 := .bool false) he (show 1 ≤ sizeLine by rw [sizeLine_eq]; decide) fun h4 k4 e4 t4 => h h4 k4 e4
end
section
variable {prog : Program} {w : World} {A : Around} {K : PySem.W.Frag} {B newId initId : String} {bmB : List Value} {C fI cc cda : Addr} {fld msg q : Str} {scope : Scope} {p0 p1 p2 p3 p4 p5 p6 p7 p8 p9 : Pos} {j : Nat} {params : Arguments} {fd : FuncData}
theorem ex_init {R : Result → Shared → Prop} {hp : Heap} {g : Array GenState} {d : Drawn} {t : Nat} {os : OsState} {e t0 : Addr} {v : Value} {mg mb : Str → Option Value} {ar : Args}
    (F : ExFacts prog K B newId initId bmB C fld fI cc cda q params (exBody fld msg j p0 p1 p2 p3 p4 p5 p6 p7 p8 p9) scope fd) (S : ExScope scope fld) (hc : SuperCall msg j p0 p1 p2 p3 p4) (hsw : NoSwap fld msg j p0 p1 p2 p3 p4 p5 p6 p7 p8 p9) (hpar : (params.posonlyargs ++ params.args).head?.map (·.arg) = some ("self" : Str))
    (X : K.In hp) (hKe : K.lookup e = none) (he : hp.get? e = some (exObj C t0 none)) (hG : hp.Ns mainGlobals mg) (hs : mg "super" = none) (hB : hp.Ns builtinsNs mb) (hb : mb "super" = some (.type "super")) (lim : hp.NoLimit) (room : A.depth < recursionLimit)
    (hbind : BindsTo ⟨hp, g, d, t, os⟩ fd ar [("self", .ref e), (fld, v)])
    (hq : ∀ h' dx t1 tk, (∀ b o, b ≠ e → hp.get? b = some o → h'.get? b = some o) → hp.objs.size ≤ dx → dx ≠ e → h'.get? e = some (exObj C t1 (some dx)) → h'.Ns1 dx (fun y => if y = fld then some v else none) → R (.ok (.ret .none)) ⟨h', g, d, tk, os⟩) :
    codeAny (model prog w) A (.call (.ref fI) ar) R ⟨hp, g, d, t, os⟩ := by
  obtain ⟨oc, od, osl, lk⟩ := F.fn
  obtain ⟨dV, kV, doc, pm, an, ct, hfd⟩ := F.fdE
  subst hfd
  obtain ⟨ccl, cdd, vs, ccs, f, tf, lc, hvs, hfile⟩ := F.file
  obtain ⟨cl, cld, csl, lcell⟩ := F.cell
  obtain ⟨ar, har, hself⟩ := Option.map_eq_some_iff.mp hpar
  refine ks_codeAny_call_defAt (fd := PySem.W.ksFn "__init__" q params (exBody fld msg j p0 p1 p2 p3 p4 p5 p6 p7 p8 p9) scope dV kV doc pm an (.ref cda) ct cc) (binds := [("self", .ref e), (fld, v)]) room (X _ _ lk) rfl lim (PySem.W.codeRec_of X F.code) rfl hbind S.cells ?_ (fun h1 hns k1 => ?_) S.co S.gen S.kind
  · intro y hy
    simp only [List.mem_cons, List.not_mem_nil, or_false] at hy
    rcases hy with rfl | rfl
    · exact S.self
    · exact S.fldL
  have X1 : K.In h1 := X.keeps k1
  have e1 := k1 _ _ he
  have hL : e ≠ hp.objs.size := Nat.ne_of_lt (Heap.lt_size he)
  obtain ⟨cdD, hcd⟩ : ∃ cd, PySem.W.clsIn K C = some cd := by
    have := F.sup
    unfold PySem.W.ks_superIn at this
    cases h : PySem.W.clsIn K C with
    | none => rw [h] at this; cases this
    | some cd => exact ⟨cd, rfl⟩
  obtain ⟨oD, hD1, hD2⟩ : ∃ oD, h1.get? C = some oD ∧ oD.data = .cls cdD := by
    have hD := hcd
    unfold PySem.W.clsIn at hD
    split at hD
    · rename_i c d cd' sl ho
      cases hD
      exact ⟨_, X1 _ _ ho, rfl⟩
    · cases hD
  have hsup : PySem.W.alongIn K "__init__" ((cdD.mro.dropWhile (· != .ref C)).drop 1) = some (some (.builtin initId)) := by
    have := F.sup
    unfold PySem.W.ks_superIn at this
    rw [hcd] at this
    exact this
  have I1 : PySem.W.InstAt h1 e (exObj C t0 none) C none := ⟨e1, rfl, rfl, trivial⟩
  obtain ⟨pl, hc⟩ := hc (callEnv (PySem.W.ksFn "__init__" q params (exBody fld msg j p0 p1 p2 p3 p4 p5 p6 p7 p8 p9) scope dV kV doc pm an (.ref cda) ct cc) hp.objs.size fI)
  have hint : interactive (callEnv (PySem.W.ksFn "__init__" q params (exBody fld msg j p0 p1 p2 p3 p4 p5 p6 p7 p8 p9) scope dV kV doc pm an (.ref cda) ct cc) hp.objs.size fI) = false := by
    unfold interactive
    show (scope.kind == _ && _) = false
    rw [S.kind]
    rfl
  have look1 : List.lookup ("self" : Str) ([("self", Value.ref e), (fld, v)] : List (Str × Value)).reverse = some (.ref e) := by
    show List.lookup ("self" : Str) [(fld, v), ("self", Value.ref e)] = _
    have : (("self" : Str) == fld) = false := beq_eq_false_iff_ne.mpr (Ne.symm S.ne)
    simp [List.lookup, this]
  have look2 : List.lookup fld ([("self", Value.ref e), (fld, v)] : List (Str × Value)).reverse = some v := by
    show List.lookup fld [(fld, v), ("self", Value.ref e)] = _
    simp [List.lookup]
  refine ks_wpAt_execs_cons (ks_wpAt_Expr_any (ks_wpAt_MethodCall (pl := pl) ?_ hc) hint (hsw _).1)
  refine ks_wpAt_super_base (env := PySem.W.ksEnv q scope hp.objs.size fI (.ref cda) cc) S.sup S.cls (by decide) rfl (k1 _ _ (X _ _ lk)) rfl har rfl (k1 _ _ (X _ _ lc)) rfl hvs hfile F.noSuper ?_
  refine PySem.W.ks_loadName_global S.kind S.sup (Calls.loadGlobal_builtin (env := PySem.W.ksEnv q scope hp.objs.size fI (.ref cda) cc) (hG.keeps k1) hs (hB.keeps k1) hb ⟨rfl, ?_⟩)
  refine wpAny_loadName_free S.kind S.cls rfl ⟨_, X1 _ _ lcell, rfl⟩ ?_
  refine wpAny_loadName_local S.kind (by show scope.names.lookup ar.arg = some .local; rw [hself]; exact S.self) hns (v := .ref e) (by rw [hself]; exact look1) ?_
  refine ks_wpAny_isType_cls hD1 hD2 ⟨rfl, ?_⟩
  refine ks_wpAny_call_super hD1 hD2 e1 rfl (fun c z => by cases z) (PySem.W.looks_mroIn X1 F.sub) (fun h2 e2 k2 => ?_)
  have X2 : K.In h2 := X1.keeps k2
  have I2 : PySem.W.InstAt h2 e (exObj C t0 none) C none := ⟨k2 _ _ e1, rfl, rfl, trivial⟩
  refine PySem.W.kxs_getMethod F.kxs e2 (PySem.W.looks_opaque X2 F.noAny) (l₀ := cdD.mro) (fun A Q E s k q => wpAny_bind ((PySem.W.looks_clsIn X2 hcd) A _ E s k (wpAny_pure q))) rfl X2 hsup (I2.type.andThen (PySem.W.looks_subIn X2 F.subB)) (PySem.W.ks_ne X2 I2 hcd) (by decide) ?_
  have e3 : (h2.push (PySem.W.kxs_mw initId e)).get? h2.objs.size = some (PySem.W.kxs_mw initId e) := Heap.get?_push_at rfl rfl
  have k3 : ∀ b o, h2.get? b = some o → (h2.push (PySem.W.kxs_mw initId e)).get? b = some o := fun b o z => Heap.get?_push_of_some _ z
  refine PySem.W.kxs_callWith (i := initId) (x := e) (by rfl) (Calls.evalArgs_plain (Calls.spliced_cons (Calls.Constant_str (k := j) (pos := p3) ?_)))
  refine Calls.spliced_nil ⟨e3, ?_⟩
  have he3 : (h2.push (PySem.W.kxs_mw initId e)).get? e = some (exObj C t0 none) := k3 _ _ (k2 _ _ e1)
  refine mw_call F.base (X2.keeps k3) F.cls e3 he3 fun h4 k4 e4 => ?_
  have k4' : ∀ b o, b ≠ e → hp.get? b = some o → h4.get? b = some o := fun b o n z => k4 b o n (k3 _ _ (k2 _ _ (k1 _ _ z)))
  have X4 : K.In h4 := fun b o z => k4 b o (fun y => by rw [y, hKe] at z; cases z) (X2.keeps k3 b o z)
  have hns4 : h4.Ns hp.objs.size (fun y => List.lookup y ([("self", Value.ref e), (fld, v)] : List (Str × Value)).reverse) := by
    obtain ⟨oL, esL, epL, hoL, r⟩ := hns
    exact ⟨oL, esL, epL, k4 _ _ (Ne.symm hL) (k3 _ _ (k2 _ _ hoL)), r⟩
  have zL : hp.objs.size < h4.objs.size := by
    obtain ⟨oL, esL, epL, hoL, r⟩ := hns4
    exact Heap.lt_size hoL
  show PySem.wpAt _ _ _ (execs _ _) _ _ _
  refine ks_wpAt_execs_cons (wpAt_of_wpAny (plainObj_wpAny_Assign_Attribute ?_ (hsw _).2))
  refine wpAny_Name (wpAny_loadName_local S.kind S.fldL hns4 look2 ?_) S.dbg
  refine wpAny_Name (wpAny_loadName_local S.kind S.self hns4 look1 ?_) (by decide)
  have I4 : PySem.W.InstAt h4 e (exObj C _ none) C none := ⟨e4, rfl, rfl, trivial⟩
  refine PySem.W.set_plain X4 I4 F.sa ?_
  refine PySem.W.osa_openX (od := none) F.sto X4 I4 F.over F.noF fun b => ?_
  obtain ⟨cd9, hc9, hd9⟩ := PySem.W.any_some F.hasD
  have hxs : e < h4.objs.size := Heap.lt_size e4
  refine wpAny_bind (wpAny_pure (wpAny_bind (PySem.W.instanceDict_exc e4 (PySem.W.looks_clsIn X4 hc9) hd9 ?_)))
  show wpAny _ _ (Builtin.ObjectAttr.storeInDict h4.objs.size (.str fld _) fld v) _ _ _
  refine HandSPX.store_in_new ?_ fun h5 tk5 hn5 hs5 => ?_
  · have hdn := (Heap.get?_update_ne (h4.push (PySem.W.dictOf [] 0)) h4.objs.size e (fun o => { o with dict := some h4.objs.size }) (Nat.ne_of_gt hxs)).trans (Heap.get?_push_at rfl rfl)
    exact ⟨_, #[], 0, hdn, rfl, fun e he => absurd he (by simp), fun _ => rfl⟩
  · refine wpAt_of_wpAny (wpAny_execs_nil ?_)
    refine hq h5 h4.objs.size (h2.push (PySem.W.kxs_mw initId e)).objs.size _ (fun b o n z => ?_) (Nat.le_of_lt zL) (Nat.ne_of_gt hxs) ?_ hn5
    · have z4 := k4' b o n z
      exact (hs5.2 b (Nat.ne_of_lt (Heap.lt_size z4))).trans ((Heap.get?_update_ne _ _ _ _ n).trans (Heap.get?_push_of_some _ z4))
    · exact (hs5.2 e (Nat.ne_of_lt hxs)).trans (Heap.get?_update_self _ (Heap.get?_push_of_some _ e4) rfl)
end
end DL

/-! DLe2: C(v), raise, raising calls. -/
namespace DL
open PySem PySem.Spec PyProof.Rows L2
def tMkS (C : Addr) (f : Str) (ta : TA) : L2.St → Hp → XK → Prop := fun σ H Q => ta σ H fun vs H1 => ∃ v, vs = [v] ∧ ∀ dx, H1 dx = none → Q (.ref C) (some dx) (upd H1 dx (.xd [(f, v)]))
section
variable {X : Cx} {B newId initId : String} {bmB : List Value} {C fI cc cda : Addr} {fld msg q : Str} {scope : Scope} {p0 p1 p2 p3 p4 p5 p6 p7 p8 p9 : Pos} {j : Nat} {params : Arguments} {fd : FuncData} {x : Str} {e : Expr} {ta : TA} {p pos : Pos}
theorem pmk_super (F : ExFacts X.prog X.K B newId initId bmB C fld fI cc cda q params (exBody fld msg j p0 p1 p2 p3 p4 p5 p6 p7 p8 p9) scope fd) (S : ExScope scope fld) (hc : SuperCall msg j p0 p1 p2 p3 p4) (hsw : NoSwap fld msg j p0 p1 p2 p3 p4 p5 p6 p7 p8 p9)
    (hpar : (params.posonlyargs ++ params.args).head?.map (·.arg) = some ("self" : Str)) (hr : Room 1 X.A) (hb : Binds X.K fd ["self", fld] []) (hs : X.mg "super" = none) (hg : Gl X x) (hm : X.mg x = some (.ref C)) (ha : PA X [e] ta)
    (hdb : (x == ("__debug__" : Str)) = false := by decide) (he : starEach [e] X.env = (false, eval e X.env) :: starEach [] X.env := by rfl) (hpl : (backTo pos (starEach [] X.env)).any (·.1) = false := by rfl) : PMk X (.Call (.Name x p) [e] [] pos) (tMkS C fld ta) := by
  intro pins s σ H Q I h
  refine wpAny_Call_Name_kw (ld_glob I hg hm ?_ hdb)
  refine PySem.W.callWith_K (h₀ := X.base) I.ok.mod.kin F.kC (thn (ha.run pos pins s σ H _ I h) fun us s1 ⟨vs, H1, I1, r1, v, ev, q1⟩ => ⟨I1.kIn, ?_⟩) he hpl
  subst ev
  obtain ⟨u, rfl, ru⟩ := r1.one
  show wpAny _ _ (call (.ref C) [u]) _ _ _
  obtain ⟨hp, g, dr, tk, os⟩ := s1
  obtain ⟨nm, N', qn, bs, bm, hdct, sn, sub, ab, col, dd, k0, k1, k2, k3, k5, hC, hT⟩ := PySem.W.excInit_of I1.kIn F.cls
  have kk : ∀ b o, hp.get? b = some o → ((hp.push (PySem.W.kdv_tup [u])).push (PySem.HandSPX.excO C hp.objs.size)).get? b = some o := fun b o e => Heap.get?_push_of_some _ (Heap.get?_push_of_some _ e)
  have hget : ((hp.push (PySem.W.kdv_tup [u])).push (PySem.HandSPX.excO C hp.objs.size)).get? (hp.objs.size + 1) = some (PySem.HandSPX.excO C hp.objs.size) := by heap_get
  have hz2 : ((hp.push (PySem.W.kdv_tup [u])).push (PySem.HandSPX.excO C hp.objs.size)).objs.size = hp.objs.size + 2 := by rw [Heap.size_push, Heap.size_push]
  have KI : X.K.In hp := I1.kIn
  obtain ⟨mb, hB, hB2⟩ := I1.mod.blt
  have glob : hp.Ns mainGlobals X.mg := I1.mod.glob.keeps I1.bk
  have bl : hp.Ns builtinsNs mb := hB.keeps I1.bk
  have lim : hp.NoLimit := I1.mod.nolimit.keeps I1.bk
  refine wpAny_call (PySem.HandSPX.call_own F.base hT hC (PySem.W.looks_findIn I1.kIn F.ini) (fun self => PySem.W.bind_fn I1.kIn self F.iniT) (show 1 ≤ sizeLine by rw [sizeLine_eq]; decide) ?_)
  generalize (hp.push (PySem.W.kdv_tup [u])).push (PySem.HandSPX.excO C hp.objs.size) = h3 at *
  have hKe : X.K.lookup (hp.objs.size + 1) = none := by
    cases z : X.K.lookup (hp.objs.size + 1) with
    | none => rfl
    | some o => exact absurd (Heap.lt_size (KI _ _ z)) (Nat.not_lt_of_le (Nat.le_succ _))
  refine ex_init F S hc hsw hpar (KI.keeps kk) hKe hget (glob.keeps kk) hs (bl.keeps kk) ((hB2 "super" (by decide)).trans (by decide +kernel)) (lim.keeps kk) (hr.make C [u] []).depth (hb _ [_, u] (KI.keeps kk) rfl) fun h' dx t1 tk' k hdx hne hex hns => ?_
  obtain ⟨G, gk1, gk2⟩ := restrict h' fun b => decide (b ≠ hp.objs.size + 1)
  have gk : ∀ b, b ≠ hp.objs.size + 1 → G.get? b = h'.get? b := fun b hb => gk1 b (decide_eq_true hb)
  have ge : G.get? (hp.objs.size + 1) = none := gk2 _ (by simp)
  have nha : ∀ {b : Addr} {o : Obj}, hp.get? b = some o → b ≠ hp.objs.size + 1 := fun {b o} z e => by
    rw [e] at z
    exact absurd (Heap.lt_size z) (Nat.not_lt_of_le (Nat.le_succ _))
  have hd1 : hp.objs.size ≤ dx := Nat.le_trans (by rw [hz2]; exact Nat.le_add_right _ _) hdx
  have J : Inv X pins σ (upd H1 dx (.xd [(fld, v)])) { ({ heap := hp, gens := g, drawn := dr, toks := tk, os := os } : Shared) with heap := G, toks := tk' } := by
    refine I1.laid (t' := tk') (fun b o z => ?_) hd1 ?_
    · rw [gk b (nha z)]
      exact k b o (nha z) (kk b o z)
    · refine ⟨_, hns.at fun o y => (gk dx hne).trans y, fun f => ?_⟩
      by_cases ef : f = fld
      · subst ef
        simp [List.lookup]
        exact ru
      · have : (f == fld) = false := beq_eq_false_iff_ne.mpr ef
        simp [List.lookup, this, ef]
        trivial
  refine ⟨rfl, hp.objs.size + 1, _, _, _, _, .ref C, some dx, rfl, J, fun b o z => ?_, ge, hex, ⟨rfl, rfl⟩, rfl, rfl, ?_, rfl, I1.bare, raises_own F.exC F.tyC, q1 dx (I1.hok.fresh hd1)⟩
  · by_cases hb' : b = hp.objs.size + 1
    · rw [hb', ge] at z
      cases z
    · exact (gk b hb').symm.trans z
  · rw [upd_ne (Ne.symm hne)]
    exact I1.hok.fresh (Nat.le_succ _)
end
end DL
namespace DL
open PySem PySem.Spec PyProof.Rows L2
/-! raise -/
def one1 (k : D → Prop) (ds : List D) : Prop := match ds with | [d] => k d | _ => False
def sRaise (nm f : Str) (t : ET) : SD := fun E _ η => t E (lend η) fun d => E nm [(f, d)]
section
variable {X : Cx} {e : Expr} {t : ET} {nm f : Str} {C : Addr} {pos : Pos}
end
/-! defs that may raise -/
def spE (K : PySem.W.Frag) (mg : Str → Option Value) (n : Nat) (wf : FT) : Sp := fun vs H Q E => vs.length = n ∧ ∃ B G cs W R, (∀ a, B a → H a ≠ none) ∧ (∀ a, Wr G a → B a) ∧ DrawOk G H ∧ ArgsOk K B G H vs cs ∧ wf W cs R ∧ (∀ d v H', Step G H H' → Rep K B H' v d → R d → Q v H') ∧
  ∀ cls dd H', ErrG K mg B G H W cls dd H' → E cls dd H'
abbrev FnE (P : Program) (w : World) (K : PySem.W.Frag) (mg : Str → Option Value) (base : Heap) (k : Nat) (f : Addr) (fd : FuncData) (ps : List Str) (wf : FT) : Prop := FnG P w K mg base (L2.CX P w) k f fd ps (spE K mg ps.length wf)
def dCallE (wf : FT) (ts : CT) : ET := fun E η Q => ts E η fun cs => wf E cs Q
section
variable {X : Cx} {e : Expr} {es : List Expr} {ts : CT} {p pos : Pos} {k : Nat} {f : Addr} {fd : FuncData} {ps : List Str} {wf : FT} {x : Str}
end
end DL

/-! DLe3: try: return e; except C as n: return n.f, or [n.f]. -/
namespace DL
open PySem PySem.Spec PyProof.Rows L2
def tbD (K : PySem.W.Frag) (mg : Str → Option Value) (n : Nat) (t : SD) (W : WX) : TS := fun D σ H => ∃ (c : Ctx) (O : Addr → Prop) (η : EnvD) (E : XP) (z : EndsD), Good K c O η σ H ∧ t E z η ∧ (∀ cls d σ' H', σ'.length = n → ErrG K mg c.B c.G c.H0 E cls d H' → W cls d σ' H') ∧
  (∀ σ' H', (∃ O η, Good K c O η σ' H' ∧ z.nx η) → D.nx σ' H') ∧ (∀ v H', (∃ d, (∀ a o, ¬ Wr c.G a → c.H0 a = some o → H' a = some o) ∧ DrawOk c.G H' ∧ (Rep K c.B H' v d ∨ MRet K c H' v d) ∧ z.rt d) → D.rt v H') ∧
  (∀ σ' H', (∃ O η, Good K c O η σ' H' ∧ z.bk η) → D.bk σ' H') ∧ (∀ σ' H', (∃ O η, Good K c O η σ' H' ∧ z.ct η) → D.ct σ' H')
/-- the suite's term: return n.f -/
def sTry1 (t : SD) (cn f : Str) (k : D → D) : SD := fun E z η => t (fun nm fs => nm = cn ∧ ∃ d, fs = [(f, d)] ∧ z.rt (k d)) z η
section
variable {X : Cx} {x n f : Str} {C : Addr} {i : Nat} {body : List Stmt} {np pos pos' p1 p2 p3 p4 : Pos} {t : SD} {lj : Nat}
end
end DL

/-! DLe4: an exception class of the program, all that is needed of it. -/
namespace DL
open PySem PySem.Spec PyProof.Rows L2
structure ClsIn (P : Program) (K : PySem.W.Frag) (mg : Str → Option Value) (nm fld : Str) : Prop where
  ex : ∃ (C fI cc cda : Addr) (B newId initId : String) (bmB : List Value) (q : Str) (params : Arguments) (scope : Scope) (fd : FuncData) (msg : Str) (j : Nat) (p0 p1 p2 p3 p4 p5 p6 p7 p8 p9 : Pos),
    ExFacts P K B newId initId bmB C fld fI cc cda q params (exBody fld msg j p0 p1 p2 p3 p4 p5 p6 p7 p8 p9) scope fd ∧ ExScope scope fld ∧ SuperCall msg j p0 p1 p2 p3 p4 ∧ NoSwap fld msg j p0 p1 p2 p3 p4 p5 p6 p7 p8 p9 ∧
    (params.posonlyargs ++ params.args).head?.map (·.arg) = some ("self" : Str) ∧ L2.Binds K fd ["self", fld] [] ∧ mg "super" = none ∧ mg nm = some (.ref C) ∧ XfC K C ∧ PySem.W.findIn K (.ref C) fld = some none ∧ PySem.W.exmOne K (.ref C) (.ref C) = some true
/-- what the written part says of the class, as the law's end finds it -/
def exI1 (cd : ClassData) (sl : Array (Option Value)) (C : Addr) (bmB : List Value) (newId : String) : Bool := match cd.mro, sl.toList with
  | .ref C' :: bm, [_, _, _, _, some (.builtin n), _] => C' == C && n == newId && !cd.hasDel && PySem.W.excTail bmB bm
  | _, _ => false
def exO1 (cd : ClassData) (C : Addr) (bmB : List Value) : Bool := match cd.mro with | .ref C' :: bm => C' == C && PySem.W.excTail bmB bm | _ => false
def bmVE : List Value := [.type "ValueError", .type "Exception", .type "BaseException", .type "object"]
def ClsAt (P : Program) (K : PySem.W.Frag) (nm fld : Str) : Prop := ∀ mg : Str → Option Value, (∀ (n : Str) (v : Value), PySem.W.nsIn K mainGlobals n = some (some v) → mg n = some v) → (∀ n : Str, PySem.W.nsIn K mainGlobals n = some none → mg n = none) → ClsIn P K mg nm fld
theorem clsIn_of {P : Program} {K : PySem.W.Frag} {h : Heap} {mg : Str → Option Value} {nm fld : Str} (X : K.In h) (G : h.Ns mainGlobals mg) (c : ClsAt P K nm fld) : ClsIn P K mg nm fld := c mg (fun _ _ e => PySem.W.mg_of X G e) fun _ e => PySem.W.mg_none_of X G e
theorem clsAt {P : Program} {K : PySem.W.Frag} {nm fld msg q f : Str} {C fI cda cc S : Addr} {oc : Value} {od : Option Addr} {osl : Array (Option Value)} {params : Arguments} {scope : Scope} {dV kV doc pm ct : Value} {an : Option Addr} {odc : Option Addr} {sl : Array (Option Value)} {cd cdS : ClassData}
    {bmS : List Value} {ccl : Value} {cdd : Option Addr} {vs : Array Value} {ccs csl ssl : Array (Option Value)} {cl : Value} {cld sod : Option Addr} {soc : Value} {tf : Tok} {j : Nat} {p0 p1 p2 p3 p4 p5 p6 p7 p8 p9 : Pos}
    (a : PySem.W.nsIn K mainGlobals nm = some (some (.ref C))) (lc : K.lookup C = some ⟨.type "type", odc, .cls cd, sl⟩) (i : PySem.W.findIn K (.ref C) "__init__" = some (some (.ref fI)))
    (l : K.lookup fI = some ⟨oc, od, .func (PySem.W.ksFn "__init__" q params (exBody fld msg j p0 p1 p2 p3 p4 p5 p6 p7 p8 p9) scope dV kV doc pm an (.ref cda) ct cc), osl⟩) (lcode : K.lookup cda = some ⟨ccl, cdd, .fields vs, ccs⟩) (lcell : K.lookup cc = some ⟨cl, cld, .cell (some (.ref C)), csl⟩)
    (lS : K.lookup S = some ⟨soc, sod, .cls cdS, ssl⟩) (fS : PySem.W.findIn K (.ref S) "__init__" = some (some (.builtin "ValueError.__init__"))) (hm : cd.mro = .ref C :: .ref S :: bmS) (hm2 : cdS.mro = .ref S :: bmS)
    (co : PySem.W.codeIn K (.ref cda) q = true) (t : PySem.W.typeIn K (.ref fI) = some (.type "function")) (c1 : exI1 cd sl C bmVE "ValueError.__new__" = true) (c2 : exO1 cd C bmVE = true) (c3 : PySem.W.mroIn K C (.ref C) = some true) (c5 : PySem.W.subIn K (.ref C) (.type "ValueError") = some true)
    (c6 : PySem.W.nsIn K cStatics "thirdparty.any" = some none) (c7 : PySem.W.findIn K (.ref C) "__setattr__" = some (some (.builtin "object.__setattr__"))) (c8 : PySem.W.takerIn K C fld = some none) (c9 : PySem.W.hasDictIn K C = true) (c10 : PySem.W.keepIn K (.ref C) = true)
    (c11 : PySem.W.findIn K (.ref C) "__getattribute__" = some (some (.builtin "BaseException.__getattribute__"))) (c12 : PySem.W.findIn K (.ref C) "__getattr__" = some none) (c14 : PySem.W.findIn K (.ref C) fld = some none) (c15 : PySem.W.nsIn K mainGlobals "super" = some none)
    (c16 : PySem.W.subIn K (.ref C) (.type "BaseException") = some true) (c17 : PySem.W.typeIn K (.ref C) = some (.type "type")) (c18 : PySem.W.subIn K (.ref C) (.ref C) = some true)
    (hv : vs[2]? = some (.str f tf)) (hfile : ((P.main.file : Str) == f) = true) (ns : (P.main.scope.names.lookup ("super" : Str)).isSome = false) (Sc : ExScope scope fld) (h1 : SuperCall msg j p0 p1 p2 p3 p4) (h2 : NoSwap fld msg j p0 p1 p2 p3 p4 p5 p6 p7 p8 p9)
    (h3 : (params.posonlyargs ++ params.args).head?.map (·.arg) = some ("self" : Str))
    (h4 : ∀ us : List Value, us.length = 2 → bindArgs (PySem.W.ksFn "__init__" q params (exBody fld msg j p0 p1 p2 p3 p4 p5 p6 p7 p8 p9) scope dV kV doc pm an (.ref cda) ct cc) ⟨us, []⟩ = pure ((["self", fld] : List Str).zip us)) : ClsAt P K nm fld := fun mg hg hn => by
  have hcls : PySem.W.clsIn K C = some cd := by unfold PySem.W.clsIn; rw [lc]
  have hsup : PySem.W.ks_superIn K C C "__init__" = some (some (.builtin "ValueError.__init__")) := by
    unfold PySem.W.findIn at fS
    simp only [lS] at fS
    unfold PySem.W.ks_superIn
    rw [hcls]
    show PySem.W.alongIn K "__init__" ((cd.mro.dropWhile (· != .ref C)).drop 1) = _
    rw [hm]
    rw [hm2] at fS
    simpa [List.dropWhile] using fS
  have hex : PySem.W.exmOne K (.ref C) (.ref C) = some true := by
    unfold PySem.W.exmOne PySem.W.kitCls
    rw [c16]
    show (if (some true == some true) = true then (if ((PySem.W.clsIn K C).isSome && PySem.W.typeIn K (.ref C) == some (.type "type")) = true then PySem.W.subIn K (.ref C) (.ref C) else none) else none) = _
    rw [hcls, c17, c18]
    rfl
  refine ⟨⟨C, fI, cc, cda, "ValueError", "ValueError.__new__", "ValueError.__init__", bmVE, q, params, scope, _, msg, j, p0, p1, p2, p3, p4, p5, p6, p7, p8, p9, ?_, Sc, h1, h2, h3, Binds.all fun us hl => h4 us hl, hn _ c15, hg _ _ a, ⟨c11, c12, c16, c9⟩, c14, hex⟩⟩
  have k1 : PySem.W.excInitIn K C bmVE "ValueError.__new__" = true := by
    unfold PySem.W.excInitIn
    rw [lc]
    exact c1
  have k2 : PySem.W.excOver K C bmVE = true := by
    unfold PySem.W.excOver
    rw [hcls]
    exact c2
  exact ⟨PySem.F.excBase_ValueError, PySem.W.kxs_ValueError, PySem.F.store_ValueError, k1, k2, i, t, ⟨oc, od, osl, l⟩, ⟨dV, kV, doc, pm, an, ct, rfl⟩, co, ⟨ccl, cdd, vs, ccs, f, tf, lcode, hv, hfile⟩, ⟨cl, cld, csl, lcell⟩, c3, hsup, c5, c6, ns, c7, c8, c9, c16, c17, c10⟩
section
variable {X : Cx} {nm fld : Str} {e : Expr} {t : ET} {p pos pos' : Pos}
end
section
variable {X : Cx} {x n f : Str} {i : Nat} {body : List Stmt} {np pos pos' p1 p2 p3 p4 : Pos} {t : SD}
end
end DL

/-! DLe5: defs that may raise, as the printed walk names them. -/
namespace DL
open PySem PySem.Spec PyProof.Rows L2
structure HasE (P : Program) (w : World) (K : PySem.W.Frag) (mg : Str → Option Value) (base : Heap) (x : Str) (k : Nat) (ps : List Str) (wf : FT) : Prop where
  ex : ∃ f fd, mg x = some (.ref f) ∧ PySem.W.keepIn K (.ref f) = true ∧ L2.Binds K fd ps [] ∧ FnE P w K mg base k f fd ps wf
  len : ∀ W cs R, wf W cs R → cs.length = ps.length
section
variable {X : Cx} {e : Expr} {es : List Expr} {ts : CT} {pos p : Pos} {k j : Nat} {ps : List Str} {wf : FT} {x : Str}
end
end DL

/-! DLe6: an exception class of the program over OverflowError itself, all that is needed of it. -/
namespace DL
open PySem PySem.Spec PyProof.Rows L2
def bmOE : List Value := [.type "OverflowError", .type "ArithmeticError", .type "Exception", .type "BaseException", .type "object"]
theorem clsAtO {P : Program} {K : PySem.W.Frag} {nm fld msg q f : Str} {C fI cda cc : Addr} {oc : Value} {od : Option Addr} {osl : Array (Option Value)} {params : Arguments} {scope : Scope} {dV kV doc pm ct : Value} {an : Option Addr} {odc : Option Addr} {sl : Array (Option Value)} {cd : ClassData}
    {ccl : Value} {cdd : Option Addr} {vs : Array Value} {ccs csl : Array (Option Value)} {cl : Value} {cld : Option Addr} {tf : Tok} {j : Nat} {p0 p1 p2 p3 p4 p5 p6 p7 p8 p9 : Pos}
    (a : PySem.W.nsIn K mainGlobals nm = some (some (.ref C))) (lc : K.lookup C = some ⟨.type "type", odc, .cls cd, sl⟩) (i : PySem.W.findIn K (.ref C) "__init__" = some (some (.ref fI)))
    (l : K.lookup fI = some ⟨oc, od, .func (PySem.W.ksFn "__init__" q params (exBody fld msg j p0 p1 p2 p3 p4 p5 p6 p7 p8 p9) scope dV kV doc pm an (.ref cda) ct cc), osl⟩) (lcode : K.lookup cda = some ⟨ccl, cdd, .fields vs, ccs⟩) (lcell : K.lookup cc = some ⟨cl, cld, .cell (some (.ref C)), csl⟩)
    (hm : cd.mro = .ref C :: bmOE)
    (co : PySem.W.codeIn K (.ref cda) q = true) (t : PySem.W.typeIn K (.ref fI) = some (.type "function")) (c1 : exI1 cd sl C bmOE "OverflowError.__new__" = true) (c2 : exO1 cd C bmOE = true) (c3 : PySem.W.mroIn K C (.ref C) = some true) (c5 : PySem.W.subIn K (.ref C) (.type "OverflowError") = some true)
    (c6 : PySem.W.nsIn K cStatics "thirdparty.any" = some none) (c7 : PySem.W.findIn K (.ref C) "__setattr__" = some (some (.builtin "object.__setattr__"))) (c8 : PySem.W.takerIn K C fld = some none) (c9 : PySem.W.hasDictIn K C = true) (c10 : PySem.W.keepIn K (.ref C) = true)
    (c11 : PySem.W.findIn K (.ref C) "__getattribute__" = some (some (.builtin "BaseException.__getattribute__"))) (c12 : PySem.W.findIn K (.ref C) "__getattr__" = some none) (c14 : PySem.W.findIn K (.ref C) fld = some none) (c15 : PySem.W.nsIn K mainGlobals "super" = some none)
    (c16 : PySem.W.subIn K (.ref C) (.type "BaseException") = some true) (c17 : PySem.W.typeIn K (.ref C) = some (.type "type")) (c18 : PySem.W.subIn K (.ref C) (.ref C) = some true)
    (hv : vs[2]? = some (.str f tf)) (hfile : ((P.main.file : Str) == f) = true) (ns : (P.main.scope.names.lookup ("super" : Str)).isSome = false) (Sc : ExScope scope fld) (h1 : SuperCall msg j p0 p1 p2 p3 p4) (h2 : NoSwap fld msg j p0 p1 p2 p3 p4 p5 p6 p7 p8 p9)
    (h3 : (params.posonlyargs ++ params.args).head?.map (·.arg) = some ("self" : Str))
    (h4 : ∀ us : List Value, us.length = 2 → bindArgs (PySem.W.ksFn "__init__" q params (exBody fld msg j p0 p1 p2 p3 p4 p5 p6 p7 p8 p9) scope dV kV doc pm an (.ref cda) ct cc) ⟨us, []⟩ = pure ((["self", fld] : List Str).zip us)) : ClsAt P K nm fld := fun mg hg hn => by
  have hcls : PySem.W.clsIn K C = some cd := by unfold PySem.W.clsIn; rw [lc]
  have hsup : PySem.W.ks_superIn K C C "__init__" = some (some (.builtin "OverflowError.__init__")) := by
    unfold PySem.W.ks_superIn
    rw [hcls]
    show PySem.W.alongIn K "__init__" ((cd.mro.dropWhile (· != .ref C)).drop 1) = _
    rw [hm]
    have e : (Value.ref C :: bmOE).dropWhile (· != .ref C) = .ref C :: bmOE := by simp [List.dropWhile]
    rw [e]
    show PySem.W.alongIn K "__init__" bmOE = _
    have e2 : PySem.fastBuiltinOwn "OverflowError" "__init__" = some (Value.builtin "OverflowError.__init__") := by kernel_rfl
    simp only [bmOE, PySem.W.alongIn, PySem.W.ownIn, e2]
  have hex : PySem.W.exmOne K (.ref C) (.ref C) = some true := by
    unfold PySem.W.exmOne PySem.W.kitCls
    rw [c16]
    show (if (some true == some true) = true then (if ((PySem.W.clsIn K C).isSome && PySem.W.typeIn K (.ref C) == some (.type "type")) = true then PySem.W.subIn K (.ref C) (.ref C) else none) else none) = _
    rw [hcls, c17, c18]
    rfl
  refine ⟨⟨C, fI, cc, cda, "OverflowError", "OverflowError.__new__", "OverflowError.__init__", bmOE, q, params, scope, _, msg, j, p0, p1, p2, p3, p4, p5, p6, p7, p8, p9, ?_, Sc, h1, h2, h3, Binds.all fun us hl => h4 us hl, hn _ c15, hg _ _ a, ⟨c11, c12, c16, c9⟩, c14, hex⟩⟩
  have k1 : PySem.W.excInitIn K C bmOE "OverflowError.__new__" = true := by
    unfold PySem.W.excInitIn
    rw [lc]
    exact c1
  have k2 : PySem.W.excOver K C bmOE = true := by
    unfold PySem.W.excOver
    rw [hcls]
    exact c2
  exact ⟨PySem.F.excBase_OverflowError, PySem.W.kxs_OverflowError, PySem.F.store_OverflowError, k1, k2, i, t, ⟨oc, od, osl, l⟩, ⟨dV, kV, doc, pm, an, ct, rfl⟩, co, ⟨ccl, cdd, vs, ccs, f, tf, lcode, hv, hfile⟩, ⟨cl, cld, csl, lcell⟩, c3, hsup, c5, c6, ns, c7, c8, c9, c16, c17, c10⟩
end DL

/-! DL25: list.insert on an own list. -/
namespace DL
open PySem PySem.Spec PyProof.Rows L2
section
variable {X : Cx} {e1 e2 : Expr} {pos p apos npos : Pos} {t1 t2 : ET}
def sIns (i : Nat) (t1 t2 : ET) : SD := fun E z η => onOwn η[i]? fun ds => t1 E (lend η) fun d1 => onInt d1 fun k => t2 E η fun d2 => (0 ≤ k ∧ k < 2 ^ 63 ∧ ds.length < sizeLine) ∧ z.nx (η.set i (.own (ds.take k.toNat ++ [d2] ++ ds.drop k.toNat)))
/-! x[e1] = e2 on an own list -/
def sPut (i : Nat) (t1 t2 : ET) : SD := fun E z η => onOwn η[i]? fun ds => t2 E η fun d2 => t1 E (lend η) fun d1 => onInt d1 fun k => ∃ j, ixN ds.length k = some j ∧ z.nx (η.set i (.own (ds.set j d2)))
theorem RepAll.set {K : PySem.W.Frag} {O : Addr → Prop} {H : Hp} : ∀ {vs : List V} {ds : List D} (j : Nat) {v : V} {d : D}, RepAll K O H vs ds → Rep K O H v d → RepAll K O H (vs.set j v) (ds.set j d)
  | _, _, _, _, _, .nil, _ => .nil
  | _, _, 0, _, _, .cons _ t, r => .cons r t
  | _, _, j + 1, _, _, .cons r0 t, r => .cons r0 (RepAll.set j t r)
end
end DL

/-! DL26: {} . -/
namespace DL
open PySem PySem.Spec PyProof.Rows L2
def dDict0 : ET := fun _ _ Q => Q (.dict [])
def tDict0 : TE := fun _ H Q => ∀ p, H p = none → (p == sysModules) = false → Q (.ref p) (upd H p (dictO p #[] 0))
section
variable {X : Cx} {pos : Pos}
theorem pe_dict00 : PE X (.Dict [] [] pos) tDict0 := ⟨fun pins s σ H Q I h => by
  refine wpAny_Dict_empty ?_
  have hm : (s.heap.objs.size == sysModules) = false := beq_eq_false_iff_ne.mpr (Nat.ne_of_gt I.big)
  exact ⟨.ref s.heap.objs.size, upd H s.heap.objs.size (dictO s.heap.objs.size #[] 0), I.laid (t' := s.toks) (fun b o e => Heap.get?_push_of_some _ e) (Nat.le_refl _) (dictO_ok ⟨_, Heap.get?_push_size _ rfl, ⟨rfl, rfl, rfl⟩, rfl⟩), rfl, h _ (I.hok.fresh (Nat.le_refl _)) hm⟩⟩
theorem de_dict0 : DE X (.Dict [] [] pos) dDict0 := .of pe_dict00 fun σ H c O η E Q g h => fun p hp hm =>
  ⟨.dict [], .alloc g.draw hp, .dct (fun o => g.hT p o hp) upd_same hm ⟨⟨[], [], .nil, .nil, rfl⟩, fun p hp => (nomatch hp), .nil, Nat.zero_le _⟩ .nil .nil, h⟩
end
end DL

/-! DL27: is True, is not True. -/
namespace DL
open PySem PySem.Spec PyProof.Rows L2
def oIsB (neg : Bool) : OpD
  | .bool a, .bool b, Q => Q (.bool (decide (a = b) != neg))
  | _, _, _ => False
theorem x_isB {a b : Bool} {neg : Bool} {QD : D → Prop} : oIsB neg (.bool a) (.bool b) QD = QD (.bool (decide (a = b) != neg)) := id rfl
section
variable {X : Cx}
end
end DL

/-! DL28: repr of data with dicts in it. -/
namespace DL
open PySem PySem.Spec PyProof.Rows L2
theorem ents_maps : ∀ {kvs : List (D × D)} {us xs : List Value}, us.length = kvs.length → xs.length = kvs.length → (entsOf kvs us xs).map (·.key) = us ∧ (entsOf kvs us xs).map (·.val) = xs
  | [], [], [], _, _ => ⟨rfl, rfl⟩
  | p :: kvs, u :: us, x :: xs, h1, h2 => by
    have ih := ents_maps (kvs := kvs) (us := us) (xs := xs) (by simpa using h1) (by simpa using h2)
    exact ⟨by rw [entsOf, List.map_cons, ih.1], by rw [entsOf, List.map_cons, ih.2]⟩
  | [], _ :: _, _, h, _ => by cases h
  | [], [], _ :: _, _, h => by cases h
  | _ :: _, [], _, h, _ => by cases h
  | _ :: _, _ :: _, [], _, h => by cases h
theorem keys_read {h : Heap} {P : Program} {w : World} : ∀ {es : List DictEntry} {ms : List (Key × Value)} {ks : List (Key × V)}, KV ks ms → Pairs (mixKind P w) es ms → ReadsAll h (es.map (·.key)) (ks.map fun q => kD q.1) [] ∧ Vals (ks.map (·.2)) (es.map (·.val))
  | _, _, _, .nil, .nil => ⟨.nil, .nil⟩
  | _, _, _, .cons hq hn, .cons hk hv hp => by
    obtain ⟨r1, r2⟩ := keys_read (h := h) hn hp
    obtain ⟨e1, e2⟩ := hq
    refine ⟨?_, .cons (by simp only [hv]; exact e2) r2⟩
    rcases keyIs_shape (show keyIs _ _ = true from hk) with ⟨i, t, h1, h2⟩ | ⟨x, t, h1, h2⟩
    · have := ReadsAll.cons (Reads.int (h := h) (i := i) (t := t)) r1
      simpa [kD, e1, h1, h2] using this
    · have := ReadsAll.cons (Reads.str (h := h) (x := x) (t := t)) r1
      simpa [kD, e1, h1, h2] using this
def notN : D → Bool
  | .none => false
  | _ => true
mutual
/-- no exception in it -/
def noX : D → Bool
  | .list xs => noXs xs
  | .tuple xs => noXs xs
  | .dict kvs => noXk kvs
  | _ => true
def noXs : List D → Bool
  | [] => true
  | x :: xs => noX x && noXs xs
def noXk : List (D × D) → Bool
  | [] => true
  | (k, v) :: r => notN k && (noX k && (noX v && noXk r))
end
theorem noX_keys : ∀ {kvs : List (D × D)}, noXk kvs = true → noXs (kvs.map (·.1)) = true ∧ noXs (kvs.map (·.2)) = true
  | [], _ => ⟨rfl, rfl⟩
  | (k, v) :: r, h => by
    rw [noXk, Bool.and_eq_true, Bool.and_eq_true, Bool.and_eq_true] at h
    obtain ⟨_, h1, h2, h3⟩ := h
    obtain ⟨i1, i2⟩ := noX_keys h3
    rw [List.map_cons, List.map_cons, noXs, noXs, h1, h2, i1, i2]
    exact ⟨rfl, rfl⟩
theorem noX_exc {nm : Str} {fs : List (Str × D)} (h : noX (.dict (excK nm fs)) = true) : False := by
  rw [noX, excK, noXk] at h
  cases h
section
variable {X : Cx} {pins : List (Addr × Obj)} {σ : L2.St} {H : Hp} {s : Shared} {O : Addr → Prop}
mutual
/-- what a value reads as, in the heap; the interpreter's own dict is none of it -/
theorem Rep.reads (I : Inv X pins σ H s) (hm : ∃ o, H sysModules = some (.frz o (.own 0))) : ∀ {d : D} {v : V}, Rep X.K O H v d → noX d = true → ∀ u, RelV v u → ∃ as, Reads s.heap u d as ∧ sysModules ∉ as
  | _, _, .non, _, u, r => by cases r; exact ⟨_, Reads.none, by simp⟩
  | _, _, .bl b, _, u, r => by cases r; exact ⟨_, Reads.bool b, by simp⟩
  | _, _, .int i, _, u, r => by obtain ⟨t, rfl⟩ := r; exact ⟨_, Reads.int i t, by simp⟩
  | _, _, .str x, _, u, r => by obtain ⟨t, rfl⟩ := r; exact ⟨_, Reads.str x t, by simp⟩
  | _, _, .lst (a := a) o h rr, nx, u, r => by
    cases r
    obtain ⟨its, rv, ⟨ob, n, ho, hc, _, hd⟩, _⟩ := I.list (.of h)
    obtain ⟨as, hr, nm⟩ := RepAll.reads I hm rr (by rwa [noX] at nx) its rv
    refine ⟨_, Reads.list ho hc hd hr, fun z => ?_⟩
    rcases List.mem_cons.mp z with z | z
    · obtain ⟨q, e⟩ := hm
      rw [z, h] at e
      cases e
    · exact nm z
  | _, _, .tup h rr, nx, u, r => by
    cases r
    obtain ⟨its, rv, ⟨ob, ho, hc, n, hd⟩, _⟩ := I.tuple h.sq
    obtain ⟨as, hr, nm⟩ := RepAll.reads I hm rr (by rwa [noX] at nx) its rv
    exact ⟨_, Reads.tuple ho hc hd hr, nm⟩
  | _, _, .dct (a := a) (es := es) (kvs := kvs) o h hne ok rk rx, nx, u, r => by
    cases r
    obtain ⟨⟨ob, ho, hx, hd⟩, _, _⟩ := I.hok a _ h
    obtain ⟨us, xs, vk, vx, ee⟩ := ok.ents
    have lk : us.length = kvs.length := by rw [← vk.length, rk.length, List.length_map]
    have lx : xs.length = kvs.length := by rw [← vx.length, rx.length, List.length_map]
    obtain ⟨m1, m2⟩ := ents_maps lk lx
    obtain ⟨as, hr, n1⟩ := RepAll.reads I hm rk (noX_keys (by rwa [noX] at nx)).1 us vk
    obtain ⟨bs, hr2, n2⟩ := RepAll.reads I hm rx (noX_keys (by rwa [noX] at nx)).2 xs vx
    refine ⟨a :: as ++ bs, Reads.dict ho hx.1 hd (by rw [ee, m1]; exact hr) (by rw [ee, m2]; exact hr2), fun z => ?_⟩
    rcases List.mem_append.mp z with z | z
    · rcases List.mem_cons.mp z with z | z
      · exact absurd z.symm (beq_eq_false_iff_ne.mp hne)
      · exact n1 z
    · exact n2 z
  | _, _, .exc _ ek _ _ _ _ _ _ _, nx, u, r => by subst ek; exact (noX_exc nx).elim
  | _, _, .exc0 _ ek _ _ _, nx, u, r => by subst ek; exact (noX_exc nx).elim
  | _, _, .dci (a := a) (ks := ks) o h e rr, nx, u, r => by
    cases r
    obtain ⟨_, hne, ms, rel, ob, es, ep, ho, hx, hd, _, pr, _⟩ := dk_of I.hok h
    obtain ⟨r1, r2⟩ := keys_read (h := s.heap) rel pr
    rw [e] at r1
    obtain ⟨bs, hr2, n2⟩ := RepAll.reads I hm rr (noX_keys (by rwa [noX] at nx)).2 _ r2
    refine ⟨a :: [] ++ bs, Reads.dict ho hx.1 hd r1 hr2, fun z => ?_⟩
    rcases List.mem_append.mp z with z | z
    · rcases List.mem_cons.mp z with z | z
      · exact absurd z.symm (beq_eq_false_iff_ne.mp hne)
      · exact nomatch z
    · exact n2 z
theorem RepAll.reads (I : Inv X pins σ H s) (hm : ∃ o, H sysModules = some (.frz o (.own 0))) : ∀ {ds : List D} {vs : List V}, RepAll X.K O H vs ds → noXs ds = true → ∀ us, Vals vs us → ∃ as, ReadsAll s.heap us ds as ∧ sysModules ∉ as
  | _, _, .nil, _, us, r => by cases r; exact ⟨_, ReadsAll.nil, by simp⟩
  | _, _, .cons h t, nx, us, r => by
    rw [noXs, Bool.and_eq_true] at nx
    cases r with
    | cons r1 r2 =>
      obtain ⟨as, q1, n1⟩ := Rep.reads I hm h nx.1 _ r1
      obtain ⟨bs, q2, n2⟩ := RepAll.reads I hm t nx.2 _ r2
      exact ⟨_, ReadsAll.cons q1 q2, fun z => (List.mem_append.mp z).elim n1 n2⟩
end
end
section
variable {X : Cx}
theorem cr_reprR (hg : X.A.guards = some []) (hu : X.A.units + 65 < cLine) : CallR X (.builtin "repr") (fun xs H Q => ∃ x d O, xs = [x] ∧ noX d = true ∧ Rep X.K O H x d ∧ (∃ o, H sysModules = some (.frz o (.own 0))) ∧ reprOk d ∧ Q (.str d.shown) H) := by
  intro pins s σ H xs us Q I r h
  obtain ⟨x, d, O, rfl, nx, hd, hm, ⟨h1, h2, h3⟩, q⟩ := h
  cases r with
  | cons r1 r2 =>
    cases r2
    obtain ⟨as, rd, nm⟩ := Rep.reads I hm hd nx _ r1
    have fin : ∀ h' u tk, (∀ b o, s.heap.get? b = some o → h'.get? b = some o) → EP X pins σ Q (.str d.shown u) { s with heap := h', toks := tk } := fun h' u tk hk => ⟨.str d.shown, H, I.kept hk, ⟨_, rfl⟩, q⟩
    cases hd with
    | lst _ _ _ =>
      cases r1
      exact repr_of_reads' rd h1 (fun _ => nm) hg (by omega) (fun _ _ e => e) fin h2
    | tup _ _ =>
      cases r1
      exact repr_of_reads' rd h1 (fun _ => nm) hg (by omega) (fun _ _ e => e) fin h2
    | dct _ _ _ _ _ _ =>
      cases r1
      exact repr_of_reads' rd h1 (fun _ => nm) hg (by omega) (fun _ _ e => e) fin h2
    | exc _ ek => subst ek; exact (noX_exc nx).elim
    | exc0 _ ek => subst ek; exact (noX_exc nx).elim
    | dci _ _ _ _ =>
      cases r1
      exact repr_of_reads' rd h1 (fun _ => nm) hg (by omega) (fun _ _ e => e) fin h2
    | non =>
      cases r1
      exact PySem.P.repr_of_none (by simpa [PyData.shown] using fin s.heap s.toks (s.toks + 1) fun _ _ e => e)
    | bl b =>
      cases r1
      refine PySem.P.repr_of_bool ?_
      have := fin s.heap s.toks (s.toks + 1) fun _ _ e => e
      simpa [PyData.shown] using this
    | int i =>
      obtain ⟨t, rfl⟩ := r1
      refine PySem.P.repr_of_int (by simpa [PyData.showable] using h1) ?_
      simpa [PyData.shown] using fin s.heap s.toks (s.toks + 1) fun _ _ e => e
    | str x =>
      obtain ⟨t, rfl⟩ := r1
      refine PySem.P.repr_of_str ?_ (by simpa [PyData.shown] using h2)
      simpa [PyData.shown] using fin s.heap s.toks (s.toks + 1) fun _ _ e => e
/-- repr(e), dicts allowed -/
def fReprD : CallD
  | [d], Q => noX d = true ∧ reprOk d ∧ Q (.str d.shown)
  | _, _ => False
theorem de_reprD {e : Expr} {ts : AT} {p pos : Pos} (hgd : X.A.guards = some []) (hu : X.A.units + 65 < cLine) (hg : Gl X "repr") (hm : X.mg "repr" = none) (ha : DA X [e] ts) (he : starEach [e] X.env = (false, eval e X.env) :: starEach [] X.env := by rfl) : DE X (.Call (.Name "repr" p) [e] [] pos) (dCall fReprD ts) := by
  refine de_callB (cr_reprR hgd hu) ?_ hg hm (by decide +kernel) ha (he := he)
  intro G O H xs ds Q R B r h k
  match ds, h with
  | [d], ⟨nx, h2, h⟩ =>
    cases r with
    | cons r1 r2 =>
      cases r2
      exact ⟨_, d, O, rfl, nx, r1, B.draw.2.m, h2, way_here B k (.str _) h⟩
end
end DL

/-! DL29: t == () for any tuple t. -/
namespace DL
open PySem PySem.Spec PyProof.Rows L2
section
variable {X : Cx}
def oEqT0 : OpD
  | .tuple xs, .tuple [], Q => Q (.bool xs.isEmpty)
  | _, _, _ => False
end
end DL

/-! DL30: dict comprehensions whose keys are tuples of ints, nested; sorted of a dict. -/
namespace DL
open PySem PySem.Spec PyProof.Rows L2
/-- d[k] = v -/
def putD (kvs : List (D × D)) (k v : D) : List (D × D) := if kvs.any (fun p => PyData.eqv p.1 k) then kvs.map (fun p => if PyData.eqv p.1 k then (p.1, v) else p) else kvs ++ [(k, v)]
/-- what stands at a dict's address -/
def DictAt (K : PySem.W.Frag) (O : Addr → Prop) (H : Hp) (a : Addr) (kvs : List (D × D)) : Prop := ∃ es ep ks vs, H a = some (dictO a es ep) ∧ DictOk es ks vs kvs ∧ RepAll K O H ks (kvs.map (·.1)) ∧ RepAll K O H vs (kvs.map (·.2))
section
variable {K : PySem.W.Frag} {c : Ctx} {O : Addr → Prop} {η : EnvD} {σ : L2.St} {H H1 H' : Hp}
end
/-! ### a dict's table is written -/
section
variable {X : Cx} {pins : List (Addr × Obj)} {σ : L2.St} {H : Hp} {s : Shared} {O : Addr → Prop}
end
end DL

/-! DL31: {k: v for ..} as an expression. -/
namespace DL
open PySem PySem.Spec PyProof.Rows L2
section
variable {X : Cx}
/-- the raw reading: D the new dict -/
def tDcT (K : PySem.W.Frag) (wi : TI) (g : TG) (tt : TT) (tk tv : TE) (vs : List Nat) : TE := fun σ H Q => wi σ H fun J H1 => ∀ D, H1 D = none → (D == sysModules) = false → Real D #[] 0 → ∃ W : Nat → Nat → Hp → Prop, (∃ m, W 0 m (upd H1 D (dictO D #[] 0))) ∧ ∀ i m H, W i m H →
  (J.stop i H ∧ Q (.ref D) H) ∨ (J.go i H ∧ ∃ Nx : Hp → Prop, (∀ H', Nx H' → ∃ m', m' < m ∧ W (i + 1) m' H') ∧ ∀ x H', J.yld i H x H' → g x (wipe σ vs) H' fun σ2 H2 => wipe σ2 vs = wipe σ vs ∧ tt σ2 H2 fun b H3 =>
    if b = true then tk σ2 H3 fun y H4 => tv σ2 H4 fun z H5 => ∃ (O : Addr → Prop) (kvs : List (DL.D × DL.D)) (k v : DL.D), Rep K O H5 y k ∧ keyOk k = true ∧ Rep K O H5 z v ∧ O D ∧ DictAt K O H5 D kvs ∧ kvs.length < sizeLine ∧
      ∀ es ep, Real D es ep → DictAt K O (upd H5 D (dictO D es ep)) D (putD kvs k v) → Nx (upd H5 D (dictO D es ep)) else Nx H3)
end
/-! ### over data -/
def compDD (g : GT) (tt : BT) (tk tv : ET) (η0 : EnvD) : List D → List (D × D) → (List (D × D) → Prop) → Prop
  | [], acc, Q => Q acc
  | d :: ds, acc, Q => g d η0 fun η1 => tt never η1 fun b => if b = true then tk never η1 fun k => tv never η1 fun v => keyOk k = true ∧ acc.length < sizeLine ∧ compDD g tt tk tv η0 ds (putD acc k v) Q else compDD g tt tk tv η0 ds acc Q
def dDc (own : List Nat) (ti : IT) (g : GT) (tt : BT) (tk tv : ET) : ET := fun E η Q => ti E η fun ds => compDD g tt tk tv (wipeD η own) ds [] fun kvs => kvs.length ≤ sizeLine ∧ Q (.dict kvs)
section
variable {X : Cx} {kx vx tg iter : Expr} {ifs : List Expr} {scope : Scope} {own : List (Str × Nat)} {is : List Nat} {pos : Pos} {ti : IT} {g : GT} {tt : BT} {tk tv : ET}
end
end DL

/-! DL37: comprehensions with two generators. -/
namespace DL
open PySem PySem.Spec PyProof.Rows L2
section
variable {K : PySem.W.Frag} {c : Ctx} {O : Addr → Prop} {η : EnvD} {σ : L2.St} {H : Hp}
/-- an address that no slot owns is kept from all that follows -/
def Ctx.guard (c : Ctx) (D : Addr) : Ctx := { c with B := fun b => c.B b ∨ b = D }
theorem Good.guard (g : Good K c O η σ H) {D : Addr} (oD : O D) (no : ∀ (i : Nat) (x : Cell), η[i]? = some x → ¬ foot x (σ[i]?.join) D) : Good K (c.guard D) O η σ H where
  len := g.len
  hB := fun b h => h.elim (g.hB b) fun z => z ▸ oD
  hW := fun b h => .inl (g.hW b h)
  hT := g.hT
  keep := g.keep
  draw := g.draw
  cell := fun i x hx => by
    have q := g.cell i x hx
    cases x with
    | own ds =>
      obtain ⟨a, xs, e, ha, oa, nb, h0, r⟩ := q
      exact ⟨a, xs, e, ha, oa, fun z => z.elim nb fun z => no i _ hx (show σ[i]?.join = some (.ref D) by rw [e, z]), h0, r⟩
    | mtb p d fp =>
      obtain ⟨x, e, r, h1, h2, h3, h4⟩ := q
      exact ⟨x, e, r, h1, h2, fun b hb => ⟨(h3 b hb).1, fun z => z.elim (h3 b hb).2.1 fun z => no i _ hx (show D ∈ fp from z ▸ hb), (h3 b hb).2.2⟩, h4⟩
    | ist p nm fs fp =>
      obtain ⟨x, e, r, h1, h2, h3, h4⟩ := q
      exact ⟨x, e, r, h1, h2, fun b hb => ⟨(h3 b hb).1, fun z => z.elim (h3 b hb).2.1 fun z => no i _ hx (show D ∈ fp from z ▸ hb), (h3 b hb).2.2⟩, h4⟩
    | _ => exact q
  dis := g.dis
  fr := g.fr
/-- what may not be reached is owned by no slot -/
theorem Good.noB (g : Good K c O η σ H) {D : Addr} (hD : c.B D) (i : Nat) (x : Cell) (hx : η[i]? = some x) : ¬ foot x (σ[i]?.join) D := fun z => by
  have q := g.cell i x hx
  cases x with
  | own ds =>
    obtain ⟨a, xs, e, ha, oa, nb, h0, r⟩ := q
    have z : σ[i]?.join = some (.ref D) := z
    rw [e] at z
    cases z
    exact nb hD
  | mtb p d fp =>
    obtain ⟨x, e, r, h1, h2, h3, h4⟩ := q
    exact (h3 D z).2.1 hD
  | ist p nm fs fp =>
    obtain ⟨x, e, r, h1, h2, h3, h4⟩ := q
    exact (h3 D z).2.1 hD
  | _ => exact z.elim
end
/-- where no error may leave -/
def liftI0 (K : PySem.W.Frag) (t : IT) : TI := fun σ H R => ∃ (c : Ctx) (O : Addr → Prop) (η : EnvD) (Q : List D → Prop), Good K c O η σ H ∧ t never η Q ∧ ∀ J H' ds F, Step c.G H H' → (∀ p ∈ F, Rep K O H' p.1 p.2) → WalkD K J F ds → Q ds → R J H'
def compD2 (vs1 : List Nat) (g : GT) (tt : BT) (ti1 : IT) (g1 : GT) (tt1 : BT) (te : ET) (η0 : EnvD) : List D → List D → (List D → Prop) → Prop
  | [], acc, Q => Q acc
  | d :: ds, acc, Q => g d η0 fun η1 => tt never η1 fun b => if b = true then ti1 never η1 fun es => compD g1 tt1 te (wipeD η1 vs1) es acc fun acc' => compD2 vs1 g tt ti1 g1 tt1 te η0 ds acc' Q else compD2 vs1 g tt ti1 g1 tt1 te η0 ds acc Q
def nComp2 (own vs1 : List Nat) (ti : IT) (g : GT) (tt : BT) (ti1 : IT) (g1 : GT) (tt1 : BT) (te : ET) : NT := fun E η Q => ti E η fun ds => compD2 vs1 g tt ti1 g1 tt1 te (wipeD η own) ds [] Q
section
variable {X : Cx} {elt tg iter tg1 iter1 : Expr} {ifs ifs1 : List Expr} {scope : Scope} {own : List (Str × Nat)} {is is1 vs1 : List Nat} {pos : Pos} {ti ti1 : IT} {g g1 : GT} {tt tt1 : BT} {te : ET}
end
end DL

/-! DL32: sorted of a dict. -/
namespace DL
open PySem PySem.Spec PyProof.Rows L2
section
variable {prog : Program} {w : World} {A : Around} {E : Value → Shared → Prop} {s : Shared}
end
section
variable {X : Cx} {e : Expr} {t : ET} {ts : AT} {p pos : Pos}
def rSortDict (K : PySem.W.Frag) : List V → Hp → VK → Prop := fun vs H Q => ∃ (O : Addr → Prop) (v : V) (kvs : List (D × D)), vs = [v] ∧ Rep K O H v (.dict kvs) ∧ tkD kvs = true ∧ SrtOk (kvs.map (·.1)) ∧ ∀ p ys, H p = none → RepAll K O H ys (sortD (kvs.map (·.1))) → Q (.ref p) (upd H p (.lst ys))
def fSortedD : List D → (List D → Prop) → Prop
  | [.dict kvs], Q => tkD kvs = true ∧ SrtOk (kvs.map (·.1)) ∧ Q (sortD (kvs.map (·.1)))
  | _, _ => False
end
end DL

/-! DL33: xs != [] for any list xs. -/
namespace DL
open PySem PySem.Spec PyProof.Rows L2
section
variable {X : Cx}
def oNeL0 : OpD
  | .list xs, .list [], Q => Q (.bool (!xs.isEmpty))
  | _, _, _ => False
end
end DL

/-! DL34: a comprehension over the keys of a dict. -/
namespace DL
open PySem PySem.Spec PyProof.Rows L2
/-- the keys of a dict whose object stays -/
def ItX (a : Addr) (es : Array DictEntry) (ep : Nat) (ks : List V) : It :=
  ⟨fun i H => H a = some (dictO a es ep) ∧ i < es.size, fun i H x H' => H' = H ∧ ks[i]? = some x, fun i H => H a = some (dictO a es ep) ∧ es.size ≤ i⟩
/-- what is walked, with something that stays as long as nothing is written -/
def liftIS (X : Cx) (t : IT) : TI := fun σ H R => ∃ (c : Ctx) (O : Addr → Prop) (η : EnvD) (E : XP) (Q : List D → Prop), Gd X c E O η σ H ∧ t E η Q ∧ ∀ (J : It) (H' : Hp) (ds : List D) (F : List (V × D)) (S : Hp → Prop), Step c.G H H' → (∀ p ∈ F, Rep X.K O H' p.1 p.2) → S H' → (∀ H2, Step c.G H' H2 → S H2) →
  Walk J ds.length (fun H => Std X.K F H ∧ S H) (YD X.K F ds) → Q ds → R J H'
structure DIS (X : Cx) (tg iter : Expr) (t : IT) : Prop where
  pi : PI X tg iter (liftIS X t)
def iSeqD (t : ET) : IT := fun E η Q => t E η fun d => match d with
  | .dict kvs => tkD kvs = true ∧ Q (kvs.map (·.1))
  | _ => False
section
variable {X : Cx} {elt tg iter : Expr} {ifs : List Expr} {scope : Scope} {own : List (Str × Nat)} {is : List Nat} {pos : Pos} {ti : IT} {g : GT} {tt : BT} {te : ET}
end
end DL

/-! DLsetE: sorted(set(xs)), xs a list of tuples, the empty one among them. -/
namespace DL
open PySem PySem.Spec PyProof.Rows L2 PySem.W PySem.SeqAt
section
variable {prog : Program} {w : World} {A : Around} {s : Shared} {E : Value → Shared → Prop}
theorem firsts_all : ∀ {vs : List Value} {ds : List PyData} {Q : List (Option Value) → Shared → Prop}, EachIs (fun v d => ∃ as, Reads s.heap v d as) vs ds → (∀ d, d ∈ ds → ∃ xs, d = .tuple xs) →
    (∀ rs : List (Option Value), (∀ j : Nat, rs[j]? = some none ↔ ds[j]? = some (.tuple [])) → rs.length = ds.length → Q rs s) → wpAny (model prog w) A (vs.mapM firstOfTuple') Q E s
  | _, _, Q, .nil, _, h => by
    rw [List.mapM_nil]
    exact wpAny_pure (h [] (fun j => by simp) rfl)
  | v :: vs, d :: ds, Q, .cons ⟨as, r⟩ t, ht, h => by
    obtain ⟨xs, rfl⟩ := ht d List.mem_cons_self
    rw [List.mapM_cons]
    refine wpAny_bind (first_tuple r fun o ho => wpAny_bind (firsts_all t (fun d hd => ht d (List.mem_cons_of_mem _ hd)) fun rs hr hl => wpAny_pure (h (o :: rs) (fun j => ?_) ?_)))
    · cases j with
      | zero =>
        simp only [List.getElem?_cons_zero, Option.some.injEq, PyData.tuple.injEq]
        exact ho
      | succ j =>
        simp only [List.getElem?_cons_succ]
        exact hr j
    · rw [List.length_cons, List.length_cons, hl]
theorem SortsAt.mixed {vs : List Value} {ds : List PyData} (e : EachIs (fun v d => ∃ as, Reads s.heap v d as) vs ds) (hal : AllAlike ds) (ht : ∀ d, d ∈ ds → ∃ xs, d = .tuple xs) (h0 : ds[0]? ≠ some (.tuple [])) (hm : PyData.tuple [] ∈ ds) (hu : ∀ d, d ∈ ds → A.units + d.depth < cLine) :
    SortsAt prog w A s (dataKind s.heap ds) vs := by
  have room : ∀ {d d' : PyData}, d ∈ ds → A.units + min d.depth d'.depth < cLine := fun {d d'} hd => Nat.lt_of_le_of_lt (Nat.add_le_add_left (Nat.min_le_left _ _) _) (hu d hd)
  refine ⟨fun v hv => ?_, general', fun E x y a b Q ha hb hq => ?_, fun h2 E Q hq => ?_⟩
  · obtain ⟨d, hd, as, r⟩ := e.left v hv
    exact ⟨_, dataKind_some hal hd r⟩
  · obtain ⟨d, as, hd, ra, rfl⟩ := dataKind_inv ha
    obtain ⟨d', as', hd', rb, rfl⟩ := dataKind_inv hb
    obtain ⟨xs, rfl⟩ := ht d hd
    obtain ⟨ys, rfl⟩ := ht d' hd'
    show wpAny _ _ (oneLt' false x y) _ _ _
    rw [oneLt'_eq]
    simp only [Bool.false_eq_true, if_false]
    exact wpAny_bind (rcLt_alike (.tuple xs) (.tuple ys) A s x y _ _ ra rb (hal _ hd _ hd') (fun z => by cases z) (room hd) prog w _ _ (wpAny_truthy_bool hq))
  · rw [keyKind'_eq, List.mapM_toArray, map_eq_pure_bind]
    refine wpAny_bind (wpAny_bind (firsts_all e ht fun rs hr hl => wpAny_pure ?_))
    obtain ⟨k, hk⟩ := List.getElem?_of_mem hm
    have e0 : rs[k]? = some none := (hr k).mpr hk
    have e1 : (rs.toArray.all fun x => x.isSome) = false := by
      rw [← Bool.not_eq_true, Array.all_eq_true_iff_forall_mem]
      intro z
      have := z none (by simpa using List.mem_of_getElem? e0)
      cases this
    rw [if_neg (by rw [e1]; decide)]
    have e2 : (rs.toArray[0]?.bind id).isSome = true := by
      have n0 : rs[0]? ≠ some none := fun z => h0 ((hr 0).mp z)
      cases c : rs with
      | nil => rw [c] at e0; simp at e0
      | cons a r =>
        rw [c] at n0
        cases a with
        | none => exact absurd rfl n0
        | some v => simp
    rw [if_pos e2]
    exact wpAny_pure hq
end
end DL
namespace DS
open PySem PySem.Spec PyProof.Rows L2 DL
section
variable {P : Program} {w : World} {A : Around} {E : Value → Shared → Prop} {s : Shared} {a : Addr} {L : List Row} {es : Array (Int × Value)} {ep : Nat} {t : SetTable}
end
end DS
namespace DL
open PySem PySem.Spec PyProof.Rows L2
def SetOkE (xs : List D) : Prop := xs.length < 64 ∧ xs.all itup = true ∧ PySem.W.AllAlike xs ∧ (∀ d, d ∈ xs → ∃ r, d = .tuple r) ∧ ∀ d, d ∈ xs → d.depth ≤ 8
def nSortSetE (t : ET) : NT := fun E η Q => t E η fun d => match d with
  | .list xs => SetOkE xs ∧ ∀ ys, ys.Pairwise (fun a b => PySem.W.dataLt a b = true) → (∀ d, d ∈ ys ↔ d ∈ xs) → Q ys
  | _ => False
def tSortSetE (K : PySem.W.Frag) (ta : TE) : TE := fun σ H Q => ta σ H fun x H1 => ∃ (l : Addr) (xs : List V) (ds : List D) (O : Addr → Prop), x = V.ref l ∧ H1 l = some (.lst xs) ∧ RepAll K O H1 xs ds ∧ SetOkE ds ∧
  ∀ p ys es, H1 p = none → RepAll K O H1 ys es → es.Pairwise (fun a b => PySem.W.dataLt a b = true) → (∀ d, d ∈ es ↔ d ∈ ds) → ys.length ≤ sizeLine → Q (.ref p) (upd H1 p (.lst ys))
section
variable {X : Cx} {e : Expr} {t : ET} {p p2 q2 pos : Pos}
end
end DL

set_option maxHeartbeats 4000000
/-! DLsetT: sorted(set(xs)), xs a tuple of tuples of ints, nested (DLset's texts, turned from lists to tuples). -/
namespace DS
open PySem PySem.Spec PyProof.Rows L2
variable {P : Program} {w : World} {A : Around} {E : Value → Shared → Prop} {s : Shared}
end DS
namespace DL
open PySem PySem.Spec PyProof.Rows L2
def nSortSetT (t : ET) : NT := fun E η Q => t E η fun d => match d with
  | .tuple xs => SetOk xs ∧ ∀ ys, ys.Pairwise (fun a b => PySem.W.dataLt a b = true) → (∀ d, d ∈ ys ↔ d ∈ xs) → Q ys
  | _ => False
def tSortSetT (K : PySem.W.Frag) (ta : TE) : TE := fun σ H Q => ta σ H fun x H1 => ∃ (l : Addr) (xs : List V) (ds : List D) (O : Addr → Prop), x = V.ref l ∧ SqT K H1 l xs ∧ RepAll K O H1 xs ds ∧ SetOk ds ∧
  ∀ p ys es, H1 p = none → RepAll K O H1 ys es → es.Pairwise (fun a b => PySem.W.dataLt a b = true) → (∀ d, d ∈ es ↔ d ∈ ds) → ys.length ≤ sizeLine → Q (.ref p) (upd H1 p (.lst ys))
section
variable {X : Cx} {e : Expr} {t : ET} {p p2 q2 pos : Pos}
end
end DL

/-! DLl1: a lambda without parameters is made. -/
namespace DL
open PySem PySem.Spec PyProof.Rows L2
section
variable {X : Cx} {pins : List (Addr × Obj)} {σ : L2.St} {H : Hp} {s : Shared} {G : Option (Addr × Addr)}
end
end DL

/-! DLl2: try: ..; except (C1, C2) as n: ..; what stands behind it knows the exception. -/
namespace DL
open PySem PySem.Spec PyProof.Rows L2
/-- what the clause wishes -/
def w2 (K : PySem.W.Frag) (c1 c2 : Value) (i : Nat) (ts ts2 : Addr → Value → Option Addr → TS) (D : Ends) : WX := fun cls d σ H =>
  PySem.W.exmAny K cls [c1, c2] = some true ∧ ∀ a, H a = none → ts a cls d { nx := fun σ' H' => ts2 a cls d D (σ'.set i none) H', rt := fun _ _ => False, bk := fun _ _ => False, ct := fun _ _ => False } (σ.set i (some (.ref a))) H
section
variable {X : Cx} {pins : List (Addr × Obj)} {σ : L2.St} {H : Hp} {s : Shared}
variable {x1 x2 n : Str} {c1 c2 : Value} {i kk : Nat} {body suite rest : List Stmt} {b₀ : Stmt} {q1 q2 q3 pos pos' : Pos} {tb : WX → TS} {ts ts2 : Addr → Value → Option Addr → TS} {ur : TS}
end
end DL

/-! DLl3: an exception that is known by its address: isinstance, its field, is None. -/
namespace DL
open PySem PySem.Spec PyProof.Rows L2
/-- the context knows the exception at a: of the class C, its dict at dx -/
def PinX (X : Cx) (a dx C : Addr) : Prop := ∃ oe : Obj, (a, oe) ∈ X.pn ∧ Zc (.ref C) (some dx) oe ∧ ∃ vs, oe.data = .fields vs
/-- what has to be known of its class -/
structure ToldK (K : PySem.W.Frag) (C : Addr) : Prop extends XfC K C where
  cl : (PySem.W.clsIn K C).isSome = true
  at_ : PySem.W.findIn K (.ref C) "__class__" = some (some (.builtin "object.__class__"))
  gs : PySem.W.specialIn K (.builtin "object.__class__") "__get__" = some (some (.builtin "getset_descriptor.__get__"))
  tk : PySem.W.takesIn K (.builtin "object.__class__") = some true
  ob : PySem.W.mroIn K C (.type "object") = some true
  no : ∀ f ∈ (["place", "value", "word", "most"] : List Str), PySem.W.findIn K (.ref C) f = some none
section
variable {X : Cx} {a dx C : Addr} {p pos p1 p2 : Pos} {x cn f : Str} {i : Nat}
theorem pe_gref {u : Addr} (hg : Gl X x) (hm : X.mg x = some (.ref u)) (hd : (x == ("__debug__" : Str)) = false := by decide) : PE X (.Name x p) (fun σ H Q => Q (.ref u) H) :=
  ⟨fun pins s σ H Q I h => ld_glob I hg hm ⟨.ref u, H, I, rfl, h⟩ hd⟩
def rIsP (K : PySem.W.Frag) (C a dx : Addr) (b : Bool) : List V → Hp → VK → Prop := fun xs H Q => ∃ (Dd : Addr) (fs : List (Str × V)), xs = [.ref a, .ref Dd] ∧ H dx = some (.xd fs) ∧ PySem.W.kitOne K (.ref C) (.ref Dd) = some b ∧ Q (.bl b) H
/-- isinstance(e, C) -/
def dIsE (i : Nat) (a dx : Addr) (b : Bool) : ET := fun _ η Q => (∃ f d, η[i]? = some (.obj a (some (dx, f, d)))) ∧ Q (.bool b)
/-- e.f -/
def dFldE (i : Nat) (a dx : Addr) (f : Str) : ET := fun _ η Q => ∃ d, η[i]? = some (.obj a (some (dx, f, d))) ∧ Q d
/-- e is None -/
def dObjN (i : Nat) (a : Addr) : ET := fun _ η Q => (∃ o, η[i]? = some (.obj a o)) ∧ Q (.bool false)
end
end DL

/-! DLl4: a def called with an exception that the caller knows. -/
namespace DL
open PySem PySem.Spec PyProof.Rows L2
/-- a block's term where no error may leave -/
def lift0S (K : PySem.W.Frag) (t : SD) : TS := fun D σ H => ∃ (c : Ctx) (O : Addr → Prop) (η : EnvD) (z : EndsD), Good K c O η σ H ∧ t never z η ∧
  (∀ σ' H', (∃ O η, Good K c O η σ' H' ∧ z.nx η) → D.nx σ' H') ∧ (∀ v H', (∃ d, (∀ a o, ¬ Wr c.G a → c.H0 a = some o → H' a = some o) ∧ DrawOk c.G H' ∧ (Rep K c.B H' v d ∨ MRet K c H' v d) ∧ z.rt d) → D.rt v H') ∧
  (∀ σ' H', (∃ O η, Good K c O η σ' H' ∧ z.bk η) → D.bk σ' H') ∧ (∀ σ' H', (∃ O η, Good K c O η σ' H' ∧ z.ct η) → D.ct σ' H')
/-- f(e): the term of f's body is run with what is known of e -/
def dRef (i : Nat) (a dx : Addr) (m : Nat) (t : SD) : ET := fun _ η Q => ∃ f d, η[i]? = some (.obj a (some (dx, f, d))) ∧ t never { nx := fun _ => Q .none, rt := Q } (.obj a (some (dx, f, d)) :: List.replicate m .un)
section
variable {X : Cx} {a dx C : Addr} {p pos p1 : Pos} {x y e : Str} {i k m : Nat} {st : Stmt} {N : List Str} {t : SD}
end
end DL

/-! DLl5: a def that makes lambdas knows its own code. -/
namespace DL
open PySem PySem.Spec PyProof.Rows L2
section
variable {P : Program} {w : World} {K : PySem.W.Frag} {mg : Str → Option Value} {base : Heap} {CX : CXT} {k : Nat} {f : Addr} {fd : FuncData} {ps N : List Str} {sp : Sp}
/-- where the lambdas of the def x are noted -/
structure LamAt (K : PySem.W.Frag) (mg : Str → Option Value) (base : Heap) (x : Str) (c P : Addr) : Prop where
  tab : LamX.TabB base mg c P
  mem : (P, x ++ ".<locals>." ++ "<lambda>") ∈ lawTabs
  uni : ∀ p ∈ lawTabs, p.1 = P → p.2 = x ++ ".<locals>." ++ "<lambda>"
  code : ∀ (st : Stmt) (f : Addr) (fd : FuncData), Fun K x x st f fd → mg x = some (.ref f) → fd.code = .ref c
end
end DL

/-! DLl6: x(lambda: e), where x is the def that tells what a call returns, or of what class its refusal is. -/
namespace DL
open PySem PySem.Spec PyProof.Rows L2
abbrev N_told : List Str := ["_law_call", "_law_found", "_law_error", "e"]
def eight : List Str := ["BadSchema", "BadStore", "BadLot", "BadColumn", "BadCell", "BadNumber", "BadPaper", "TooMany"]
/-- what has to be known of a class that may be told -/
structure ToldN (K : PySem.W.Frag) (mg : Str → Option Value) (nm : Str) (C : Addr) : Prop extends ToldK K C where
  nam : mg nm = some (.ref C)
  is : ∀ cn ∈ eight, ∃ Dd, mg cn = some (.ref Dd) ∧ PySem.W.kitOne K (.ref C) (.ref Dd) = some (cn == nm)
/-- the told classes' bases -/
structure ToldB (K : PySem.W.Frag) (mg : Str → Option Value) (ok : Str → Prop) (S1 S2 : Addr) : Prop where
  s1 : mg "ShareError" = some (.ref S1)
  s2 : mg "TooMany" = some (.ref S2)
  cl : ∀ nm, ok nm → ∃ C, ToldN K mg nm C ∧ PySem.W.exmAny K (.ref C) [.ref S1, .ref S2] = some true
def dTold (rF : Addr → Addr → Str → SD) (m : Nat) (ok : Str → Prop) (tb : ET) : ET := fun _ η Q =>
  tb (fun nm fs => ∃ f d, fs = [(f, d)] ∧ ok nm ∧ ∀ a dx, rF a dx nm never { nx := fun _ => Q .none, rt := Q } (.obj a (some (dx, f, d)) :: List.replicate m .un)) η fun d => Q (.list [d])
/-- the lambda's body, read at the maker's slots -/
def tLamD (K : PySem.W.Frag) (mg : Str → Option Value) (tb : ET) (E : XK) : TE := fun σ H R => ∃ (c : Ctx) (O : Addr → Prop) (η : EnvD) (E' : XP) (Q : D → Prop), Good K c O η σ H ∧ (∀ cls d H', ErrG K mg c.B c.G c.H0 E' cls d H' → E cls d H') ∧ tb E' η Q ∧ ∀ d v H', Step c.G H H' → Rep K O H' v d → Q d → R v H'
/-- what that def makes of the call's reading -/
def toldT (K : PySem.W.Frag) (mg : Str → Option Value) (rF : Addr → Addr → Str → SD) (m : Nat) (ok : Str → Prop) (tl : XK → Hp → VK → Prop) (f c' : Addr) (q : Str) : TS := fun Dz σ H0 => ∃ (O : Addr → Prop) (G : Option (Addr × Addr)) (Q : D → Prop),
  Good K ⟨O, G, H0, [], []⟩ O [.obj f none, .un, .un, .un] σ H0 ∧ H0 c' = some (LamX.CodeO c' q) ∧
  (∀ HZ, Step G H0 HZ → ∀ (E' : XK) (Q' : VK), (∀ cls d H', ErrG K mg O G H0 (fun nm fs => ∃ f d, fs = [(f, d)] ∧ ok nm ∧ ∀ a dx, rF a dx nm never { nx := fun _ => Q .none, rt := Q } (.obj a (some (dx, f, d)) :: List.replicate m .un)) cls d H' → E' cls d H') → (∀ v d H', Step G HZ H' → Rep K O H' v d → Q (.list [d]) → Q' v H') → tl E' HZ Q') ∧
  ∀ v d H', Step G H0 H' → Rep K O H' v d → Q d → Dz.rt v H'
section
variable {Z : Cx} {k m : Nat} {NR : List Str} {stR : Stmt} {rF : Addr → Addr → Str → SD} {ok : Str → Prop} {S1 S2 : Addr} {tl : XK → Hp → VK → Prop} {f c' : Addr} {q : Str} {t0 : SD}
variable {k1 k2 k3 j1 j2 j3 : Nat} {a1 a2 a3 a4 a5 a6 a7 b1 b2 b3 b4 b5 b6 b7 b8 b9 b10 b11 b12 d1 d2 d3 d4 d5 d6 d7 d8 d9 d10 : Pos}
/-- the reading of the call in the try -/
def tAct (tl : XK → Hp → VK → Prop) (f c' : Addr) (q : Str) (n : Nat) (W : WX) : TS := fun D σ H => σ[0]? = some (some (.ref f)) ∧ H c' = some (LamX.CodeO c' q) ∧ tl (fun cls d H' => ∀ σ' : L2.St, σ'.length = n → W cls d σ' H') H fun v H' => D.nx (σ.set 1 (some v)) H'
end
end DL

/-! DLl7: x(lambda: e) as an expression. -/
namespace DL
open PySem PySem.Spec PyProof.Rows L2
/-- what is owned is not seen -/
def dropC : Cell → Cell
  | .own _ => .un
  | .mtb _ _ _ => .un
  | .ist _ _ _ _ => .un
  | x => x
def drop (η : EnvD) : EnvD := η.map dropC
theorem Good.drop {K : PySem.W.Frag} {c : Ctx} {O : Addr → Prop} {η : EnvD} {σ : L2.St} {H H1 : Hp} (g : Good K c O η σ H) (st : Step c.G H H1) : Good K ⟨O, c.G, H1, [], []⟩ O (drop η) σ H1 where
  len := by unfold DL.drop; rw [List.length_map, g.len]
  hB := fun _ h => h
  hW := g.wO
  hT := (g.step st).hT
  keep := fun _ _ _ e => e
  draw := st.draw
  cell := fun i x h => by
    unfold DL.drop at h
    rw [List.getElem?_map] at h
    cases e : η[i]? with
    | none => rw [e] at h; cases h
    | some y =>
      rw [e] at h
      cases h
      have q := (g.step st).cell i y e
      cases y with
      | un => trivial
      | dat d => exact q
      | own ds => trivial
      | drw => exact q
      | obj a o => exact q
      | scr ns => exact q
      | mtb p d fp => trivial
      | lin nm fs => exact q
      | ist p nm fs fp => trivial
  dis := fun i j x y a h1 h2 h3 h4 => by
    unfold DL.drop at h1
    rw [List.getElem?_map] at h1
    cases e : η[i]? with
    | none => rw [e] at h1; cases h1
    | some y => rw [e] at h1; cases y <;> cases h1 <;> exact h3.elim
  fr := fun p hp => absurd hp (by simp)
section
variable {X : Cx} {pins : List (Addr × Obj)} {σ : L2.St} {H : Hp} {s : Shared}
end
/-- the def that tells -/
def ToldF (P : Program) (w : World) (K : PySem.W.Frag) (mg : Str → Option Value) (base : Heap) (k : Nat) (rF : Addr → Addr → Str → SD) (m : Nat) (ok : Str → Prop) : Prop := ∃ stT, DefIn K mg "_law_told" stT ["_law_call"] ∧ FnScope N_told ["_law_call"] (defScope stT) ∧ Vis (defScope stT) "_law_call" ∧
  ∀ (g : Addr) (cdg : Value) (A : Around) (outer : List Env) (s : Shared) (H : Hp), A.guards = some [] → Room k (A.deeper (envOfC "_law_told" (defScope stT) s.heap.objs.size g cdg)) → ∀ (tl : XK → Hp → VK → Prop) (f c' : Addr) (q : Str),
    (∀ (p1 p2 : Pos) (W : WX) (pn : List (Addr × Obj)) (xe : Value → Shared → Prop) (E : XK), Takes ((cxOf CX0 P w K mg base N_told "_law_told" (defScope stT) g cdg A outer s H E0).nox.tr pn xe) W → (∀ cls d σ' H', E cls d H' → W cls d σ' H') →
      PE ((cxOf CX0 P w K mg base N_told "_law_told" (defScope stT) g cdg A outer s H E0).nox.tr pn xe) (.Call (.Name "_law_call" p1) [] [] p2) (fun σZ HZ Q => σZ[0]? = some (some (.ref f)) ∧ HZ c' = some (LamX.CodeO c' q) ∧ tl E HZ Q)) →
    PSs (cxOf CX0 P w K mg base N_told "_law_told" (defScope stT) g cdg A outer s H E0).nox (defBody stT) (toldT K mg rF m ok tl f c' q)
/-- the wish in the lambda's body -/
def dTold' (rF : Addr → Addr → Str → SD) (m : Nat) (ok : Str → Prop) (tb : ET) : ET := fun _ η Q =>
  tb (fun nm fs => ∃ f d, fs = [(f, d)] ∧ ok nm ∧ ∀ a dx, rF a dx nm never { nx := fun _ => Q .none, rt := Q } (.obj a (some (dx, f, d)) :: List.replicate m .un)) (drop η) fun d => Q (.list [d])
section
variable {X : Cx} {P c : Addr} {k m : Nat} {rF : Addr → Addr → Str → SD} {ok : Str → Prop} {params : Arguments} {body : Expr} {scope : Scope} {lp p pos : Pos} {tb : ET}
end
end DL

/-! DLl8: xs[::-1] of a list or a tuple. -/
namespace DL
open PySem PySem.Spec PyProof.Rows L2
section
variable {prog : Program} {w : World} {A : Around} {E : Value → Shared → Prop} {s : Shared}
end
def tRevT (K : PySem.W.Frag) (te : TE) : TE := fun σ H Q => te σ H fun x H1 => ∃ a xs, x = .ref a ∧ ((SqL K H1 a xs ∧ ∀ p, H1 p = none → Q (.ref p) (upd H1 p (.lst xs.reverse))) ∨ (SqT K H1 a xs ∧ ∀ p, H1 p = none → Q (.ref p) (upd H1 p (.tup xs.reverse))))
/-- xs[::-1] -/
def dRev (ta : ET) : ET := fun E η Q => ta E η fun x => match x with
  | .list ds => Q (.list ds.reverse)
  | .tuple ds => Q (.tuple ds.reverse)
  | _ => False
end DL

/-! DLl9: a def that calls itself; the classes that are told; the head's facts of tables and told classes. -/
namespace DL
open PySem PySem.Spec PyProof.Rows L2
section
variable {P : Program} {w : World} {K : PySem.W.Frag} {mg : Str → Option Value} {base h : Heap} {k : Nat} {ps : List Str} {x : Str} {st : Stmt}
/-- not called -/
def fNone : FT := fun _ _ _ => False
/-! the head's facts -/
def ToldAt (K : PySem.W.Frag) (nm : Str) (S1 S2 : Addr) : Prop := ∃ C, PySem.W.nsIn K mainGlobals nm = some (some (.ref C)) ∧ ToldK K C ∧ (∀ cn ∈ eight, ∃ Dd, PySem.W.nsIn K mainGlobals cn = some (some (.ref Dd)) ∧ PySem.W.kitOne K (.ref C) (.ref Dd) = some (cn == nm)) ∧ PySem.W.exmAny K (.ref C) [.ref S1, .ref S2] = some true
def ToldTop (K : PySem.W.Frag) (names : List Str) : Prop := ∃ S1 S2, PySem.W.nsIn K mainGlobals "ShareError" = some (some (.ref S1)) ∧ PySem.W.nsIn K mainGlobals "TooMany" = some (some (.ref S2)) ∧ ∀ nm ∈ names, ToldAt K nm S1 S2
/-- a table, found at the head -/
def TabAt (K : PySem.W.Frag) (h : Heap) (p : Str × Addr × Addr) : Prop := PySem.W.tabIn K p.1 = some p.2 ∧ K.lookup p.2.2 = none ∧ PySem.W.codeHdIn K p.2.1 p.2.2 = true ∧ h.get? p.2.2 = some (PySem.W.tabObj #[])
end
end DL

/-! DLl10: xs + ys as a new list. -/
namespace DL
open PySem PySem.Spec PyProof.Rows L2
def nCat2 (ta tb : ET) : NT := fun E η Q => ta E η fun x => tb E η fun y => match x, y with
  | .list xs, .list ys => xs.length + ys.length ≤ sizeLine ∧ Q (xs ++ ys)
  | _, _ => False
/-- ys = ys + e, ys owned -/
def sOwnCat (i : Nat) (t : ET) : SD := fun E z η => match η[i]? with
  | some (.own ds) => t E η fun y => match y with
    | .list ys => ds.length + ys.length ≤ sizeLine ∧ z.nx (η.set i (.own (ds ++ ys)))
    | _ => False
  | _ => False
end DL

/-! DLl11: x(lambda y=0: e): a lambda with one parameter, which has an integer as its default. -/
namespace DL
open PySem PySem.Spec PyProof.Rows L2
/-- what is asked of such a lambda's names; N: the maker's slots -/
structure LamD (N : List Str) (a : Str) (sc scope : Scope) : Prop where
  kind : scope.kind = .function
  co : scope.isCoroutine = false
  gen : scope.isGenerator = false
  own : ∀ y ∈ scope.names, y.2 ≠ .cell ∧ (y.2 = .local → y.1 ∉ N)
  free : ∀ y ∈ scope.names, y.2 = .free → sc.names.lookup y.1 = some .cell ∨ sc.names.lookup y.1 = some .free
  par : scope.names.lookup a = some .local
def lamDB (N : List Str) (a : Str) (sc scope : Scope) : Bool :=
  decide (scope.kind = .function) && !scope.isCoroutine && !scope.isGenerator && (scope.names.all fun y => !decide (y.2 = .cell) && (!decide (y.2 = .local) || !N.contains y.1) && (!decide (y.2 = .free) || decide (sc.names.lookup y.1 = some .cell) || decide (sc.names.lookup y.1 = some .free))) && decide (scope.names.lookup a = some .local)
theorem LamD.has {X : Cx} {N : List Str} {a : Str} {scope : Scope} (L : LamD N a X.env.scope scope) (ok : X.Ok) : ∀ y ∈ scope.names, y.2 = .free → ∃ c, X.env.cells.lookup y.1 = some c := fun y hy e => by
  rcases L.free y hy e with k | k
  · exact ok.has _ (.inl k)
  · exact ok.has _ (.inr k)
section
variable {X : Cx} {pins : List (Addr × Obj)} {σ : L2.St} {H HZ : Hp} {s s1 : Shared} {G : Option (Addr × Addr)}
end
section
variable {X : Cx} {P c : Addr} {k m : Nat} {rF : Addr → Addr → Str → SD} {ok : Str → Prop} {params : Arguments} {body : Expr} {scope : Scope} {lp p pos : Pos} {tb : ET}
end
end DL

/-! DLx: what each term says, as equations (not by computation: the kernel is to take them as they stand). -/
namespace DL
open PySem L2
section
variable {E : XP} {z : EndsD} {η : EnvD} {QD : D → Prop} {QL : List D → Prop} {QC : List Cell → Prop} {QB : Bool → Prop} {QO : Option Int → Prop} {QE : EnvD → Prop}
variable {t u : ET} {ta tb tc : ET} {s s1 s2 : SD} {nt : NT} {b b1 b2 : BT} {at_ : AT} {ct : CT} {it : IT} {g : GT} {gs : GTs} {i j : Nat}
theorem x_sSeq : sSeq s1 s2 E z η = s1 E { z with nx := s2 E z } η := id rfl
theorem x_sNext : sNext E z η = z.nx η := id rfl
theorem x_sSet : sSet i t E z η = t E η (fun d => z.nx (η.set i (.dat d))) := id rfl
theorem x_sSetL : sSetL i t E z η = t E (lend η) (fun d => flat d = true ∧ z.nx (η.set i (.dat d))) := id rfl
theorem x_sOwn : sOwn i nt E z η = nt E η (fun ds => z.nx (η.set i (.own ds))) := id rfl
theorem x_sOwnL : sOwnL i nt E z η = nt E (lend η) (fun ds => flatAll ds = true ∧ z.nx (η.set i (.own ds))) := id rfl
theorem x_sNew : sNew i nt E z η = nt E η (fun ds => z.nx (η.set i (.dat (.list ds)))) := id rfl
theorem x_sPar : sPar i j t u E z η = t E η (fun x => u E η fun y => z.nx ((η.set i (.dat x)).set j (.dat y))) := id rfl
theorem x_sParN : sParN i j nt u E z η = nt E η (fun ds => u E η fun y => z.nx ((η.set i (.own ds)).set j (.dat y))) := id rfl
theorem x_sRet : sRet t E z η = t E (lend η) z.rt := id rfl
theorem x_sRetN : sRetN E z η = z.rt .none := id rfl
theorem x_sIf : sIf b s1 s2 E z η = b E (lend η) (fun k => if k = true then s1 E z η else s2 E z η) := id rfl
theorem x_sDrop : sDrop t E z η = t E (lend η) (fun _ => z.nx η) := id rfl
theorem x_sFor : sFor it g s E z η = it E η (fun ds => forD g s E z ds η) := id rfl
theorem x_sWhile : sWhile b s E z η = ∃ n, whileD b s E z n η := id rfl
theorem x_sNever : sNever E z η = False := id rfl
theorem x_sFrz : sFrz i s E z η = s E z (frz i η) := id rfl
theorem x_sApp : sApp i t E z η = onOwn η[i]? (fun ds => t E η fun d => ds.length < sizeLine ∧ z.nx (η.set i (.own (ds ++ [d])))) := id rfl
theorem x_sAppL : sAppL i t E z η = onOwn η[i]? (fun ds => t E (lend η) fun d => flat d = true ∧ ds.length < sizeLine ∧ z.nx (η.set i (.own (ds ++ [d])))) := id rfl
theorem x_sExtL : sExtL i t E z η = onOwn η[i]? (fun ds => t E (lend η) fun d => onList d fun es => flatAll es = true ∧ ds.length + es.length ≤ sizeLine ∧ z.nx (η.set i (.own (ds ++ es)))) := id rfl
theorem x_sExtS : sExtS i t E z η = onOwn η[i]? (fun ds => t E (lend η) fun d => onSeqE d fun es => flatAll es = true ∧ ds.length + es.length ≤ sizeLine ∧ z.nx (η.set i (.own (ds ++ es)))) := id rfl
theorem x_onSeqEL {ds : List D} : onSeqE (.list ds) QL = QL ds := id rfl
theorem x_onSeqET {ds : List D} : onSeqE (.tuple ds) QL = QL ds := id rfl
theorem x_sAug : sAug i t E z η = onCInt η[i]? (fun m => t E (lend η) fun d => onInt d fun n => z.nx (η.set i (.dat (.int (m + n))))) := id rfl
theorem x_sAsg : sAsg t g E z η = t E η (fun d => g d η z.nx) := id rfl
theorem x_sBreak : sBreak E z η = z.bk η := id rfl
theorem x_sCont : sCont E z η = z.ct η := id rfl
def onDat (o : Option Cell) (k : D → Prop) : Prop := match o with | some (.dat d) => k d | _ => False
def onSeq (d : D) (f g : List D → Prop) : Prop := match d with | .list ds => f ds | .tuple ds => g ds | _ => False
def on1I (ds : List D) (k : Int → Prop) : Prop := match ds with | [.int j] => k j | _ => False
def on2T (ds : List D) (k : List D → List D → Prop) : Prop := match ds with | [.tuple xs, .tuple ys] => k xs ys | _ => False
def on2I (ds : List D) (k : Int → Int → Prop) : Prop := match ds with | [.int i, .int j] => k i j | _ => False
def on2S (ds : List D) (k : List D → List D → Prop) : Prop := match ds with | [.list xs, .list ys] => k xs ys | [.tuple xs, .tuple ys] => k xs ys | _ => False
def onScr (o : Option Cell) (k : List Int → Prop) : Prop := match o with | some (.scr ns) => k ns | _ => False
theorem x_onDat {d : D} : onDat (some (.dat d)) QD = QD d := id rfl
theorem x_onSeqL {ds : List D} {f k : List D → Prop} : onSeq (.list ds) f k = f ds := id rfl
theorem x_onSeqT {ds : List D} {f k : List D → Prop} : onSeq (.tuple ds) f k = k ds := id rfl
theorem x_on1I {k : Int → Prop} {m : Int} : on1I [.int m] k = k m := id rfl
theorem x_on2I {k : Int → Int → Prop} {m n : Int} : on2I [.int m, .int n] k = k m n := id rfl
theorem x_on2L {k : List D → List D → Prop} {xs ys : List D} : on2S [.list xs, .list ys] k = k xs ys := id rfl
theorem x_on2T {k : List D → List D → Prop} {xs ys : List D} : on2S [.tuple xs, .tuple ys] k = k xs ys := id rfl
theorem x_onScr {k : List Int → Prop} {ns : List Int} : onScr (some (.scr ns)) k = k ns := id rfl
theorem x_ifB {c : Bool} : ifB (.bool c) QB = QB c := id rfl
theorem x_onS {α : Type} {a : α} {k : α → Prop} : onS (some a) k = k a := id rfl
theorem x_onOwn {ds : List D} : onOwn (some (.own ds)) QL = QL ds := id rfl
theorem x_onList {ds : List D} : onList (.list ds) QL = QL ds := id rfl
theorem x_onInt {m : Int} {k : Int → Prop} : onInt (.int m) k = k m := id rfl
theorem x_onCInt {m : Int} {k : Int → Prop} : onCInt (some (.dat (.int m))) k = k m := id rfl
theorem x_isDrw {k : Prop} : isDrw (some .drw) k = k := id rfl
theorem x_lenScr : lenScr i E η QD = onScr η[i]? (fun ns => QD (.int ns.length)) := id rfl
theorem x_dV : dV i E η QD = onDat η[i]? QD := id rfl
theorem x_dK {d : D} : dK d E η QD = QD d := id rfl
theorem x_dOp {r : OpD} : dOp r ta tb E η QD = ta E η (fun x => tb E η fun y => r x y QD) := id rfl
theorem x_dTup : dTup at_ E η QD = at_ E η (fun ds => ds.length ≤ sizeLine ∧ QD (.tuple ds)) := id rfl
theorem x_dNew : dNew nt E η QD = nt E η (fun ds => QD (.list ds)) := id rfl
theorem x_nLst : nLst at_ E η QL = at_ E η (fun ds => ds.length ≤ sizeLine ∧ QL ds) := id rfl
theorem x_nCall {r : List D → (List D → Prop) → Prop} : nCall r at_ E η QL = at_ E η (fun ds => r ds QL) := id rfl
theorem x_nComp {own : List Nat} : nComp own it g b t E η QL = it E η (fun ds => compD g b t (wipeD η own) ds [] QL) := id rfl
theorem x_nRg {r : GRg} : nRg r E η QL = r E η (fun i j => QL (rangeD i (j - i).toNat)) := id rfl
theorem x_dTupRg {r : GRg} : dTupRg r E η QD = r E η (fun i j => QD (.tuple (rangeD i (j - i).toNat))) := id rfl
theorem x_gRg1 {k : Int → Int → Prop} : gRg1 ta E η k = ta E η (fun x => onInt x fun j => RgOk 0 j ∧ k 0 j) := id rfl
theorem x_gRg2 {k : Int → Int → Prop} : gRg2 ta tb E η k = ta E η (fun x => tb E η fun y => on2I [x, y] fun i j => RgOk i j ∧ k i j) := by
  unfold gRg2 on2I
  refine congrArg _ (funext fun x => congrArg _ (funext fun y => ?_))
  cases x <;> cases y <;> rfl
theorem x_dCall {r : CallD} : dCall r at_ E η QD = at_ E η (fun ds => r ds QD) := id rfl
theorem x_dCallF {wf : FT} : dCallF wf ct E η QD = ct E η (fun cs => wf never cs QD) := id rfl
theorem x_dSl {tl th : OT} : dSl ta tl th E η QD = ta E η (fun x => tl E η fun l => th E η fun h => onSeq x (fun ds => QD (.list (cutD ds l h))) fun ds => QD (.tuple (cutD ds l h))) := id rfl
theorem x_oNone : oNone E η QO = QO none := id rfl
theorem x_oSome : oSome t E η QO = t E η (fun x => onInt x fun i => QO (some i)) := id rfl
theorem x_dAnd : dAnd ta tb E η QD = ta E η (fun x => ifB x fun c => if c = true then tb E η QD else QD (.bool false)) := id rfl
theorem x_dOr : dOr ta tb E η QD = ta E η (fun x => ifB x fun c => if c = true then QD (.bool true) else tb E η QD) := id rfl
theorem x_dNot : dNot ta E η QD = ta E η (fun x => ifB x fun c => QD (.bool (!c))) := id rfl
theorem x_oNeg : oNeg ta E η QD = ta E η (fun x => onInt x fun i => QD (.int (-i))) := id rfl
theorem x_bVal : bVal t E η QB = t E η (fun x => ifB x QB) := id rfl
theorem x_bAnd : bAnd b1 b2 E η QB = b1 E η (fun c => if c = true then b2 E η QB else QB false) := id rfl
theorem x_bOr : bOr b1 b2 E η QB = b1 E η (fun c => if c = true then QB true else b2 E η QB) := id rfl
theorem x_bNot : bNot b E η QB = b E η (fun c => QB (!c)) := id rfl
theorem x_dIf : dIf b ta tb E η QD = b E η (fun c => if c = true then ta E η QD else tb E η QD) := id rfl
theorem x_dChain {r r' : OpD} : dChain r r' ta tb tc E η QD = ta E η (fun x => tb E η fun y => r x y fun z => ifB z fun k => if k = true then tc E η fun w => r' y w QD else QD (.bool false)) := id rfl
theorem x_aNil : aNil E η QL = QL [] := id rfl
theorem x_aCons : aCons t at_ E η QL = t E η (fun d => at_ E η fun ds => QL (d :: ds)) := id rfl
theorem x_cNil : cNil E η QC = QC [] := id rfl
theorem x_cCons : cCons t ct E η QC = t E η (fun d => ct E η fun cs => QC (.dat d :: cs)) := id rfl
theorem x_cDrw : cDrw i ct E η QC = isDrw η[i]? (ct E η fun cs => QC (.drw :: cs)) := id rfl
theorem x_iSeq : iSeq t E η QL = t E η (fun d => onSeq d QL QL) := id rfl
theorem x_iRange1 : iRange1 at_ E η QL = at_ E η (fun ds => on1I ds fun j => (-(2 ^ 62) ≤ j ∧ j < 2 ^ 62) ∧ QL (rangeD 0 j.toNat)) := id rfl
theorem x_iRange2 : iRange2 at_ E η QL = at_ E η (fun ds => on2I ds fun i j => (-(2 ^ 62) ≤ i ∧ i < 2 ^ 62 ∧ -(2 ^ 62) ≤ j ∧ j < 2 ^ 62) ∧ QL (rangeD i (j - i).toNat)) := id rfl
theorem x_iZip2 : iZip2 at_ E η QL = at_ E η (fun ds => on2S ds fun xs ys => QL (pairsD xs ys)) := id rfl
theorem x_iEnum1 : iEnum1 t E η QL = t E η (fun d => onSeq d (fun ds => QL (pairsD (rangeD 0 ds.length) ds)) fun ds => QL (pairsD (rangeD 0 ds.length) ds)) := id rfl
theorem x_nSortSet : nSortSet t E η QL = t E η (fun d => onList d fun xs => SetOk xs ∧ ∀ ys, ys.Pairwise (fun a b => PySem.W.dataLt a b = true) → (∀ d, d ∈ ys ↔ d ∈ xs) → QL ys) := id rfl
theorem x_nSortSetE : nSortSetE t E η QL = t E η (fun d => onList d fun xs => SetOkE xs ∧ ∀ ys, ys.Pairwise (fun a b => PySem.W.dataLt a b = true) → (∀ d, d ∈ ys ↔ d ∈ xs) → QL ys) := id rfl
theorem x_dDict0 : dDict0 E η QD = QD (.dict []) := id rfl
theorem x_sIns {t1 t2 : ET} : sIns i t1 t2 E z η = onOwn η[i]? (fun ds => t1 E (lend η) fun d1 => onInt d1 fun k => t2 E η fun d2 => (0 ≤ k ∧ k < 2 ^ 63 ∧ ds.length < sizeLine) ∧ z.nx (η.set i (.own (ds.take k.toNat ++ [d2] ++ ds.drop k.toNat)))) := id rfl
theorem x_sPut {t1 t2 : ET} : sPut i t1 t2 E z η = onOwn η[i]? (fun ds => t2 E η fun d2 => t1 E (lend η) fun d1 => onInt d1 fun k => ∃ j, ixN ds.length k = some j ∧ z.nx (η.set i (.own (ds.set j d2)))) := id rfl
theorem x_sRaise {nm f : Str} {t : ET} : sRaise nm f t E z η = t E (lend η) (fun d => E nm [(f, d)]) := id rfl
theorem x_dCallE {wf : FT} {ts : CT} : dCallE wf ts E η QD = ts E η (fun cs => wf E cs QD) := id rfl
theorem x_sTry1 {s : SD} {cn f : Str} {k : D → D} : sTry1 s cn f k E z η = s (fun nm fs => nm = cn ∧ ∃ d, fs = [(f, d)] ∧ z.rt (k d)) z η := id rfl
def onTupO (d : D) (k : List D → Prop) : Prop := match d with | .tuple xs => k xs | _ => False
theorem x_onTupO {ds : List D} : onTupO (.tuple ds) QL = QL ds := id rfl
theorem x_nSortSetI : nSortSetI t E η QL = t E η (fun d => onTupO d fun xs => xs.length < 64 ∧ xs.all isI = true ∧ ∀ ns : List Int, ns.Pairwise (· < ·) → (∀ i, i ∈ ns ↔ i ∈ xs.map iOf) → QL (ns.map .int)) := id rfl
theorem x_fMinL {xs : List D} : fMinL [.list xs] QD = (MinOk xs ∧ QD (minD xs)) := id rfl
theorem x_fSumL {xs ys : List D} : fSumL [.list xs, .list ys] QD = (xs.all isL = true ∧ ys.length + (xs.map lOf).flatten.length ≤ sizeLine ∧ QD (.list (ys ++ (xs.map lOf).flatten))) := id rfl
theorem x_gN {d : D} : gN i d η QE = QE (η.set i (.dat d)) := id rfl
theorem x_gT {ds : List D} : gT gs (.tuple ds) η QE = gs ds η QE := id rfl
theorem x_gCons {d : D} {r : List D} : gCons' g gs (d :: r) η QE = g d η (fun η1 => gs r η1 QE) := id rfl
theorem x_gNil : gNil' [] η QE = QE η := id rfl
theorem x_bYes : bYes E η QB = QB true := id rfl
theorem x_fLenL {xs : List D} : fLen [.list xs] QD = QD (.int xs.length) := id rfl
theorem x_fLenT {xs : List D} : fLen [.tuple xs] QD = QD (.int xs.length) := id rfl
theorem x_fLenS {x : Str} : fLen [.str x] QD = (x.length ≤ sizeLine ∧ QD (.int x.length)) := id rfl
theorem x_fTupleL {xs : List D} : fTuple [.list xs] QD = QD (.tuple xs) := id rfl
theorem x_fTupleT {xs : List D} : fTuple [.tuple xs] QD = QD (.tuple xs) := id rfl
theorem x_fListL {xs : List D} : fList [.list xs] QL = QL xs := id rfl
theorem x_fListT {xs : List D} : fList [.tuple xs] QL = QL xs := id rfl
theorem x_fSorted {xs : List D} : fSorted [.list xs] QL = (SrtOk xs ∧ QL (sortD xs)) := id rfl
theorem x_fAll {xs : List D} : fAll [.list xs] QD = (xs.all isB = true ∧ QD (.bool ((xs.map bOf).all id))) := id rfl
theorem x_fAny {xs : List D} : fAny [.list xs] QD = (xs.all isB = true ∧ QD (.bool ((xs.map bOf).any id))) := id rfl
theorem x_fSum {xs : List D} : fSum [.list xs] QD = (xs.all isI = true ∧ QD (.int (xs.map iOf).sum)) := id rfl
theorem x_fIntI {i : Int} : fInt [.int i] QD = QD (.int i) := id rfl
theorem x_fIntB {c : Bool} : fInt [.bool c] QD = QD (.int (if c then 1 else 0)) := id rfl
theorem x_fMin2 {i j : Int} : fMin2 [.int i, .int j] QD = QD (.int (if j < i then j else i)) := id rfl
theorem x_fMax2 {i j : Int} : fMax2 [.int i, .int j] QD = QD (.int (if j > i then j else i)) := id rfl
theorem x_fRepr {d : D} : fRepr [d] QD = (reprOk d ∧ d.hasDict = false ∧ QD (.str d.shown)) := id rfl
theorem x_dIsi {T : String} : dIsi T ta E η QD = ta E η (fun d => QD (.bool (isiD T d))) := id rfl
theorem x_lend : lend η = η.map lendC := id rfl
theorem x_lendD {d : D} : lendC (.dat d) = .dat d := id rfl
theorem x_lendO {ds : List D} : lendC (.own ds) = .dat (.list ds) := id rfl
theorem x_lendR : lendC .drw = .drw := id rfl
theorem x_lendU : lendC .un = .un := id rfl
theorem x_lendS {ns : List Int} : lendC (.scr ns) = .scr ns := id rfl
theorem x_wipe0 : wipeD η [] = η := id rfl
theorem x_wipe1 {is : List Nat} : wipeD η (i :: is) = (wipeD η is).set i .un := id rfl
theorem x_addI {i j : Int} : oAdd (.int i) (.int j) QD = QD (.int (i + j)) := id rfl
theorem x_addS {i j : Str} : oAdd (.str i) (.str j) QD = (i.length + j.length ≤ sizeLine ∧ QD (.str (i ++ j))) := id rfl
theorem x_addL {xs ys : List D} : oAdd (.list xs) (.list ys) QD = (xs.length + ys.length ≤ sizeLine ∧ QD (.list (xs ++ ys))) := id rfl
theorem x_addT {xs ys : List D} : oAdd (.tuple xs) (.tuple ys) QD = (xs.length + ys.length ≤ sizeLine ∧ QD (.tuple (xs ++ ys))) := id rfl
theorem x_sub {i j : Int} : oSub (.int i) (.int j) QD = QD (.int (i - j)) := by
  show (True ∧ QD (.int (i - j))) = _
  exact true_and _
theorem x_mod {i j : Int} : oMod (.int i) (.int j) QD = (0 < j ∧ QD (.int (i % j))) := id rfl
theorem x_div {i j : Int} : oDiv (.int i) (.int j) QD = (CDiv i j ∧ QD (.int (i / j))) := id rfl
theorem x_pow {i j : Int} : oPow (.int i) (.int j) QD = (CPow i j ∧ QD (.int (i ^ j.toNat))) := id rfl
theorem x_mulI {i j : Int} : oMul (.int i) (.int j) QD = (CMul i j ∧ QD (.int (i * j))) := id rfl
theorem x_mulL {xs : List D} {j : Int} : oMul (.list xs) (.int j) QD = ((0 ≤ j ∧ j < 2 ^ 63 ∧ xs.length * j.toNat ≤ sizeLine) ∧ QD (.list (List.replicate j.toNat xs).flatten)) := id rfl
theorem x_eq {x y : D} : oEq x y QD = (eqOk x y = true ∧ QD (.bool (PyData.eqv x y))) := id rfl
theorem x_ne {x y : D} : oNe x y QD = (eqOk x y = true ∧ QD (.bool (!PyData.eqv x y))) := id rfl
theorem x_inL {x : D} {ds : List D} {neg : Bool} : oIn neg x (.list ds) QD = (SeqAt.shaped x = true ∧ SeqAt.shaped (.list ds) = true ∧ QD (.bool ((ds.any fun z => PyData.eqv z x) != neg))) := by
  cases x <;> exact id rfl
theorem x_inT {x : D} {ds : List D} {neg : Bool} : oIn neg x (.tuple ds) QD = (SeqAt.shaped x = true ∧ SeqAt.shaped (.tuple ds) = true ∧ QD (.bool ((ds.any fun z => PyData.eqv z x) != neg))) := by
  cases x <;> exact id rfl
theorem x_mul2T {xs : List D} {j : Int} : oMul2 (.tuple xs) (.int j) QD = ((xs ≠ [] ∧ 1 ≤ j ∧ j ≤ 1000 ∧ xs.length ≤ 1000) ∧ QD (.tuple (List.replicate j.toNat xs).flatten)) := id rfl
theorem x_sM2 {m : MT} : sM2 i j m E z η = m E η (fun cs => on2C cs fun x y => z.nx ((η.set i x).set j y)) := id rfl
theorem x_sM3 {m : MT} {k : Nat} : sM3 i j k m E z η = m E η (fun cs => on3C cs fun x y u => z.nx (((η.set i x).set j y).set k u)) := id rfl
theorem x_on2C {k : Cell → Cell → Prop} {x y : Cell} : on2C [x, y] k = k x y := id rfl
theorem x_on3C {k : Cell → Cell → Cell → Prop} {x y u : Cell} : on3C [x, y, u] k = k x y u := id rfl
theorem x_mNil : mNil E η QC = QC [] := id rfl
theorem x_mD {ms : MT} : mD t ms E η QC = t E η (fun d => ms E η fun cs => QC (.dat d :: cs)) := id rfl
theorem x_mN {ms : MT} : mN nt ms E η QC = nt E η (fun ds => ms E η fun cs => QC (.own ds :: cs)) := id rfl
theorem x_aStar {t : ET} {ts : AT} : aStar t ts E η QL = t E η (fun d => onSeq d (fun ds => ts E η fun es => QL (ds ++ es)) fun ds => ts E η fun es => QL (ds ++ es)) := id rfl
theorem x_fSortedD {kvs : List (D × D)} : fSortedD [.dict kvs] QL = (tkD kvs = true ∧ SrtOk (kvs.map (·.1)) ∧ QL (sortD (kvs.map (·.1)))) := id rfl
theorem x_dDc {own : List Nat} {tk tv : ET} : dDc own it g b tk tv E η QD = it E η (fun ds => compDD g b tk tv (wipeD η own) ds [] fun kvs => kvs.length ≤ sizeLine ∧ QD (.dict kvs)) := id rfl
theorem x_fSortedT {xs : List D} : fSortedT [.tuple xs] QL = (SrtT xs ∧ QL (sortD xs)) := id rfl
theorem x_iEnumZ {ts : AT} : iEnumZ ts E η QL = ts E η (fun ds => on2T ds fun xs ys => xs.length ≤ ys.length ∧ QL (pairsD (rangeD 0 xs.length) (pairsD xs ys))) := id rfl
theorem x_on2TT {xs ys : List D} {k : List D → List D → Prop} : on2T [.tuple xs, .tuple ys] k = k xs ys := id rfl
def onSeqR (x : D) (Q : D → Prop) : Prop := match x with
  | .list ds => Q (.list ds.reverse)
  | .tuple ds => Q (.tuple ds.reverse)
  | _ => False
def onCat (x y : D) (Q : List D → Prop) : Prop := match x, y with
  | .list xs, .list ys => xs.length + ys.length ≤ sizeLine ∧ Q (xs ++ ys)
  | _, _ => False
/-- is it None? -/
def isN : D → Bool
  | .none => true
  | _ => false
theorem x_isN {x : D} {neg : Bool} : oIs neg x .none QD = QD (.bool (isN x != neg)) := by
  cases x <;> exact id rfl
theorem x_isN0 : isN .none = true := id rfl
theorem x_isNI {i : Int} : isN (.int i) = false := id rfl
theorem x_isNT {xs : List D} : isN (.tuple xs) = false := id rfl
theorem x_isNL {xs : List D} : isN (.list xs) = false := id rfl
theorem x_isNS {x : Str} : isN (.str x) = false := id rfl
theorem x_isNB {c : Bool} : isN (.bool c) = false := id rfl
theorem x_lt {i j : Int} : oLt (.int i) (.int j) QD = QD (.bool (decide (i < j))) := id rfl
theorem x_ltT {xs ys : List D} : oLt (.tuple xs) (.tuple ys) QD = ((PySem.W.alike (.tuple xs) (.tuple ys) = true ∧ (PyData.tuple xs).depth ≤ 64 ∧ PyData.hasDict (.tuple xs) = false ∧ PyData.hasDict (.tuple ys) = false) ∧ QD (.bool (PySem.W.dataLt (.tuple xs) (.tuple ys)))) := id rfl
theorem x_ord {f : Int → Int → Bool} {k : D → D → Bool} {i j : Int} : oOrd f k (.int i) (.int j) QD = QD (.bool (f i j)) := id rfl
theorem x_ordT {f : Int → Int → Bool} {k : D → D → Bool} {xs ys : List D} : oOrd f k (.tuple xs) (.tuple ys) QD = ((PySem.W.alike (.tuple xs) (.tuple ys) = true ∧ (PyData.tuple xs).depth ≤ 64 ∧ PyData.hasDict (.tuple xs) = false ∧ PyData.hasDict (.tuple ys) = false) ∧ QD (.bool (k (.tuple xs) (.tuple ys)))) := id rfl
theorem x_ixL {ds : List D} {i : Int} : oIx (.list ds) (.int i) QD = onS (atI ds i) QD := id rfl
theorem x_ixT {ds : List D} {i : Int} : oIx (.tuple ds) (.int i) QD = onS (atI ds i) QD := id rfl
theorem x_ixS {x : Str} {i : Int} : oIx (.str x) (.int i) QD = (x.length ≤ sizeLine ∧ onS (atI x.cps.toList i) fun n => QD (.str ⟨#[n]⟩)) := id rfl
theorem x_fListD {kvs : List (D × D)} : fListD [.dict kvs] QL = (tkD kvs = true ∧ QL (kvs.map (·.1))) := id rfl
theorem x_fListDL {ds : List D} : fListD [.list ds] QL = QL ds := id rfl
theorem body_in {E : XP} {m n : Nat} {cs : List Cell} (hl : cs.length = m) (k : s E { nx := fun _ => QD .none, rt := QD } (cs ++ List.replicate (n - cs.length) .un)) : bodyD m n s E cs QD := ⟨hl, k⟩
theorem x_fReprD {d : D} : fReprD [d] QD = (noX d = true ∧ reprOk d ∧ QD (.str d.shown)) := id rfl
theorem x_dRev {ta : ET} : dRev ta E η QD = ta E η (fun x => onSeqR x QD) := id rfl
theorem x_nCat2 {ta tb : ET} : nCat2 ta tb E η QL = ta E η (fun x => tb E η fun y => onCat x y QL) := by
  first | exact id rfl | (unfold nCat2 onCat; rfl)
theorem x_onSeqRL {ds : List D} : onSeqR (.list ds) QD = QD (.list ds.reverse) := id rfl
theorem x_onSeqRT {ds : List D} : onSeqR (.tuple ds) QD = QD (.tuple ds.reverse) := id rfl
theorem x_onCat {xs ys : List D} : onCat (.list xs) (.list ys) QL = (xs.length + ys.length ≤ sizeLine ∧ QL (xs ++ ys)) := id rfl
theorem x_eqT0 {xs : List D} : oEqT0 (.tuple xs) (.tuple []) QD = QD (.bool xs.isEmpty) := id rfl
theorem x_neL0 {xs : List D} : oNeL0 (.list xs) (.list []) QD = QD (.bool (!xs.isEmpty)) := id rfl
theorem x_sOwnCat {i : Nat} {t : ET} {z : EndsD} : sOwnCat i t E z η = onOwn η[i]? (fun ds => t E η fun y => onList y fun ys => ds.length + ys.length ≤ sizeLine ∧ z.nx (η.set i (.own (ds ++ ys)))) := by
  first | exact id rfl | (unfold sOwnCat onOwn onList; rfl)
end
end DL

/-! DLdet: what a term asks it asks of one value: told again the same. -/
namespace DL
open PySem L2
/-- F asks its question of one value alone -/
def Dt {α : Type} (F : (α → Prop) → Prop) : Prop := ∀ P, F P → ∃ a, P a ∧ ∀ Q : α → Prop, Q a → F Q
section
variable {α β : Type}
theorem Dt.pure (a : α) : Dt fun Q : α → Prop => Q a := fun P h => ⟨a, h, fun Q q => q⟩
theorem Dt.fls : Dt fun _ : α → Prop => False := fun P h => h.elim
theorem Dt.and {C : Prop} {F : (α → Prop) → Prop} (h : Dt F) : Dt fun Q => C ∧ F Q := fun P ⟨c, p⟩ => by
  obtain ⟨a, ha, k⟩ := h P p
  exact ⟨a, ha, fun Q q => ⟨c, k Q q⟩⟩
theorem Dt.bind {F : (β → Prop) → Prop} {G : β → (α → Prop) → Prop} (h : Dt F) (g : ∀ b, Dt (G b)) : Dt fun Q => F fun b => G b Q := fun P p => by
  obtain ⟨b, hb, k⟩ := h _ p
  obtain ⟨a, ha, k2⟩ := g b P hb
  exact ⟨a, ha, fun Q q => k _ (k2 Q q)⟩
theorem Dt.ite {c : Prop} [Decidable c] {F G : (α → Prop) → Prop} (h : Dt F) (g : Dt G) : Dt fun Q => if c then F Q else G Q := by
  by_cases hc : c
  · simp only [if_pos hc]; exact h
  · simp only [if_neg hc]; exact g
theorem Dt.map {F : (β → Prop) → Prop} (h : Dt F) (f : β → α) : Dt fun Q : α → Prop => F fun b => Q (f b) := h.bind fun b => .pure (f b)
theorem Dt.onS {o : Option β} {G : β → (α → Prop) → Prop} (g : ∀ b, Dt (G b)) : Dt fun Q => DL.onS o fun b => G b Q := by
  cases o with
  | none => exact fun P h => h.elim
  | some b => exact g b
end
/-! ### operations -/
class DOp (r : OpD) : Prop where
  dt : ∀ x y, Dt (r x y)
instance : DOp oAdd := ⟨fun x y => by cases x <;> cases y <;> first | exact Dt.fls | exact Dt.pure _ | exact (Dt.pure _).and⟩
instance {C : Int → Int → Prop} {f : Int → Int → Int} : DOp (oI C f) := ⟨fun x y => by cases x <;> cases y <;> first | exact Dt.fls | exact (Dt.pure _).and⟩
instance : DOp oSub := inferInstanceAs (DOp (oI _ _))
instance : DOp oMod := inferInstanceAs (DOp (oI _ _))
instance : DOp oDiv := inferInstanceAs (DOp (oI _ _))
instance : DOp oPow := inferInstanceAs (DOp (oI _ _))
instance : DOp oMul := ⟨fun x y => by cases x <;> cases y <;> first | exact Dt.fls | exact (Dt.pure _).and⟩
instance : DOp oMul2 := ⟨fun x y => by cases x <;> cases y <;> first | exact Dt.fls | exact (Dt.pure _).and⟩
instance : DOp oEq := ⟨fun x y => (Dt.pure _).and⟩
instance : DOp oNeL0 := ⟨fun x y => by cases x <;> cases y <;> first | exact Dt.fls | (rename_i ys; cases ys <;> first | exact Dt.fls | exact Dt.pure _)⟩
instance : DOp oNe := ⟨fun x y => (Dt.pure _).and⟩
instance {b : Bool} : DOp (oIn b) := ⟨fun x y => by cases x <;> cases y <;> first | exact Dt.fls | exact (Dt.pure _).and | exact ((Dt.pure _).and).and⟩
instance {b : Bool} : DOp (oIs b) := ⟨fun x y => by cases x <;> cases y <;> first | exact Dt.fls | exact Dt.pure _⟩
instance : DOp oLt := ⟨fun x y => by cases x <;> cases y <;> first | exact Dt.fls | exact Dt.pure _ | exact (Dt.pure _).and⟩
instance {f : Int → Int → Bool} {k : D → D → Bool} : DOp (oOrd f k) := ⟨fun x y => by cases x <;> cases y <;> first | exact Dt.fls | exact Dt.pure _ | exact (Dt.pure _).and⟩
instance : DOp oIx := ⟨fun x y => by cases x <;> cases y <;> first | exact Dt.fls | exact Dt.onS fun b => Dt.pure b | exact (Dt.onS fun b => Dt.pure _).and⟩
class DCall {α : Type} (r : List D → (α → Prop) → Prop) : Prop where
  dt : ∀ ds, Dt (r ds)
/-- by cases of up to two arguments -/
theorem dt_args {α : Type} {r : List D → (α → Prop) → Prop} (h0 : Dt (r [])) (h1 : ∀ x, Dt (r [x])) (h2 : ∀ x y, Dt (r [x, y])) (h3 : ∀ x y z l, Dt (r (x :: y :: z :: l))) : DCall r := ⟨fun ds => match ds with
  | [] => h0
  | [x] => h1 x
  | [x, y] => h2 x y
  | x :: y :: z :: l => h3 x y z l⟩
instance : DCall fLen := dt_args .fls (fun x => by cases x <;> first | exact Dt.fls | exact Dt.pure _ | exact (Dt.pure _).and) (fun x _ => by cases x <;> exact Dt.fls) fun x _ _ _ => by cases x <;> exact Dt.fls
instance : DCall fTuple := dt_args .fls (fun x => by cases x <;> first | exact Dt.fls | exact Dt.pure _) (fun x _ => by cases x <;> exact Dt.fls) fun x _ _ _ => by cases x <;> exact Dt.fls
instance : DCall fList := dt_args .fls (fun x => by cases x <;> first | exact Dt.fls | exact Dt.pure _) (fun x _ => by cases x <;> exact Dt.fls) fun x _ _ _ => by cases x <;> exact Dt.fls
instance : DCall fSorted := dt_args .fls (fun x => by cases x <;> first | exact Dt.fls | exact (Dt.pure _).and) (fun x _ => by cases x <;> exact Dt.fls) fun x _ _ _ => by cases x <;> exact Dt.fls
instance : DCall fSortedT := dt_args .fls (fun x => by cases x <;> first | exact Dt.fls | exact (Dt.pure _).and) (fun x _ => by cases x <;> exact Dt.fls) fun x _ _ _ => by cases x <;> exact Dt.fls
instance : DCall fSortedD := dt_args .fls (fun x => by cases x <;> first | exact Dt.fls | exact (Dt.pure _).and | exact (Dt.pure _).and.and) (fun x _ => by cases x <;> exact Dt.fls) fun x _ _ _ => by cases x <;> exact Dt.fls
instance : DCall fReprD := dt_args .fls (fun x => (Dt.pure _).and.and) (fun _ _ => .fls) fun _ _ _ _ => .fls
instance : DCall fAll := dt_args .fls (fun x => by cases x <;> first | exact Dt.fls | exact (Dt.pure _).and) (fun x _ => by cases x <;> exact Dt.fls) fun x _ _ _ => by cases x <;> exact Dt.fls
instance : DCall fAny := dt_args .fls (fun x => by cases x <;> first | exact Dt.fls | exact (Dt.pure _).and) (fun x _ => by cases x <;> exact Dt.fls) fun x _ _ _ => by cases x <;> exact Dt.fls
instance : DCall fSum := dt_args .fls (fun x => by cases x <;> first | exact Dt.fls | exact (Dt.pure _).and) (fun x _ => by cases x <;> exact Dt.fls) fun x _ _ _ => by cases x <;> exact Dt.fls
instance : DCall fInt := dt_args .fls (fun x => by cases x <;> first | exact Dt.fls | exact Dt.pure _) (fun x _ => by cases x <;> exact Dt.fls) fun x _ _ _ => by cases x <;> exact Dt.fls
instance : DCall fRepr := dt_args .fls (fun x => ((Dt.pure _).and).and) (fun _ _ => .fls) fun _ _ _ _ => .fls
instance : DCall fMin2 := dt_args .fls (fun x => by cases x <;> exact Dt.fls) (fun x y => by cases x <;> cases y <;> first | exact Dt.fls | exact Dt.pure _) fun x y _ _ => by cases x <;> cases y <;> exact Dt.fls
instance : DCall fMax2 := dt_args .fls (fun x => by cases x <;> exact Dt.fls) (fun x y => by cases x <;> cases y <;> first | exact Dt.fls | exact Dt.pure _) fun x y _ _ => by cases x <;> cases y <;> exact Dt.fls
/-! ### expressions -/
class DTm {α : Type} (t : XP → EnvD → (α → Prop) → Prop) : Prop where
  dt : ∀ E η, Dt (t E η)
class DF (w : FT) : Prop where
  dt : ∀ E cs, Dt (w E cs)
section
variable {t u ta tb tc : ET} {b b1 b2 : BT} {nt : NT} {at_ : AT} {ct : CT} {it : IT} {r r' : OpD} {w : FT} {m : MT} {tl th : OT}
theorem Dt.ifB {α : Type} {d : D} {G : Bool → (α → Prop) → Prop} (g : ∀ c, Dt (G c)) : Dt fun Q => DL.ifB d fun c => G c Q := by
  cases d <;> first | exact Dt.fls | exact g _
instance {i : Nat} : DTm (dV i) := ⟨fun E η => by unfold dV; split <;> first | exact Dt.pure _ | exact Dt.fls⟩
instance {d : D} : DTm (dK d) := ⟨fun E η => Dt.pure d⟩
instance {i : Nat} : DTm (lenScr i) := ⟨fun E η => by unfold lenScr; split <;> first | exact Dt.pure _ | exact Dt.fls⟩
instance [ha : DTm ta] [hb : DTm tb] [hr : DOp r] : DTm (dOp r ta tb) := ⟨fun E η => (ha.dt E η).bind fun x => (hb.dt E η).bind fun y => hr.dt x y⟩
instance [ha : DTm at_] : DTm (dTup at_) := ⟨fun E η => (ha.dt E η).bind fun ds => (Dt.pure _).and⟩
instance [ha : DTm nt] : DTm (dNew nt) := ⟨fun E η => (ha.dt E η).map _⟩
instance {r : CallD} [ha : DTm at_] [hr : DCall r] : DTm (dCall r at_) := ⟨fun E η => (ha.dt E η).bind hr.dt⟩
instance {r : List D → (List D → Prop) → Prop} [ha : DTm at_] [hr : DCall r] : DTm (nCall r at_) := ⟨fun E η => (ha.dt E η).bind hr.dt⟩
instance [ha : DTm ct] [hw : DF w] : DTm (dCallF w ct) := ⟨fun E η => (ha.dt E η).bind fun cs => hw.dt _ cs⟩
instance : DTm oNone := ⟨fun E η => Dt.pure _⟩
instance [ha : DTm ta] : DTm (oSome ta) := ⟨fun E η => (ha.dt E η).bind fun x => by cases x <;> first | exact Dt.fls | exact Dt.pure _⟩
instance [ha : DTm ta] [hl : DTm tl] [hh : DTm th] : DTm (dSl ta tl th) := ⟨fun E η => (ha.dt E η).bind fun x => (hl.dt E η).bind fun l => (hh.dt E η).bind fun h => by cases x <;> first | exact Dt.fls | exact Dt.pure _⟩
instance [ha : DTm ta] [hb : DTm tb] : DTm (dAnd ta tb) := ⟨fun E η => (ha.dt E η).bind fun x => .ifB fun c => .ite (hb.dt E η) (.pure _)⟩
instance [ha : DTm ta] [hb : DTm tb] : DTm (dOr ta tb) := ⟨fun E η => (ha.dt E η).bind fun x => .ifB fun c => .ite (.pure _) (hb.dt E η)⟩
instance [ha : DTm ta] : DTm (dNot ta) := ⟨fun E η => (ha.dt E η).bind fun x => .ifB fun c => .pure _⟩
instance [ha : DTm ta] : DTm (oNeg ta) := ⟨fun E η => (ha.dt E η).bind fun x => by cases x <;> first | exact Dt.fls | exact Dt.pure _⟩
instance [hb : DTm b] [ha : DTm ta] [hc : DTm tb] : DTm (dIf b ta tb) := ⟨fun E η => (hb.dt E η).bind fun c => .ite (ha.dt E η) (hc.dt E η)⟩
instance [ha : DTm ta] [hb : DTm tb] [hc : DTm tc] [hr : DOp r] [hr' : DOp r'] : DTm (dChain r r' ta tb tc) := ⟨fun E η => (ha.dt E η).bind fun x => (hb.dt E η).bind fun y => (hr.dt x y).bind fun z => .ifB fun k => .ite ((hc.dt E η).bind fun w => hr'.dt y w) (.pure _)⟩
instance {T : String} [ha : DTm ta] : DTm (dIsi T ta) := ⟨fun E η => (ha.dt E η).map _⟩
instance [ha : DTm ta] : DTm (bVal ta) := ⟨fun E η => (ha.dt E η).bind fun x => .ifB fun c => .pure c⟩
instance [h1 : DTm b1] [h2 : DTm b2] : DTm (bAnd b1 b2) := ⟨fun E η => (h1.dt E η).bind fun c => .ite (h2.dt E η) (.pure _)⟩
instance [h1 : DTm b1] [h2 : DTm b2] : DTm (bOr b1 b2) := ⟨fun E η => (h1.dt E η).bind fun c => .ite (.pure _) (h2.dt E η)⟩
instance {c1 : BT} [h0 : DTm c1] [h1 : DTm b1] [h2 : DTm b2] : DTm (bIfE c1 b1 b2) := ⟨fun E η => (h0.dt E η).bind fun c => .ite (h1.dt E η) (h2.dt E η)⟩
instance [h1 : DTm b1] : DTm (bNot b1) := ⟨fun E η => (h1.dt E η).map _⟩
instance : DTm bYes := ⟨fun E η => .pure _⟩
instance : DTm aNil := ⟨fun E η => .pure _⟩
instance [ha : DTm ta] [hb : DTm at_] : DTm (aCons ta at_) := ⟨fun E η => (ha.dt E η).bind fun d => (hb.dt E η).map _⟩
instance [ha : DTm ta] [hb : DTm at_] : DTm (aStar ta at_) := ⟨fun E η => (ha.dt E η).bind fun d => by cases d <;> first | exact Dt.fls | exact (hb.dt E η).map _⟩
instance : DTm cNil := ⟨fun E η => .pure _⟩
instance [ha : DTm ta] [hb : DTm ct] : DTm (cCons ta ct) := ⟨fun E η => (ha.dt E η).bind fun d => (hb.dt E η).map _⟩
instance : DTm mNil := ⟨fun E η => .pure _⟩
instance [ha : DTm ta] [hb : DTm m] : DTm (mD ta m) := ⟨fun E η => (ha.dt E η).bind fun d => (hb.dt E η).map _⟩
instance [ha : DTm nt] [hb : DTm m] : DTm (mN nt m) := ⟨fun E η => (ha.dt E η).bind fun d => (hb.dt E η).map _⟩
instance [ha : DTm at_] : DTm (nLst at_) := ⟨fun E η => (ha.dt E η).bind fun ds => (Dt.pure _).and⟩
instance [ha : DTm ta] : DTm (iSeq ta) := ⟨fun E η => (ha.dt E η).bind fun d => by cases d <;> first | exact Dt.fls | exact Dt.pure _⟩
instance [ha : DTm ta] : DTm (iEnum1 ta) := ⟨fun E η => (ha.dt E η).bind fun d => by cases d <;> first | exact Dt.fls | exact Dt.pure _⟩
theorem dt_one {α : Type} {r : List D → (α → Prop) → Prop} (h1 : ∀ x, Dt (r [x])) (h0 : Dt (r [])) (h2 : ∀ x y l, Dt (r (x :: y :: l))) (ds : List D) : Dt (r ds) := match ds with
  | [] => h0
  | [x] => h1 x
  | x :: y :: l => h2 x y l
theorem dt_two {α : Type} {r : List D → (α → Prop) → Prop} (h2 : ∀ x y, Dt (r [x, y])) (h0 : Dt (r [])) (h1 : ∀ x, Dt (r [x])) (h3 : ∀ x y z l, Dt (r (x :: y :: z :: l))) (ds : List D) : Dt (r ds) := match ds with
  | [] => h0
  | [x] => h1 x
  | [x, y] => h2 x y
  | x :: y :: z :: l => h3 x y z l
instance [ha : DTm at_] : DTm (iRange1 at_) := ⟨fun E η => (ha.dt E η).bind (dt_one (fun x => by cases x <;> first | exact Dt.fls | exact (Dt.pure _).and) .fls fun x y l => by cases x <;> exact Dt.fls)⟩
instance [ha : DTm at_] : DTm (iRange2 at_) := ⟨fun E η => (ha.dt E η).bind (dt_two (fun x y => by cases x <;> cases y <;> first | exact Dt.fls | exact (Dt.pure _).and) .fls (fun x => by cases x <;> exact Dt.fls) fun x y z l => by cases x <;> cases y <;> exact Dt.fls)⟩
instance [ha : DTm at_] : DTm (iZip2 at_) := ⟨fun E η => (ha.dt E η).bind (dt_two (fun x y => by cases x <;> cases y <;> first | exact Dt.fls | exact Dt.pure _) .fls (fun x => by cases x <;> exact Dt.fls) fun x y z l => by cases x <;> cases y <;> exact Dt.fls)⟩
instance [ha : DTm at_] : DTm (iEnumZ at_) := ⟨fun E η => (ha.dt E η).bind (dt_two (fun x y => by cases x <;> cases y <;> first | exact Dt.fls | exact (Dt.pure _).and) .fls (fun x => by cases x <;> exact Dt.fls) fun x y z l => by cases x <;> cases y <;> exact Dt.fls)⟩
/-- two ints told one behind another -/
class DRg (g : GRg) : Prop where
  dt : ∀ E η P, g E η P → ∃ i j, P i j ∧ ∀ Q : Int → Int → Prop, Q i j → g E η Q
instance [ha : DTm ta] : DRg (gRg1 ta) := ⟨fun E η P h => by
  obtain ⟨x, hx, k⟩ := ha.dt E η _ h
  cases x with
  | int j => exact ⟨0, j, hx.2, fun Q q => k _ ⟨hx.1, q⟩⟩
  | _ => exact hx.elim⟩
instance [ha : DTm ta] [hb : DTm tb] : DRg (gRg2 ta tb) := ⟨fun E η P h => by
  obtain ⟨x, hx, k⟩ := ha.dt E η _ h
  obtain ⟨y, hy, k2⟩ := hb.dt E η _ hx
  cases x with
  | int i => cases y with
    | int j => exact ⟨i, j, hy.2, fun Q q => k _ (k2 _ ⟨hy.1, q⟩)⟩
    | _ => exact hy.elim
  | _ => exact hy.elim⟩
instance {g : GRg} [hg : DRg g] : DTm (nRg g) := ⟨fun E η P h => by
  obtain ⟨i, j, p, k⟩ := hg.dt E η _ h
  exact ⟨_, p, fun Q q => k _ q⟩⟩
instance {g : GRg} [hg : DRg g] : DTm (dTupRg g) := ⟨fun E η P h => by
  obtain ⟨i, j, p, k⟩ := hg.dt E η _ h
  exact ⟨_, p, fun Q q => k _ q⟩⟩
end
/-! ### targets, comprehensions -/
class DG' (g : GT) : Prop where
  dt : ∀ d η, Dt (g d η)
class DGs' (g : GTs) : Prop where
  dt : ∀ ds η, Dt (g ds η)
instance {i : Nat} : DG' (gN i) := ⟨fun d η => .pure _⟩
instance : DGs' gNil' := ⟨fun ds η => by cases ds <;> first | exact Dt.fls | exact Dt.pure _⟩
instance {g : GT} {gs : GTs} [h : DG' g] [h2 : DGs' gs] : DGs' (gCons' g gs) := ⟨fun ds η => by
  cases ds with
  | nil => exact Dt.fls
  | cons d r => exact (h.dt d η).bind fun η1 => h2.dt r η1⟩
instance {gs : GTs} [h2 : DGs' gs] : DG' (gT gs) := ⟨fun d η => by cases d <;> first | exact Dt.fls | exact h2.dt _ _⟩
theorem compD_dt {g : GT} {tt : BT} {te : ET} [hg : DG' g] [ht : DTm tt] [he : DTm te] {η0 : EnvD} : ∀ (ds acc : List D), Dt (compD g tt te η0 ds acc)
  | [], acc => .pure acc
  | d :: ds, acc => (hg.dt d η0).bind fun η1 => (ht.dt never η1).bind fun b => .ite ((he.dt never η1).bind fun y => (compD_dt ds (acc ++ [y])).and) (compD_dt ds acc)
instance {own : List Nat} {ti : IT} {g : GT} {tt : BT} {te : ET} [hi : DTm ti] [hg : DG' g] [ht : DTm tt] [he : DTm te] : DTm (nComp own ti g tt te) := ⟨fun E η => (hi.dt E η).bind fun ds => compD_dt ds []⟩
theorem compDD_dt {g : GT} {tt : BT} {tk tv : ET} [hg : DG' g] [ht : DTm tt] [hk : DTm tk] [hv : DTm tv] {η0 : EnvD} : ∀ (ds : List D) (acc : List (D × D)), Dt (compDD g tt tk tv η0 ds acc)
  | [], acc => .pure acc
  | d :: ds, acc => (hg.dt d η0).bind fun η1 => (ht.dt never η1).bind fun b => .ite ((hk.dt never η1).bind fun k => (hv.dt never η1).bind fun v => ((compDD_dt ds (putD acc k v)).and).and) (compDD_dt ds acc)
instance {own : List Nat} {ti : IT} {g : GT} {tt : BT} {tk tv : ET} [hi : DTm ti] [hg : DG' g] [ht : DTm tt] [hk : DTm tk] [hv : DTm tv] : DTm (dDc own ti g tt tk tv) := ⟨fun E η => (hi.dt E η).bind fun ds => (compDD_dt ds []).bind fun kvs => (Dt.pure _).and⟩
theorem compD2_dt {vs1 : List Nat} {g g1 : GT} {tt tt1 : BT} {ti1 : IT} {te : ET} [hg : DG' g] [ht : DTm tt] [hi : DTm ti1] [hg1 : DG' g1] [ht1 : DTm tt1] [he : DTm te] {η0 : EnvD} : ∀ (ds acc : List D), Dt (compD2 vs1 g tt ti1 g1 tt1 te η0 ds acc)
  | [], acc => .pure acc
  | d :: ds, acc => (hg.dt d η0).bind fun η1 => (ht.dt never η1).bind fun b => .ite ((hi.dt never η1).bind fun es => (compD_dt es acc).bind fun acc' => compD2_dt ds acc') (compD2_dt ds acc)
instance {own vs1 : List Nat} {ti ti1 : IT} {g g1 : GT} {tt tt1 : BT} {te : ET} [hi : DTm ti] [hg : DG' g] [ht : DTm tt] [hi1 : DTm ti1] [hg1 : DG' g1] [ht1 : DTm tt1] [he : DTm te] : DTm (nComp2 own vs1 ti g tt ti1 g1 tt1 te) := ⟨fun E η => (hi.dt E η).bind fun ds => compD2_dt ds []⟩
instance : DTm dDict0 := ⟨fun E η => Dt.pure _⟩
/-! ### statements -/
inductive Out where
  | nx (η : EnvD)
  | rt (d : D)
  | bk (η : EnvD)
  | ct (η : EnvD)
def zo (P : Out → Prop) : EndsD := { nx := fun η => P (.nx η), rt := fun d => P (.rt d), bk := fun η => P (.bk η), ct := fun η => P (.ct η) }
def oz (z : EndsD) : Out → Prop
  | .nx η => z.nx η
  | .rt d => z.rt d
  | .bk η => z.bk η
  | .ct η => z.ct η
class DSt (t : SD) : Prop where
  dt : ∀ E η, Dt fun P : Out → Prop => t E (zo P) η
section
variable {t u ta tb tc : ET} {b b1 b2 : BT} {nt : NT} {at_ : AT} {it : IT} {g : GT} {s s1 s2 : SD} {i j k : Nat} {m : MT}
/-- behind a statement, by how it ends -/
theorem Dt.seq {α : Type} {E : XP} {η : EnvD} [h1 : DSt s1] {z : (α → Prop) → EndsD} {G : Out → (α → Prop) → Prop} (hz : ∀ P, z P = zo fun o => G o P) (g : ∀ o, Dt (G o)) : Dt fun P => s1 E (z P) η := by
  have : (fun P => s1 E (z P) η) = fun P => s1 E (zo fun o => G o P) η := funext fun P => by rw [hz]
  rw [this]
  exact (h1.dt E η).bind g
def outSeq (E : XP) (s2 : SD) : Out → (Out → Prop) → Prop
  | .nx η => fun P => s2 E (zo P) η
  | o => fun P => P o
instance [h1 : DSt s1] [h2 : DSt s2] : DSt (sSeq s1 s2) := ⟨fun E η => Dt.seq (s1 := s1) (G := outSeq E s2) (fun P => rfl) fun o => by
  cases o with
  | nx η' => exact h2.dt E η'
  | _ => exact Dt.pure _⟩
instance : DSt sNext := ⟨fun E η => .pure (Out.nx η)⟩
instance : DSt sBreak := ⟨fun E η => .pure (Out.bk η)⟩
instance : DSt sCont := ⟨fun E η => .pure (Out.ct η)⟩
instance : DSt sNever := ⟨fun E η => .fls⟩
instance : DSt sRetN := ⟨fun E η => .pure (Out.rt .none)⟩
instance [h : DTm t] : DSt (sSet i t) := ⟨fun E η => (h.dt E η).map fun d => Out.nx (η.set i (.dat d))⟩
instance [h : DTm t] : DSt (sSetL i t) := ⟨fun E η => (h.dt E (lend η)).bind fun d => (Dt.pure (Out.nx (η.set i (.dat d)))).and⟩
instance [h : DTm nt] : DSt (sOwn i nt) := ⟨fun E η => (h.dt E η).map fun d => Out.nx (η.set i (.own d))⟩
instance [h : DTm nt] : DSt (sOwnL i nt) := ⟨fun E η => (h.dt E (lend η)).bind fun d => (Dt.pure (Out.nx (η.set i (.own d)))).and⟩
instance [h : DTm nt] : DSt (sNew i nt) := ⟨fun E η => (h.dt E η).map fun d => Out.nx (η.set i (.dat (.list d)))⟩
instance [h : DTm t] [h2 : DTm u] : DSt (sPar i j t u) := ⟨fun E η => (h.dt E η).bind fun x => (h2.dt E η).map fun y => Out.nx ((η.set i (.dat x)).set j (.dat y))⟩
instance [h : DTm nt] [h2 : DTm u] : DSt (sParN i j nt u) := ⟨fun E η => (h.dt E η).bind fun x => (h2.dt E η).map fun y => Out.nx ((η.set i (.own x)).set j (.dat y))⟩
instance [h : DTm t] : DSt (sRet t) := ⟨fun E η => (h.dt E (lend η)).map fun d => Out.rt d⟩
instance [hb : DTm b] [h1 : DSt s1] [h2 : DSt s2] : DSt (sIf b s1 s2) := ⟨fun E η => (hb.dt E (lend η)).bind fun k => .ite (h1.dt E η) (h2.dt E η)⟩
instance [h : DTm t] : DSt (sDrop t) := ⟨fun E η => (h.dt E (lend η)).map fun _ => Out.nx η⟩
instance [h : DSt s] : DSt (sFrz i s) := ⟨fun E η => h.dt E (frz i η)⟩
theorem Dt.onOwn {α : Type} {o : Option Cell} {G : List D → (α → Prop) → Prop} (g : ∀ ds, Dt (G ds)) : Dt fun Q => DL.onOwn o fun ds => G ds Q := by
  unfold DL.onOwn
  split
  · exact g _
  · exact Dt.fls
instance [h : DTm t] : DSt (sApp i t) := ⟨fun E η => .onOwn fun ds => (h.dt E η).bind fun d => (Dt.pure (Out.nx (η.set i (.own (ds ++ [d]))))).and⟩
instance [h : DTm t] : DSt (sAppL i t) := ⟨fun E η => .onOwn fun ds => (h.dt E (lend η)).bind fun d => ((Dt.pure (Out.nx (η.set i (.own (ds ++ [d]))))).and).and⟩
instance [h : DTm t] : DSt (sExtL i t) := ⟨fun E η => .onOwn fun ds => (h.dt E (lend η)).bind fun d => by cases d <;> first | exact Dt.fls | exact ((Dt.pure (Out.nx (η.set i (.own (ds ++ _))))).and).and⟩
instance [h : DTm t] : DSt (sExtS i t) := ⟨fun E η => .onOwn fun ds => (h.dt E (lend η)).bind fun d => by cases d <;> first | exact Dt.fls | exact ((Dt.pure (Out.nx (η.set i (.own (ds ++ _))))).and).and⟩
instance [h : DTm t] : DSt (sAug i t) := ⟨fun E η => by
  show Dt fun P : Out → Prop => onCInt η[i]? fun m => t E (lend η) fun d => onInt d fun n => P (.nx (η.set i (.dat (.int (m + n)))))
  unfold onCInt
  split
  · exact (h.dt E (lend η)).bind fun d => by cases d <;> first | exact Dt.fls | exact Dt.pure (Out.nx _)
  · exact Dt.fls⟩
instance [h : DTm t] [hg : DG' g] : DSt (sAsg t g) := ⟨fun E η => (h.dt E η).bind fun d => (hg.dt d η).map Out.nx⟩
instance [h : DTm m] : DSt (sM2 i j m) := ⟨fun E η => (h.dt E η).bind fun cs => match cs with
  | [] => .fls
  | [_] => .fls
  | [x, y] => .pure (Out.nx ((η.set i x).set j y))
  | _ :: _ :: _ :: _ => .fls⟩
instance [h : DTm m] : DSt (sM3 i j k m) := ⟨fun E η => (h.dt E η).bind fun cs => match cs with
  | [] => .fls
  | [_] => .fls
  | [_, _] => .fls
  | [x, y, u] => .pure (Out.nx (((η.set i x).set j y).set k u))
  | _ :: _ :: _ :: _ :: _ => .fls⟩
/-- a loop's body: what it does to the next turn -/
def outLoop (f : EnvD → (Out → Prop) → Prop) : Out → (Out → Prop) → Prop
  | .nx η => f η
  | .rt d => fun P => P (.rt d)
  | .bk η => fun P => P (.nx η)
  | .ct η => f η
theorem forD_dt [hg : DG' g] [hs : DSt s] (E : XP) : ∀ (ds : List D) (η : EnvD), Dt fun P : Out → Prop => forD g s E (zo P) ds η
  | [], η => .pure (Out.nx η)
  | d :: ds, η => (hg.dt d η).bind fun η1 => Dt.seq (s1 := s) (G := outLoop fun η2 P => forD g s E (zo P) ds η2) (fun P => rfl) fun o => by
    cases o with
    | nx η2 => exact forD_dt E ds η2
    | ct η2 => exact forD_dt E ds η2
    | _ => exact Dt.pure _
instance [hi : DTm it] [hg : DG' g] [hs : DSt s] : DSt (sFor it g s) := ⟨fun E η => (hi.dt E η).bind fun ds => forD_dt E ds η⟩
theorem whileD_dt [hb : DTm b] [hs : DSt s] (E : XP) : ∀ (n : Nat) (η : EnvD), Dt fun P : Out → Prop => whileD b s E (zo P) n η
  | 0, η => .fls
  | n + 1, η => (hb.dt E (lend η)).bind fun k => .ite (Dt.seq (s1 := s) (G := outLoop fun η2 P => whileD b s E (zo P) n η2) (fun P => rfl) fun o => by
    cases o with
    | nx η2 => exact whileD_dt E n η2
    | ct η2 => exact whileD_dt E n η2
    | _ => exact Dt.pure _) (.pure (Out.nx η))
instance [hb : DTm b] [hs : DSt s] : DSt (sWhile b s) := ⟨fun E η P ⟨n, h⟩ => by
  obtain ⟨o, ho, k⟩ := whileD_dt (b := b) (s := s) E n η P h
  exact ⟨o, ho, fun Q q => ⟨n, k Q q⟩⟩⟩
def outBody : Out → (D → Prop) → Prop
  | .nx _ => fun Q => Q .none
  | .rt d => fun Q => Q d
  | .bk _ => fun _ => False
  | .ct _ => fun _ => False
end
end DL

/-! DL35: tuples of ints as module constants; * and // of great ints. -/
namespace DL
open PySem PySem.Spec PyProof.Rows L2
def TupC (K : PySem.W.Frag) (a : Addr) (l : List Int) : Prop := ∃ (o : Obj) (its : Array Value) (n : Nat), K.lookup a = some o ∧ o.cls = .type "tuple" ∧ o.data = .seq its n ∧ its.size ≤ sizeLine ∧ Vals (l.map V.int) its.toList
section
variable {X : Cx} {a b : Expr} {ta tb : ET} {pos : Pos}
def oMulW : OpD := oI CMulW fun i j => i * j
def oDivW : OpD := oI CDivW fun i j => i / j
theorem x_mulW {i j : Int} {QD : D → Prop} : oMulW (.int i) (.int j) QD = (CMulW i j ∧ QD (.int (i * j))) := id rfl
theorem x_divW {i j : Int} {QD : D → Prop} : oDivW (.int i) (.int j) QD = (CDivW i j ∧ QD (.int (i / j))) := id rfl
instance : DOp oMulW := inferInstanceAs (DOp (oI _ _))
instance : DOp oDivW := inferInstanceAs (DOp (oI _ _))
end
def ConT (K : PySem.W.Frag) (x : Str) (l : List Int) : Prop := ∃ a, PySem.W.nsIn K mainGlobals x = some (some (.ref a)) ∧ TupC K a l
def intsV : List Int → List Value → Bool
  | [], [] => true
  | i :: l, .int j _ :: vs => i == j && intsV l vs
  | _, _ => false
end DL

/-! DM1: structures that a slot owns deep down: read while lent, made, written. -/
namespace DL
open PySem PySem.Spec PyProof.Rows L2
/-! ### parts of an expression in the lent state -/
def dLend (t : ET) : ET := fun E η Q => t E (lend η) fun d => flat d = true ∧ Q d
def bLend (b : BT) : BT := fun E η Q => b E (lend η) Q
def nLend (t : NT) : NT := fun E η Q => t E (lend η) fun ds => flatAll ds = true ∧ Q ds
section
variable {X : Cx} {e : Expr} {t : ET} {b : BT} {tn : NT}
end
/-! ### what may change -/
structure StepM (G : Option (Addr × Addr)) (fp : List Addr) (H H' : Hp) : Prop where
  keep : ∀ a o, ¬ Wr G a → a ∉ fp → H a = some o → H' a = some o
  draw : DrawOk G H'
section
variable {K : PySem.W.Frag} {c : Ctx} {G : Option (Addr × Addr)} {O : Addr → Prop} {η : EnvD} {σ : L2.St} {H H1 H' : Hp} {fp : List Addr}
theorem Step.m (st : Step G H H') : StepM G fp H H' := ⟨fun a o w _ e => st.keep a o w e, st.draw⟩
theorem StepM.trans (s : StepM G fp H H1) (t : StepM G fp H1 H') : StepM G fp H H' := ⟨fun a o w n e => t.keep a o w n (s.keep a o w n e), t.draw⟩
end
/-! ### new structures -/
def NewM (K : PySem.W.Frag) (c : Ctx) (O : Addr → Prop) (H : Hp) (Q : D → Prop) : VK := fun v H' => ∃ d fp, Step c.G H H' ∧ (∀ b ∈ fp, H b = none) ∧ fp ≠ [] ∧ fp.Nodup ∧ Deep K H' v d fp ∧ Q d
def RdM (X : Cx) (T : TE) (t : ET) : Prop := ∀ (σ : L2.St) (H : Hp) (c : Ctx) (O : Addr → Prop) (η : EnvD) (E : XP) (Q : D → Prop) (R : VK), Gd X c E O η σ H → t E η Q → (∀ v H', NewM X.K c O H Q v H' → R v H') → T σ H R
/-- e makes a new structure -/
structure DX (X : Cx) (e : Expr) (t : ET) : Prop where
  ex : ∃ T, PE X e T ∧ RdM X T t
section
variable {X : Cx} {e : Expr} {pos p : Pos} {t : ET} {ts : AT}
/-- name = a new structure -/
def sMut (i : Nat) (t : ET) : SD := fun E z η => t E (lend η) fun d => ∀ fp, z.nx (η.set i (.mtb false d fp))
/-- dict([..]), the worths flat -/
def dMutP (ts : AT) : ET := fun E η Q => ts E η fun ds => match ds with
  | [.list ps] => ∃ kvs, ps = kvs.map pairD ∧ KvOk kvs ∧ flatAll (kvs.map (·.2)) = true ∧ Q (.dict kvs)
  | _ => False
end
/-! ### d[k] = v -/
/-- o[i] = v of such a dict -/
def rSetM (K : PySem.W.Frag) : TSet := fun o i v H Q => ∃ a kvs k d, o = .ref a ∧ DictAt K (fun _ => True) H a kvs ∧ keyOk k = true ∧ kvs.length < sizeLine ∧ FRep K H i k ∧ FRep K H v d ∧ ∀ es ep, Real a es ep → DictAt K (fun _ => True) (upd H a (dictO a es ep)) a (putD kvs k d) → Q (upd H a (dictO a es ep))
theorem Deep.dict {K : PySem.W.Frag} {H : Hp} {v : V} {kvs : List (D × D)} {fp : List Addr} (h : Deep K H v (.dict kvs) fp) (hne : fp ≠ []) : ∃ a es ep ks vs, v = .ref a ∧ fp = [a] ∧ (a == sysModules) = false ∧ H a = some (dictO a es ep) ∧ Real a es ep ∧ DictOk es ks vs kvs ∧ RepAll K (fun _ => True) H ks (kvs.map (·.1)) ∧ RepAll K (fun _ => True) H vs (kvs.map (·.2)) := by
  cases h with
  | val r => exact absurd rfl hne
  | dct e s rl d r1 r2 => exact ⟨_, _, _, _, _, rfl, rfl, s, e, rl, d, r1, r2⟩
def onMD (o : Option Cell) (k : Bool → List (D × D) → List Addr → Prop) : Prop := match o with | some (.mtb p (.dict kvs) fp) => k p kvs fp | _ => False
/-- name[k] = v; both read while all is lent -/
def sPutM (i : Nat) (tk tv : ET) : SD := fun E z η => onMD η[i]? fun p kvs fp => tv E (lend η) fun v => flat v = true ∧ tk E (lend η) fun k => (keyOk k = true ∧ kvs.length < sizeLine) ∧ z.nx (η.set i (.mtb p (.dict (putD kvs k v)) fp))
section
variable {X : Cx} {e1 e2 : Expr} {pos : Pos} {t1 t2 : ET} {npos : Pos}
end
end DL

/-! DLmin2: min(x, y) of two data. -/
namespace DL
open PySem PySem.Spec PyProof.Rows
section
variable {prog : Program} {w : World} {A : Around} {E : Value → Shared → Prop} {s : Shared} {a b : Value}
end
end DL
namespace DL
open PySem PySem.Spec PyProof.Rows L2
def rMin2D (K : PySem.W.Frag) : List V → Hp → VK → Prop := fun vs H Q => ∃ (x y : V) (dx dy : D) (O : Addr → Prop), vs = [x, y] ∧ Rep K O H x dx ∧ Rep K O H y dy ∧ MinOk [dx, dy] ∧ ∀ v, Rep K O H v (pickD dx dy) → Q v H
def fMin2D : CallD
  | [x, y], Q => MinOk [x, y] ∧ Q (pickD x y)
  | _, _ => False
end DL

/-! DM2: defs that write their parameter. -/
namespace DL
open PySem PySem.Spec PyProof.Rows L2
/-- arguments; among them the structure that is written -/
def ArgM (K : PySem.W.Frag) (O : Addr → Prop) (G : Option (Addr × Addr)) (H : Hp) (x : V) (fp : List Addr) (m : D) (v : V) : Cell → Prop
  | .dat d => Rep K O H v d
  | .drw => ∃ a g, v = .ref a ∧ G = some (a, g)
  | .mtb p d fq => p = true ∧ d = m ∧ fq = fp ∧ v = x
  | _ => False
abbrev ArgsM (K : PySem.W.Frag) (O : Addr → Prop) (G : Option (Addr × Addr)) (H : Hp) (x : V) (fp : List Addr) (m : D) : List V → List Cell → Prop := Paired (ArgM K O G H x fp m)
def noM : List Cell → Prop
  | [] => True
  | .dat _ :: cs => noM cs
  | .drw :: cs => noM cs
  | _ => False
/-- the structure is argument j, no other one is -/
def mAt : Nat → List Cell → Prop
  | 0, .mtb true _ _ :: cs => noM cs
  | j + 1, .dat _ :: cs => mAt j cs
  | j + 1, .drw :: cs => mAt j cs
  | _, _ => False
abbrev FM := XP → List Cell → (D → D → Prop) → Prop
/-- what a def that writes its parameter j promises -/
def spM (K : PySem.W.Frag) (n j : Nat) (wf : FM) : Sp := fun vs H Q _ => vs.length = n ∧ ∃ (B O : Addr → Prop) (G : Option (Addr × Addr)) (cs : List Cell) (m : D) (fp : List Addr) (x : V) (R : D → D → Prop), (∀ a, O a → H a ≠ none) ∧ (∀ a, Wr G a → B a) ∧ (∀ a, B a → O a) ∧ DrawOk G H ∧
  Deep K H x m fp ∧ fp ≠ [] ∧ fp.Nodup ∧ (∀ b ∈ fp, O b ∧ ¬ B b) ∧ ArgsM K O G H x fp m vs cs ∧ mAt j cs ∧ wf never cs R ∧ ∀ d v m' H', StepM G fp H H' → (Rep K (fun b => B b ∨ b ∈ fp) H' v d ∨ (d = selfD ∧ v = x)) → Deep K H' x m' fp → R d m' → Q v H'
def onMt (o : Option Cell) (k : D → Prop) : Prop := match o with | some (.mtb true m _) => k m | _ => False
/-- a body's run -/
def bodyM (j m n : Nat) (t : SD) : FM := fun E cs R => (cs.length = m ∧ mAt j cs) ∧ t E { nx := fun η => onMt η[j]? fun m' => R .none m', rt := fun p => ∃ d m', p = pkM d m' ∧ R d m' } (cs ++ List.replicate (n - cs.length) .un)
structure HasM (P : Program) (w : World) (K : PySem.W.Frag) (mg : Str → Option Value) (base : Heap) (x : Str) (k : Nat) (ps : List Str) (j : Nat) (wf : FM) : Prop where
  ex : ∃ f fd, mg x = some (.ref f) ∧ PySem.W.keepIn K (.ref f) = true ∧ Binds K fd ps [] ∧ FnG P w K mg base CX0 k f fd ps (spM K ps.length j wf)
  len : ∀ cs R, wf never cs R → cs.length = ps.length ∧ mAt j cs
/-! ### what such a def tells -/
/-- return e: the answer is flat -/
def sRetM (j : Nat) (t : ET) : SD := fun E z η => t E (lend η) fun d => flat d = true ∧ onMt η[j]? fun m => z.rt (pkM d m)
/-- return the parameter -/
def sRetS (j : Nat) : SD := fun _ z η => onMt η[j]? fun m => z.rt (pkM selfD m)
section
variable {X : Cx} {e : Expr} {es : List Expr} {t : ET} {ts : CT} {pos p : Pos}
/-! ### calls of such a def -/
def ArgX (K : PySem.W.Frag) (O : Addr → Prop) (c : Ctx) (η : EnvD) (σ : L2.St) (i : Nat) (H : Hp) (v : V) : Cell → Prop
  | .dat d => Rep K O H v d
  | .drw => ∃ a g, v = .ref a ∧ c.G = some (a, g)
  | .mtb q d fp => q = true ∧ (∃ p, η[i]? = some (.mtb p d fp)) ∧ σ[i]?.join = some v
  | _ => False
def liftCM (X : Cx) (i : Nat) (t : CT) : TA := fun σ H R => ∃ (c : Ctx) (O : Addr → Prop) (η : EnvD) (E : XP) (Q : List Cell → Prop), Gd X c E O η σ H ∧ t E η Q ∧ ∀ cs vs H', Step c.G H H' → Paired (ArgX X.K O c η σ i H') vs cs → Q cs → R vs H'
structure DCM (X : Cx) (es : List Expr) (i : Nat) (t : CT) : Prop where
  pa : PA X es (liftCM X i t)
def onMx (o : Option Cell) (k : D → List Addr → Prop) : Prop := match o with | some (.mtb _ d fp) => k d fp | _ => False
def cMut (i : Nat) (ts : CT) : CT := fun E η Q => onMx η[i]? fun d fp => ts E η fun cs => Q (.mtb true d fp :: cs)
theorem ArgX.step {K : PySem.W.Frag} {O : Addr → Prop} {c : Ctx} {η : EnvD} {σ : L2.St} {i : Nat} {H H1 : Hp} (st : Step c.G H H1) (dr : DrawOk c.G H) (hW : ∀ a, Wr c.G a → O a) {v : V} {x : Cell} (h : ArgX K O c η σ i H v x) : ArgX K O c η σ i H1 v x := by
  cases x with
  | dat d => exact st.rep dr hW h
  | drw => exact h
  | un => exact h
  | own ds => exact h
  | scr ns => exact h
  | obj a o => exact h
  | mtb p d fp => exact h
  | lin nm fs => exact h
  | ist p nm fs fp => exact h
def stM (o : Option Cell) (i : Nat) (m : D) (η : EnvD) : EnvD := match o with | some (.mtb p _ fp) => η.set i (.mtb p m fp) | _ => η
/-- the call, as a reading below -/
def tCallM (X : Cx) (i : Nat) (wf : FM) (ts : CT) : TE := fun σ H R => ∃ (c : Ctx) (O : Addr → Prop) (η : EnvD) (E : XP) (Q : D → EnvD → Prop), Gd X c E O η σ H ∧ (ts E η fun cs => wf never cs fun d m' => Q d (stM η[i]? i m' η)) ∧
  ∀ d v H' η', Gd X c E O η' σ H' → (Rep X.K O H' v d ∨ (d = selfD ∧ σ[i]?.join = some v)) → Q d η' → R v H'
variable {k j i jj : Nat} {ps : List Str} {wf : FM} {x : Str}
/-- f(.., name, ..) alone -/
def sCallM (i : Nat) (wf : FM) (ts : CT) : SD := fun E z η => ts E η fun cs => wf never cs fun _ m' => z.nx (stM η[i]? i m' η)
/-- y = f(.., name, ..): the answer is flat -/
def sSetM (y i : Nat) (wf : FM) (ts : CT) : SD := fun E z η => ts E η fun cs => wf never cs fun d m' => flat d = true ∧ z.nx ((stM η[i]? i m' η).set y (.dat d))
/-- name = f(.., name, ..): the parameter itself is told -/
def sSelfM (i : Nat) (wf : FM) (ts : CT) : SD := fun E z η => ts E η fun cs => wf never cs fun d m' => d = selfD ∧ z.nx (stM η[i]? i m' η)
/-! ### tests that write -/
abbrev BM := XP → EnvD → (Bool → EnvD → Prop) → Prop
def liftBM (X : Cx) (t : BM) : TT := fun σ H R => ∃ (c : Ctx) (O : Addr → Prop) (η : EnvD) (E : XP) (Q : Bool → EnvD → Prop), Gd X c E O η σ H ∧ t E η Q ∧ ∀ b H' η', Gd X c E O η' σ H' → Q b η' → R b H'
structure DTM (X : Cx) (e : Expr) (t : BM) : Prop where
  pt : PT X e (liftBM X t)
structure DWM (X : Cx) (e : Expr) (t : BM) : Prop where
  pw : PW X e (liftBM X t)
def mTest (b : BT) : BM := fun E η Q => b E (lend η) fun k => Q k η
def mCall (i : Nat) (wf : FM) (ts : CT) : BM := fun E η Q => ts E η fun cs => wf never cs fun d m' => ∃ b, d = .bool b ∧ Q b (stM η[i]? i m' η)
def mAnd (t u : BM) : BM := fun E η Q => t E η fun c η' => if c = true then u E η' Q else Q false η'
def sIfM (b : BM) (t u : SD) : SD := fun E z η => b E η fun k η' => if k = true then t E z η' else u E z η'
end
end DL

/-! DM3: d.update(d2) of a dict that a slot owns; name = f(.., name, ..) that tells the name. -/
namespace DL
open PySem PySem.Spec PyProof.Rows L2
def putAll (kvs more : List (D × D)) : List (D × D) := more.foldl (fun acc p => putD acc p.1 p.2) kvs
section
variable {X : Cx} {pins : List (Addr × Obj)} {σ : L2.St} {H : Hp} {s : Shared} {O : Addr → Prop}
def rUpdD (K : PySem.W.Frag) : V → List V → Hp → VK → Prop := fun x ys H Q => ∃ (a b : Addr) (kvs more : List (D × D)), x = .ref a ∧ ys = [.ref b] ∧ a ≠ b ∧ (b == sysModules) = false ∧ DictAt K (fun _ => True) H a kvs ∧ DictAt K (fun _ => True) H b more ∧ (kvs ≠ [] ∨ more = []) ∧ kvs.length + more.length ≤ sizeLine ∧
  ∀ es ep, Real a es ep → DictAt K (fun _ => True) (upd H a (dictO a es ep)) a (putAll kvs more) → Q .non (upd H a (dictO a es ep))
end
/-! a method of a dict -/
section
variable {X : Cx} {o e : Expr} {es : List Expr} {to : TE} {t : TA} {name : Str} {apos cpos : Pos} {id : String} {r : V → List V → Hp → VK → Prop}
def tBMD (r : V → List V → Hp → VK → Prop) (to : TE) (t : TA) : TE := fun σ H Q => to σ H fun x H1 => (∃ a es ep, x = .ref a ∧ H1 a = some (dictO a es ep)) ∧ t σ H1 fun xs H2 => r x xs H2 Q
end
/-! ### name.update(e) -/
def onDct (d : D) (k : List (D × D) → Prop) : Prop := match d with | .dict kvs => k kvs | _ => False
def sUpdM (i : Nat) (t : ET) : SD := fun E z η => onMD η[i]? fun p kvs fp => t E η fun d => onDct d fun more => (tkD more = true ∧ flatAll (more.map (·.2)) = true ∧ (kvs ≠ [] ∨ more = []) ∧ kvs.length + more.length ≤ sizeLine) ∧ z.nx (η.set i (.mtb p (.dict (putAll kvs more)) fp))
section
variable {X : Cx} {e : Expr} {pos apos cpos npos : Pos} {t : ET}
end
end DL

/-! DM4: len of a dict. -/
namespace DL
open PySem PySem.Spec PyProof.Rows L2
section
variable {X : Cx} {e : Expr} {ts : AT} {p pos : Pos}
def rLenD (K : PySem.W.Frag) : List V → Hp → VK → Prop := fun vs H Q => ∃ (O : Addr → Prop) (v : V) (kvs : List (D × D)), vs = [v] ∧ Rep K O H v (.dict kvs) ∧ tkD kvs = true ∧ Q (.int kvs.length) H
def fLenD : CallD
  | [.dict kvs], Q => tkD kvs = true ∧ Q (.int kvs.length)
  | _, _ => False
end
end DL

/-! DMx: the equations of DM1's and DM2's terms (id rfl: not by computation). -/
namespace DL
open PySem L2
section
variable {t u : ET} {b : BT} {tn : NT} {at_ : AT} {ct : CT} {bm bn : BM} {wf : FM} {sa sb : SD} {E : XP} {z : EndsD} {η : EnvD} {i j y : Nat} {Q : D → Prop} {QB : Bool → Prop} {QL : List D → Prop} {QC : List Cell → Prop} {QM : Bool → EnvD → Prop} {R : D → D → Prop}
theorem x_dLend : dLend t E η Q = t E (lend η) (fun d => flat d = true ∧ Q d) := id rfl
theorem x_bLend : bLend b E η QB = b E (lend η) QB := id rfl
theorem x_nLend : nLend tn E η QL = tn E (lend η) (fun ds => flatAll ds = true ∧ QL ds) := id rfl
theorem x_sMut : sMut i t E z η = t E (lend η) (fun d => ∀ fp, z.nx (η.set i (.mtb false d fp))) := id rfl
theorem x_dMutP : dMutP at_ E η Q = at_ E η (fun ds => match ds with
  | [.list ps] => ∃ kvs, ps = kvs.map pairD ∧ KvOk kvs ∧ flatAll (kvs.map (·.2)) = true ∧ Q (.dict kvs)
  | _ => False) := id rfl
theorem x_onMD {p : Bool} {kvs : List (D × D)} {fp : List Addr} {k : Bool → List (D × D) → List Addr → Prop} : onMD (some (.mtb p (.dict kvs) fp)) k = k p kvs fp := id rfl
theorem x_sPutM : sPutM i t u E z η = onMD η[i]? (fun p kvs fp => u E (lend η) fun v => flat v = true ∧ t E (lend η) fun k => (keyOk k = true ∧ kvs.length < sizeLine) ∧ z.nx (η.set i (.mtb p (.dict (putD kvs k v)) fp))) := id rfl
theorem x_sRetM : sRetM j t E z η = t E (lend η) (fun d => flat d = true ∧ onMt η[j]? fun m => z.rt (pkM d m)) := id rfl
theorem x_sRetS : sRetS j E z η = onMt η[j]? (fun m => z.rt (pkM selfD m)) := id rfl
theorem x_onMt {m : D} {fp : List Addr} {k : D → Prop} : onMt (some (.mtb true m fp)) k = k m := id rfl
theorem x_cMut : cMut i ct E η QC = onMx η[i]? (fun d fp => ct E η fun cs => QC (.mtb true d fp :: cs)) := id rfl
theorem x_onMx {p : Bool} {m : D} {fp : List Addr} {k : D → List Addr → Prop} : onMx (some (.mtb p m fp)) k = k m fp := id rfl
theorem x_stM {p : Bool} {d m : D} {fp : List Addr} : stM (some (.mtb p d fp)) i m η = η.set i (.mtb p m fp) := id rfl
theorem x_sCallM : sCallM i wf ct E z η = ct E η (fun cs => wf never cs fun _ m' => z.nx (stM η[i]? i m' η)) := id rfl
theorem x_sSetM : sSetM y i wf ct E z η = ct E η (fun cs => wf never cs fun d m' => flat d = true ∧ z.nx ((stM η[i]? i m' η).set y (.dat d))) := id rfl
theorem x_mTest : mTest b E η QM = b E (lend η) (fun k => QM k η) := id rfl
theorem x_mCall : mCall i wf ct E η QM = ct E η (fun cs => wf never cs fun d m' => ∃ b, d = .bool b ∧ QM b (stM η[i]? i m' η)) := id rfl
theorem x_mAnd : mAnd bm bn E η QM = bm E η (fun c η' => if c = true then bn E η' QM else QM false η') := id rfl
theorem x_sIfM : sIfM bm sa sb E z η = bm E η (fun k η' => if k = true then sa E z η' else sb E z η') := id rfl
theorem x_nSortSetT : nSortSetT t E η QL = t E η (fun d => onTupO d fun xs => SetOk xs ∧ ∀ ys, ys.Pairwise (fun a b => PySem.W.dataLt a b = true) → (∀ d, d ∈ ys ↔ d ∈ xs) → QL ys) := id rfl
theorem x_fLenD {kvs : List (D × D)} : fLenD [.dict kvs] Q = (tkD kvs = true ∧ Q (.int kvs.length)) := id rfl
theorem x_sUpdM : sUpdM i t E z η = onMD η[i]? (fun p kvs fp => t E η fun d => onDct d fun more => (tkD more = true ∧ flatAll (more.map (·.2)) = true ∧ (kvs ≠ [] ∨ more = []) ∧ kvs.length + more.length ≤ sizeLine) ∧ z.nx (η.set i (.mtb p (.dict (putAll kvs more)) fp))) := id rfl
theorem x_iSeqD : iSeqD t E η QL = t E η (fun d => onDct d fun kvs => tkD kvs = true ∧ QL (kvs.map (·.1))) := id rfl
theorem x_onDct {kvs : List (D × D)} {k : List (D × D) → Prop} : onDct (.dict kvs) k = k kvs := id rfl
theorem x_lendM {p : Bool} {d : D} {fp : List Addr} : lendC (.mtb p d fp) = .dat d := id rfl
theorem x_fMin2D {x w : D} : fMin2D [x, w] Q = (MinOk [x, w] ∧ Q (pickD x w)) := id rfl
end
end DL

/-! DM5: instances that are written: fields, methods, made anew. -/
namespace DL
open PySem PySem.Spec PyProof.Rows L2
/-! ### fields -/
def setF (f : Str) (d : D) : List (Str × D) → List (Str × D)
  | [] => []
  | (g, x) :: r => if f = g then (g, d) :: r else (g, x) :: setF f d r
section
variable {K : PySem.W.Frag} {c : Ctx} {G : Option (Addr × Addr)} {O : Addr → Prop} {η : EnvD} {σ : L2.St} {H H1 H' : Hp} {nm : Str} {fs fs' : List (Str × D)} {fp fp' : List Addr}
end
/-! ### self.f[k] = v -/
def onIst (o : Option Cell) (nm : Str) (k : Bool → List (Str × D) → List Addr → Prop) : Prop := match o with | some (.ist p nm' fs fp) => nm' = nm ∧ k p fs fp | _ => False
def onDctF (o : Option D) (k : List (D × D) → Prop) : Prop := match o with | some (.dict kvs) => k kvs | _ => False
def sPutI (i : Nat) (nm f : Str) (tk tv : ET) : SD := fun E z η => onIst η[i]? nm fun p fs fp => tv E (lend η) fun v => flat v = true ∧ onDctF (fs.lookup f) fun kvs => tk E (lend η) fun k => (keyOk k = true ∧ kvs.length < sizeLine) ∧ z.nx (η.set i (.ist p nm (setF f (.dict (putD kvs k v)) fs) fp))
section
variable {X : Cx} {e1 e2 : Expr} {pos npos fpos : Pos} {t1 t2 : ET} {nm f : Str}
end
end DL

/-! DM6: methods that write their instance: promises, calls, comprehensions of calls. -/
namespace DL
open PySem PySem.Spec PyProof.Rows L2
def onIt (o : Option Cell) (nm : Str) (k : List (Str × D) → Prop) : Prop := match o with | some (.ist true nm' fs _) => nm' = nm ∧ k fs | _ => False
abbrev FI := XP → List (Str × D) → List Cell → (D → List (Str × D) → Prop) → Prop
/-- what a method that writes its instance promises -/
def spI (K : PySem.W.Frag) (n : Nat) (nm : Str) (wf : FI) : Sp := fun vs H Q _ => vs.length = n ∧ ∃ (B O : Addr → Prop) (G : Option (Addr × Addr)) (fs : List (Str × D)) (fp : List Addr) (x : V) (vs' : List V) (cs : List Cell) (R : D → List (Str × D) → Prop), vs = x :: vs' ∧ (∀ a, O a → H a ≠ none) ∧ (∀ a, Wr G a → B a) ∧ (∀ a, B a → O a) ∧ DrawOk G H ∧
  InsDp K H x nm fs fp ∧ fp.Nodup ∧ (∀ b ∈ fp, O b ∧ ¬ B b) ∧ ArgsOk K O G H vs' cs ∧ wf never fs cs R ∧ ∀ d v fs' fp' H', StepM G fp H H' → FRep K H' v d → InsDp K H' x nm fs' fp' → fp'.Nodup → (∀ b ∈ fp', b ∈ fp ∨ H b = none) → (∀ b ∈ fp, b ∈ fp') → R d fs' → Q v H'
/-- a body's run -/
def bodyI (m n : Nat) (nm : Str) (t : SD) : FI := fun E fs cs R => cs.length + 1 = m ∧ ∀ fp, t E { nx := fun η => onIt η[0]? nm fun fs' => R .none fs', rt := fun p => ∃ d fs', p = pkI d nm fs' ∧ R d fs' } (.ist true nm fs fp :: (cs ++ List.replicate (n - 1 - cs.length) .un))
structure HasI (P : Program) (w : World) (K : PySem.W.Frag) (mg : Str → Option Value) (base : Heap) (nm m : Str) (k : Nat) (ps : List Str) (wf : FI) : Prop where
  ex : ∀ C, ClsOf K nm C → L2.Cls K C ∧ ∃ f fd, L2.Meth K C m f ∧ Binds K fd ps [] ∧ FnG P w K mg base CX0 k f fd ps (spI K ps.length nm wf)
  len : ∀ fs cs R, wf never fs cs R → cs.length + 1 = ps.length
/-! ### return -/
def sRetI (nm : Str) (t : ET) : SD := fun E z η => t E (lend η) fun d => flat d = true ∧ onIt η[0]? nm fun fs => z.rt (pkI d nm fs)
section
variable {X : Cx} {e : Expr} {es : List Expr} {t : ET} {ts : CT} {pos p apos : Pos} {nm m : Str}
/-! ### calls -/
def onIx (o : Option Cell) (nm : Str) (k : List (Str × D) → Prop) : Prop := match o with | some (.ist _ nm' fs _) => nm' = nm ∧ k fs | _ => False
def stI (o : Option Cell) (i : Nat) (fs : List (Str × D)) (fp : List Addr) (η : EnvD) : EnvD := match o with | some (.ist p nm _ _) => η.set i (.ist p nm fs fp) | _ => η
/-- an expression that writes -/
abbrev EM := XP → EnvD → (D → EnvD → Prop) → Prop
def AfterM (K : PySem.W.Frag) (c : Ctx) (H : Hp) (v : V) (d : D) (H' : Hp) : Prop := FRep K H' v d ∧ (∀ a o, ¬ Wr c.G a → c.B a → H a = some o → H' a = some o) ∧ ∀ a xs, H a = some (.tup xs) → H' a = some (.tup xs)
def liftEM (X : Cx) (t : EM) : TE := fun σ H R => ∃ (c : Ctx) (O : Addr → Prop) (η : EnvD) (E : XP) (Q : D → EnvD → Prop), Gd X c E O η σ H ∧ t E η Q ∧ ∀ d v H' O' η', Gd X c E O' η' σ H' → AfterM X.K c H v d H' → Q d η' → R v H'
def liftEM0 (K : PySem.W.Frag) (t : EM) : TE := fun σ H R => ∃ (c : Ctx) (O : Addr → Prop) (η : EnvD) (Q : D → EnvD → Prop), Good K c O η σ H ∧ t never η Q ∧ ∀ d v H' O' η', Good K c O' η' σ H' → AfterM K c H v d H' → Q d η' → R v H'
structure DEM (X : Cx) (e : Expr) (t : EM) : Prop where
  pe : PE X e (liftEM X t)
theorem DEM.pe0 {t : EM} (h : DEM X e t) : PE X e (liftEM0 X.K t) := ⟨fun pins s σ H R I ⟨c, O, η, Q, g, ht, k⟩ => h.pe.run pins s σ H R I ⟨c, O, η, never, Q, ⟨g, eok_never⟩, ht, fun d v H' O' η' g' a q => k d v H' O' η' g'.toGood a q⟩⟩
def mCallE (i : Nat) (nm m : Str) (wf : FI) (ts : CT) : EM := fun E η Q => onIx η[i]? nm fun fs => fs.lookup m = none ∧ ts E η fun cs => wf never fs cs fun d fs' => ∀ fp, Q d (stI η[i]? i fs' fp η)
/-- e alone -/
def sDoI (t : EM) : SD := fun E z η => t E η fun _ η' => z.nx η'
/-- y = e -/
def sSetI (y : Nat) (t : EM) : SD := fun E z η => t E η fun d η' => z.nx (η'.set y (.dat d))
end
/-! ### [o.m(..) for x in xs] -/
def compI (own : List Nat) (g : GT) (tm : EM) : List D → EnvD → List D → (List D → EnvD → Prop) → Prop
  | [], η0, acc, Q => Q acc η0
  | d :: ds, η0, acc, Q => g d η0 fun η1 => tm never η1 fun y η2 => acc.length < sizeLine ∧ compI own g tm ds (wipeD η2 own) (acc ++ [y]) Q
def bAll : BT := bYes
/-- xs.extend([o.m(..) for x in ys]) -/
def sExtI (f : Nat) (own : List Nat) (ti : IT) (g : GT) (tm : EM) : SD := fun E z η => onOwn η[f]? fun _ => ti E η fun ds => compI own g tm ds (wipeD η own) [] fun ys η' => onOwn η'[f]? fun xs => xs.length + ys.length ≤ sizeLine ∧ z.nx (η'.set f (.own (xs ++ ys)))
section
variable {X : Cx} {elt tg iter : Expr} {scope : Scope} {own : List (Str × Nat)} {is : List Nat} {pos p lpos apos : Pos} {ti : IT} {g : GT} {tm : EM}
end
end DL

/-! DM7: instances made: self.f = e, C(..). -/
namespace DL
open PySem PySem.Spec PyProof.Rows L2
/-! ### {k: v for ..} as a new structure -/
def dDcM (own : List Nat) (ti : IT) (g : GT) (tt : BT) (tk tv : ET) : ET := fun E η Q => ti E η fun ds => compDD g tt tk tv (wipeD η own) ds [] fun kvs => (kvs.length ≤ sizeLine ∧ flatAll (kvs.map (·.2)) = true) ∧ Q (.dict kvs)
section
variable {X : Cx} {kx vx tg iter : Expr} {ifs : List Expr} {scope : Scope} {own : List (Str × Nat)} {is : List Nat} {pos : Pos} {ti : IT} {g : GT} {tt : BT} {tk tv : ET}
end
/-! ### self.f = e -/
theorem DeepAll.append {K : PySem.W.Frag} {H : Hp} : ∀ {vs ws : List V} {ds es : List D} {fs gs : List Addr}, DeepAll K H vs ds fs → DeepAll K H ws es gs → DeepAll K H (vs ++ ws) (ds ++ es) (fs ++ gs)
  | _, _, _, _, _, _, .nil, s => s
  | _, _, _, _, _, _, .cons r t, s => by
    rw [List.cons_append, List.cons_append, List.append_assoc]
    exact .cons r (DeepAll.append t s)
def sFldV (i : Nat) (nm f : Str) (t : ET) : SD := fun E z η => t E (lend η) fun d => flat d = true ∧ onIst η[i]? nm fun p fs fp => (fs.lookup f = none ∧ fs.length < 1000) ∧ z.nx (η.set i (.ist p nm (fs ++ [(f, d)]) fp))
def sFldM (i : Nat) (nm f : Str) (t : ET) : SD := fun E z η => t E (lend η) fun d => onIst η[i]? nm fun p fs fp => (fs.lookup f = none ∧ fs.length < 1000) ∧ ∀ fq, z.nx (η.set i (.ist p nm (fs ++ [(f, d)]) (fp ++ fq)))
section
variable {X : Cx} {value : Expr} {pos pos' npos : Pos} {t : ET} {nm f : Str}
end
/-! ### x = C(..) -/
section
variable {X : Cx} {CX : CXT} {k : Nat} {C f : Addr} {fd : FuncData} {ps : List Str} {sp : Sp} {E : XK} {x : Str} {p pos : Pos} {e : Expr} {es : List Expr} {t : TA}
def tMakeG (C : Addr) (sp : Sp) (E : XK) (t : TA) : TE := fun σ H Q => t σ H fun vs H1 => ∀ x dx, H1 x = none → H1 dx = none → dx ≠ x →
  sp (.ref x :: vs) (upd (upd H1 dx (.own x)) x (.ins C dx [])) (fun v H2 => v = .non ∧ Q (.ref x) H2) E
end
/-- what the head tells of a class that is made -/
def MkIn (K : PySem.W.Frag) (mg : Str → Option Value) (nm : Str) (st : Stmt) (ps : List Str) : Prop := ∃ C f fd, mg nm = some (.ref C) ∧ ClsOf K nm C ∧ Mk K C f ∧ Fun K "__init__" (nm ++ ("." : Str) ++ "__init__") st f fd ∧ Binds K fd ps []
structure HasMk (P : Program) (w : World) (K : PySem.W.Frag) (mg : Str → Option Value) (base : Heap) (nm : Str) (k : Nat) (ps : List Str) (wf : FI) : Prop where
  ex : ∃ C f fd, mg nm = some (.ref C) ∧ ClsOf K nm C ∧ Mk K C f ∧ Binds K fd ps [] ∧ FnG P w K mg base CX0 k f fd ps (spI K ps.length nm wf)
  len : ∀ fs cs R, wf never fs cs R → cs.length + 1 = ps.length
def sMakeI (i : Nat) (nm : Str) (wf : FI) (ts : CT) : SD := fun E z η => ts E η fun cs => wf never [] cs fun d fs => d = .none ∧ ∀ fp, z.nx (η.set i (.ist false nm fs fp))
section
variable {X : Cx} {e : Expr} {es : List Expr} {ts : CT} {pos cpos p : Pos} {nm : Str}
end
end DL

/-! DM8: what the head tells of a class; the equations of DL36's, DL37's, DM5's .. terms. -/
namespace DL
open PySem PySem.Spec PyProof.Rows L2
def ClaAt (K : PySem.W.Frag) (nm : Str) : Prop := ∃ C, ClsOf K nm C ∧ L2.Cls K C ∧ PySem.W.makesIn K C = true ∧ PySem.W.keepIn K (.ref C) = true
def MetAt (K : PySem.W.Frag) (nm m q : Str) (st : Stmt) : Prop := ∃ (C f : Addr) (oc : Value) (od : Option Addr) (kV doc pm : Value) (an : Option Addr) (cdv ct : Value) (osl : Array (Option Value)), ClsOf K nm C ∧ PySem.W.findIn K (.ref C) m = some (some (.ref f)) ∧ PySem.W.isFn K (.ref f) = true ∧
  K.lookup f = some ⟨oc, od, .func (PySem.W.fnOf m q (defArgs st) (defBody st) (defScope st) .none kV doc pm an cdv ct), osl⟩ ∧ PySem.W.codeIn K cdv q = true ∧ PySem.W.keepIn K (.ref f) = true
def FldAt (K : PySem.W.Frag) (nm f : Str) : Prop := ∃ C, ClsOf K nm C ∧ PySem.W.findIn K (.ref C) f = some none
section
variable {K : PySem.W.Frag} {nm m q f : Str} {st : Stmt} {ps : List Str} {h : Heap} {mg : Str → Option Value}
theorem ClsOf.uniq {C C' : Addr} (a : ClsOf K nm C) (b : ClsOf K nm C') : C = C' := by
  unfold ClsOf at a b
  rw [a] at b
  cases b
  rfl
abbrev BindsAsQ (x q : Str) (st : Stmt) (ps : List Str) : Prop := ∀ (kV doc pm : Value) (an : Option Addr) (cdv ct : Value) (us : List Value), us.length = ps.length → bindArgs (PySem.W.fnOf x q (defArgs st) (defBody st) (defScope st) .none kV doc pm an cdv ct) ⟨us, []⟩ = pure (ps.zip us)
end
/-! ### equations -/
section
variable {t u tk tv te : ET} {b tt tt1 : BT} {ct : CT} {it ti1 : IT} {g g1 : GT} {tm : EM} {wf : FT} {wi : FI} {sa : SD} {E : XP} {z : EndsD} {η : EnvD} {i j y : Nat} {nm nm' m f : Str} {fs : List (Str × D)} {fp : List Addr} {own vs1 : List Nat} {Q : D → Prop} {QL : List D → Prop} {QM : D → EnvD → Prop} {QX : List D → EnvD → Prop} {d : D} {ds acc : List D}
theorem x_dFld : dFld i nm f E η Q = onLin η[i]? (fun nm' fs => nm' = nm ∧ ∃ d, fs.lookup f = some d ∧ Q d) := id rfl
theorem x_onLin {k : Str → List (Str × D) → Prop} : onLin (some (.lin nm fs)) k = k nm fs := id rfl
theorem x_dMeth : dMeth i nm m wf ct E η Q = onLin η[i]? (fun nm' fs => nm' = nm ∧ fs.lookup m = none ∧ ct E η fun cs => wf never (.lin nm fs :: cs) Q) := id rfl
theorem x_sPutI : sPutI i nm f tk tv E z η = onIst η[i]? nm (fun p fs fp => tv E (lend η) fun v => flat v = true ∧ onDctF (fs.lookup f) fun kvs => tk E (lend η) fun k => (keyOk k = true ∧ kvs.length < sizeLine) ∧ z.nx (η.set i (.ist p nm (setF f (.dict (putD kvs k v)) fs) fp))) := id rfl
theorem x_onIst {p : Bool} {k : Bool → List (Str × D) → List Addr → Prop} : onIst (some (.ist p nm' fs fp)) nm k = (nm' = nm ∧ k p fs fp) := id rfl
theorem x_onDctF {kvs : List (D × D)} {k : List (D × D) → Prop} : onDctF (some (.dict kvs)) k = k kvs := id rfl
theorem x_sRetI : sRetI nm t E z η = t E (lend η) (fun d => flat d = true ∧ onIt η[0]? nm fun fs => z.rt (pkI d nm fs)) := id rfl
theorem x_onIt {k : List (Str × D) → Prop} : onIt (some (.ist true nm' fs fp)) nm k = (nm' = nm ∧ k fs) := id rfl
theorem x_onIx {p : Bool} {k : List (Str × D) → Prop} : onIx (some (.ist p nm' fs fp)) nm k = (nm' = nm ∧ k fs) := id rfl
theorem x_stI {p : Bool} {fs' : List (Str × D)} {fp' : List Addr} : stI (some (.ist p nm fs fp)) i fs' fp' η = η.set i (.ist p nm fs' fp') := id rfl
theorem x_mCallE : mCallE i nm m wi ct E η QM = onIx η[i]? nm (fun fs => fs.lookup m = none ∧ ct E η fun cs => wi never fs cs fun d fs' => ∀ fp, QM d (stI η[i]? i fs' fp η)) := id rfl
theorem x_sDoI : sDoI tm E z η = tm E η (fun _ η' => z.nx η') := id rfl
theorem x_sSetI : sSetI y tm E z η = tm E η (fun d η' => z.nx (η'.set y (.dat d))) := id rfl
theorem x_sExtI : sExtI i own it g tm E z η = onOwn η[i]? (fun _ => it E η fun ds => compI own g tm ds (wipeD η own) [] fun ys η' => onOwn η'[i]? fun xs => xs.length + ys.length ≤ sizeLine ∧ z.nx (η'.set i (.own (xs ++ ys)))) := id rfl
theorem x_sFldV : sFldV i nm f t E z η = t E (lend η) (fun d => flat d = true ∧ onIst η[i]? nm fun p fs fp => (fs.lookup f = none ∧ fs.length < 1000) ∧ z.nx (η.set i (.ist p nm (fs ++ [(f, d)]) fp))) := id rfl
theorem x_sFldM : sFldM i nm f t E z η = t E (lend η) (fun d => onIst η[i]? nm fun p fs fp => (fs.lookup f = none ∧ fs.length < 1000) ∧ ∀ fq, z.nx (η.set i (.ist p nm (fs ++ [(f, d)]) (fp ++ fq)))) := id rfl
theorem x_dDcM : dDcM own it g tt tk tv E η Q = it E η (fun ds => compDD g tt tk tv (wipeD η own) ds [] fun kvs => (kvs.length ≤ sizeLine ∧ flatAll (kvs.map (·.2)) = true) ∧ Q (.dict kvs)) := id rfl
theorem x_sMakeI : sMakeI i nm wi ct E z η = ct E η (fun cs => wi never [] cs fun d fs => d = .none ∧ ∀ fp, z.nx (η.set i (.ist false nm fs fp))) := id rfl
theorem x_nComp2 : nComp2 own vs1 it g tt ti1 g1 tt1 te E η QL = it E η (fun ds => compD2 vs1 g tt ti1 g1 tt1 te (wipeD η own) ds [] QL) := id rfl
theorem x_lendL : lendC (.lin nm fs) = .lin nm fs := id rfl
theorem x_lendI {p : Bool} : lendC (.ist p nm fs fp) = .lin nm fs := id rfl
end
instance : DOp oEqT0 := ⟨fun x y => by cases x <;> cases y <;> first | exact Dt.fls | (rename_i ys; cases ys <;> first | exact Dt.fls | exact Dt.pure _)⟩
end DL

/-! DL39: x != () for any x. -/
namespace PySem.SeqAt
open AutoSeq1 (wpAny_loadPart')
open MeetsSeq MeetsSeq2 MeetsSeq3
end PySem.SeqAt
namespace DL
open PySem PySem.Spec PyProof.Rows L2
section
variable {X : Cx}
/-- not a tuple -/
def NotTup (K : PySem.W.Frag) (H : Hp) : V → Prop
  | .non => True
  | .bl _ => True
  | .int _ => True
  | .str _ => True
  | .ref a => (∃ xs, H a = some (.lst xs)) ∨ (∃ es ep, H a = some (dictO a es ep)) ∨ ∃ ns, H a = some (.dK ns)
  | _ => False
def neT0 : D → Bool
  | .tuple xs => !xs.isEmpty
  | _ => true
def oNeT0 : OpD
  | d, .tuple [], Q => Q (.bool (neT0 d))
  | _, _, _ => False
def oEqL0 : OpD
  | .list xs, .list [], Q => Q (.bool xs.isEmpty)
  | _, _, _ => False
/-- a whole number or a truth, and a whole number -/
def oAddB : OpD
  | .int i, .int j, Q => Q (.int (i + j))
  | .bool b, .int j, Q => Q (.int ((if b = true then 1 else 0) + j))
  | _, _, _ => False
variable {d : D} {QD : D → Prop}
theorem x_addBI {i j : Int} : oAddB (.int i) (.int j) QD = QD (.int (i + j)) := id rfl
theorem x_addBB {b : Bool} {j : Int} : oAddB (.bool b) (.int j) QD = QD (.int ((if b = true then 1 else 0) + j)) := id rfl
theorem x_eqL0 {xs : List D} : oEqL0 (.list xs) (.list []) QD = QD (.bool xs.isEmpty) := id rfl
instance : DOp oEqL0 := ⟨fun x y => by cases x <;> cases y <;> first | exact Dt.fls | (rename_i ys; cases ys <;> first | exact Dt.fls | exact Dt.pure _)⟩
instance : DOp oNeT0 := ⟨fun x y => by
  cases y with
  | tuple ys =>
    cases ys with
    | nil =>
      have : (fun Q => oNeT0 x (.tuple []) Q) = fun Q : D → Prop => Q (.bool (neT0 x)) := funext fun Q => by cases x <;> rfl
      rw [show oNeT0 x (.tuple []) = fun Q : D → Prop => Q (.bool (neT0 x)) from this]
      exact Dt.pure _
    | cons _ _ => cases x <;> exact Dt.fls
  | _ => cases x <;> exact Dt.fls⟩
theorem x_neT0 : oNeT0 d (.tuple []) QD = QD (.bool (neT0 d)) := by cases d <;> rfl
end
end DL

/-! DL40: an own list's item and length, read in the state as it is. -/
namespace DL
open PySem PySem.Spec PyProof.Rows L2
def dOwnIx (j : Nat) (t : ET) : ET := fun E η Q => onOwn η[j]? fun ds => t E η fun d => onInt d fun i => onS (atI ds i) Q
def dOwnLen (j : Nat) : ET := fun _ η Q => onOwn η[j]? fun ds => Q (.int ds.length)
section
variable {X : Cx} {e : Expr} {pos p : Pos} {t : ET}
end
section
variable {ds : List D} {QD : D → Prop} {E : XP} {η : EnvD}
theorem x_ownIx {j : Nat} {t : ET} : dOwnIx j t E η QD = onOwn η[j]? fun ds => t E η fun d => onInt d fun i => onS (L2.atI ds i) QD := id rfl
theorem x_ownLen {j : Nat} : dOwnLen j E η QD = onOwn η[j]? fun ds => QD (.int ds.length) := id rfl
end
end DL

/-! DM9: tables: lists of flat lists that a slot owns: a column written row by row, rows by another name, lists taken apart. -/
namespace DL
open PySem PySem.Spec PyProof.Rows L2
section
variable {K : PySem.W.Frag} {c : Ctx} {O : Addr → Prop} {η : EnvD} {σ : L2.St} {H H1 H' : Hp}
theorem DeepAll.length : ∀ {vs : List V} {ds : List D} {fp : List Addr}, DeepAll K H vs ds fp → vs.length = ds.length
  | _, _, _, .nil => rfl
  | _, _, _, .cons _ t => by rw [List.length_cons, List.length_cons, t.length]
theorem DeepAll.join : ∀ {a ds : List D} {d : D} {us ws : List V} {v : V} {f1 f2 f3 : List Addr}, DeepAll K H us a f1 → Deep K H v d f2 → DeepAll K H ws ds f3 → DeepAll K H (us ++ v :: ws) (a ++ d :: ds) (f1 ++ (f2 ++ f3))
  | _, _, _, _, _, _, _, _, _, .nil, r, t => by
    rw [List.nil_append, List.nil_append, List.nil_append]
    exact .cons r t
  | _, _, _, _, _, _, _, _, _, .cons r0 t0, r, t => by
    rw [List.append_assoc]
    exact .cons r0 (DeepAll.join t0 r t)
end
def onLs (d : D) (k : List D → Prop) : Prop := match d with | .list ds => k ds | _ => False
/-! ### for row in table: row[c] = e -/
/-- η: all lent; i: the table's slot, r: the row's -/
def colGo (E : XP) (η : EnvD) (i r : Nat) (tc te : ET) : List D → List D → (List D → Prop) → Prop
  | [], acc, Q => Q acc
  | d :: ds, acc, Q => onLs d fun rr => flatAll rr = true ∧ te E ((η.set i (.dat (.list (acc ++ d :: ds)))).set r (.dat d)) fun v => flat v = true ∧ tc E ((η.set i (.dat (.list (acc ++ d :: ds)))).set r (.dat d)) fun k => onInt k fun k => ∃ j, ixN rr.length k = some j ∧ colGo E η i r tc te ds (acc ++ [.list (rr.set j v)]) Q
def onAny (o : Option Cell) (k : Prop) : Prop := match o with | some _ => k | none => False
def sColM (i r : Nat) (tc te : ET) : SD := fun E z η => onAny η[r]? <| onMx η[i]? fun d _ => onLs d fun rows => colGo E (lend (η.set r .un)) i r tc te rows [] fun rows' => z.nx (stM η[i]? i (.list rows') (η.set r .un))
section
variable {X : Cx} {e1 e2 : Expr} {pos pos2 px py npos : Pos} {tc te : ET}
end
end DL

/-! DM10: rows by another name; new lists taken apart. -/
namespace DL
open PySem PySem.Spec PyProof.Rows L2
def rowFlat : D → Bool
  | .list rr => flatAll rr
  | _ => false
def sAli2 (i j1 j2 : Nat) (t1 t2 : ET) : SD := fun E z η => onMx η[i]? fun d fp => onLs d fun rows => t1 E (lend η) fun d1 => onInt d1 fun k1 => ∃ m1, (ixN rows.length k1 = some m1 ∧ rows.all rowFlat = true) ∧ t2 E (lend η) fun d2 => onInt d2 fun k2 =>
  ∃ m2, ixN rows.length k2 = some m2 ∧ ∀ b1 b2, fp[m1 + 1]? = some b1 → fp[m2 + 1]? = some b2 → z.nx ((η.set j1 (.obj b1 none)).set j2 (.obj b2 none))
section
variable {K : PySem.W.Frag} {c : Ctx} {O : Addr → Prop} {η : EnvD} {σ : L2.St} {H H1 H' : Hp}
theorem Good.obj (g : Good K c O η σ H) (i : Nat) (a : Addr) : Good K c O (η.set i (.obj a none)) (σ.set i (some (.ref a))) H where
  len := by rw [List.length_set, List.length_set, g.len]
  hB := g.hB
  hW := g.hW
  hT := g.hT
  keep := g.keep
  draw := g.draw
  cell := fun j y h => by
    by_cases e : i = j
    · subst e
      by_cases hl : i < η.length
      · rw [List.getElem?_set_self hl] at h
        cases h
        exact ⟨join_set_self (g.len ▸ hl), fun p hp => nomatch hp⟩
      · rw [List.getElem?_eq_none (by rw [List.length_set]; omega)] at h
        cases h
    · rw [List.getElem?_set_ne e] at h ⊢
      exact g.cell j y h
  dis := dis_put g.dis i (z := .obj a none) (fun _ _ h => h) _
  fr := g.fr
end
section
variable {X : Cx} {e1 e2 : Expr} {pos p1 p2 px py pt : Pos} {t1 t2 : ET}
end
/-! ### expressions that read rows by another name -/
def onObj (o : Option Cell) (k : Addr → Prop) : Prop := match o with | some (.obj b none) => k b | _ => False
/-- the slots js hold rows of the table -/
def aliD (fp : List Addr) (rows : List D) : List Nat → EnvD → (EnvD → Prop) → Prop
  | [], η, Q => Q η
  | j :: js, η, Q => onObj η[j]? fun b => ∃ m d, (fp[m + 1]? = some b ∧ rows[m]? = some d) ∧ aliD fp rows js (η.set j (.dat d)) Q
def lendA (i : Nat) (js : List Nat) (η : EnvD) (Q : EnvD → Prop) : Prop := onMx η[i]? fun d fp => onLs d fun rows => rows.all rowFlat = true ∧ aliD fp rows js (lend η) Q
section
variable {K : PySem.W.Frag} {c : Ctx} {O : Addr → Prop} {η : EnvD} {σ : L2.St} {H H1 H' : Hp}
end
def dLendA (i : Nat) (js : List Nat) (t : ET) : ET := fun E η Q => lendA i js η fun η' => t E η' fun d => flat d = true ∧ Q d
def nLendA (i : Nat) (js : List Nat) (t : NT) : NT := fun E η Q => lendA i js η fun η' => t E η' fun ds => flatAll ds = true ∧ Q ds
section
variable {X : Cx} {e : Expr} {t : ET} {tn : NT}
end
/-! ### x, y = a new list -/
def sUnp (tn : NT) (gs : GTs) : SD := fun E z η => tn E η fun ds => flatAll ds = true ∧ gs ds η z.nx
section
variable {X : Cx} {e : Expr} {pos : Pos} {tn : NT} {gs : GTs}
end
end DL

/-! DM11: new tables: comprehensions within comprehensions, defs that tell one, a new table handed to a def that writes it; what such a def tells need not be flat. -/
namespace DL
open PySem PySem.Spec PyProof.Rows L2
/-! ### a new list as a structure -/
def dNewF (tn : NT) : ET := fun E η Q => tn E η fun ds => flatAll ds = true ∧ Q (.list ds)
section
variable {X : Cx} {e : Expr} {t : ET} {tn : NT}
/-- it may be read -/
theorem DX.de (h : DX X e t) : DE X e t := by
  obtain ⟨T, h1, h2⟩ := h.ex
  refine .of h1 fun σ H c O η E Q g ht => h2 σ H c O η E Q _ g ht fun v H' ⟨d, fp, st, h0, hne, hnd, dp, q⟩ => ?_
  exact ⟨d, st, dp.rep fun b hb ob => g.hT b ob (h0 b hb), q⟩
def liftX0 (K : PySem.W.Frag) (t : ET) : TE := fun σ H R => ∃ (c : Ctx) (O : Addr → Prop) (η : EnvD) (Q : D → Prop), Good K c O η σ H ∧ t never η Q ∧ ∀ v H', NewM K c O H Q v H' → R v H'
end
/-! ### [new structures for ..] -/
def dNewC (own : List Nat) (ti : IT) (g : GT) (tt : BT) (tx : ET) : ET := fun E η Q => ti E η fun ds => compD g tt tx (wipeD η own) ds [] fun ys => Q (.list ys)
section
variable {X : Cx} {elt tg iter : Expr} {ifs : List Expr} {scope : Scope} {own : List (Str × Nat)} {is : List Nat} {pos : Pos} {ti : IT} {g : GT} {tt : BT} {te : ET}
end
/-! ### defs that tell a new structure -/
def spX (K : PySem.W.Frag) (n : Nat) (wf : FT) : Sp := fun vs H Q _ => vs.length = n ∧ ∃ B G cs R, (∀ a, B a → H a ≠ none) ∧ (∀ a, Wr G a → B a) ∧ DrawOk G H ∧ ArgsOk K B G H vs cs ∧ wf never cs R ∧ ∀ d v H' fp, Step G H H' → (∀ b ∈ fp, H b = none) → fp ≠ [] → fp.Nodup → Deep K H' v d fp → R d → Q v H'
/-- a body that is one return's run -/
def bodyX (m n : Nat) (t : ET) : FT := fun E cs Q => cs.length = m ∧ t E (cs ++ List.replicate (n - cs.length) .un) Q
structure HasX (P : Program) (w : World) (K : PySem.W.Frag) (mg : Str → Option Value) (base : Heap) (x : Str) (k : Nat) (ps : List Str) (wf : FT) : Prop where
  ex : ∃ f fd, mg x = some (.ref f) ∧ PySem.W.keepIn K (.ref f) = true ∧ Binds K fd ps [] ∧ FnG P w K mg base CX0 k f fd ps (spX K ps.length wf)
  len : ∀ cs R, wf never cs R → cs.length = ps.length
section
variable {X : Cx} {e : Expr} {es : List Expr} {ts : CT} {pos p : Pos} {k j : Nat} {ps : List Str} {wf : FT} {x : Str}
end
/-! ### a new structure handed to a def that writes it -/
def liftCX (X : Cx) (t : CT) : TA := fun σ H R => ∃ (c : Ctx) (O : Addr → Prop) (η : EnvD) (E : XP) (Q : List Cell → Prop), Gd X c E O η σ H ∧ t E η Q ∧ ∀ cs vs H' x m fp, Step c.G H H' → (∀ b ∈ fp, H b = none) → fp ≠ [] → fp.Nodup → Deep X.K H' x m fp → ArgsM X.K (fun b => O b ∨ b ∈ fp) c.G H' x fp m vs cs → Q cs → R vs H'
structure DCX (X : Cx) (es : List Expr) (t : CT) : Prop where
  pa : PA X es (liftCX X t)
def cNewL (t : ET) : CT := fun E η Q => t E η fun d => ∀ fp, Q [.mtb true d fp]
section
variable {X : Cx} {e : Expr} {es : List Expr} {t : ET} {ts : CT} {pos p : Pos}
def dCallXM (wf : FM) (ts : CT) : ET := fun E η Q => ts E η fun cs => wf never cs fun d m' => d = selfD ∧ Q m'
variable {k j jj : Nat} {ps : List Str} {wf : FM} {x : Str}
end
/-! ### answers that are not flat -/
def sRetMN (j : Nat) (t : ET) : SD := fun E z η => t E η fun d => onMt η[j]? fun m => z.rt (pkM d m)
def sAsgM (i : Nat) (wf : FM) (ts : CT) (g : GT) : SD := fun E z η => ts E η fun cs => wf never cs fun d m' => d ≠ selfD ∧ g d (stM η[i]? i m' η) z.nx
section
variable {X : Cx} {e : Expr} {t : ET} {ts : CT} {pos : Pos} {wf : FM}
end
/-! ### a structure is given away -/
def frzM (i : Nat) (η : EnvD) : EnvD := match η[i]? with | some (.mtb false d _) => η.set i (.dat d) | _ => η
theorem Good.frzM {K : PySem.W.Frag} {c : Ctx} {O : Addr → Prop} {η : EnvD} {σ : L2.St} {H : Hp} (g : Good K c O η σ H) (i : Nat) : ∃ O', Good K c O' (DL.frzM i η) σ H := by
  unfold DL.frzM
  split
  · rename_i d fq hi
    obtain ⟨x, e, dp, hne, hnd, hfp, hp⟩ := g.cell i _ hi
    have w : ∀ b, (O b ∧ b ∉ fq) → O b := fun b h => h.1
    have il := (List.getElem?_eq_some_iff.mp hi).1
    refine ⟨fun b => O b ∧ b ∉ fq, by rw [List.length_set, g.len], fun b h => ⟨g.hB b h, fun z => (hfp b z).2.1 h⟩, g.hW, fun b h => g.hT b h.1, g.keep, g.draw, fun j y hj => ?_, fun j k x y b h1 h2 h3 h4 => ?_, fun p hp => (g.fr p hp).weak w⟩
    · by_cases ej : i = j
      · subst ej
        rw [List.getElem?_set_self il] at hj
        cases hj
        exact ⟨x, e, dp.rep fun b hb z => z.2 hb⟩
      · rw [List.getElem?_set_ne ej] at hj
        have q := g.cell j y hj
        have no : ∀ b, foot y (σ[j]?.join) b → b ∉ fq := fun b f hb => ej (g.dis i j _ _ b hi hj hb f)
        cases y with
        | un => trivial
        | dat d => obtain ⟨v, e1, r1⟩ := q; exact ⟨v, e1, r1.weak w⟩
        | own es =>
          obtain ⟨b, zs, e1, hb, ob, nb1, h01, r1⟩ := q
          exact ⟨b, zs, e1, hb, ⟨ob, no b e1⟩, nb1, h01, r1.weak w⟩
        | drw => exact q
        | obj a o => exact ⟨q.1, fun p hp => (q.2 p hp).imp fun y r => ⟨r.1, r.2.weak w⟩⟩
        | scr ns => exact q
        | mtb p d fp =>
          obtain ⟨x, e1, r1, k1, k2, k3, k4⟩ := q
          exact ⟨x, e1, r1, k1, k2, fun b hb => ⟨⟨(k3 b hb).1, no b hb⟩, (k3 b hb).2⟩, k4⟩
        | lin nm fs => obtain ⟨x, e1, r1⟩ := q; exact ⟨x, e1, r1.map (fun b u nb e => ⟨fun z => nb z.1, e⟩) fun _ _ e => e⟩
        | ist p nm fs fp =>
          obtain ⟨x, e1, r1, k1, k2, k3, k4⟩ := q
          exact ⟨x, e1, r1, k1, k2, fun b hb => ⟨⟨(k3 b hb).1, no b hb⟩, (k3 b hb).2⟩, k4⟩
    · have ne : ∀ {m : Nat} {u : Cell} {v : Option V}, (η.set i (.dat d))[m]? = some u → foot u v b → i ≠ m := fun {m u v} q f z => by
        subst z
        rw [List.getElem?_set_self il] at q
        cases q
        exact f
      rw [List.getElem?_set_ne (ne h1 h3)] at h1
      rw [List.getElem?_set_ne (ne h2 h4)] at h2
      exact g.dis j k _ _ b h1 h2 h3 h4
  · exact ⟨O, g⟩
def sFrzM (i : Nat) (t : SD) : SD := fun E z η => t E z (frzM i η)
section
variable {X : Cx}
end
end DL

/-! DM12: max of a list of ints, list.pop at a place, rows by another name where a name is captured; the equations of DM9 to DM12. -/
namespace DL
open PySem PySem.Spec PyProof.Rows L2
def maxI : List Int → Int
  | [] => 0
  | [x] => x
  | x :: y :: r => if maxI (y :: r) < x then x else maxI (y :: r)
def fMaxI : CallD
  | [.list zs], Q => (zs.all isI && !zs.isEmpty) = true ∧ Q (.int (maxI (zs.map iOf)))
  | _, _ => False
section
variable {X : Cx} {e : Expr} {ts : AT} {p pos : Pos}
end
/-! ### name.pop(k) -/
def sPopI (i : Nat) (t : ET) : SD := fun E z η => onOwn η[i]? fun ds => t E (lend η) fun d => onInt d fun k => ∃ j, (ixN ds.length k = some j ∧ -(2 ^ 63) ≤ k ∧ k < 2 ^ 63) ∧ z.nx (η.set i (.own (ds.eraseIdx j)))
section
variable {X : Cx} {e : Expr} {pos p apos npos : Pos} {t : ET}
end
section
variable {X : Cx} {elt tg iter : Expr} {ifs : List Expr} {scope : Scope} {own : List (Str × Nat)} {is : List Nat} {pos cpos : Pos} {ti : IT} {g : GT} {tt : BT} {te : ET} {y : Str} {py : Pos}
end
/-! ### rows by another name: a name is captured -/
section
variable {X : Cx} {e1 e2 : Expr} {pos p1 p2 px py pt : Pos} {t1 t2 : ET}
end
/-! ### the equations -/
section
variable {t t1 t2 tc te : ET} {tn : NT} {gs : GTs} {g : GT} {wm : FM} {wf : FT} {ct : CT} {it : IT} {tt : BT} {sa : SD} {E : XP} {z : EndsD} {η : EnvD} {i j r j1 j2 : Nat} {js own : List Nat} {p : Bool} {d m : D} {ds acc : List D} {fp : List Addr} {b : Addr} {c : Cell} {QD : D → Prop} {QL : List D → Prop} {QE : EnvD → Prop} {QC : List Cell → Prop} {P : Prop}
theorem x_sColM : sColM i r tc te E z η = onAny η[r]? (onMx η[i]? fun d _ => onLs d fun rows => colGo E (lend (η.set r .un)) i r tc te rows [] fun rows' => z.nx (stM η[i]? i (.list rows') (η.set r .un))) := id rfl
theorem x_onAny : onAny (some c) P = P := id rfl
theorem x_onMxM {k : D → List Addr → Prop} : onMx (some (.mtb p d fp)) k = k d fp := id rfl
theorem x_onLs {k : List D → Prop} : onLs (.list ds) k = k ds := id rfl
theorem x_stMM : stM (some (.mtb p d fp)) i m η = η.set i (.mtb p m fp) := id rfl
theorem x_colGo0 : colGo E η i r tc te [] acc QL = QL acc := id rfl
theorem x_sAli2 : sAli2 i j1 j2 t1 t2 E z η = onMx η[i]? (fun d fp => onLs d fun rows => t1 E (lend η) fun d1 => onInt d1 fun k1 => ∃ m1, (ixN rows.length k1 = some m1 ∧ rows.all rowFlat = true) ∧ t2 E (lend η) fun d2 => onInt d2 fun k2 =>
  ∃ m2, ixN rows.length k2 = some m2 ∧ ∀ b1 b2, fp[m1 + 1]? = some b1 → fp[m2 + 1]? = some b2 → z.nx ((η.set j1 (.obj b1 none)).set j2 (.obj b2 none))) := id rfl
theorem x_dLendA : dLendA i js t E η QD = lendA i js η (fun η' => t E η' fun d => flat d = true ∧ QD d) := id rfl
theorem x_nLendA : nLendA i js tn E η QL = lendA i js η (fun η' => tn E η' fun ds => flatAll ds = true ∧ QL ds) := id rfl
theorem x_lendA : lendA i js η QE = onMx η[i]? (fun d fp => onLs d fun rows => rows.all rowFlat = true ∧ aliD fp rows js (lend η) QE) := id rfl
theorem x_aliD0 {rows : List D} : aliD fp rows [] η QE = QE η := id rfl
theorem x_aliD1 {rows : List D} : aliD fp rows (j :: js) η QE = onObj η[j]? (fun b => ∃ m d, (fp[m + 1]? = some b ∧ rows[m]? = some d) ∧ aliD fp rows js (η.set j (.dat d)) QE) := id rfl
theorem x_onObj {k : Addr → Prop} : onObj (some (.obj b none)) k = k b := id rfl
theorem x_lendO' {o : Option (Addr × Str × D)} : lendC (.obj b o) = .obj b o := id rfl
theorem x_sUnp : sUnp tn gs E z η = tn E η (fun ds => flatAll ds = true ∧ gs ds η z.nx) := id rfl
theorem x_dNewF : dNewF tn E η QD = tn E η (fun ds => flatAll ds = true ∧ QD (.list ds)) := id rfl
theorem x_dNewC : dNewC own it g tt te E η QD = it E η (fun ds => compD g tt te (wipeD η own) ds [] fun ys => QD (.list ys)) := id rfl
theorem x_cNewL : cNewL t E η QC = t E η (fun d => ∀ fp, QC [.mtb true d fp]) := id rfl
theorem x_dCallXM : dCallXM wm ct E η QD = ct E η (fun cs => wm never cs fun d m' => d = selfD ∧ QD m') := id rfl
theorem x_sRetMN : sRetMN j t E z η = t E η (fun d => onMt η[j]? fun m => z.rt (pkM d m)) := id rfl
theorem x_sAsgM : sAsgM i wm ct g E z η = ct E η (fun cs => wm never cs fun d m' => d ≠ selfD ∧ g d (stM η[i]? i m' η) z.nx) := id rfl
theorem x_sSelfM : sSelfM i wm ct E z η = ct E η (fun cs => wm never cs fun d m' => d = selfD ∧ z.nx (stM η[i]? i m' η)) := id rfl
theorem x_sFrzM : sFrzM i sa E z η = sa E z (frzM i η) := id rfl
theorem x_sPopI : sPopI i t E z η = onOwn η[i]? (fun ds => t E (lend η) fun d => onInt d fun k => ∃ j, (ixN ds.length k = some j ∧ -(2 ^ 63) ≤ k ∧ k < 2 ^ 63) ∧ z.nx (η.set i (.own (ds.eraseIdx j)))) := id rfl
theorem x_fMaxI : fMaxI [.list ds] QD = ((ds.all isI && !ds.isEmpty) = true ∧ QD (.int (maxI (ds.map iOf)))) := id rfl
end
end DL

/-! DM13: tuple * int, no times among them. -/
namespace DL
open PySem PySem.Spec PyProof.Rows L2
def rZero (K : PySem.W.Frag) : R2 := fun x y H Q => ∃ l xs, x = .ref l ∧ y = .int 0 ∧ SqT K H l xs ∧ xs ≠ [] ∧ ∀ p, H p = none → Q (.ref p) (upd H p (.tup []))
section
variable {X : Cx} {a b : Expr} {pos : Pos} {ta tb : ET}
/-- *, tuples among them, also no times -/
def oMul3 : OpD
  | .tuple xs, .int j, Q => (xs ≠ [] ∧ 0 ≤ j ∧ j ≤ 1000 ∧ xs.length ≤ 1000) ∧ Q (.tuple (List.replicate j.toNat xs).flatten)
  | .int i, .int j, Q => CMul i j ∧ Q (.int (i * j))
  | .list xs, .int j, Q => (0 ≤ j ∧ j < 2 ^ 63 ∧ xs.length * j.toNat ≤ sizeLine) ∧ Q (.list (List.replicate j.toNat xs).flatten)
  | _, _, _ => False
instance : DOp oMul3 := ⟨fun x y => by cases x <;> cases y <;> first | exact Dt.fls | exact (Dt.pure _).and⟩
variable {QD : D → Prop}
theorem x_mul3T {xs : List D} {j : Int} : oMul3 (.tuple xs) (.int j) QD = ((xs ≠ [] ∧ 0 ≤ j ∧ j ≤ 1000 ∧ xs.length ≤ 1000) ∧ QD (.tuple (List.replicate j.toNat xs).flatten)) := id rfl
end
end DL

/-! DM14: xs[::2] of a tuple. -/
namespace DL
open PySem PySem.Spec PyProof.Rows L2
def everyL {α : Type} : List α → List α
  | [] => []
  | [x] => [x]
  | x :: _ :: r => x :: everyL r
section
variable {prog : Program} {w : World} {A : Around} {E : Value → Shared → Prop} {s : Shared}
end
def tTwoT (K : PySem.W.Frag) (te : TE) : TE := fun σ H Q => te σ H fun x H1 => ∃ a xs, x = .ref a ∧ SqT K H1 a xs ∧ ∀ p, H1 p = none → Q (.ref p) (upd H1 p (.tup (everyL xs)))
/-- xs[::2] of a tuple -/
def dTwo (ta : ET) : ET := fun E η Q => ta E η fun x => onTupO x fun ds => Q (.tuple (everyL ds))
instance {ta : ET} [ha : DTm ta] : DTm (dTwo ta) := ⟨fun E η => (ha.dt E η).bind fun x => by cases x <;> first | exact Dt.fls | exact Dt.pure _⟩
theorem x_dTwo {ta : ET} {E : XP} {η : EnvD} {QD : D → Prop} : dTwo ta E η QD = ta E η (fun x => onTupO x fun ds => QD (.tuple (everyL ds))) := id rfl
end DL

set_option maxHeartbeats 4000000
/-! DM15: sorted(set(xs)), xs a list of ints. -/
namespace L2
open PySem PySem.Spec PyProof.Rows
section
variable {P : Program} {w : World} {A : Around} {E : Value → Shared → Prop} {s : Shared}
end
end L2
namespace DL
open PySem PySem.Spec PyProof.Rows L2
def nSortSetL (t : ET) : NT := fun E η Q => t E η fun d => match d with
  | .list xs => xs.length < 64 ∧ xs.all isI = true ∧ ∀ ns : List Int, ns.Pairwise (· < ·) → (∀ i, i ∈ ns ↔ i ∈ xs.map iOf) → Q (ns.map .int)
  | _ => False
def tSortSetL (K : PySem.W.Frag) (ta : TE) : TE := fun σ H Q => ta σ H fun x H1 => ∃ (l : Addr) (ns : List Int), x = V.ref l ∧ SqL K H1 l (ns.map V.int) ∧ ns.length < 64 ∧
  ∀ (p : Addr) (ns' : List Int), H1 p = none → ns'.Pairwise (· < ·) → (∀ i, i ∈ ns' ↔ i ∈ ns) → ns'.length ≤ ns.length → Q (.ref p) (upd H1 p (.lst (ns'.map V.int)))
section
variable {X : Cx} {e : Expr} {t : ET} {p p2 q2 pos : Pos}
variable {E : XP} {η : EnvD} {QL : List D → Prop}
theorem x_nSortSetL : nSortSetL t E η QL = t E η (fun d => onList d fun xs => xs.length < 64 ∧ xs.all isI = true ∧ ∀ ns : List Int, ns.Pairwise (· < ·) → (∀ i, i ∈ ns ↔ i ∈ xs.map iOf) → QL (ns.map .int)) := id rfl
end
end DL

/-! DM16: name = {}, a dict that is written. -/
namespace DL
open PySem PySem.Spec PyProof.Rows L2
def tDict0M : TE := fun _ H Q => ∀ p, H p = none → (p == sysModules) = false → Real p #[] 0 → Q (.ref p) (upd H p (dictO p #[] 0))
section
variable {X : Cx} {pos : Pos}
end
end DL

/-! DM17: d.get(k); `d.setdefault(k, v) != w` of a dict that a slot owns. -/
namespace DL
open PySem PySem.Spec PyProof.Rows L2
section
variable {X : Cx}
def rGetD (K : PySem.W.Frag) : V → List V → Hp → VK → Prop := fun x ys H Q => ∃ (O : Addr → Prop) (kvs : List (D × D)) (k : D) (y : V), Rep K O H x (.dict kvs) ∧ tkD kvs = true ∧ ys = [y] ∧ Rep K O H y k ∧ keyOk k = true ∧ ∀ v, Rep K O H v ((dLook kvs k).getD .none) → Q v H
/-- d.get(k) -/
def dGet (td tk : ET) : ET := fun E η Q => td E η fun d => onDct d fun kvs => tkD kvs = true ∧ tk E η fun k => keyOk k = true ∧ Q ((dLook kvs k).getD .none)
variable {o e : Expr} {pos apos cpos npos : Pos} {td tk : ET}
/-! ### setdefault -/
def rSetdD (K : PySem.W.Frag) : V → List V → Hp → VK → Prop := fun x ys H Q => ∃ (a : Addr) (kvs : List (D × D)) (k v : D) (yk yv : V), x = .ref a ∧ ys = [yk, yv] ∧ (a == sysModules) = false ∧ DictAt K (fun _ => True) H a kvs ∧ keyOk k = true ∧ kvs.length < sizeLine ∧ FRep K H yk k ∧ FRep K H yv v ∧
  (∀ d w, dLook kvs k = some d → FRep K H w d → Q w H) ∧
  (dLook kvs k = none → ∀ es ep, Real a es ep → DictAt K (fun _ => True) (upd H a (dictO a es ep)) a (putD kvs k v) → Q yv (upd H a (dictO a es ep)))
/-- name.setdefault(k, v) != w, as a test -/
def mSetd (i : Nat) (tk tv tw : ET) : BM := fun E η Q => onMD η[i]? fun p kvs fp => tk E (lend η) fun k => tv E (lend η) fun v => (keyOk k = true ∧ kvs.length < sizeLine ∧ flat v = true) ∧
  (∀ d, dLook kvs k = some d → flat d = true ∧ tw E (lend η) fun w => oNe d w fun r => ∃ b, r = .bool b ∧ Q b η) ∧
  (dLook kvs k = none → tw E (lend (η.set i (.mtb p (.dict (putD kvs k v)) fp))) fun w => oNe v w fun r => ∃ b, r = .bool b ∧ Q b (η.set i (.mtb p (.dict (putD kvs k v)) fp)))
variable {ek ev ew : Expr} {tv tw : ET}
/-! ### a target taken apart from a list -/
def gTL (gs : GTs) : GT := fun d η Q => match d with | .list ds => gs ds η Q | _ => False
/-! ### the equations -/
theorem x_gTL {gs : GTs} {η : EnvD} {QE : EnvD → Prop} {ds : List D} : gTL gs (.list ds) η QE = gs ds η QE := id rfl
theorem x_dGet {E : XP} {η : EnvD} {Q : D → Prop} : dGet td tk E η Q = td E η (fun d => onDct d fun kvs => tkD kvs = true ∧ tk E η fun k => keyOk k = true ∧ Q ((dLook kvs k).getD .none)) := id rfl
theorem x_mSetd {i : Nat} {E : XP} {η : EnvD} {Q : Bool → EnvD → Prop} : mSetd i tk tv tw E η Q = onMD η[i]? (fun p kvs fp => tk E (lend η) fun k => tv E (lend η) fun v => (keyOk k = true ∧ kvs.length < sizeLine ∧ flat v = true) ∧
  (∀ d, dLook kvs k = some d → flat d = true ∧ tw E (lend η) fun w => oNe d w fun r => ∃ b, r = .bool b ∧ Q b η) ∧
  (dLook kvs k = none → tw E (lend (η.set i (.mtb p (.dict (putD kvs k v)) fp))) fun w => oNe v w fun r => ∃ b, r = .bool b ∧ Q b (η.set i (.mtb p (.dict (putD kvs k v)) fp)))) := id rfl
end
end DL

/-! DM18: zip of a tuple and a list, the tuple not the longer one. -/
namespace DL
open PySem PySem.Spec PyProof.Rows L2
section
variable {prog : Program} {w : World} {A : Around} {E : Value → Shared → Prop} {s : Shared}
/-! ### made -/
abbrev hM1 (h : Heap) (a : Addr) : Heap := h.push { cls := .type "tuple_iterator", data := .fields #[.ref a, .int 0 0] }
abbrev hM2 (h : Heap) (a b : Addr) : Heap := (hM1 h a).push { cls := .type "list_iterator", data := .fields #[.ref b, .int 0 0] }
abbrev hM3 (h : Heap) (a b : Addr) : Heap := (hM2 h a b).push { cls := .type "tuple", data := .seq #[.ref h.objs.size, .ref (hM1 h a).objs.size] }
abbrev hM4 (h : Heap) (a b : Addr) : Heap := (hM3 h a b).push { cls := .type "tuple", data := .seq #[.none, .none] }
abbrev hM5 (h : Heap) (a b : Addr) : Heap := (hM4 h a b).push { cls := .type "zip", data := .fields #[.none, .bool false, .bool false, .ref (hM2 h a b).objs.size, .ref (hM3 h a b).objs.size] }
end
/-! ### as an iterable -/
def ItzM (K : PySem.W.Frag) (a b : Addr) : It :=
  ⟨fun i H => ∃ (xs ys : List V) (x y : V), SqT K H a xs ∧ SqL K H b ys ∧ xs[i]? = some x ∧ ys[i]? = some y,
    fun i H v H' => ∃ T x y, v = .ref T ∧ H T = none ∧ H' = upd H T (.tup [x, y]) ∧ (∀ xs, SqT K H a xs → xs[i]? = some x) ∧ ∀ ys, SqL K H b ys → ys[i]? = some y,
    fun i H => ∃ xs : List V, SqT K H a xs ∧ xs.length ≤ i⟩
abbrev ZM (a b z TI TO i1 i2 : Addr) (i : Nat) (h : Heap) : Prop := IsZ h z TI TO .none false ∧ IsPair h TI (.ref i1) (.ref i2) ∧ (∃ x y, IsPair h TO x y) ∧ h.IsTupleIter i1 a i ∧ h.IsListIter i2 b i
def iZM (K : PySem.W.Frag) (ta : TA) : TI := fun σ H R => ta σ H fun vs H1 => ∃ a b xs ys, vs = [.ref a, .ref b] ∧ SqT K H1 a xs ∧ SqL K H1 b ys ∧ R (ItzM K a b) H1
section
variable {X : Cx} {e e2 : Expr} {ts : AT} {ta : TA} {p pos tpos : Pos} {elts : List Expr} {kk : Nat}
/-- zip(a tuple, a list) -/
def on2M (ds : List D) (k : List D → List D → Prop) : Prop := match ds with | [.tuple xs, .list ys] => xs.length ≤ ys.length ∧ k xs ys | _ => False
def iZipM (ts : AT) : IT := fun E η Q => ts E η fun ds => on2M ds fun xs ys => Q (pairsD xs ys)
theorem x_iZipM {E : XP} {η : EnvD} {QL : List D → Prop} : iZipM ts E η QL = ts E η (fun ds => on2M ds fun xs ys => QL (pairsD xs ys)) := id rfl
theorem x_on2M {xs ys : List D} {k : List D → List D → Prop} : on2M [.tuple xs, .list ys] k = (xs.length ≤ ys.length ∧ k xs ys) := id rfl
end
end DL

/-! DM19: texts: split, join, str, int, one sign in a text, the signs of a text. -/
namespace DL
open PySem PySem.Spec PyProof.Rows L2
def onStr (d : D) (k : Str → Prop) : Prop := match d with | .str x => k x | _ => False
section
variable {K : PySem.W.Frag} {O : Addr → Prop} {H : Hp}
end
section
variable {X : Cx} {o e : Expr} {es : List Expr} {to te : ET} {ts : AT} {apos pos p : Pos}
/-- text.split(text) -/
def nSplit (to te : ET) : NT := fun E η Q => to E η fun x => onStr x fun a => te E η fun y => onStr y fun b => ((b.length == 0) = false ∧ a.length + 2 ≤ sizeLine) ∧ Q ((Txt.split a b).map .str)
/-- text.join(texts) -/
def dJoin (to te : ET) : ET := fun E η Q => to E η fun x => onStr x fun a => te E η fun y => ∃ ys : List Str, (y = .list (ys.map .str) ∨ y = .tuple (ys.map .str)) ∧ (ys.map (·.length)).sum + ys.length * a.length ≤ 16777216 ∧ Q (.str (Str.join a ys))
/-- str(x) -/
def fStr : CallD
  | [.int i], Q => i.natAbs.log2 < 1920 ∧ Q (.str (Str.ofString (toString i)))
  | [.str a], Q => Q (.str a)
  | _, _ => False
/-- int(text) -/
def fIntT : CallD
  | [.str a], Q => ∃ n, PySem.intText? a = some n ∧ a.length ≤ 640 ∧ Q (.int n)
  | _, _ => False
/-- one sign in a text -/
def oInSg : OpD
  | .str x, .str z, Q => ∃ c : Nat, x = ⟨#[c]⟩ ∧ Q (.bool (decide (c ∈ z.cps.toList)))
  | _, _, _ => False
end
/-! ### for sign in text -/
def sgD (c : Nat) : D := .str ⟨#[c]⟩
def iTxt (t : ET) : IT := fun E η Q => t E η fun d => onStr d fun z => Q (z.cps.toList.map sgD)
/-! ### the equations -/
section
variable {to te t : ET} {E : XP} {η : EnvD} {Q : D → Prop} {QL : List D → Prop} {x z : Str} {k : Str → Prop}
theorem x_onStr : onStr (.str x) k = k x := id rfl
theorem x_nSplit : nSplit to te E η QL = to E η (fun x => onStr x fun a => te E η fun y => onStr y fun b => ((b.length == 0) = false ∧ a.length + 2 ≤ sizeLine) ∧ QL ((Txt.split a b).map .str)) := id rfl
theorem x_dJoin : dJoin to te E η Q = to E η (fun x => onStr x fun a => te E η fun y => ∃ ys : List Str, (y = .list (ys.map .str) ∨ y = .tuple (ys.map .str)) ∧ (ys.map (·.length)).sum + ys.length * a.length ≤ 16777216 ∧ Q (.str (Str.join a ys))) := id rfl
theorem x_fStrI {i : Int} : fStr [.int i] Q = (i.natAbs.log2 < 1920 ∧ Q (.str (Str.ofString (toString i)))) := id rfl
theorem x_fStrS : fStr [.str x] Q = Q (.str x) := id rfl
theorem x_fIntT : fIntT [.str x] Q = (∃ n, PySem.intText? x = some n ∧ x.length ≤ 640 ∧ Q (.int n)) := id rfl
theorem x_oInSg : oInSg (.str x) (.str z) Q = (∃ c : Nat, x = ⟨#[c]⟩ ∧ Q (.bool (decide (c ∈ z.cps.toList)))) := id rfl
theorem x_iTxt : iTxt t E η QL = t E η (fun d => onStr d fun z => QL (z.cps.toList.map sgD)) := id rfl
end
end DL

/-! DM20: first, *rest = a list. -/
namespace DL
open PySem PySem.Spec PyProof.Rows L2
section
variable {prog : Program} {w : World} {A : Around} {E : Value → Shared → Prop} {s : Shared}
end
def gStar (K : PySem.W.Frag) (t : TGs) : TG := fun v σ H Q => ∃ (a : Addr) (x : V) (xs : List V), v = .ref a ∧ SqL K H a (x :: xs) ∧ ∀ p, H p = none → t [x, .ref p] σ (upd H p (.lst xs)) Q
section
variable {X : Cx} {e e1 e2 : Expr} {sp pos : Pos} {t : TGs} {k : Nat}
/-- first, *rest = e -/
def sStar1 (i j : Nat) (t : ET) : SD := fun E z η => t E η fun d => onLs d fun ds => ∃ x xs, ds = x :: xs ∧ z.nx ((η.set i (.dat x)).set j (.dat (.list xs)))
theorem x_sStar1 {i j : Nat} {te : ET} {E : XP} {z : EndsD} {η : EnvD} : sStar1 i j te E z η = te E η (fun d => onLs d fun ds => ∃ x xs, ds = x :: xs ∧ z.nx ((η.set i (.dat x)).set j (.dat (.list xs)))) := id rfl
end
end DL

/-! DM21: lists of lists that grow: [[..]], name.append(new), name[-1].append(e). -/
namespace DL
open PySem PySem.Spec PyProof.Rows L2
section
variable {K : PySem.W.Frag} {c : Ctx} {O : Addr → Prop} {η : EnvD} {σ : L2.St} {H H' : Hp} {fp fq : List Addr}
end
section
variable {X : Cx} {e : Expr} {t : ET} {pos apos npos p ipos : Pos}
/-- [new] -/
def dDisp1 (t : ET) : ET := fun E η Q => t E η fun d => Q (.list [d])
def onMf (o : Option Cell) (k : List D → Prop) : Prop := match o with | some (.mtb false (.list ds) _) => k ds | _ => False
/-- name.append(new) -/
def sAppM (i : Nat) (t : ET) : SD := fun E z η => onMf η[i]? fun ds => t E (lend η) fun d => ds.length < sizeLine ∧ ∀ fp, z.nx (η.set i (.mtb false (.list (ds ++ [d])) fp))
/-- name[k].append(e) -/
def sAppR (i : Nat) (tk tv : ET) : SD := fun E z η => onMf η[i]? fun ds => tk E (lend η) fun d => onInt d fun k => ∃ m r, (ixN ds.length k = some m ∧ ds[m]? = some (.list r) ∧ flatAll r = true) ∧ tv E (lend η) fun v => (flat v = true ∧ r.length < sizeLine) ∧ ∀ fp, z.nx (η.set i (.mtb false (.list (ds.set m (.list (r ++ [v])))) fp))
/-! ### the equations -/
section
variable {i : Nat} {tk tv : ET} {E : XP} {z : EndsD} {η : EnvD} {Q : D → Prop} {k : List D → Prop} {ds : List D} {fp : List Addr}
theorem x_dDisp1 : dDisp1 t E η Q = t E η (fun d => Q (.list [d])) := id rfl
theorem x_onMf : onMf (some (.mtb false (.list ds) fp)) k = k ds := id rfl
theorem x_sAppM : sAppM i t E z η = onMf η[i]? (fun ds => t E (lend η) fun d => ds.length < sizeLine ∧ ∀ fp, z.nx (η.set i (.mtb false (.list (ds ++ [d])) fp))) := id rfl
theorem x_sAppR : sAppR i tk tv E z η = onMf η[i]? (fun ds => tk E (lend η) fun d => onInt d fun k => ∃ m r, (ixN ds.length k = some m ∧ ds[m]? = some (.list r) ∧ flatAll r = true) ∧ tv E (lend η) fun v => (flat v = true ∧ r.length < sizeLine) ∧ ∀ fp, z.nx (η.set i (.mtb false (.list (ds.set m (.list (r ++ [v])))) fp))) := id rfl
end
end
end DL

/-! DM22: return f(.., table): the parameter that the callee tells, given away. -/
namespace DL
open PySem PySem.Spec PyProof.Rows L2
def onFz (o : Option Cell) (k : D → Prop) : Prop := match o with | some (.mtb false m _) => k m | _ => False
def sRetSelfM (i : Nat) (wf : FM) (ts : CT) : SD := fun E z η => ts E η fun cs => wf never cs fun d m' => d = selfD ∧ onFz (stM η[i]? i m' η)[i]? z.rt
section
variable {X : Cx} {e : Expr} {ts : CT} {pos : Pos} {wf : FM}
theorem x_onFz {m : D} {fp : List Addr} {k : D → Prop} : onFz (some (.mtb false m fp)) k = k m := id rfl
theorem x_sRetSelfM {i : Nat} {E : XP} {z : EndsD} {η : EnvD} : sRetSelfM i wf ts E z η = ts E η (fun cs => wf never cs fun d m' => d = selfD ∧ onFz (stM η[i]? i m' η)[i]? z.rt) := id rfl
end
end DL

/-! DLe7: try with several clauses `except C as n`. -/
namespace L2
open PySem PySem.Spec PyProof.Rows
abbrev Cls2 := List (Value × (Addr → Value → Option Addr → TS))
def unset (i : Nat) (D : Ends) : Ends := { nx := fun σ' H' => D.nx (σ'.set i none) H', rt := D.rt, bk := fun σ' H' => D.bk (σ'.set i none) H', ct := fun σ' H' => D.ct (σ'.set i none) H' }
def wManyAs (K : PySem.W.Frag) (Wout : WX) (i : Nat) (D : Ends) : Cls2 → WX
  | [] => Wout
  | (c, ts) :: r => fun cls d σ H => ∃ b, PySem.W.exmOne K cls c = some b ∧ (b = true → ∀ a, H a = none → ts a cls d (unset i D) (σ.set i (some (.ref a))) H) ∧ (b = false → wManyAs K Wout i D r cls d σ H)
inductive HdsAs (X : Cx) (n : Str) : List ExceptHandler → Cls2 → Prop
  | nil : HdsAs X n [] []
  | cons {x : Str} {c : Value} {ts : Addr → Value → Option Addr → TS} {b₀ : Stmt} {suite : List Stmt} {np pos' : Pos} {hds : List ExceptHandler} {l : Cls2} (hc : Names X x c)
      (hsu : ∀ (a : Addr) (oe : Obj) (cls : Value) (d : Option Addr) (pn : List (Addr × Obj)), Zc cls d oe → (∃ vs, oe.data = .fields vs) → PSs (X.suite a ((a, oe) :: pn)) (b₀ :: suite) (ts a cls d)) (r : HdsAs X n hds l) :
      HdsAs X n (.ExceptHandler (some (.Name x np)) (some n) (b₀ :: suite) pos' :: hds) ((c, ts) :: l)
section
variable {X : Cx} {body : List Stmt} {h₀ : ExceptHandler} {hds : List ExceptHandler} {l : Cls2} {pos : Pos} {tb : WX → TS} {Wout : WX} {n : Str} {i : Nat} {pins : List (Addr × Obj)} {D : Ends}
end
end L2
namespace DL
open PySem PySem.Spec PyProof.Rows L2
abbrev HdL := List (Str × List Str × (List D → D))
/-- what the clauses tell of an exception -/
def hearN (R : D → Prop) (nm : Str) (fs : List (Str × D)) : HdL → Prop
  | [] => False
  | (cn, fl, k) :: r => if nm = cn then fs.map (·.1) = fl ∧ R (k (fs.map (·.2))) else hearN R nm fs r
def sTryN (t : SD) (l : HdL) : SD := fun E z η => t (fun nm fs => hearN z.rt nm fs l) z η
/-- the suite's reading brings the value k of the fields -/
def Brings (X : Cx) (i : Nat) (C : Addr) (fl : List Str) (k : List D → D) (ts : Addr → Value → Option Addr → TS) : Prop :=
  ∀ (a dx : Addr) (fs : List (Str × V)) (Z : Ends) (σ : L2.St) (H : Hp), i < σ.length → fs.map (·.1) = fl → H dx = some (.xd fs) →
    (∀ (u : V) (H' : Hp), (∀ (B : Addr → Prop) (G : Option (Addr × Addr)) (ds : List D), (∀ a, B a → H a ≠ none) → DrawOk G H → RepAll X.K B H (fs.map (·.2)) ds → Step G H H' ∧ Rep X.K B H' u (k ds)) → Z.rt u H') → ts a (.ref C) (some dx) Z (σ.set i (some (.ref a))) H
inductive HdsD (X : Cx) (n : Str) (i : Nat) : List ExceptHandler → HdL → Prop
  | nil : HdsD X n i [] []
  | cons {cn : Str} {fl : List Str} {k : List D → D} {C : Addr} {ts : Addr → Value → Option Addr → TS} {b₀ : Stmt} {suite : List Stmt} {np pos' : Pos} {hds : List ExceptHandler} {l : HdL} (hg : Gl X cn) (hdb : (cn == ("__debug__" : Str)) = false) (hm : X.mg cn = some (.ref C))
      (hsu : ∀ (a : Addr) (oe : Obj) (cls : Value) (d : Option Addr) (pn : List (Addr × Obj)), Zc cls d oe → (∃ vs, oe.data = .fields vs) → PSs (X.suite a ((a, oe) :: pn)) (b₀ :: suite) (ts a cls d)) (br : Brings X i C fl k ts) (r : HdsD X n i hds l) :
      HdsD X n i (.ExceptHandler (some (.Name cn np)) (some n) (b₀ :: suite) pos' :: hds) ((cn, fl, k) :: l)
/-- of two of the classes none is under the other -/
def Apart (K : PySem.W.Frag) (mg : Str → Option Value) (l : List Str) : Prop := ∀ x ∈ l, ∀ y ∈ l, ∀ C C', mg x = some (.ref C) → mg y = some (.ref C') → PySem.W.exmOne K (.ref C) (.ref C') = some (decide (x = y))
section
variable {X : Cx} {n : Str} {i : Nat} {hds : List ExceptHandler} {h₀ : ExceptHandler} {l : HdL} {body : List Stmt} {t : SD} {pos : Pos}
theorem HdsD.raw (h : HdsD X n i hds l) : ∃ l2 : Cls2, HdsAs X n hds l2 ∧ ∀ {R : DL.D → Prop} {Wout : WX} {Z : Ends} {nm : Str} {C' dx : Addr} {fs : List (Str × DL.D)} {vs : List (Str × V)} {σ : L2.St} {H : Hp},
    (∀ y ∈ l.map (·.1), ∀ C, X.mg y = some (.ref C) → PySem.W.exmOne X.K (.ref C') (.ref C) = some (decide (nm = y))) → hearN R nm fs l → X.mg nm = some (.ref C') → i < σ.length → H dx = some (.xd vs) → vs.map (·.1) = fs.map (·.1) →
      (∀ (u : V) (H2 : Hp) (k : List DL.D → DL.D), (∀ (B : Addr → Prop) (G : Option (Addr × Addr)) (ds : List DL.D), (∀ a, B a → H a ≠ none) → DrawOk G H → RepAll X.K B H (vs.map (·.2)) ds → Step G H H2 ∧ Rep X.K B H2 u (k ds)) → R (k (fs.map (·.2))) → Z.rt u H2) →
      wManyAs X.K Wout i Z l2 (.ref C') (some dx) σ H := by
  induction h with
  | nil => exact ⟨[], .nil, fun _ hh => hh.elim⟩
  | @cons cn fl k C ts b₀ suite np pos' hds l hg hdb hm hsu br r ih =>
    obtain ⟨l2, k1, k2⟩ := ih
    refine ⟨(.ref C, ts) :: l2, .cons ⟨hg, hdb, .inl hm⟩ hsu k1, fun {R Wout Z nm C' dx fs vs σ H} hx hh hC hi hd hv fin => ?_⟩
    refine ⟨_, hx cn List.mem_cons_self C hm, fun e a na => ?_, fun e => ?_⟩
    · have e := of_decide_eq_true e
      subst e
      rw [hm] at hC
      cases hC
      rw [hearN, if_pos rfl] at hh
      exact br a dx vs _ σ H hi (hv.trans hh.1) hd fun u H' kk => fin u H' k kk hh.2
    · have e := of_decide_eq_false e
      rw [hearN, if_neg e] at hh
      exact k2 (fun y hy => hx y (List.mem_cons_of_mem _ hy)) hh hC hi hd hv fin
theorem HdsD.cls (h : HdsD X n i hds l) {nm : Str} (hm : nm ∈ l.map (·.1)) : ∃ C, X.mg nm = some (.ref C) := by
  induction h with
  | nil => cases hm
  | cons _ _ hC _ _ _ ih =>
    rcases List.mem_cons.mp hm with rfl | z
    · exact ⟨_, hC⟩
    · exact ih z
end
end DL
namespace DL
open PySem PySem.Spec PyProof.Rows L2
section
variable {X : Cx} {n f f2 cn c : Str} {i : Nat} {hds : List ExceptHandler} {l : HdL} {C : Addr} {np pos' p1 p2 p3 p4 p5 p6 pc : Pos} {j x1 : Nat}
theorem x_sTryN {t : SD} {l : HdL} {E : XP} {z : EndsD} {η : EnvD} : sTryN t l E z η = t (fun nm fs => hearN z.rt nm fs l) z η := id rfl
end
end DL

/-! DLe8: an exception class of the program with two fields. -/
namespace DL
open PySem PySem.Spec PyProof.Rows L2
/-- the body of such an __init__ -/
abbrev exBody2 (fld fld2 msg : Str) (j : Nat) (p0 p1 p2 p3 p4 p5 p6 p7 p8 p9 p10 p11 p12 p13 : Pos) : List Stmt :=
  [.Expr (.Call (.Attribute (.Call (.Name "super" p0) [] [] p1) "__init__" p2) [.Constant (.str msg) j p3] [] p4) p5, .Assign [.Attribute (.Name "self" p6) fld p7] (.Name fld p8) p9, .Assign [.Attribute (.Name "self" p10) fld2 p11] (.Name fld2 p12) p13]
section
variable {M : Model} {A : Around} {E : Value → Shared → Prop} {hp : Heap} {g : Array GenState} {dr : Drawn} {t : Nat} {os : OsState} {x C t1 dx : Addr} {cd : ClassData} {name : Str} {tk : Tok} {v : Value} {m0 : Str → Option Value} {nl : List Str} {Q : Fin → Shared → Prop} {b : Bool}
theorem own_old (hx : hp.get? x = some (exObj C t1 (some dx))) (hn : hp.Ns1 dx m0) (hw : Within m0 nl) (hz : nl.length ≤ 1000) (hcls : PySem.W.Looks M hp (classData C) cd) (hh : cd.hasDict = true)
    (hq : ∀ h' tk', h'.Ns1 dx (fun y => if y = name then some v else m0 y) → Heap.SameBut dx hp h' → Q (.done (.ret .none)) ⟨h', g, dr, tk', os⟩) : wpAny M A (Builtin.ObjectAttr.storeInOwnDict (.ref x) (.ref C) (.str name tk) name v b) Q E ⟨hp, g, dr, t, os⟩ := by
  obtain ⟨nm, bs, mro, ns, qn, hd, sn, sb, ab, col, del⟩ := cd
  dsimp only at hh
  subst hh
  unfold Builtin.ObjectAttr.storeInOwnDict Builtin.ObjectAttr.ownDictForStores
  repeat (first | with_reducible refine PySem.OEX.store_in_old hn hw hz ?_ | with_reducible refine wpAny_loadPart_at hx ?_ | with_reducible refine hcls.at ?_ | wp_step)
  intro h' tk' hn' hs
  exact hq h' tk' hn' hs
end
section
variable {prog : Program} {w : World} {A : Around} {K : PySem.W.Frag} {B newId initId : String} {bmB : List Value} {C fI cc cda : Addr} {fld fld2 msg q : Str} {scope : Scope} {p0 p1 p2 p3 p4 p5 p6 p7 p8 p9 p10 p11 p12 p13 : Pos} {j : Nat} {params : Arguments} {fd : FuncData}
theorem ex_init2 {R : Result → Shared → Prop} {hp : Heap} {g : Array GenState} {d : Drawn} {t : Nat} {os : OsState} {e t0 : Addr} {v v2 : Value} {mg mb : Str → Option Value} {ar : Args}
    (F : ExFacts prog K B newId initId bmB C fld fI cc cda q params (exBody2 fld fld2 msg j p0 p1 p2 p3 p4 p5 p6 p7 p8 p9 p10 p11 p12 p13) scope fd) (S : ExScope scope fld) (hl2 : scope.names.lookup fld2 = some .local) (hdb2 : (fld2 == ("__debug__" : Str)) = false) (hne2 : fld2 ≠ "self") (hne12 : fld2 ≠ fld) (noF2 : PySem.W.takerIn K C fld2 = some none) (hc : SuperCall msg j p0 p1 p2 p3 p4) (hsw : NoSwap fld msg j p0 p1 p2 p3 p4 p5 p6 p7 p8 p9) (hsw2 : ∀ env : Env, swapsWith (.Name fld2 p12) (some (.Attribute (.Name "self" p10) fld2 p11)) p13.line env = pure false) (hpar : (params.posonlyargs ++ params.args).head?.map (·.arg) = some ("self" : Str))
    (X : K.In hp) (hKe : K.lookup e = none) (he : hp.get? e = some (exObj C t0 none)) (hG : hp.Ns mainGlobals mg) (hs : mg "super" = none) (hB : hp.Ns builtinsNs mb) (hb : mb "super" = some (.type "super")) (lim : hp.NoLimit) (room : A.depth < recursionLimit)
    (hbind : BindsTo ⟨hp, g, d, t, os⟩ fd ar [("self", .ref e), (fld, v), (fld2, v2)])
    (hq : ∀ h' dx t1 tk, (∀ b o, b ≠ e → hp.get? b = some o → h'.get? b = some o) → hp.objs.size ≤ dx → dx ≠ e → h'.get? e = some (exObj C t1 (some dx)) → h'.Ns1 dx (fun y => if y = fld2 then some v2 else if y = fld then some v else none) → R (.ok (.ret .none)) ⟨h', g, d, tk, os⟩) :
    codeAny (model prog w) A (.call (.ref fI) ar) R ⟨hp, g, d, t, os⟩ := by
  obtain ⟨oc, od, osl, lk⟩ := F.fn
  obtain ⟨dV, kV, doc, pm, an, ct, hfd⟩ := F.fdE
  subst hfd
  obtain ⟨ccl, cdd, vs, ccs, f, tf, lc, hvs, hfile⟩ := F.file
  obtain ⟨cl, cld, csl, lcell⟩ := F.cell
  obtain ⟨ar, har, hself⟩ := Option.map_eq_some_iff.mp hpar
  refine ks_codeAny_call_defAt (fd := PySem.W.ksFn "__init__" q params (exBody2 fld fld2 msg j p0 p1 p2 p3 p4 p5 p6 p7 p8 p9 p10 p11 p12 p13) scope dV kV doc pm an (.ref cda) ct cc) (binds := [("self", .ref e), (fld, v), (fld2, v2)]) room (X _ _ lk) rfl lim (PySem.W.codeRec_of X F.code) rfl hbind S.cells ?_ (fun h1 hns k1 => ?_) S.co S.gen S.kind
  · intro y hy
    simp only [List.mem_cons, List.not_mem_nil, or_false] at hy
    rcases hy with rfl | rfl | rfl
    · exact S.self
    · exact S.fldL
    · exact hl2
  have X1 : K.In h1 := X.keeps k1
  have e1 := k1 _ _ he
  have hL : e ≠ hp.objs.size := Nat.ne_of_lt (Heap.lt_size he)
  obtain ⟨cdD, hcd⟩ : ∃ cd, PySem.W.clsIn K C = some cd := by
    have := F.sup
    unfold PySem.W.ks_superIn at this
    cases h : PySem.W.clsIn K C with
    | none => rw [h] at this; cases this
    | some cd => exact ⟨cd, rfl⟩
  obtain ⟨oD, hD1, hD2⟩ : ∃ oD, h1.get? C = some oD ∧ oD.data = .cls cdD := by
    have hD := hcd
    unfold PySem.W.clsIn at hD
    split at hD
    · rename_i c d cd' sl ho
      cases hD
      exact ⟨_, X1 _ _ ho, rfl⟩
    · cases hD
  have hsup : PySem.W.alongIn K "__init__" ((cdD.mro.dropWhile (· != .ref C)).drop 1) = some (some (.builtin initId)) := by
    have := F.sup
    unfold PySem.W.ks_superIn at this
    rw [hcd] at this
    exact this
  have I1 : PySem.W.InstAt h1 e (exObj C t0 none) C none := ⟨e1, rfl, rfl, trivial⟩
  obtain ⟨pl, hc⟩ := hc (callEnv (PySem.W.ksFn "__init__" q params (exBody2 fld fld2 msg j p0 p1 p2 p3 p4 p5 p6 p7 p8 p9 p10 p11 p12 p13) scope dV kV doc pm an (.ref cda) ct cc) hp.objs.size fI)
  have hint : interactive (callEnv (PySem.W.ksFn "__init__" q params (exBody2 fld fld2 msg j p0 p1 p2 p3 p4 p5 p6 p7 p8 p9 p10 p11 p12 p13) scope dV kV doc pm an (.ref cda) ct cc) hp.objs.size fI) = false := by
    unfold interactive
    show (scope.kind == _ && _) = false
    rw [S.kind]
    rfl
  have look1 : List.lookup ("self" : Str) ([("self", Value.ref e), (fld, v), (fld2, v2)] : List (Str × Value)).reverse = some (.ref e) := by
    show List.lookup ("self" : Str) [(fld2, v2), (fld, v), ("self", Value.ref e)] = _
    have h1 : (("self" : Str) == fld) = false := beq_eq_false_iff_ne.mpr (Ne.symm S.ne)
    have h2 : (("self" : Str) == fld2) = false := beq_eq_false_iff_ne.mpr (Ne.symm hne2)
    simp [List.lookup, h1, h2]
  have look2 : List.lookup fld ([("self", Value.ref e), (fld, v), (fld2, v2)] : List (Str × Value)).reverse = some v := by
    show List.lookup fld [(fld2, v2), (fld, v), ("self", Value.ref e)] = _
    have h1 : (fld == fld2) = false := beq_eq_false_iff_ne.mpr (Ne.symm hne12)
    simp [List.lookup, h1]
  have look3 : List.lookup fld2 ([("self", Value.ref e), (fld, v), (fld2, v2)] : List (Str × Value)).reverse = some v2 := by
    show List.lookup fld2 [(fld2, v2), (fld, v), ("self", Value.ref e)] = _
    simp [List.lookup]
  refine ks_wpAt_execs_cons (ks_wpAt_Expr_any (ks_wpAt_MethodCall (pl := pl) ?_ hc) hint (hsw _).1)
  refine ks_wpAt_super_base (env := PySem.W.ksEnv q scope hp.objs.size fI (.ref cda) cc) S.sup S.cls (by decide) rfl (k1 _ _ (X _ _ lk)) rfl har rfl (k1 _ _ (X _ _ lc)) rfl hvs hfile F.noSuper ?_
  refine PySem.W.ks_loadName_global S.kind S.sup (Calls.loadGlobal_builtin (env := PySem.W.ksEnv q scope hp.objs.size fI (.ref cda) cc) (hG.keeps k1) hs (hB.keeps k1) hb ⟨rfl, ?_⟩)
  refine wpAny_loadName_free S.kind S.cls rfl ⟨_, X1 _ _ lcell, rfl⟩ ?_
  refine wpAny_loadName_local S.kind (by show scope.names.lookup ar.arg = some .local; rw [hself]; exact S.self) hns (v := .ref e) (by rw [hself]; exact look1) ?_
  refine ks_wpAny_isType_cls hD1 hD2 ⟨rfl, ?_⟩
  refine ks_wpAny_call_super hD1 hD2 e1 rfl (fun c z => by cases z) (PySem.W.looks_mroIn X1 F.sub) (fun h2 e2 k2 => ?_)
  have X2 : K.In h2 := X1.keeps k2
  have I2 : PySem.W.InstAt h2 e (exObj C t0 none) C none := ⟨k2 _ _ e1, rfl, rfl, trivial⟩
  refine PySem.W.kxs_getMethod F.kxs e2 (PySem.W.looks_opaque X2 F.noAny) (l₀ := cdD.mro) (fun A Q E s k q => wpAny_bind ((PySem.W.looks_clsIn X2 hcd) A _ E s k (wpAny_pure q))) rfl X2 hsup (I2.type.andThen (PySem.W.looks_subIn X2 F.subB)) (PySem.W.ks_ne X2 I2 hcd) (by decide) ?_
  have e3 : (h2.push (PySem.W.kxs_mw initId e)).get? h2.objs.size = some (PySem.W.kxs_mw initId e) := Heap.get?_push_at rfl rfl
  have k3 : ∀ b o, h2.get? b = some o → (h2.push (PySem.W.kxs_mw initId e)).get? b = some o := fun b o z => Heap.get?_push_of_some _ z
  refine PySem.W.kxs_callWith (i := initId) (x := e) (by rfl) (Calls.evalArgs_plain (Calls.spliced_cons (Calls.Constant_str (k := j) (pos := p3) ?_)))
  refine Calls.spliced_nil ⟨e3, ?_⟩
  have he3 : (h2.push (PySem.W.kxs_mw initId e)).get? e = some (exObj C t0 none) := k3 _ _ (k2 _ _ e1)
  refine mw_call F.base (X2.keeps k3) F.cls e3 he3 fun h4 k4 e4 => ?_
  have k4' : ∀ b o, b ≠ e → hp.get? b = some o → h4.get? b = some o := fun b o n z => k4 b o n (k3 _ _ (k2 _ _ (k1 _ _ z)))
  have X4 : K.In h4 := fun b o z => k4 b o (fun y => by rw [y, hKe] at z; cases z) (X2.keeps k3 b o z)
  have hns4 : h4.Ns hp.objs.size (fun y => List.lookup y ([("self", Value.ref e), (fld, v), (fld2, v2)] : List (Str × Value)).reverse) := by
    obtain ⟨oL, esL, epL, hoL, r⟩ := hns
    exact ⟨oL, esL, epL, k4 _ _ (Ne.symm hL) (k3 _ _ (k2 _ _ hoL)), r⟩
  have zL : hp.objs.size < h4.objs.size := by
    obtain ⟨oL, esL, epL, hoL, r⟩ := hns4
    exact Heap.lt_size hoL
  show PySem.wpAt _ _ _ (execs _ _) _ _ _
  refine ks_wpAt_execs_cons (wpAt_of_wpAny (plainObj_wpAny_Assign_Attribute ?_ (hsw _).2))
  refine wpAny_Name (wpAny_loadName_local S.kind S.fldL hns4 look2 ?_) S.dbg
  refine wpAny_Name (wpAny_loadName_local S.kind S.self hns4 look1 ?_) (by decide)
  have I4 : PySem.W.InstAt h4 e (exObj C _ none) C none := ⟨e4, rfl, rfl, trivial⟩
  refine PySem.W.set_plain X4 I4 F.sa ?_
  refine PySem.W.osa_openX (od := none) F.sto X4 I4 F.over F.noF fun b => ?_
  obtain ⟨cd9, hc9, hd9⟩ := PySem.W.any_some F.hasD
  have hxs : e < h4.objs.size := Heap.lt_size e4
  refine wpAny_bind (wpAny_pure (wpAny_bind (PySem.W.instanceDict_exc e4 (PySem.W.looks_clsIn X4 hc9) hd9 ?_)))
  show wpAny _ _ (Builtin.ObjectAttr.storeInDict h4.objs.size (.str fld _) fld v) _ _ _
  refine HandSPX.store_in_new ?_ fun h5 tk5 hn5 hs5 => ?_
  · have hdn := (Heap.get?_update_ne (h4.push (PySem.W.dictOf [] 0)) h4.objs.size e (fun o => { o with dict := some h4.objs.size }) (Nat.ne_of_gt hxs)).trans (Heap.get?_push_at rfl rfl)
    exact ⟨_, #[], 0, hdn, rfl, fun e he => absurd he (by simp), fun _ => rfl⟩
  · have e5 : h5.get? e = some (exObj C (h2.push (PySem.W.kxs_mw initId e)).objs.size (some h4.objs.size)) := (hs5.2 e (Nat.ne_of_lt hxs)).trans (Heap.get?_update_self _ (Heap.get?_push_of_some _ e4) rfl)
    have k5 : ∀ b o, b ≠ e → h4.get? b = some o → h5.get? b = some o := fun b o n z => (hs5.2 b (Nat.ne_of_lt (Heap.lt_size z))).trans ((Heap.get?_update_ne _ _ _ _ n).trans (Heap.get?_push_of_some _ z))
    have X5 : K.In h5 := fun b o z => k5 b o (fun y => by rw [y, hKe] at z; cases z) (X4 b o z)
    have hns5 : h5.Ns hp.objs.size (fun y => List.lookup y ([("self", Value.ref e), (fld, v), (fld2, v2)] : List (Str × Value)).reverse) := by
      obtain ⟨oL, esL, epL, hoL, r⟩ := hns4
      exact ⟨oL, esL, epL, k5 _ _ (Ne.symm hL) hoL, r⟩
    have hw5 : Within (fun y => if y = fld then some v else none) [fld] := fun y hy => by
      by_cases ey : y = fld
      · exact List.mem_singleton.mpr ey
      · exact absurd (if_neg ey) hy
    obtain ⟨oD5, esD5, epD5, hoD5, hdD5, _⟩ := hn5.count hw5
    have I5 : PySem.W.InstAt h5 e (exObj C _ (some h4.objs.size)) C (some oD5) := ⟨e5, rfl, rfl, hoD5⟩
    refine ks_wpAt_execs_cons (wpAt_of_wpAny (plainObj_wpAny_Assign_Attribute ?_ (hsw2 _)))
    refine wpAny_Name (wpAny_loadName_local S.kind hl2 hns5 look3 ?_) hdb2
    refine wpAny_Name (wpAny_loadName_local S.kind S.self hns5 look1 ?_) (by decide)
    refine PySem.W.set_plain X5 I5 F.sa ?_
    refine PySem.W.osa_openX (od := some oD5) F.sto X5 I5 F.over noF2 fun b => ?_
    show wpAny _ _ (Builtin.ObjectAttr.storeInOwnDict (.ref e) (.ref C) (.str fld2 _) fld2 v2 b) _ _ _
    obtain ⟨cd5, hc5, hd5⟩ := PySem.W.any_some F.hasD
    have hcls : PySem.W.Looks (model prog w) h5 (classData C) cd5 := PySem.W.looks_clsIn X5 hc5
    have hd5 : cd5.hasDict = true := hd5
    refine own_old e5 hn5 hw5 (by show 1 ≤ 1000; decide) hcls hd5 fun h6 tk6 hn6 hs6 => ?_
    refine wpAt_of_wpAny (wpAny_execs_nil ?_)
    refine hq h6 h4.objs.size _ _ (fun b o n z => ?_) (Nat.le_of_lt zL) (Nat.ne_of_gt hxs) ((hs6.2 e (Nat.ne_of_lt hxs)).trans e5) hn6
    have z4 := k4' b o n z
    exact (hs6.2 b (Nat.ne_of_lt (Heap.lt_size z4))).trans (k5 b o n z4)
end
def tMkS2 (C : Addr) (f f2 : Str) (ta : TA) : L2.St → Hp → XK → Prop := fun σ H Q => ta σ H fun vs H1 => ∃ v v2, vs = [v, v2] ∧ ∀ dx, H1 dx = none → Q (.ref C) (some dx) (upd H1 dx (.xd [(f, v), (f2, v2)]))
section
variable {X : Cx} {B newId initId : String} {bmB : List Value} {C fI cc cda : Addr} {fld fld2 msg q : Str} {scope : Scope} {p0 p1 p2 p3 p4 p5 p6 p7 p8 p9 p10 p11 p12 p13 : Pos} {j : Nat} {params : Arguments} {fd : FuncData} {x : Str} {e e2 : Expr} {ta : TA} {p pos : Pos}
theorem pmk_super2 (F : ExFacts X.prog X.K B newId initId bmB C fld fI cc cda q params (exBody2 fld fld2 msg j p0 p1 p2 p3 p4 p5 p6 p7 p8 p9 p10 p11 p12 p13) scope fd) (S : ExScope scope fld) (hl2 : scope.names.lookup fld2 = some .local) (hdb2 : (fld2 == ("__debug__" : Str)) = false) (hne2 : fld2 ≠ "self") (hne12 : fld2 ≠ fld) (noF2 : PySem.W.takerIn X.K C fld2 = some none) (hc : SuperCall msg j p0 p1 p2 p3 p4) (hsw : NoSwap fld msg j p0 p1 p2 p3 p4 p5 p6 p7 p8 p9) (hsw2 : ∀ env : Env, swapsWith (.Name fld2 p12) (some (.Attribute (.Name "self" p10) fld2 p11)) p13.line env = pure false)
    (hpar : (params.posonlyargs ++ params.args).head?.map (·.arg) = some ("self" : Str)) (hr : Room 1 X.A) (hb : Binds X.K fd ["self", fld, fld2] []) (hs : X.mg "super" = none) (hg : Gl X x) (hm : X.mg x = some (.ref C)) (ha : PA X [e, e2] ta)
    (hdb : (x == ("__debug__" : Str)) = false := by decide) (he : starEach [e, e2] X.env = (false, eval e X.env) :: starEach [e2] X.env := by rfl) (hpl : (backTo pos (starEach [e2] X.env)).any (·.1) = false := by rfl) : PMk X (.Call (.Name x p) [e, e2] [] pos) (tMkS2 C fld fld2 ta) := by
  intro pins s σ H Q I h
  refine wpAny_Call_Name_kw (ld_glob I hg hm ?_ hdb)
  refine PySem.W.callWith_K (h₀ := X.base) I.ok.mod.kin F.kC (thn (ha.run pos pins s σ H _ I h) fun us s1 ⟨vs, H1, I1, r1, v, v2, ev, q1⟩ => ⟨I1.kIn, ?_⟩) he hpl
  subst ev
  obtain ⟨u, u2, rfl, ru, ru2⟩ : ∃ u u2, us = [u, u2] ∧ RelV v u ∧ RelV v2 u2 := by
    cases r1 with
    | cons a b =>
      cases b with
      | cons c d =>
        cases d
        exact ⟨_, _, rfl, a, c⟩
  show wpAny _ _ (call (.ref C) [u, u2]) _ _ _
  obtain ⟨hp, g, dr, tk, os⟩ := s1
  obtain ⟨nm, N', qn, bs, bm, hdct, sn, sub, ab, col, dd, k0, k1, k2, k3, k5, hC, hT⟩ := PySem.W.excInit_of I1.kIn F.cls
  have kk : ∀ b o, hp.get? b = some o → ((hp.push (PySem.W.kdv_tup [u, u2])).push (PySem.HandSPX.excO C hp.objs.size)).get? b = some o := fun b o e => Heap.get?_push_of_some _ (Heap.get?_push_of_some _ e)
  have hget : ((hp.push (PySem.W.kdv_tup [u, u2])).push (PySem.HandSPX.excO C hp.objs.size)).get? (hp.objs.size + 1) = some (PySem.HandSPX.excO C hp.objs.size) := by heap_get
  have hz2 : ((hp.push (PySem.W.kdv_tup [u, u2])).push (PySem.HandSPX.excO C hp.objs.size)).objs.size = hp.objs.size + 2 := by rw [Heap.size_push, Heap.size_push]
  have KI : X.K.In hp := I1.kIn
  obtain ⟨mb, hB, hB2⟩ := I1.mod.blt
  have glob : hp.Ns mainGlobals X.mg := I1.mod.glob.keeps I1.bk
  have bl : hp.Ns builtinsNs mb := hB.keeps I1.bk
  have lim : hp.NoLimit := I1.mod.nolimit.keeps I1.bk
  refine wpAny_call (PySem.HandSPX.call_own F.base hT hC (PySem.W.looks_findIn I1.kIn F.ini) (fun self => PySem.W.bind_fn I1.kIn self F.iniT) (show 2 ≤ sizeLine by rw [sizeLine_eq]; decide) ?_)
  generalize (hp.push (PySem.W.kdv_tup [u, u2])).push (PySem.HandSPX.excO C hp.objs.size) = h3 at *
  have hKe : X.K.lookup (hp.objs.size + 1) = none := by
    cases z : X.K.lookup (hp.objs.size + 1) with
    | none => rfl
    | some o => exact absurd (Heap.lt_size (KI _ _ z)) (Nat.not_lt_of_le (Nat.le_succ _))
  refine ex_init2 F S hl2 hdb2 hne2 hne12 noF2 hc hsw hsw2 hpar (KI.keeps kk) hKe hget (glob.keeps kk) hs (bl.keeps kk) ((hB2 "super" (by decide)).trans (by decide +kernel)) (lim.keeps kk) (hr.make C [u, u2] []).depth (hb _ [_, u, u2] (KI.keeps kk) rfl) fun h' dx t1 tk' k hdx hne hex hns => ?_
  obtain ⟨G, gk1, gk2⟩ := restrict h' fun b => decide (b ≠ hp.objs.size + 1)
  have gk : ∀ b, b ≠ hp.objs.size + 1 → G.get? b = h'.get? b := fun b hb => gk1 b (decide_eq_true hb)
  have ge : G.get? (hp.objs.size + 1) = none := gk2 _ (by simp)
  have nha : ∀ {b : Addr} {o : Obj}, hp.get? b = some o → b ≠ hp.objs.size + 1 := fun {b o} z e => by
    rw [e] at z
    exact absurd (Heap.lt_size z) (Nat.not_lt_of_le (Nat.le_succ _))
  have hd1 : hp.objs.size ≤ dx := Nat.le_trans (by rw [hz2]; exact Nat.le_add_right _ _) hdx
  have J : Inv X pins σ (upd H1 dx (.xd [(fld, v), (fld2, v2)])) { ({ heap := hp, gens := g, drawn := dr, toks := tk, os := os } : Shared) with heap := G, toks := tk' } := by
    refine I1.laid (t' := tk') (fun b o z => ?_) hd1 ?_
    · rw [gk b (nha z)]
      exact k b o (nha z) (kk b o z)
    · refine ⟨_, hns.at fun o y => (gk dx hne).trans y, fun f => ?_⟩
      have n21 : (fld2 == fld) = false := beq_eq_false_iff_ne.mpr hne12
      by_cases e2 : f = fld2
      · subst e2
        simp [List.lookup, n21]
        exact ru2
      · have b2 : (f == fld2) = false := beq_eq_false_iff_ne.mpr e2
        by_cases ef : f = fld
        · subst ef
          simp [List.lookup, e2]
          exact ru
        · have : (f == fld) = false := beq_eq_false_iff_ne.mpr ef
          simp [List.lookup, this, ef, b2, e2]
          trivial
  refine ⟨rfl, hp.objs.size + 1, _, _, _, _, .ref C, some dx, rfl, J, fun b o z => ?_, ge, hex, ⟨rfl, rfl⟩, rfl, rfl, ?_, rfl, I1.bare, raises_own F.exC F.tyC, q1 dx (I1.hok.fresh hd1)⟩
  · by_cases hb' : b = hp.objs.size + 1
    · rw [hb', ge] at z
      cases z
    · exact (gk b hb').symm.trans z
  · rw [upd_ne (Ne.symm hne)]
    exact I1.hok.fresh (Nat.le_succ _)
end
end DL
namespace DL
open PySem PySem.Spec PyProof.Rows L2
structure ClsIn2 (P : Program) (K : PySem.W.Frag) (mg : Str → Option Value) (nm fld fld2 : Str) : Prop where
  ex : ∃ (C fI cc cda : Addr) (B newId initId : String) (bmB : List Value) (q : Str) (params : Arguments) (scope : Scope) (fd : FuncData) (msg : Str) (j : Nat) (p0 p1 p2 p3 p4 p5 p6 p7 p8 p9 p10 p11 p12 p13 : Pos),
    ExFacts P K B newId initId bmB C fld fI cc cda q params (exBody2 fld fld2 msg j p0 p1 p2 p3 p4 p5 p6 p7 p8 p9 p10 p11 p12 p13) scope fd ∧ (ExScope scope fld ∧ scope.names.lookup fld2 = some .local ∧ (fld2 == ("__debug__" : Str)) = false ∧ fld2 ≠ "self" ∧ fld2 ≠ fld ∧ PySem.W.takerIn K C fld2 = some none ∧ ∀ env : Env, swapsWith (.Name fld2 p12) (some (.Attribute (.Name "self" p10) fld2 p11)) p13.line env = pure false) ∧ SuperCall msg j p0 p1 p2 p3 p4 ∧ NoSwap fld msg j p0 p1 p2 p3 p4 p5 p6 p7 p8 p9 ∧
    (params.posonlyargs ++ params.args).head?.map (·.arg) = some ("self" : Str) ∧ L2.Binds K fd ["self", fld, fld2] [] ∧ mg "super" = none ∧ mg nm = some (.ref C) ∧ XfC K C ∧ PySem.W.findIn K (.ref C) fld = some none ∧ PySem.W.findIn K (.ref C) fld2 = some none ∧ PySem.W.exmOne K (.ref C) (.ref C) = some true
def ClsAt2 (P : Program) (K : PySem.W.Frag) (nm fld fld2 : Str) : Prop := ∀ mg : Str → Option Value, (∀ (n : Str) (v : Value), PySem.W.nsIn K mainGlobals n = some (some v) → mg n = some v) → (∀ n : Str, PySem.W.nsIn K mainGlobals n = some none → mg n = none) → ClsIn2 P K mg nm fld fld2
theorem clsIn2_of {P : Program} {K : PySem.W.Frag} {h : Heap} {mg : Str → Option Value} {nm fld fld2 : Str} (X : K.In h) (G : h.Ns mainGlobals mg) (c : ClsAt2 P K nm fld fld2) : ClsIn2 P K mg nm fld fld2 := c mg (fun _ _ e => PySem.W.mg_of X G e) fun _ e => PySem.W.mg_none_of X G e
theorem clsAt2 {P : Program} {K : PySem.W.Frag} {nm fld fld2 msg q f : Str} {C fI cda cc S : Addr} {oc : Value} {od : Option Addr} {osl : Array (Option Value)} {params : Arguments} {scope : Scope} {dV kV doc pm ct : Value} {an : Option Addr} {odc : Option Addr} {sl : Array (Option Value)} {cd cdS : ClassData}
    {bmS : List Value} {ccl : Value} {cdd : Option Addr} {vs : Array Value} {ccs csl ssl : Array (Option Value)} {cl : Value} {cld sod : Option Addr} {soc : Value} {tf : Tok} {j : Nat} {p0 p1 p2 p3 p4 p5 p6 p7 p8 p9 p10 p11 p12 p13 : Pos}
    (a : PySem.W.nsIn K mainGlobals nm = some (some (.ref C))) (lc : K.lookup C = some ⟨.type "type", odc, .cls cd, sl⟩) (i : PySem.W.findIn K (.ref C) "__init__" = some (some (.ref fI)))
    (l : K.lookup fI = some ⟨oc, od, .func (PySem.W.ksFn "__init__" q params (exBody2 fld fld2 msg j p0 p1 p2 p3 p4 p5 p6 p7 p8 p9 p10 p11 p12 p13) scope dV kV doc pm an (.ref cda) ct cc), osl⟩) (lcode : K.lookup cda = some ⟨ccl, cdd, .fields vs, ccs⟩) (lcell : K.lookup cc = some ⟨cl, cld, .cell (some (.ref C)), csl⟩)
    (lS : K.lookup S = some ⟨soc, sod, .cls cdS, ssl⟩) (fS : PySem.W.findIn K (.ref S) "__init__" = some (some (.builtin "ValueError.__init__"))) (hm : cd.mro = .ref C :: .ref S :: bmS) (hm2 : cdS.mro = .ref S :: bmS)
    (co : PySem.W.codeIn K (.ref cda) q = true) (t : PySem.W.typeIn K (.ref fI) = some (.type "function")) (c1 : exI1 cd sl C bmVE "ValueError.__new__" = true) (c2 : exO1 cd C bmVE = true) (c3 : PySem.W.mroIn K C (.ref C) = some true) (c5 : PySem.W.subIn K (.ref C) (.type "ValueError") = some true)
    (c6 : PySem.W.nsIn K cStatics "thirdparty.any" = some none) (c7 : PySem.W.findIn K (.ref C) "__setattr__" = some (some (.builtin "object.__setattr__"))) (c8 : PySem.W.takerIn K C fld = some none) (c9 : PySem.W.hasDictIn K C = true) (c10 : PySem.W.keepIn K (.ref C) = true)
    (c11 : PySem.W.findIn K (.ref C) "__getattribute__" = some (some (.builtin "BaseException.__getattribute__"))) (c12 : PySem.W.findIn K (.ref C) "__getattr__" = some none) (c14 : PySem.W.findIn K (.ref C) fld = some none) (c8b : PySem.W.takerIn K C fld2 = some none) (c14b : PySem.W.findIn K (.ref C) fld2 = some none) (d1 : scope.names.lookup fld2 = some .local) (d2 : (fld2 == ("__debug__" : Str)) = false) (d3 : fld2 ≠ "self") (d4 : fld2 ≠ fld) (h2b : ∀ env : Env, swapsWith (.Name fld2 p12) (some (.Attribute (.Name "self" p10) fld2 p11)) p13.line env = pure false) (c15 : PySem.W.nsIn K mainGlobals "super" = some none)
    (c16 : PySem.W.subIn K (.ref C) (.type "BaseException") = some true) (c17 : PySem.W.typeIn K (.ref C) = some (.type "type")) (c18 : PySem.W.subIn K (.ref C) (.ref C) = some true)
    (hv : vs[2]? = some (.str f tf)) (hfile : ((P.main.file : Str) == f) = true) (ns : (P.main.scope.names.lookup ("super" : Str)).isSome = false) (Sc : ExScope scope fld) (h1 : SuperCall msg j p0 p1 p2 p3 p4) (h2 : NoSwap fld msg j p0 p1 p2 p3 p4 p5 p6 p7 p8 p9)
    (h3 : (params.posonlyargs ++ params.args).head?.map (·.arg) = some ("self" : Str))
    (h4 : ∀ us : List Value, us.length = 3 → bindArgs (PySem.W.ksFn "__init__" q params (exBody2 fld fld2 msg j p0 p1 p2 p3 p4 p5 p6 p7 p8 p9 p10 p11 p12 p13) scope dV kV doc pm an (.ref cda) ct cc) ⟨us, []⟩ = pure ((["self", fld, fld2] : List Str).zip us)) : ClsAt2 P K nm fld fld2 := fun mg hg hn => by
  have hcls : PySem.W.clsIn K C = some cd := by unfold PySem.W.clsIn; rw [lc]
  have hsup : PySem.W.ks_superIn K C C "__init__" = some (some (.builtin "ValueError.__init__")) := by
    unfold PySem.W.findIn at fS
    simp only [lS] at fS
    unfold PySem.W.ks_superIn
    rw [hcls]
    show PySem.W.alongIn K "__init__" ((cd.mro.dropWhile (· != .ref C)).drop 1) = _
    rw [hm]
    rw [hm2] at fS
    simpa [List.dropWhile] using fS
  have hex : PySem.W.exmOne K (.ref C) (.ref C) = some true := by
    unfold PySem.W.exmOne PySem.W.kitCls
    rw [c16]
    show (if (some true == some true) = true then (if ((PySem.W.clsIn K C).isSome && PySem.W.typeIn K (.ref C) == some (.type "type")) = true then PySem.W.subIn K (.ref C) (.ref C) else none) else none) = _
    rw [hcls, c17, c18]
    rfl
  refine ⟨⟨C, fI, cc, cda, "ValueError", "ValueError.__new__", "ValueError.__init__", bmVE, q, params, scope, _, msg, j, p0, p1, p2, p3, p4, p5, p6, p7, p8, p9, p10, p11, p12, p13, ?_, ⟨Sc, d1, d2, d3, d4, c8b, h2b⟩, h1, h2, h3, Binds.all fun us hl => h4 us hl, hn _ c15, hg _ _ a, ⟨c11, c12, c16, c9⟩, c14, c14b, hex⟩⟩
  have k1 : PySem.W.excInitIn K C bmVE "ValueError.__new__" = true := by
    unfold PySem.W.excInitIn
    rw [lc]
    exact c1
  have k2 : PySem.W.excOver K C bmVE = true := by
    unfold PySem.W.excOver
    rw [hcls]
    exact c2
  exact ⟨PySem.F.excBase_ValueError, PySem.W.kxs_ValueError, PySem.F.store_ValueError, k1, k2, i, t, ⟨oc, od, osl, l⟩, ⟨dV, kV, doc, pm, an, ct, rfl⟩, co, ⟨ccl, cdd, vs, ccs, f, tf, lcode, hv, hfile⟩, ⟨cl, cld, csl, lcell⟩, c3, hsup, c5, c6, ns, c7, c8, c9, c16, c17, c10⟩
def two2 (k : D → D → Prop) (ds : List D) : Prop := match ds with | [d, d2] => k d d2 | _ => False
def sRaise2 (nm f f2 : Str) (t t2 : ET) : SD := fun E _ η => t E (lend η) fun d => t2 E (lend η) fun d2 => E nm [(f, d), (f2, d2)]
section
variable {X : Cx} {nm fld fld2 : Str} {e e2 : Expr} {t t2 : ET} {p pos pos' : Pos} {C : Addr} {f f2 : Str}
theorem x_sRaise2 {E : XP} {z : EndsD} {η : EnvD} : sRaise2 nm f f2 t t2 E z η = t E (lend η) (fun d => t2 E (lend η) fun d2 => E nm [(f, d), (f2, d2)]) := id rfl
end
end DL

/-! DLe9: clauses by what is known of their classes; four classes apart. -/
namespace DL
open PySem PySem.Spec PyProof.Rows L2
section
variable {X : Cx} {n f f2 cn c : Str} {i : Nat} {hds : List ExceptHandler} {l : HdL} {np pos' p1 p2 p3 p4 p5 p6 pc : Pos} {j x1 : Nat}
end
def ApartAt (K : PySem.W.Frag) (l : List Str) : Prop := ∀ mg : Str → Option Value, (∀ (n : Str) (v : Value), PySem.W.nsIn K mainGlobals n = some (some v) → mg n = some v) → Apart K mg l
end DL

/-! DLe10: a comprehension whose element may raise. -/
namespace L2
open PySem PySem.Spec PyProof.Rows
section
variable {M : Model} {A : Around} {E : Value → Shared → Prop} {s : Shared} {env : Env}
def postF (M : Model) (A : Around) (E : Value → Shared → Prop) (Q : Value → Shared → Prop) (acc : Value) (cenv : Env) (r : Result) (s' : Shared) : Prop :=
  match r with
  | .ok _ => ∃ m, s'.heap.Ns cenv.locals m ∧ ∀ h', Heap.SameBut cenv.locals s'.heap h' → Q acc { s' with heap := h' }
  | .error x => ∃ m, s'.heap.Ns cenv.locals m ∧ ∀ h', Heap.SameBut cenv.locals s'.heap h' → wpAny M A (passOn "comprehension.variables-let-go" x cenv : Sem Value) (fun _ _ => False) E { s' with heap := h' }
end
abbrev Cx.blkE (X : Cx) (s : Shared) (H : Hp) (scope : Scope) (cenv : Env) (fp : List Addr) (xe : Value → Shared → Prop) : Cx := { X.blk s H scope cenv fp with xe := xe }
section
open HandSPX
variable {M : Model} {A : Around} {E : Value → Shared → Prop} {s : Shared} {env : Env} {outer : List Env} {base : Heap} {e L : Addr} {Z : Obj → Prop} {fl : Value}
end
section
open HandSPX
variable {X : Cx} {pins : List (Addr × Obj)} {σ : St} {H3 : Hp} {s3 : Shared} {scope : Scope} {cl : List (Str × Addr)} {fp : List Addr} {W : WX} {Qf : Value → Shared → Prop} {acc : Value}
end
section
variable {X : Cx}
end
end L2
namespace DL
open PySem PySem.Spec PyProof.Rows L2
def liftEr (X : Cx) (t : ET) : TE := fun σ H R => ∃ (c : Ctx) (O : Addr → Prop) (η : EnvD) (E : XP) (Q : D → Prop), Good X.K c O η σ H ∧ EOk X c E ∧ t E η Q ∧ ∀ d v H', Step c.G H H' → Rep X.K O H' v d → Q d → R v H'
def compDE (E : XP) (g : GT) (tt : BT) (te : ET) (η0 : EnvD) : List D → List D → (List D → Prop) → Prop
  | [], acc, Q => Q acc
  | d :: ds, acc, Q => g d η0 fun η1 => tt never η1 fun b => if b = true then te E η1 fun y => acc.length < sizeLine ∧ compDE E g tt te η0 ds (acc ++ [y]) Q else compDE E g tt te η0 ds acc Q
def nCompE (own : List Nat) (ti : IT) (g : GT) (tt : BT) (te : ET) : NT := fun E η Q => ti E η fun ds => compDE E g tt te (wipeD η own) ds [] Q
section
variable {X : Cx} {elt tg iter : Expr} {ifs : List Expr} {scope : Scope} {own : List (Str × Nat)} {is : List Nat} {pos : Pos} {ti : IT} {g : GT} {tt : BT} {te : ET}
theorem x_nCompE {own : List Nat} {E : XP} {η : EnvD} {Q : List D → Prop} : nCompE own ti g tt te E η Q = ti E η (fun ds => compDE E g tt te (wipeD η own) ds [] Q) := id rfl
end
end DL

/-! DM23: lists of lists: name.insert(p, new), name[k].insert(p, e), name[k][p] = e, name[k].pop(p). -/
namespace DL
open PySem PySem.Spec PyProof.Rows L2
section
variable {X : Cx} {c : Ctx} {E : XP} {O : Addr → Prop} {η : EnvD} {σ : L2.St} {H : Hp} {i m : Nat} {ds r : List D} {fp : List Addr}
end
section
variable {X : Cx} {e1 e2 e3 : Expr} {tk tp te : ET} {pos apos npos p ipos jpos : Pos}
/-- name[k].insert(p, e) -/
def sInsR (i : Nat) (tk tp te : ET) : SD := fun E z η => onMf η[i]? fun ds => tk E (lend η) fun d => onInt d fun k => ∃ m r, (ixN ds.length k = some m ∧ ds[m]? = some (.list r) ∧ flatAll r = true) ∧ tp E (lend η) fun dp => onInt dp fun j => te E (lend η) fun v => (flat v = true ∧ 0 ≤ j ∧ j < 2 ^ 63 ∧ r.length < sizeLine) ∧ ∀ fp, z.nx (η.set i (.mtb false (.list (ds.set m (.list (r.take j.toNat ++ [v] ++ r.drop j.toNat)))) fp))
/-- name[k].pop(p) -/
def sPopR (i : Nat) (tk tp : ET) : SD := fun E z η => onMf η[i]? fun ds => tk E (lend η) fun d => onInt d fun k => ∃ m r, (ixN ds.length k = some m ∧ ds[m]? = some (.list r) ∧ flatAll r = true) ∧ tp E (lend η) fun dp => onInt dp fun j => ∃ n, (ixN r.length j = some n ∧ -(2 ^ 63) ≤ j ∧ j < 2 ^ 63) ∧ ∀ fp, z.nx (η.set i (.mtb false (.list (ds.set m (.list (r.eraseIdx n)))) fp))
/-- name[k][p] = e -/
def sPutR (i : Nat) (tk tp te : ET) : SD := fun E z η => onMf η[i]? fun ds => te E (lend η) fun v => flat v = true ∧ tk E (lend η) fun d => onInt d fun k => ∃ m r, (ixN ds.length k = some m ∧ ds[m]? = some (.list r) ∧ flatAll r = true) ∧ tp E (lend η) fun dp => onInt dp fun j => ∃ n, ixN r.length j = some n ∧ ∀ fp, z.nx (η.set i (.mtb false (.list (ds.set m (.list (r.set n v)))) fp))
theorem DeepAll.split {K : PySem.W.Frag} {H : Hp} : ∀ {vs : List V} {ds : List D} {fs : List Addr} (j : Nat), DeepAll K H vs ds fs → ∃ f1 f2, fs = f1 ++ f2 ∧ DeepAll K H (vs.take j) (ds.take j) f1 ∧ DeepAll K H (vs.drop j) (ds.drop j) f2
  | _, _, _, 0, h => ⟨[], _, rfl, .nil, h⟩
  | _, _, _, _ + 1, .nil => ⟨[], [], rfl, .nil, .nil⟩
  | _, _, _, j + 1, .cons r t => by
    obtain ⟨f1, f2, e, k1, k2⟩ := DeepAll.split j t
    exact ⟨_ ++ f1, f2, by rw [e, List.append_assoc], .cons r k1, k2⟩
/-- name.insert(p, new) -/
def sInsM (i : Nat) (tp t : ET) : SD := fun E z η => onMf η[i]? fun ds => tp E (lend η) fun dp => onInt dp fun j => t E (lend η) fun d => (0 ≤ j ∧ j < 2 ^ 63 ∧ ds.length < sizeLine) ∧ ∀ fp, z.nx (η.set i (.mtb false (.list (ds.take j.toNat ++ [d] ++ ds.drop j.toNat)) fp))
/-! ### the equations -/
variable {i : Nat} {E : XP} {z : EndsD} {η : EnvD}
theorem x_sInsR : sInsR i tk tp te E z η = onMf η[i]? (fun ds => tk E (lend η) fun d => onInt d fun k => ∃ m r, (ixN ds.length k = some m ∧ ds[m]? = some (.list r) ∧ flatAll r = true) ∧ tp E (lend η) fun dp => onInt dp fun j => te E (lend η) fun v => (flat v = true ∧ 0 ≤ j ∧ j < 2 ^ 63 ∧ r.length < sizeLine) ∧ ∀ fp, z.nx (η.set i (.mtb false (.list (ds.set m (.list (r.take j.toNat ++ [v] ++ r.drop j.toNat)))) fp))) := id rfl
theorem x_sPopR : sPopR i tk tp E z η = onMf η[i]? (fun ds => tk E (lend η) fun d => onInt d fun k => ∃ m r, (ixN ds.length k = some m ∧ ds[m]? = some (.list r) ∧ flatAll r = true) ∧ tp E (lend η) fun dp => onInt dp fun j => ∃ n, (ixN r.length j = some n ∧ -(2 ^ 63) ≤ j ∧ j < 2 ^ 63) ∧ ∀ fp, z.nx (η.set i (.mtb false (.list (ds.set m (.list (r.eraseIdx n)))) fp))) := id rfl
theorem x_sPutR : sPutR i tk tp te E z η = onMf η[i]? (fun ds => te E (lend η) fun v => flat v = true ∧ tk E (lend η) fun d => onInt d fun k => ∃ m r, (ixN ds.length k = some m ∧ ds[m]? = some (.list r) ∧ flatAll r = true) ∧ tp E (lend η) fun dp => onInt dp fun j => ∃ n, ixN r.length j = some n ∧ ∀ fp, z.nx (η.set i (.mtb false (.list (ds.set m (.list (r.set n v)))) fp))) := id rfl
theorem x_sInsM : sInsM i tp te E z η = onMf η[i]? (fun ds => tp E (lend η) fun dp => onInt dp fun j => te E (lend η) fun d => (0 ≤ j ∧ j < 2 ^ 63 ∧ ds.length < sizeLine) ∧ ∀ fp, z.nx (η.set i (.mtb false (.list (ds.take j.toNat ++ [d] ++ ds.drop j.toNat)) fp))) := id rfl
end
end DL

/-! DM24: words.index(word). -/
namespace DL
open PySem PySem.Spec PyProof.Rows L2
section
variable {X : Cx} {o e : Expr} {to te : ET} {apos p : Pos}
/-- texts.index(text) -/
def dIdx (to te : ET) : ET := fun E η Q => to E η fun x => onLs x fun ds => te E η fun y => onStr y fun a => ∃ (ss : List Str) (j : Nat), ds = ss.map .str ∧ ss[j]? = some a ∧ (∀ m, m < j → ∀ b, ss[m]? = some b → b ≠ a) ∧ Q (.int j)
theorem x_dIdx {E : XP} {η : EnvD} {Q : D → Prop} : dIdx to te E η Q = to E η (fun x => onLs x fun ds => te E η fun y => onStr y fun a => ∃ (ss : List Str) (j : Nat), ds = ss.map .str ∧ ss[j]? = some a ∧ (∀ m, m < j → ∀ b, ss[m]? = some b → b ≠ a) ∧ Q (.int j)) := id rfl
/-- one sign that is not in a text -/
def oNotInSg : OpD
  | .str x, .str z, Q => ∃ c : Nat, x = ⟨#[c]⟩ ∧ Q (.bool (!decide (c ∈ z.cps.toList)))
  | _, _, _ => False
theorem x_oNotInSg {x z : Str} {Q : D → Prop} : oNotInSg (.str x) (.str z) Q = (∃ c : Nat, x = ⟨#[c]⟩ ∧ Q (.bool (!decide (c ∈ z.cps.toList)))) := id rfl
end
end DL

/-! DM25: set(xs) == {i}, xs a list of whole numbers. -/
namespace DL
open PySem PySem.Spec PyProof.Rows L2
section
variable {P : Program} {w : World} {A : Around} {E : Value → Shared → Prop} {s : Shared} {a b : Addr} {S : Int → Bool} {n : Nat} {i : Int} {Q : Value → Shared → Prop}
end
/-! ### the sets as objects that stand -/
def setO (w : World) (a : Addr) (S : Int → Bool) (n : Nat) : HO := .ext fun h => SetR w h a S n
def oneO (P : Program) (w : World) (a : Addr) (S : Int → Bool) (n : Nat) : HO := .ext fun h => h.SetOf (PySem.intKind P w) a S n
section
variable {P : Program} {w : World} {A : Around} {E : Value → Shared → Prop} {s : Shared} {D : Addr}
end
section
variable {X : Cx} {e e2 : Expr} {ta tb : TE} {p p2 p3 pos : Pos}
/-- some, and all the same -/
def allB (ns : List Int) (i : Int) : Bool := !ns.isEmpty && ns.all fun x => decide (x = i)
/-- set(xs) -/
def tSetL (K : PySem.W.Frag) (w : World) (ta : TE) : TE := fun σ H Q => ta σ H fun x H1 => ∃ (l : Addr) (ns : List Int), x = V.ref l ∧ SqL K H1 l (ns.map V.int) ∧ ns.length < 4000 ∧ ∀ (D : Addr) (c : Nat), H1 D = none → (∀ i : Int, (decide (c = 1) && decide (i ∈ ns)) = allB ns i) → Q (.ref D) (upd H1 D (setO w D (fun j => decide (j ∈ ns)) c))
/-- {e} -/
def tSet1 (P : Program) (w : World) (tb : TE) : TE := fun σ H Q => ∀ D : Addr, H D = none → (∃ h : Heap, h.SetOf (PySem.intKind P w) D (fun _ => false) 0) → tb σ (upd H D (oneO P w D (fun _ => false) 0)) fun y H1 => ∃ i : Int, y = .int i ∧ H1 D = some (oneO P w D (fun _ => false) 0) ∧ Q (.ref D) (upd H1 D (oneO P w D (fun k => decide (k = i)) 1))
/-- the comparison -/
def rSetEq (P : Program) (w : World) : R2 := fun x y H Q => ∃ (a b : Addr) (S : Int → Bool) (n : Nat) (i : Int), x = .ref a ∧ y = .ref b ∧ H a = some (setO w a S n) ∧ H b = some (oneO P w b (fun k => decide (k = i)) 1) ∧ Q (.bl (decide (n = 1) && S i)) H
/-- set(xs) == {e} -/
def dSetEq (t1 t2 : ET) : ET := fun E η Q => t1 E η fun d => onList d fun xs => (xs.length < 4000 ∧ xs.all isI = true) ∧ t2 E η fun d2 => onInt d2 fun i => Q (.bool (allB (xs.map iOf) i))
end
/-! ### y = [.. for .. for ..] in one row, y a local -/
section
variable {X : Cx} {elt tg iter tg1 iter1 : Expr} {ifs ifs1 : List Expr} {scope : Scope} {own : List (Str × Nat)} {is is1 vs1 : List Nat} {cpos pos : Pos} {ti ti1 : IT} {g g1 : GT} {tt tt1 : BT} {te : ET} {y : Str} {py : Pos}
end
/-! ### defs whose code object is known -/
section
variable {P : Program} {w : World} {K : PySem.W.Frag} {mg : Str → Option Value} {base : Heap} {k : Nat}
theorem x_dSetEq {t1 t2 : ET} {E : XP} {η : EnvD} {Q : D → Prop} : dSetEq t1 t2 E η Q = t1 E η (fun d => onList d fun xs => (xs.length < 4000 ∧ xs.all isI = true) ∧ t2 E η fun d2 => onInt d2 fun i => Q (.bool (allB (xs.map iOf) i))) := id rfl
end
end DL

/-! DM26: `x, y = NEW, E`: a new structure and a datum at once. -/
namespace DL
open PySem PySem.Spec PyProof.Rows L2
def sParM (i j : Nat) (t u : ET) : SD := fun E z η => t E η fun d => ∀ fp, u E η fun y => z.nx ((η.set i (.mtb false d fp)).set j (.dat y))
section
variable {X : Cx} {a b : Expr} {t u : ET} {pos : Pos}
end
section
variable {i j : Nat} {t u : ET} {E : XP} {z : EndsD} {η : EnvD}
end
end DL

/-! DM27: what is read of an instance by a property, by len(x), by `e in x`. -/
namespace DL
open PySem PySem.Spec PyProof.Rows L2
section
variable {X : Cx} {nm f m x : Str} {p pos : Pos} {wf : FT} {k j : Nat}
/-- a property of the class keeps its promise -/
structure HasP (P : Program) (w : World) (K : PySem.W.Frag) (mg : Str → Option Value) (base : Heap) (nm f : Str) (k : Nat) (wf : FT) : Prop where
  ex : ∀ C, ClsOf K nm C → L2.Cls K C ∧ ∃ p g fd, PropOf K C f p g ∧ Binds K fd ["self"] [] ∧ FnD P w K mg base k g fd ["self"] wf
/-- what the head tells of a property -/
def PropIn (K : PySem.W.Frag) (nm f : Str) (st : Stmt) : Prop := ∀ C, ClsOf K nm C → L2.Cls K C ∧ ∃ p g fd, PropOf K C f p g ∧ Fun K f (nm ++ ("." : Str) ++ f) st g fd ∧ Binds K fd ["self"] []
def dProp (i : Nat) (nm : Str) (wf : FT) : ET := fun _ η Q => onLin η[i]? fun nm' fs => nm' = nm ∧ wf never [.lin nm fs] Q
/-! ### len(x) -/
def dLenI (i : Nat) (nm : Str) (wf : FT) : ET := fun _ η Q => onLin η[i]? fun nm' fs => nm' = nm ∧ wf never [.lin nm fs] fun d => ∃ n : Nat, d = .int n ∧ n < 2 ^ 62 ∧ Q d
/-! ### e in x -/
def dInI (i : Nat) (nm : Str) (wf : FT) (t : ET) : ET := fun E η Q => t E η fun d => onLin η[i]? fun nm' fs => nm' = nm ∧ wf never [.lin nm fs, .dat d] fun r => ∃ b : Bool, r = .bool b ∧ Q (.bool b)
def rInI (X : Cx) (nm : Str) (wf : FT) : R2 := fun x y H R => ∃ (a : Addr) (c : Ctx) (O : Addr → Prop) (η : EnvD) (σ : L2.St) (C dx : Addr) (vs : List (Str × V)) (fs : List (Str × D)) (d : D) (Q : D → Prop), y = .ref a ∧ H a = some (.ins C dx vs) ∧ ClsOf X.K nm C ∧ Good X.K c O η σ H ∧
    InsAt X.K O H (.ref a) nm fs ∧ Rep X.K O H x d ∧ (wf never [.lin nm fs, .dat d] fun r => ∃ b : Bool, r = .bool b ∧ Q (.bool b)) ∧ ∀ (b : Bool) H', Step c.G H H' → Q (.bool b) → R (.bl b) H'
end
section
variable {i : Nat} {nm : Str} {wf : FT} {E : XP} {η : EnvD} {Q : D → Prop} {t : ET}
end
end DL

/-! DM28: h(lambda: e), where h tells [e], or the field of one class's exception. -/
namespace DL
open PySem PySem.Spec PyProof.Rows L2
abbrev N_heard : List Str := ["_law_call", "e"]
/-- what that def makes of the call's reading -/
def heardT (K : PySem.W.Frag) (mg : Str → Option Value) (cn fl : Str) (tl : XK → Hp → VK → Prop) (f c' : Addr) (q : Str) : TS := fun Dz σ H0 => ∃ (O : Addr → Prop) (G : Option (Addr × Addr)) (R : D → Prop),
  Good K ⟨O, G, H0, [], []⟩ O [.obj f none, .un] σ H0 ∧ H0 c' = some (LamX.CodeO c' q) ∧
  (∀ (E' : XK) (Q' : VK), (∀ cls d H', ErrG K mg O G H0 (fun nm fs => nm = cn ∧ ∃ d, fs = [(fl, d)] ∧ R d) cls d H' → E' cls d H') → (∀ v d H', Step G H0 H' → Rep K O H' v d → R (.list [d]) → Q' v H') → tl E' H0 Q') ∧
  ∀ v d H', Step G H0 H' → Rep K O H' v d → R d → Dz.rt v H'
section
variable {Z : Cx} {cn fl : Str} {C : Addr} {tl : XK → Hp → VK → Prop} {f c' : Addr} {q : Str} {b2 b3 b4 b5 np p1 p2 p3 pos pos' : Pos}
def tActL (tl : XK → Hp → VK → Prop) (f c' : Addr) (q : Str) (n : Nat) (W : WX) : TS := fun D σ H => σ[0]? = some (some (.ref f)) ∧ H c' = some (LamX.CodeO c' q) ∧ tl (fun cls d H' => ∀ σ' : L2.St, σ'.length = n → W cls d σ' H') H fun v H' => 1 ≤ sizeLine ∧ ∀ p, H' p = none → D.rt (.ref p) (upd H' p (.lst [v]))
end
/-- the def that hears -/
def HeardF (P : Program) (w : World) (K : PySem.W.Frag) (mg : Str → Option Value) (base : Heap) (k : Nat) (cn fl : Str) : Prop := ∃ stT, DefIn K mg "_law_heard" stT ["_law_call"] ∧ FnScope N_heard ["_law_call"] (defScope stT) ∧ Vis (defScope stT) "_law_call" ∧
  ∀ (g : Addr) (cdg : Value) (A : Around) (outer : List Env) (s : Shared) (H : Hp), A.guards = some [] → Room k (A.deeper (envOfC "_law_heard" (defScope stT) s.heap.objs.size g cdg)) → ∀ (tl : XK → Hp → VK → Prop) (f c' : Addr) (q : Str),
    (∀ (p1 p2 : Pos) (W : WX) (pn : List (Addr × Obj)) (xe : Value → Shared → Prop) (E : XK), Takes ((cxOf CX0 P w K mg base N_heard "_law_heard" (defScope stT) g cdg A outer s H E0).nox.tr pn xe) W → (∀ cls d σ' H', E cls d H' → W cls d σ' H') →
      PE ((cxOf CX0 P w K mg base N_heard "_law_heard" (defScope stT) g cdg A outer s H E0).nox.tr pn xe) (.Call (.Name "_law_call" p1) [] [] p2) (fun σZ HZ Q => σZ[0]? = some (some (.ref f)) ∧ HZ c' = some (LamX.CodeO c' q) ∧ tl E HZ Q)) →
    PSs (cxOf CX0 P w K mg base N_heard "_law_heard" (defScope stT) g cdg A outer s H E0).nox (defBody stT) (heardT K mg cn fl tl f c' q)
def dHeard (cn fl : Str) (tb : ET) : ET := fun _ η Q => tb (fun nm fs => nm = cn ∧ ∃ d, fs = [(fl, d)] ∧ Q d) (drop η) fun d => Q (.list [d])
section
variable {X : Cx} {P c : Addr} {k m : Nat} {cn fl : Str} {params : Arguments} {body : Expr} {scope : Scope} {lp p pos : Pos} {tb : ET}
theorem x_dHeard {E : XP} {η : EnvD} {Q : D → Prop} : dHeard cn fl tb E η Q = tb (fun nm fs => nm = cn ∧ ∃ d, fs = [(fl, d)] ∧ Q d) (drop η) (fun d => Q (.list [d])) := id rfl
end
end DL

/-! DM29: len(set(xs)), xs a list of whole numbers, some of them the same. -/
namespace DL
open PySem PySem.Spec PyProof.Rows L2
/-- each once -/
def ded : List Int → List Int
  | [] => []
  | x :: xs => if x ∈ ded xs then ded xs else x :: ded xs
section
variable {X : Cx} {e : Expr} {ta : TE} {p p2 q pos : Pos}
def tLenSetG (K : PySem.W.Frag) (ta : TE) : TE := fun σ H Q => ta σ H fun x H1 => ∃ (l : Addr) (ns : List Int), x = V.ref l ∧ SqL K H1 l (ns.map V.int) ∧ ns.length < 4000 ∧ Q (.int ((ded ns).length : Nat)) H1
def dLenSet (t : ET) : ET := fun E η Q => t E η fun d => onList d fun xs => (xs.length < 4000 ∧ xs.all isI = true) ∧ Q (.int ((ded (xs.map iOf)).length : Nat))
theorem x_dLenSet {t : ET} {E : XP} {η : EnvD} {Q : D → Prop} : dLenSet t E η Q = t E η (fun d => onList d fun xs => (xs.length < 4000 ∧ xs.all isI = true) ∧ Q (.int ((ded (xs.map iOf)).length : Nat))) := id rfl
end
end DL

/-! DLe11: C(f = v): an own exception class called with keywords (raw). -/
namespace PySem.HandSPX
open PySem PySem.Spec PyProof.Rows PySem.Calls
section
variable {M : Model} {A : Around} {E : Value → Shared → Prop} {h : Heap} {g : Array GenState} {d : Drawn} {t : Nat} {os : OsState}
variable {nm q : Str} {C N : Addr} {bs bm bmB : List Value} {hdct : Bool} {sn : List Str} {sub : List Value} {ab : Bool} {col : Option Bool} {dd : Option Addr} {k0 k1 k2 k3 k5 : Option Value} {B newId initId : String} {kw : List (Str × Value)}
theorem check_new_kw (F : ExcBaseFacts B newId initId bmB) (hT : ∀ X : String, bm.contains (.type X) = bmB.contains (.type X)) {Q : Unit → Shared → Prop}
    (hC : h.get? C = some (excClassObj nm q C N bs bm hdct sn sub ab col dd k0 k1 k2 k3 k5 newId)) (hq : Q () ⟨h, g, d, t, os⟩) : wpAny M A (checkBuiltinCall newId ⟨[.ref C], kw⟩) Q E ⟨h, g, d, t, os⟩ := by
  have hcont : (Value.ref C :: bm).contains (.type B) = true := by rw [List.contains_cons, hT, F.hasB, Bool.or_true]
  have hstar := F.noStar
  simp only [checkBuiltinCall, F.newKind, F.newSplit, F.newRow]
  repeat (first | refine wpAny_loadPart_at hC ?_ | (refine wpAny_isSubtype_exc hC ?_; rw [hcont]) | refine wpAny_staticBase_exc hC ?_ | refine wpAny_madeBy_exc hC ?_ | simp only [bne_self_eq_false, Bool.false_eq_true, if_false] | wp_step)
  exact hq
end
section
variable {prog : Program} {w : World} {A : Around} {E : Value → Shared → Prop} {R : Result → Shared → Prop} {h : Heap} {g : Array GenState} {d : Drawn} {t : Nat} {os : OsState}
variable {nm q : Str} {C N : Addr} {bs bm bmB : List Value} {hdct : Bool} {sn : List Str} {sub : List Value} {ab : Bool} {col : Option Bool} {dd : Option Addr} {k0 k1 k2 k3 k5 : Option Value} {B newId initId : String} {kw : List (Str × Value)}
theorem new_kw (F : ExcBaseFacts B newId initId bmB) (hT : ∀ X : String, bm.contains (.type X) = bmB.contains (.type X))
    (hC : h.get? C = some (excClassObj nm q C N bs bm hdct sn sub ab col dd k0 k1 k2 k3 k5 newId))
    (hq : R (.ok (.ret (.ref (h.objs.size + 1)))) ⟨(h.push (W.kdv_tup [])).push (excO C h.objs.size), g, d, t, os⟩) :
    codeAny (model prog w) A (.builtin newId ⟨[.ref C], kw⟩) R ⟨h, g, d, t, os⟩ := by
  have hends := F.ends
  have hcB : (Value.ref C :: bm).contains (.type B) = true := by rw [List.contains_cons, hT, F.hasB, Bool.or_true]
  have hcA : (Value.ref C :: bm).contains (.type "AttributeError") = false := by rw [List.contains_cons, hT, F.noAttr]; rfl
  have hcN : (Value.ref C :: bm).contains (.type "NameError") = false := by rw [List.contains_cons, hT, F.noName]; rfl
  have hrest : ([] : List Value).length ≤ sizeLine := Nat.zero_le _
  refine codeAny_builtinAt F.entry ?_
  unfold Builtin.«BaseException.__new__»
  refine wpAt_bind ?_
  show wpAt _ _ _ (stack >>= _) _ _ _
  refine wpAt_bind (wpAt_stack fun p below => wpAt_of_wpAny ?_)
  wp_walk
  refine wpAt_of_wpAny ?_
  rw [F.owner]
  repeat (first | with_reducible refine wpAny_madeHere_exc F.canon hC ?_ | with_reducible refine wpAny_loadPart_at hC ?_ | (with_reducible refine wpAny_isSubtype_exc hC ?_; first | rw [hcB] | rw [hcA] | rw [hcN]) | wp_step)
  show R _ _
  rw [Heap.size_push]
  exact hq
theorem type_call_kw (F : ExcBaseFacts B newId initId bmB) (hT : ∀ X : String, bm.contains (.type X) = bmB.contains (.type X)) {fI : Addr} {Q : Fin → Shared → Prop}
    (hC : h.get? C = some (excClassObj nm q C N bs bm hdct sn sub ab col dd k0 k1 k2 k3 k5 newId))
    (hi : W.Looks (model prog w) h (typeLookup (.ref C) "__init__") (some (.ref fI))) (hb : ∀ self, W.Looks (model prog w) h (bindSpecial (.ref fI) self) (.ref fI, [self]))
    (hq : codeAny (model prog w) A (.call (.ref fI) ⟨[.ref (h.objs.size + 1)], kw⟩)
      (fun r s' => match r with | .ok (.ret v) => v = .none ∧ Q (.done (.ret (.ref (h.objs.size + 1)))) s' | .ok _ => False | .error e => E e s')
      ⟨(h.push (W.kdv_tup [])).push (excO C h.objs.size), g, d, t, os⟩) :
    wpAny (model prog w) A (Builtin.«type.__call__» ⟨[.ref C], kw⟩) Q E ⟨h, g, d, t, os⟩ := by
  repeat (first | with_reducible refine wpAny_loadPart_at hC ?_ | with_reducible refine wpAny_madeBy_exc hC ?_ | wp_step)
  refine codeAny_call_builtin_code (Code.quiet_builtin _ F.quiet) (check_new_kw F hT hC ?_)
  refine new_kw F hT hC ?_
  show wpAny _ _ _ _ _ _
  have k : ∀ b o, h.get? b = some o → ((h.push (W.kdv_tup [])).push (excO C h.objs.size)).get? b = some o := fun b o e => Heap.get?_push_of_some _ (Heap.get?_push_of_some _ e)
  have hC₁ := k _ _ hC
  have hget : ((h.push (W.kdv_tup [])).push (excO C h.objs.size)).get? (h.objs.size + 1) = some (excO C h.objs.size) := by heap_get
  have hcC : (Value.ref C :: bm).contains (.ref C) = true := by simp
  have i1 := hi.keeps k
  have b1 := (hb (.ref (h.objs.size + 1))).keeps k
  unfold isInstance
  repeat (first | with_reducible refine wpAny_loadPart_at hget ?_ | (with_reducible refine wpAny_isSubtype_exc hC₁ ?_; rw [hcC]) | wp_step)
  show wpAny _ _ (typeLookup (.ref C) _) _ _ _
  refine i1.at ?_
  refine wpAny_holding (wpAny_bind (b1.at ?_))
  refine wpAny_bind (wpAny_call (codeAny_mono hq fun r s' z => ?_))
  rcases r with e | (v | _ | _ | _) <;> first | exact z | exact z.elim | skip
  obtain ⟨rfl, z⟩ := z
  first
    | exact wpAny_pure (wpAny_pure z)
    | (wp_walk; exact z)
theorem call_kw (F : ExcBaseFacts B newId initId bmB) (hT : ∀ X : String, bm.contains (.type X) = bmB.contains (.type X)) {fI : Addr}
    (hC : h.get? C = some (excClassObj nm q C N bs bm hdct sn sub ab col dd k0 k1 k2 k3 k5 newId))
    (hi : W.Looks (model prog w) h (typeLookup (.ref C) "__init__") (some (.ref fI))) (hb : ∀ self, W.Looks (model prog w) h (bindSpecial (.ref fI) self) (.ref fI, [self]))
    (hq : codeAny (model prog w) (A.under (.builtin "type.__call__" ⟨[.ref C], kw⟩)) (.call (.ref fI) ⟨[.ref (h.objs.size + 1)], kw⟩) (W.InitBack (h.objs.size + 1) R)
      ⟨(h.push (W.kdv_tup [])).push (excO C h.objs.size), g, d, t, os⟩) :
    codeAny (model prog w) A (.call (.ref C) ⟨[], kw⟩) R ⟨h, g, d, t, os⟩ := by
  have f1 := tc_lookup
  have f2 := tc_bind (.ref C)
  have f3 := tc_sub
  have hTy : (⟨h, g, d, t, os⟩ : Shared).TypeIs (.ref C) "type" := ⟨_, hC, rfl⟩
  refine codeAny_of_tree ?_
  show wpAny _ _ (callAny (.ref C) _) _ _ _
  repeat (any_goals (first | assumption | with_reducible refine wpAny_loadPart_at hC ?_ | wp_step))
  refine ⟨rfl, ?_⟩
  refine codeAny_call_builtin_at (Code.quiet_builtin _ (by decide +kernel)) entry_typeCall ?_
  have chk : ∀ {A' : Around} {Q : Unit → Shared → Prop} {E' : Value → Shared → Prop}, Q () ⟨h, g, d, t, os⟩ → wpAny (model prog w) A' (checkBuiltinCall "type.__call__" ⟨[.ref C], kw⟩) Q E' ⟨h, g, d, t, os⟩ := by
    intro A' Q E' hq
    simp only [checkBuiltinCall, tc_kind, tc_split]
    repeat (any_goals (first | assumption | with_reducible refine wpAny_loadPart_at hC ?_ | with_reducible refine wpAny_onRaise ?_ | with_reducible refine wpAny_map ?_ | wp_step))
  refine chk ?_
  refine type_call_kw F hT hC hi hb ?_
  refine codeAny_mono hq fun r s' z => ?_
  rcases r with e | (v | _ | _ | _) <;> exact z
end
end PySem.HandSPX

/-! DLe12: exceptions held as values: made, their classes, their fields. -/
namespace DL
open PySem PySem.Spec PyProof.Rows L2
def excNames : List Str := ["BadSchema", "BadStore", "BadParting", "BadSheet", "BadRow", "BadLot", "BadColumn", "BadCell", "BadNumber", "Twice", "Missing", "BadPaper", "BadText", "Broken", "NothingLeft", "TooMany", "ShareError"]
def fldNames : List Str := ["place", "value", "word", "line", "number", "many", "most"]
def typNames : List String := ["ValueError", "OverflowError", "RuntimeError", "LookupError", "TypeError"]
/-- which class stands under which -/
def exB (nm cn : Str) : Bool := nm == cn || ((cn == "ShareError" || cn == "ValueError") && nm != "TooMany") || (cn == "OverflowError" && nm == "TooMany")
structure ToldX (K : PySem.W.Frag) (C : Addr) : Prop extends XfC K C where
  cl : (PySem.W.clsIn K C).isSome = true
  at_ : PySem.W.findIn K (.ref C) "__class__" = some (some (.builtin "object.__class__"))
  gs : PySem.W.specialIn K (.builtin "object.__class__") "__get__" = some (some (.builtin "getset_descriptor.__get__"))
  tk : PySem.W.takesIn K (.builtin "object.__class__") = some true
  ob : PySem.W.mroIn K C (.type "object") = some true
  no : ∀ f ∈ fldNames, PySem.W.findIn K (.ref C) f = some none
structure XcIn (K : PySem.W.Frag) (mg : Str → Option Value) : Prop where
  c : ∀ nm ∈ excNames, ∀ C, mg nm = some (.ref C) → ClsOf K nm C
  g : ∀ nm ∈ excNames, ∃ C, mg nm = some (.ref C)
  k : ∀ nm ∈ excNames, ∀ C, ClsOf K nm C → ToldX K C ∧ (∀ cn ∈ excNames, ∀ D, mg cn = some (.ref D) → PySem.W.kitOne K (.ref C) (.ref D) = some (exB nm cn)) ∧ ∀ T ∈ typNames, PySem.W.kitOne K (.ref C) (.type T) = some (exB nm (Str.ofString T))
/-! ### what gives a new exception object, as a value -/
def ExG (cls : Value) (d : Option Addr) (a : Addr) : HO := .ext fun h => ∃ (oe : Obj) (vs : Array Value), h.get? a = some oe ∧ Zc cls d oe ∧ oe.data = .fields vs
theorem exG_ok {P : Program} {w : World} {H : Hp} {h : Heap} {a : Addr} {cls : Value} {dd : Option Addr} {oe : Obj} {vs : Array Value} (e : h.get? a = some oe) (z : Zc cls dd oe) (d : oe.data = .fields vs) : ObjOk P w H h a (ExG cls dd a) :=
  ⟨⟨oe, vs, e, z, d⟩, ⟨oe, e⟩, fun _ _ ⟨o, v, q, r⟩ k => ⟨o, v, k o q, r⟩⟩
section
variable {X : Cx}
theorem pe_ofMk {e : Expr} {T : L2.St → Hp → XK → Prop} (mk : PMk X e T) : PE X e (fun σ H Q => T σ H fun cls d H' => ∀ a, H' a = none → Q (.ref a) (upd H' a (ExG cls d a))) := ⟨fun pins s σ H Q I h => by
  refine wpAny_mono (mk pins s σ H _ I h) (fun u s1 hu => ?_) fun _ _ x => x
  obtain ⟨a, oe, vs, s', H', cls, d, rfl, J, gs, ga, ho, hz, hd, h1, hn, os, bare, hr, q⟩ := hu
  have J2 := J.laidN (h' := s1.heap) (t' := s1.toks) gs ga hn (exG_ok ho hz hd)
  exact ⟨.ref a, upd H' a (ExG cls d a), ⟨J2.ok, os.trans J2.os, bare, J2.base, J2.loc, J2.cell, J2.free, J2.freeC, J2.pin, J2.hok, J2.len⟩, rfl, q a hn⟩⟩
theorem pe_superK {C fI cc cda : Addr} {B newId initId : String} {bmB : List Value} {q fld msg x : Str} {params : Arguments} {scope : Scope} {fd : FuncData} {j : Nat} {p0 p1 p2 p3 p4 p5 p6 p7 p8 p9 p pos : Pos} {kws : List Keyword} {ta : TA}
    (F : ExFacts X.prog X.K B newId initId bmB C fld fI cc cda q params (exBody fld msg j p0 p1 p2 p3 p4 p5 p6 p7 p8 p9) scope fd) (S : ExScope scope fld) (hc : SuperCall msg j p0 p1 p2 p3 p4) (hsw : NoSwap fld msg j p0 p1 p2 p3 p4 p5 p6 p7 p8 p9)
    (hpar : (params.posonlyargs ++ params.args).head?.map (·.arg) = some ("self" : Str)) (hr : Room 1 X.A) (hb : ∀ (s : Shared) (u v : Value), BindsTo s fd ⟨[u], [(fld, v)]⟩ [("self", u), (fld, v)]) (hs : X.mg "super" = none) (hg : Gl X x) (hm : X.mg x = some (.ref C)) (hkw : PK X kws ta)
    (hks : (backToKw pos (keywordEach kws X.env)).filterMap (·.1) = [fld]) (hdb : (x == ("__debug__" : Str)) = false := by decide) (hall : (backToKw pos (keywordEach kws X.env)).all (·.1.isSome) = true := by rfl)
    (hpl : ((backTo pos (starEach [] X.env)).any (·.1) || (backToKw pos (keywordEach kws X.env)).any (·.1.isNone)) = false := by rfl) : PMk X (.Call (.Name x p) [] kws pos) (tMkS C fld ta) := by
  intro pins s σ H Q I h
  refine wpAny_Call_Name_kw (ld_glob I hg hm ?_ hdb)
  refine PySem.W.callWith_KW0 (h₀ := X.base) I.ok.mod.kin F.kC hall (thn (hkw.run pos pins s σ H _ I h) fun us s1 ⟨vs, H1, I1, r1, v, ev, q1⟩ => ⟨I1.kIn, ?_⟩) hpl
  subst ev
  obtain ⟨u, rfl, ru⟩ := r1.one
  rw [hks]
  show wpAny _ _ (call (.ref C) [] [(fld, u)]) _ _ _
  obtain ⟨hp, g, dr, tk, os⟩ := s1
  obtain ⟨nm, N', qn, bs, bm, hdct, sn, sub, ab, col, dd, k0, k1, k2, k3, k5, hC, hT⟩ := PySem.W.excInit_of I1.kIn F.cls
  have kk : ∀ b o, hp.get? b = some o → ((hp.push (PySem.W.kdv_tup [])).push (PySem.HandSPX.excO C hp.objs.size)).get? b = some o := fun b o e => Heap.get?_push_of_some _ (Heap.get?_push_of_some _ e)
  have hget : ((hp.push (PySem.W.kdv_tup [])).push (PySem.HandSPX.excO C hp.objs.size)).get? (hp.objs.size + 1) = some (PySem.HandSPX.excO C hp.objs.size) := by heap_get
  have hz2 : ((hp.push (PySem.W.kdv_tup [])).push (PySem.HandSPX.excO C hp.objs.size)).objs.size = hp.objs.size + 2 := by rw [Heap.size_push, Heap.size_push]
  have KI : X.K.In hp := I1.kIn
  obtain ⟨mb, hB, hB2⟩ := I1.mod.blt
  have glob : hp.Ns mainGlobals X.mg := I1.mod.glob.keeps I1.bk
  have bl : hp.Ns builtinsNs mb := hB.keeps I1.bk
  have lim : hp.NoLimit := I1.mod.nolimit.keeps I1.bk
  refine wpAny_call (PySem.HandSPX.call_kw F.base hT hC (PySem.W.looks_findIn I1.kIn F.ini) (fun self => PySem.W.bind_fn I1.kIn self F.iniT) ?_)
  generalize (hp.push (PySem.W.kdv_tup [])).push (PySem.HandSPX.excO C hp.objs.size) = h3 at *
  have hKe : X.K.lookup (hp.objs.size + 1) = none := by
    cases z : X.K.lookup (hp.objs.size + 1) with
    | none => rfl
    | some o => exact absurd (Heap.lt_size (KI _ _ z)) (Nat.not_lt_of_le (Nat.le_succ _))
  refine ex_init F S hc hsw hpar (KI.keeps kk) hKe hget (glob.keeps kk) hs (bl.keeps kk) ((hB2 "super" (by decide)).trans (by decide +kernel)) (lim.keeps kk) (hr.make C [] [(fld, u)]).depth (hb _ _ u) fun h' dx t1 tk' k hdx hne hex hns => ?_
  obtain ⟨G, gk1, gk2⟩ := restrict h' fun b => decide (b ≠ hp.objs.size + 1)
  have gk : ∀ b, b ≠ hp.objs.size + 1 → G.get? b = h'.get? b := fun b hb => gk1 b (decide_eq_true hb)
  have ge : G.get? (hp.objs.size + 1) = none := gk2 _ (by simp)
  have nha : ∀ {b : Addr} {o : Obj}, hp.get? b = some o → b ≠ hp.objs.size + 1 := fun {b o} z e => by
    rw [e] at z
    exact absurd (Heap.lt_size z) (Nat.not_lt_of_le (Nat.le_succ _))
  have hd1 : hp.objs.size ≤ dx := Nat.le_trans (by rw [hz2]; exact Nat.le_add_right _ _) hdx
  have J : Inv X pins σ (upd H1 dx (.xd [(fld, v)])) { ({ heap := hp, gens := g, drawn := dr, toks := tk, os := os } : Shared) with heap := G, toks := tk' } := by
    refine I1.laid (t' := tk') (fun b o z => ?_) hd1 ?_
    · rw [gk b (nha z)]
      exact k b o (nha z) (kk b o z)
    · refine ⟨_, hns.at fun o y => (gk dx hne).trans y, fun f => ?_⟩
      by_cases ef : f = fld
      · subst ef
        simp [List.lookup]
        exact ru
      · have : (f == fld) = false := beq_eq_false_iff_ne.mpr ef
        simp [List.lookup, this, ef]
        trivial
  refine ⟨rfl, hp.objs.size + 1, _, _, _, _, .ref C, some dx, rfl, J, fun b o z => ?_, ge, hex, ⟨rfl, rfl⟩, rfl, rfl, ?_, rfl, I1.bare, raises_own F.exC F.tyC, q1 dx (I1.hok.fresh hd1)⟩
  · by_cases hb' : b = hp.objs.size + 1
    · rw [hb', ge] at z
      cases z
    · exact (gk b hb').symm.trans z
  · rw [upd_ne (Ne.symm hne)]
    exact I1.hok.fresh (Nat.le_succ _)
def tMkS2r (C : Addr) (f f2 : Str) (ta : TA) : L2.St → Hp → XK → Prop := fun σ H Q => ta σ H fun vs H1 => ∃ v2 v, vs = [v2, v] ∧ ∀ dx, H1 dx = none → Q (.ref C) (some dx) (upd H1 dx (.xd [(f, v), (f2, v2)]))
theorem pe_superK2 {C fI cc cda : Addr} {B newId initId : String} {bmB : List Value} {q fld fld2 msg x : Str} {params : Arguments} {scope : Scope} {fd : FuncData} {j : Nat} {p0 p1 p2 p3 p4 p5 p6 p7 p8 p9 p10 p11 p12 p13 p pos : Pos} {kws : List Keyword} {ta : TA}
    (F : ExFacts X.prog X.K B newId initId bmB C fld fI cc cda q params (exBody2 fld fld2 msg j p0 p1 p2 p3 p4 p5 p6 p7 p8 p9 p10 p11 p12 p13) scope fd) (S : ExScope scope fld) (hl2 : scope.names.lookup fld2 = some .local) (hdb2 : (fld2 == ("__debug__" : Str)) = false) (hne2 : fld2 ≠ "self") (hne12 : fld2 ≠ fld) (noF2 : PySem.W.takerIn X.K C fld2 = some none) (hsw2 : ∀ env : Env, swapsWith (.Name fld2 p12) (some (.Attribute (.Name "self" p10) fld2 p11)) p13.line env = pure false) (hc : SuperCall msg j p0 p1 p2 p3 p4) (hsw : NoSwap fld msg j p0 p1 p2 p3 p4 p5 p6 p7 p8 p9)
    (hpar : (params.posonlyargs ++ params.args).head?.map (·.arg) = some ("self" : Str)) (hr : Room 1 X.A) (hb : ∀ (s : Shared) (u v v2 : Value), BindsTo s fd ⟨[u], [(fld2, v2), (fld, v)]⟩ [("self", u), (fld, v), (fld2, v2)]) (hs : X.mg "super" = none) (hg : Gl X x) (hm : X.mg x = some (.ref C)) (hkw : PK X kws ta)
    (hks : (backToKw pos (keywordEach kws X.env)).filterMap (·.1) = [fld2, fld]) (hdb : (x == ("__debug__" : Str)) = false := by decide) (hall : (backToKw pos (keywordEach kws X.env)).all (·.1.isSome) = true := by rfl)
    (hpl : ((backTo pos (starEach [] X.env)).any (·.1) || (backToKw pos (keywordEach kws X.env)).any (·.1.isNone)) = false := by rfl) : PMk X (.Call (.Name x p) [] kws pos) (tMkS2r C fld fld2 ta) := by
  intro pins s σ H Q I h
  refine wpAny_Call_Name_kw (ld_glob I hg hm ?_ hdb)
  refine PySem.W.callWith_KW0 (h₀ := X.base) I.ok.mod.kin F.kC hall (thn (hkw.run pos pins s σ H _ I h) fun us s1 ⟨vs, H1, I1, r1, v2, v, ev, q1⟩ => ⟨I1.kIn, ?_⟩) hpl
  subst ev
  obtain ⟨u2, u, rfl, ru2, ru⟩ := vals2 r1
  rw [hks]
  show wpAny _ _ (call (.ref C) [] [(fld2, u2), (fld, u)]) _ _ _
  obtain ⟨hp, g, dr, tk, os⟩ := s1
  obtain ⟨nm, N', qn, bs, bm, hdct, sn, sub, ab, col, dd, k0, k1, k2, k3, k5, hC, hT⟩ := PySem.W.excInit_of I1.kIn F.cls
  have kk : ∀ b o, hp.get? b = some o → ((hp.push (PySem.W.kdv_tup [])).push (PySem.HandSPX.excO C hp.objs.size)).get? b = some o := fun b o e => Heap.get?_push_of_some _ (Heap.get?_push_of_some _ e)
  have hget : ((hp.push (PySem.W.kdv_tup [])).push (PySem.HandSPX.excO C hp.objs.size)).get? (hp.objs.size + 1) = some (PySem.HandSPX.excO C hp.objs.size) := by heap_get
  have hz2 : ((hp.push (PySem.W.kdv_tup [])).push (PySem.HandSPX.excO C hp.objs.size)).objs.size = hp.objs.size + 2 := by rw [Heap.size_push, Heap.size_push]
  have KI : X.K.In hp := I1.kIn
  obtain ⟨mb, hB, hB2⟩ := I1.mod.blt
  have glob : hp.Ns mainGlobals X.mg := I1.mod.glob.keeps I1.bk
  have bl : hp.Ns builtinsNs mb := hB.keeps I1.bk
  have lim : hp.NoLimit := I1.mod.nolimit.keeps I1.bk
  refine wpAny_call (PySem.HandSPX.call_kw F.base hT hC (PySem.W.looks_findIn I1.kIn F.ini) (fun self => PySem.W.bind_fn I1.kIn self F.iniT) ?_)
  generalize (hp.push (PySem.W.kdv_tup [])).push (PySem.HandSPX.excO C hp.objs.size) = h3 at *
  have hKe : X.K.lookup (hp.objs.size + 1) = none := by
    cases z : X.K.lookup (hp.objs.size + 1) with
    | none => rfl
    | some o => exact absurd (Heap.lt_size (KI _ _ z)) (Nat.not_lt_of_le (Nat.le_succ _))
  refine ex_init2 F S hl2 hdb2 hne2 hne12 noF2 hc hsw hsw2 hpar (KI.keeps kk) hKe hget (glob.keeps kk) hs (bl.keeps kk) ((hB2 "super" (by decide)).trans (by decide +kernel)) (lim.keeps kk) (hr.make C [] [(fld2, u2), (fld, u)]).depth (hb _ _ u u2) fun h' dx t1 tk' k hdx hne hex hns => ?_
  obtain ⟨G, gk1, gk2⟩ := restrict h' fun b => decide (b ≠ hp.objs.size + 1)
  have gk : ∀ b, b ≠ hp.objs.size + 1 → G.get? b = h'.get? b := fun b hb => gk1 b (decide_eq_true hb)
  have ge : G.get? (hp.objs.size + 1) = none := gk2 _ (by simp)
  have nha : ∀ {b : Addr} {o : Obj}, hp.get? b = some o → b ≠ hp.objs.size + 1 := fun {b o} z e => by
    rw [e] at z
    exact absurd (Heap.lt_size z) (Nat.not_lt_of_le (Nat.le_succ _))
  have hd1 : hp.objs.size ≤ dx := Nat.le_trans (by rw [hz2]; exact Nat.le_add_right _ _) hdx
  have J : Inv X pins σ (upd H1 dx (.xd [(fld, v), (fld2, v2)])) { ({ heap := hp, gens := g, drawn := dr, toks := tk, os := os } : Shared) with heap := G, toks := tk' } := by
    refine I1.laid (t' := tk') (fun b o z => ?_) hd1 ?_
    · rw [gk b (nha z)]
      exact k b o (nha z) (kk b o z)
    · refine ⟨_, hns.at fun o y => (gk dx hne).trans y, fun f => ?_⟩
      have n21 : (fld2 == fld) = false := beq_eq_false_iff_ne.mpr hne12
      by_cases e2 : f = fld2
      · subst e2
        simp [List.lookup, n21]
        exact ru2
      · have b2 : (f == fld2) = false := beq_eq_false_iff_ne.mpr e2
        by_cases ef : f = fld
        · subst ef
          simp [List.lookup, e2]
          exact ru
        · have : (f == fld) = false := beq_eq_false_iff_ne.mpr ef
          simp [List.lookup, this, ef, b2, e2]
          trivial
  refine ⟨rfl, hp.objs.size + 1, _, _, _, _, .ref C, some dx, rfl, J, fun b o z => ?_, ge, hex, ⟨rfl, rfl⟩, rfl, rfl, ?_, rfl, I1.bare, raises_own F.exC F.tyC, q1 dx (I1.hok.fresh hd1)⟩
  · by_cases hb' : b = hp.objs.size + 1
    · rw [hb', ge] at z
      cases z
    · exact (gk b hb').symm.trans z
  · rw [upd_ne (Ne.symm hne)]
    exact I1.hok.fresh (Nat.le_succ _)
end
/-! ### over data -/
theorem flds_inj : ∀ {fs gs : List (Str × D)}, fs.map (fun q => ((.str q.1, q.2) : D × D)) = gs.map (fun q => (.str q.1, q.2)) → fs = gs
  | [], [], _ => rfl
  | [], _ :: _, e => by cases e
  | _ :: _, [], e => by cases e
  | (a, b) :: fs, (c, d) :: gs, e => by
    rw [List.map_cons, List.map_cons] at e
    obtain ⟨e1, e2⟩ := List.cons.inj e
    injection e1 with e3 e4
    injection e3 with e5
    obtain rfl : a = c := e5
    obtain rfl : b = d := e4
    rw [flds_inj e2]
theorem excK_inj {nm nm' : Str} {fs fs' : List (Str × D)} (h : excK nm fs = excK nm' fs') : nm = nm' ∧ fs = fs' := by
  unfold excK at h
  simp only [List.cons.injEq, Prod.mk.injEq, PyData.str.injEq, PyData.dict.injEq, and_true, true_and] at h
  exact ⟨h.1, flds_inj h.2⟩
def onExc (d : D) (k : Str → List (Str × D) → Prop) : Prop := ∃ nm fs, d = excD nm fs ∧ k nm fs
theorem x_onExc {nm : Str} {fs : List (Str × D)} {k : Str → List (Str × D) → Prop} : onExc (excD nm fs) k = k nm fs := propext ⟨fun ⟨nm', fs', e, h⟩ => by
  unfold excD at e
  injection e with e
  obtain ⟨rfl, rfl⟩ := excK_inj e
  exact h, fun h => ⟨nm, fs, rfl, h⟩⟩
section
variable {K : PySem.W.Frag} {O : Addr → Prop} {H : Hp}
theorem Rep.exc_in {v : V} {nm : Str} {fs : List (Str × D)} (r : Rep K O H v (excD nm fs)) : ∃ a C, v = .ref a ∧ ClsOf K nm C ∧ ((∃ dx vs, H a = some (ExD C dx a) ∧ H dx = some (.xd vs) ∧ vs.map (·.1) = fs.map (·.1) ∧ RepAll K O H (vs.map (·.2)) (fs.map (·.2))) ∨ (fs = [] ∧ H a = some (ExO (.ref C) a))) := by
  unfold excD at r
  cases r with
  | exc _ ek o1 o2 h1 h2 c e rr =>
    obtain ⟨rfl, rfl⟩ := excK_inj ek
    exact ⟨_, _, rfl, c, .inl ⟨_, _, h1, h2, e, rr⟩⟩
  | exc0 _ ek o1 h1 c =>
    obtain ⟨rfl, rfl⟩ := excK_inj ek
    exact ⟨_, _, rfl, c, .inr ⟨rfl, h1⟩⟩
  | dct _ _ _ ok _ _ =>
    have := ok.keys _ List.mem_cons_self
    cases this
  | dci _ _ e _ => exact (not_kD (fun k => by cases k <;> (intro z; cases z)) e).elim
end
section
variable {X : Cx}
theorem exc_new {c : Ctx} {O : Addr → Prop} {η : EnvD} {σ : L2.St} {H : Hp} {nm : Str} {fs : List (Str × D)} {vs : List (Str × V)} {C dx a : Addr} (hx : exOn = true) (g : Good X.K c O η σ H) (hdx : H dx = none) (ha : (upd H dx (.xd vs)) a = none) (hc : ClsOf X.K nm C) (e : vs.map (·.1) = fs.map (·.1)) (r : RepAll X.K O H (vs.map (·.2)) (fs.map (·.2))) :
    Step c.G H (upd (upd H dx (.xd vs)) a (ExG (.ref C) (some dx) a)) ∧ Rep X.K O (upd (upd H dx (.xd vs)) a (ExG (.ref C) (some dx) a)) (.ref a) (excD nm fs) := by
  have ne : a ≠ dx := fun z => by rw [z, upd_same] at ha; cases ha
  have hna : H a = none := by rw [upd_ne ne] at ha; exact ha
  have s1 := Step.alloc (o := .xd vs) g.draw hdx
  have s2 := Step.alloc (o := ExG (.ref C) (some dx) a) s1.draw ha
  exact ⟨s1.trans s2, .exc hx rfl (fun z => g.hT a z hna) (fun z => g.hT dx z hdx) upd_same (by rw [upd_ne (Ne.symm ne)]; exact upd_same) hc e ((r.same (same_upd hdx)).same (same_upd ha))⟩
structure KwIn (K : PySem.W.Frag) (nm fld : Str) : Prop where
  b : ∀ C fI fd, ClsOf K nm C → PySem.W.findIn K (.ref C) "__init__" = some (some (.ref fI)) → (∃ oc od osl, K.lookup fI = some ⟨oc, od, .func fd, osl⟩) → ∀ u v : Value, bindArgs fd ⟨[u], [(fld, v)]⟩ = pure ([("self", u), (fld, v)] : List (Str × Value))
structure KwIn2 (K : PySem.W.Frag) (nm fld fld2 : Str) : Prop where
  b : ∀ C fI fd, ClsOf K nm C → PySem.W.findIn K (.ref C) "__init__" = some (some (.ref fI)) → (∃ oc od osl, K.lookup fI = some ⟨oc, od, .func fd, osl⟩) → ∀ u v v2 : Value, bindArgs fd ⟨[u], [(fld2, v2), (fld, v)]⟩ = pure ([("self", u), (fld, v), (fld2, v2)] : List (Str × Value))
variable {nm fld fld2 cn f : Str} {e e1 e2 : Expr} {t t1 t2 : ET} {p pos p1 p2 kp kp2 : Pos}
def dMkX (nm f : Str) (t : ET) : ET := fun E η Q => t E η fun d => Q (excD nm [(f, d)])
def dMkX2 (nm f f2 : Str) (t t2 : ET) : ET := fun E η Q => t E η fun d => t2 E η fun d2 => Q (excD nm [(f, d), (f2, d2)])
def dMkX2r (nm f f2 : Str) (t2 t : ET) : ET := fun E η Q => t2 E η fun d2 => t E η fun d => Q (excD nm [(f, d), (f2, d2)])
def dMkX0 (nm : Str) (t : ET) : ET := fun E η Q => t E η fun _ => Q (excD nm [])
theorem de_mkX (Cl : ClsIn X.prog X.K X.mg nm fld) (XC : XcIn X.K X.mg) (hin : nm ∈ excNames) (hr : Room 1 X.A) (hg : Gl X nm) (he : DE X e t) (hdb : (nm == ("__debug__" : Str)) = false := by decide) (hst : starEach [e] X.env = (false, eval e X.env) :: starEach [] X.env := by rfl) (hpl : (backTo pos (starEach [] X.env)).any (·.1) = false := by rfl) (hx : exOn = true := by rfl) :
    DE X (.Call (.Name nm p) [e] [] pos) (dMkX nm fld t) := by
  obtain ⟨C, fI, cc, cda, B, newId, initId, bmB, q, params, scope, fd, msg, j, p0, p1, p2, p3, p4, p5, p6, p7, p8, p9, F, S, h1, h2, h3, h4, h5, h6, T, h7, h8⟩ := Cl.ex
  have cl := XC.c nm hin C h6
  refine .of (pe_ofMk (pmk_super F S h1 h2 h3 hr h4 h5 hg h6 (da_cons he da_nil hst).pa hdb hst hpl)) fun σ H c O η E Q g h => ?_
  refine ⟨c, O, η, E, one1 fun d => Q (excD nm [(fld, d)]), g, h, fun ds vs H' st rp q => ?_⟩
  match ds, vs, rp, q with
  | [d], [v], .cons r .nil, q =>
    refine ⟨v, rfl, fun dx hdx a ha => ?_⟩
    obtain ⟨s2, r2⟩ := exc_new (fs := [(fld, d)]) hx (g.step st).toGood hdx ha cl rfl (.cons r .nil)
    exact ⟨_, st.trans s2, r2, q⟩
theorem de_mkXk (Cl : ClsIn X.prog X.K X.mg nm fld) (XC : XcIn X.K X.mg) (KW : KwIn X.K nm fld) (hin : nm ∈ excNames) (hr : Room 1 X.A) (hg : Gl X nm) (he : DE X e t) (hks : (backToKw pos (keywordEach [⟨some fld, e, kp⟩] X.env)).filterMap (·.1) = [fld] := by rfl) (hdb : (nm == ("__debug__" : Str)) = false := by decide) (hall : (backToKw pos (keywordEach [⟨some fld, e, kp⟩] X.env)).all (·.1.isSome) = true := by rfl)
    (hpl : ((backTo pos (starEach [] X.env)).any (·.1) || (backToKw pos (keywordEach [⟨some fld, e, kp⟩] X.env)).any (·.1.isNone)) = false := by rfl) (hx : exOn = true := by rfl) :
    DE X (.Call (.Name nm p) [] [⟨some fld, e, kp⟩] pos) (dMkX nm fld t) := by
  obtain ⟨C, fI, cc, cda, B, newId, initId, bmB, q, params, scope, fd, msg, j, p0, p1, p2, p3, p4, p5, p6, p7, p8, p9, F, S, h1, h2, h3, h4, h5, h6, T, h7, h8⟩ := Cl.ex
  have cl := XC.c nm hin C h6
  refine .of (pe_ofMk (pe_superK F S h1 h2 h3 hr (fun s u v => BindsTo.of_eq (KW.b C fI fd cl F.ini F.fn u v)) h5 hg h6 (pk_cons he.pe pk_nil) hks hdb hall hpl)) fun σ H c O η E Q g h => ?_
  refine ⟨c, O, η, E, _, g, h, fun d v H' st r q => ?_⟩
  refine ⟨v, rfl, fun dx hdx a ha => ?_⟩
  obtain ⟨s2, r2⟩ := exc_new (fs := [(fld, d)]) hx (g.step st).toGood hdx ha cl rfl (.cons r .nil)
  exact ⟨_, st.trans s2, r2, q⟩
theorem de_mkX2 (Cl : ClsIn2 X.prog X.K X.mg nm fld fld2) (XC : XcIn X.K X.mg) (hin : nm ∈ excNames) (hr : Room 1 X.A) (hg : Gl X nm) (he : DE X e1 t1) (he2 : DE X e2 t2) (hdb : (nm == ("__debug__" : Str)) = false := by decide) (hst : starEach [e1, e2] X.env = (false, eval e1 X.env) :: starEach [e2] X.env := by rfl) (hst2 : starEach [e2] X.env = (false, eval e2 X.env) :: starEach [] X.env := by rfl) (hpl : (backTo pos (starEach [e2] X.env)).any (·.1) = false := by rfl) (hx : exOn = true := by rfl) :
    DE X (.Call (.Name nm p) [e1, e2] [] pos) (dMkX2 nm fld fld2 t1 t2) := by
  obtain ⟨C, fI, cc, cda, B, newId, initId, bmB, q, params, scope, fd, msg, j, p0, p1, p2, p3, p4, p5, p6, p7, p8, p9, p10, p11, p12, p13, F, ⟨S, l2, db2, n2, n12, nf2, sw2⟩, h1, h2, h3, h4, h5, h6, T, h7, h7b, h8⟩ := Cl.ex
  have cl := XC.c nm hin C h6
  refine .of (pe_ofMk (pmk_super2 F S l2 db2 n2 n12 nf2 h1 h2 sw2 h3 hr h4 h5 hg h6 (da_cons he (da_cons he2 da_nil hst2) hst).pa hdb hst hpl)) fun σ H c O η E Q g h => ?_
  refine ⟨c, O, η, E, two2 fun d d2 => Q (excD nm [(fld, d), (fld2, d2)]), g, h, fun ds vs H' st rp q => ?_⟩
  match ds, vs, rp, q with
  | [d, d2], [v, v2], .cons r (.cons r' .nil), q =>
    refine ⟨v, v2, rfl, fun dx hdx a ha => ?_⟩
    obtain ⟨s2, r2⟩ := exc_new (fs := [(fld, d), (fld2, d2)]) hx (g.step st).toGood hdx ha cl rfl (.cons r (.cons r' .nil))
    exact ⟨_, st.trans s2, r2, q⟩
theorem de_mkX2r (Cl : ClsIn2 X.prog X.K X.mg nm fld fld2) (XC : XcIn X.K X.mg) (KW : KwIn2 X.K nm fld fld2) (hin : nm ∈ excNames) (hr : Room 1 X.A) (hg : Gl X nm) (he2 : DE X e2 t2) (he : DE X e1 t1) (hks : (backToKw pos (keywordEach [⟨some fld2, e2, kp2⟩, ⟨some fld, e1, kp⟩] X.env)).filterMap (·.1) = [fld2, fld] := by rfl) (hdb : (nm == ("__debug__" : Str)) = false := by decide) (hall : (backToKw pos (keywordEach [⟨some fld2, e2, kp2⟩, ⟨some fld, e1, kp⟩] X.env)).all (·.1.isSome) = true := by rfl)
    (hpl : ((backTo pos (starEach [] X.env)).any (·.1) || (backToKw pos (keywordEach [⟨some fld2, e2, kp2⟩, ⟨some fld, e1, kp⟩] X.env)).any (·.1.isNone)) = false := by rfl) (hx : exOn = true := by rfl) :
    DE X (.Call (.Name nm p) [] [⟨some fld2, e2, kp2⟩, ⟨some fld, e1, kp⟩] pos) (dMkX2r nm fld fld2 t2 t1) := by
  obtain ⟨C, fI, cc, cda, B, newId, initId, bmB, q, params, scope, fd, msg, j, p0, p1, p2, p3, p4, p5, p6, p7, p8, p9, p10, p11, p12, p13, F, ⟨S, l2, db2, n2, n12, nf2, sw2⟩, h1, h2, h3, h4, h5, h6, T, h7, h7b, h8⟩ := Cl.ex
  have cl := XC.c nm hin C h6
  refine .of (pe_ofMk (pe_superK2 F S l2 db2 n2 n12 nf2 sw2 h1 h2 h3 hr (fun s u v v2 => BindsTo.of_eq (KW.b C fI fd cl F.ini F.fn u v v2)) h5 hg h6 (pk_cons he2.pe (pk_cons he.pe pk_nil)) hks hdb hall hpl)) fun σ H c O η E Q g h => ?_
  refine ⟨c, O, η, E, _, g, h, fun d2 v2 H1 st1 r2 q1 => ?_⟩
  refine ⟨c, O, η, E, _, g.step st1, q1, fun d v H2 st2 r q => ?_⟩
  refine ⟨v2, v, rfl, fun dx hdx a ha => ?_⟩
  have g1 := g.step st1
  obtain ⟨s3, r3⟩ := exc_new (fs := [(fld, d), (fld2, d2)]) hx (g1.step st2).toGood hdx ha cl rfl (.cons r (.cons (st2.rep g1.draw g1.wO r2) .nil))
  exact ⟨_, st1.trans (st2.trans s3), r3, q⟩
structure ShIn (K : PySem.W.Frag) (mg : Str → Option Value) (nm : Str) : Prop where
  ex : ∃ C B newId initId bmB, mg nm = some (.ref C) ∧ ExcBaseFacts B newId initId bmB ∧ PySem.W.excIn K C bmB newId = true ∧ PySem.W.keepIn K (.ref C) = true
theorem de_mkX0 (Sh : ShIn X.K X.mg nm) (XC : XcIn X.K X.mg) (hin : nm ∈ excNames) (hg : Gl X nm) (he : DE X e t) (hst : starEach [e] X.env = (false, eval e X.env) :: starEach [] X.env := by rfl) (hdb : (nm == ("__debug__" : Str)) = false := by decide) (hx : exOn = true := by rfl) :
    DE X (.Call (.Name nm p) [e] [] pos) (dMkX0 nm t) := by
  obtain ⟨C, B, newId, initId, bmB, h1, h2, h3, h4⟩ := Sh.ex
  have cl := XC.c nm hin C h1
  refine .of (pe_exc1 h2 h3 h1 h4 hg he.pe hst hdb) fun σ H c O η E Q g h => ?_
  refine ⟨c, O, η, E, _, g, h, fun d v H' st r q a ha => ?_⟩
  exact ⟨_, st.trans (.alloc (g.step st).draw ha), .exc0 hx rfl (fun z => (g.step st).hT a z ha) upd_same cl, q⟩
/-! isinstance -/
def rIsX (K : PySem.W.Frag) : List V → Hp → VK → Prop := fun xs H Q => ∃ (a C : Addr) (y : V) (Dv : Value) (b : Bool), xs = [.ref a, y] ∧ (∀ u, RelV y u → u = Dv) ∧ ((∃ dx fs, H a = some (ExD C dx a) ∧ H dx = some (.xd fs)) ∨ H a = some (ExO (.ref C) a)) ∧ ToldX K C ∧ PySem.W.kitOne K (.ref C) Dv = some b ∧ Q (.bl b) H
theorem exd_at {pins : List (Addr × Obj)} {σ : L2.St} {H : Hp} {s : Shared} {a C dx : Addr} {fs : List (Str × V)} (I : Inv X pins σ H s) (ha : H a = some (ExD C dx a)) (hd : H dx = some (.xd fs)) :
    ∃ (oe od : Obj) (mA : Str → Option Value), PySem.W.InstAt s.heap a oe C (some od) ∧ (∀ n, PySem.W.lookIn n od = some (mA n)) ∧ ∀ n, RelO (fs.lookup n) (mA n) := by
  obtain ⟨⟨oe, vs, h1, hz, hv⟩, _, _⟩ := I.hok a _ ha
  have hx : ObjOk X.prog X.w H s.heap dx (.xd fs) := I.hok dx _ hd
  obtain ⟨mA, hns, hr⟩ := hx
  obtain ⟨od, ho, hl⟩ := lookIn_ns hns
  exact ⟨oe, od, mA, ⟨h1, hz.1, by unfold PySem.W.notCls; rw [hv] <;> rfl, by rw [hz.2]; exact ho⟩, hl, hr⟩
theorem call_isX : CallR X (.builtin "isinstance") (rIsX X.K) := by
  intro pins s σ H xs us Q I r h
  obtain ⟨a, C, y, Dv, b, rfl, hy, ha, T, hk, q⟩ := h
  obtain ⟨u1, u2, rfl, r1, r2⟩ := vals2 r
  have e2 := hy _ r2
  subst e2
  cases r1
  rcases ha with ⟨dx, fs, ha, hd⟩ | ha
  · obtain ⟨oe, od, mA, J, _, _⟩ := exd_at I ha hd
    exact PySem.W.kia_one (PySem.W.kitx_exc T.cl T.ga T.gg T.exC T.at_ T.gs T.tk T.ob) I.kIn J hk (fun z => nomatch z) fun tk => ⟨.bl b, H, I.kept (t' := tk) fun _ _ z => z, rfl, q⟩
  · obtain ⟨⟨oe, vs, h1, hz, hv, _⟩, _, _⟩ := I.hok a _ ha
    have J : PySem.W.InstAt s.heap a oe C none := ⟨h1, hz.1, by unfold PySem.W.notCls; rw [hv] <;> rfl, by rw [hz.2]; trivial⟩
    exact PySem.W.kia_one (PySem.W.handS_kitx_exc T.ga T.gg T.exC T.hdC T.at_ T.gs T.tk T.ob) I.kIn J hk (fun z => nomatch z) fun tk => ⟨.bl b, H, I.kept (t' := tk) fun _ _ z => z, rfl, q⟩
def dIsX (cn : Str) (t : ET) : ET := fun E η Q => t E η fun d => onExc d fun nm _ => nm ∈ excNames ∧ Q (.bool (exB nm cn))
theorem isx_of {K : PySem.W.Frag} {O : Addr → Prop} {H : Hp} {v : V} {nm : Str} {fs : List (Str × D)} (r : Rep K O H v (excD nm fs)) : ∃ a C, v = .ref a ∧ ClsOf K nm C ∧ ((∃ dx gs, H a = some (ExD C dx a) ∧ H dx = some (.xd gs)) ∨ H a = some (ExO (.ref C) a)) := by
  obtain ⟨a, C, rfl, cl, h | h⟩ := r.exc_in
  · obtain ⟨dx, vs, h1, h2, _⟩ := h
    exact ⟨a, C, rfl, cl, .inl ⟨dx, vs, h1, h2⟩⟩
  · exact ⟨a, C, rfl, cl, .inr h.2⟩
theorem de_isX (XC : XcIn X.K X.mg) (hcn : cn ∈ excNames) (hg : Gl X "isinstance") (hm : X.mg "isinstance" = none) (hgc : Gl X cn) (he : DE X e t) (hdc : (cn == ("__debug__" : Str)) = false := by decide)
    (h1 : starEach [e, .Name cn p2] X.env = (false, eval e X.env) :: starEach [.Name cn p2] X.env := by rfl) (h2 : starEach [.Name cn p2] X.env = (false, eval (.Name cn p2) X.env) :: starEach [] X.env := by rfl) (hpl : (backTo pos (starEach [.Name cn p2] X.env)).any (·.1) = false := by rfl) :
    DE X (.Call (.Name "isinstance" p) [e, .Name cn p2] [] pos) (dIsX cn t) := by
  obtain ⟨Dd, hmc⟩ := XC.g cn hcn
  refine .of (pe_callB call_isX hg hm (by decide +kernel) (pa_cons he.pe (pa_cons (pe_gref hgc hmc hdc) pa_nil h2) h1) (by decide) (by decide) h1 hpl) fun σ H c O η E Q g h => ?_
  refine ⟨c, O, η, E, _, g, h, fun d v H' st r q => ?_⟩
  obtain ⟨nm, fs, rfl, hin, q⟩ := q
  obtain ⟨a, C, rfl, cl, ha⟩ := isx_of r
  obtain ⟨T, k1, _⟩ := XC.k nm hin C cl
  exact ⟨a, C, .ref Dd, .ref Dd, exB nm cn, rfl, fun u z => (by cases z; rfl), ha, T, k1 cn hcn Dd hmc, _, st, .bl _, q⟩
theorem de_isXT {T : String} {x : Str} (XC : XcIn X.K X.mg) (hT : T ∈ typNames) (hxT : Str.ofString T = x) (hg : Gl X "isinstance") (hm : X.mg "isinstance" = none) (hgT : Gl X x) (hmT : X.mg x = none) (hvT : bootBuiltins x = some (.type T)) (he : DE X e t) (hn : x ≠ "__name__" := by decide) (hdb : (x == ("__debug__" : Str)) = false := by decide)
    (h1 : starEach [e, .Name x p2] X.env = (false, eval e X.env) :: starEach [.Name x p2] X.env := by rfl) (hpl : (backTo pos (starEach [.Name x p2] X.env)).any (·.1) = false := by rfl) :
    DE X (.Call (.Name "isinstance" p) [e, .Name x p2] [] pos) (dIsX x t) := by
  refine .of (pe_callB call_isX hg hm (by decide +kernel) (pa_cons he.pe (pa_cons (pe_bltn (v := .ty T) hgT hmT hvT rfl hn hdb) pa_nil) h1) (by decide) (by decide) h1 hpl) fun σ H c O η E Q g h => ?_
  refine ⟨c, O, η, E, _, g, h, fun d v H' st r q => ?_⟩
  obtain ⟨nm, fs, rfl, hin, q⟩ := q
  obtain ⟨a, C, rfl, cl, ha⟩ := isx_of r
  obtain ⟨TT, _, k2⟩ := XC.k nm hin C cl
  subst hxT
  exact ⟨a, C, .ty T, .type T, _, rfl, fun u z => (ClsV.ty T).eq z, ha, TT, k2 T hT, _, st, .bl _, q⟩
/-! fields -/
def dFldX (f : Str) (t : ET) : ET := fun E η Q => t E η fun d => onExc d fun nm fs => (nm ∈ excNames ∧ f ∈ fldNames) ∧ onS (fs.lookup f) Q
theorem lookup_repX {K : PySem.W.Frag} {O : Addr → Prop} {H : Hp} {f : Str} {d : D} : ∀ {vs : List (Str × V)} {fs : List (Str × D)}, vs.map (·.1) = fs.map (·.1) → RepAll K O H (vs.map (·.2)) (fs.map (·.2)) → fs.lookup f = some d → ∃ y, vs.lookup f = some y ∧ Rep K O H y d
  | [], [], _, _, h => by cases h
  | [], _ :: _, e, _, _ => by cases e
  | _ :: _, [], e, _, _ => by cases e
  | (n, v) :: vs, (n', x) :: fs, e, r, h => by
    simp only [List.map_cons, List.cons.injEq] at e
    obtain ⟨rfl, e⟩ := e
    simp only [List.map_cons] at r
    cases r with
    | cons r1 r2 =>
      by_cases z : f = n
      · subst z
        simp only [List.lookup, beq_self_eq_true, Option.some.injEq] at h ⊢
        exact ⟨v, rfl, h ▸ r1⟩
      · have hb : (f == n) = false := beq_eq_false_iff_ne.mpr z
        simp only [List.lookup, hb] at h ⊢
        exact lookup_repX e r2 h
theorem de_fldX (XC : XcIn X.K X.mg) (he : DE X e t) (hb : attributeBase e f X.env (eval e X.env) = eval e X.env := by rfl) : DE X (.Attribute e f pos) (dFldX f t) := ⟨fun pins s σ H c O η E Q I g h => by
  refine attr_of hb (thn (he.run pins s σ H c O η E _ I g h) fun u s1 hh => ?_)
  obtain ⟨d, v, H1, I1, r1, st, rp, nm, fs, rfl, ⟨hin, hf⟩, q⟩ := hh
  obtain ⟨dd, hd, q⟩ := onS_out q
  obtain ⟨a, C, rfl, cl, h1 | h1⟩ := rp.exc_in
  · obtain ⟨dx, vs, ha, hdx, ev, rv⟩ := h1
    obtain rfl : u = Value.ref a := r1
    obtain ⟨TT, _, _⟩ := XC.k nm hin C cl
    obtain ⟨y, hy, ry⟩ := lookup_repX ev rv hd
    obtain ⟨oe, od, mA, J, hl, hr⟩ := exd_at I1 ha hdx
    obtain ⟨w, hw, rw'⟩ := RelO.some_of (v := y) (o := mA f) (by have := hr f; rwa [hy] at this)
    exact HandSPX.exc_get I1.kIn J TT.ga TT.gg TT.exC (PySem.W.findObj_own TT.hdC (TT.no f hf) rfl (by rw [hl, hw])) (handed_of rw') ⟨dd, y, _, I1.tok _, rw', st, ry, q⟩
  · rw [h1.1] at hd
    cases hd⟩
/-! {"a": 1} -/
def dDisp1K (x : Str) (i : Int) : ET := fun _ _ Q => Q (.dict [(.str x, .int i)])
theorem de_disp1K {x : Str} {i : Int} {j1 j2 : Nat} : DE X (.Dict [some (.Constant (.str x) j1 p1)] [.Constant (.int i) j2 p2] pos) (dDisp1K x i) :=
  .of (pe_disp (pps_cons pe_str pe_int pps_nil) (by rfl) (by rfl) (by simp) (by simp)) fun σ H c O η E Q g h p hp => by
    refine ⟨upd_same, [(.inr x, .int i)], rfl, by simp, ?_⟩
    rw [upd_upd]
    refine ⟨_, .alloc g.draw hp, .dci (ks := [(.inr x, .int i)]) (fun z => g.hT p z hp) upd_same rfl (.cons (.int i) .nil), h⟩
/-! the equations -/
theorem x_dDisp1K {x : Str} {i : Int} {E : XP} {η : EnvD} {Q : D → Prop} : dDisp1K x i E η Q = Q (.dict [(.str x, .int i)]) := id rfl
theorem x_dMkX {E : XP} {η : EnvD} {Q : D → Prop} : dMkX nm f t E η Q = t E η (fun d => Q (excD nm [(f, d)])) := id rfl
theorem x_dMkX2 {E : XP} {η : EnvD} {Q : D → Prop} : dMkX2 nm f fld2 t t2 E η Q = t E η (fun d => t2 E η fun d2 => Q (excD nm [(f, d), (fld2, d2)])) := id rfl
theorem x_dMkX2r {E : XP} {η : EnvD} {Q : D → Prop} : dMkX2r nm f fld2 t2 t E η Q = t2 E η (fun d2 => t E η fun d => Q (excD nm [(f, d), (fld2, d2)])) := id rfl
theorem x_dMkX0 {E : XP} {η : EnvD} {Q : D → Prop} : dMkX0 nm t E η Q = t E η (fun _ => Q (excD nm [])) := id rfl
theorem x_dIsX {E : XP} {η : EnvD} {Q : D → Prop} : dIsX cn t E η Q = t E η (fun d => onExc d fun nm _ => nm ∈ excNames ∧ Q (.bool (exB nm cn))) := id rfl
theorem x_dFldX {E : XP} {η : EnvD} {Q : D → Prop} : dFldX f t E η Q = t E η (fun d => onExc d fun nm fs => (nm ∈ excNames ∧ f ∈ fldNames) ∧ onS (fs.lookup f) Q) := id rfl
end
end DL

/-! DLe13: what the law's end finds of the exceptions' classes. -/
namespace DL
open PySem PySem.Spec PyProof.Rows L2
section
variable {K : PySem.W.Frag} {h : Heap} {mg : Str → Option Value}
theorem toldX {C : Addr} (ga : PySem.W.findIn K (.ref C) "__getattribute__" = some (some (.builtin "BaseException.__getattribute__"))) (gg : PySem.W.findIn K (.ref C) "__getattr__" = some none) (exC : PySem.W.subIn K (.ref C) (.type "BaseException") = some true) (hdC : PySem.W.hasDictIn K C = true)
    (cl : (PySem.W.clsIn K C).isSome = true) (at_ : PySem.W.findIn K (.ref C) "__class__" = some (some (.builtin "object.__class__"))) (gs : PySem.W.specialIn K (.builtin "object.__class__") "__get__" = some (some (.builtin "getset_descriptor.__get__"))) (tk : PySem.W.takesIn K (.builtin "object.__class__") = some true) (ob : PySem.W.mroIn K C (.type "object") = some true)
    (n1 : PySem.W.findIn K (.ref C) "place" = some none) (n2 : PySem.W.findIn K (.ref C) "value" = some none) (n3 : PySem.W.findIn K (.ref C) "word" = some none) (n4 : PySem.W.findIn K (.ref C) "line" = some none) (n5 : PySem.W.findIn K (.ref C) "number" = some none) (n6 : PySem.W.findIn K (.ref C) "many" = some none) (n7 : PySem.W.findIn K (.ref C) "most" = some none) : ToldX K C := by
  refine ⟨⟨ga, gg, exC, hdC⟩, cl, at_, gs, tk, ob, fun f hf => ?_⟩
  unfold fldNames at hf
  simp only [List.mem_cons, List.not_mem_nil, or_false] at hf
  rcases hf with rfl | rfl | rfl | rfl | rfl | rfl | rfl <;> assumption
def XcAt (K : PySem.W.Frag) : Prop := ∃ Cs : List Addr, excNames.length = Cs.length ∧ (∀ p ∈ excNames.zip Cs, PySem.W.nsIn K mainGlobals p.1 = some (some (.ref p.2))) ∧ ∀ p ∈ excNames.zip Cs, ToldX K p.2 ∧ (∀ q ∈ excNames.zip Cs, PySem.W.kitOne K (.ref p.2) (.ref q.2) = some (exB p.1 q.1)) ∧ ∀ T ∈ typNames, PySem.W.kitOne K (.ref p.2) (.type T) = some (exB p.1 (Str.ofString T))
theorem zip_at {α β γ : Type} {f : β → γ} {g : α → γ} : ∀ {ns : List α} {Cs : List β}, Cs.map f = ns.map g → ∀ q ∈ ns.zip Cs, f q.2 = g q.1
  | [], _, _, q, hq => by simp at hq
  | _ :: _, [], e, q, hq => by cases e
  | n :: ns, c :: cs, e, q, hq => by
    rw [List.map_cons, List.map_cons] at e
    obtain ⟨e1, e2⟩ := List.cons.inj e
    rw [List.zip_cons_cons] at hq
    rcases List.mem_cons.mp hq with rfl | hq
    · exact e1
    · exact zip_at e2 q hq
theorem map_at {α γ : Type} {f g : α → γ} {l : List α} (e : l.map f = l.map g) : ∀ x ∈ l, f x = g x := fun x hx => List.map_inj_left.mp e x hx
theorem zip_mem {α β : Type} : ∀ {ns : List α} {Cs : List β}, ns.length = Cs.length → ∀ n ∈ ns, ∃ c, (n, c) ∈ ns.zip Cs
  | [], _, _, n, hn => by cases hn
  | _ :: _, [], e, n, hn => by cases e
  | m :: ns, c :: cs, e, n, hn => by
    rcases List.mem_cons.mp hn with rfl | hn
    · exact ⟨c, by simp⟩
    · obtain ⟨d, hd⟩ := zip_mem (by simpa using e) n hn
      exact ⟨d, by rw [List.zip_cons_cons]; exact List.mem_cons_of_mem _ hd⟩
theorem xcIn_of (X : K.In h) (G : h.Ns mainGlobals mg) (x : XcAt K) : XcIn K mg := by
  obtain ⟨Cs, hl, h1, h2⟩ := x
  have at_ : ∀ nm ∈ excNames, ∃ C, (nm, C) ∈ excNames.zip Cs ∧ mg nm = some (.ref C) ∧ ClsOf K nm C := fun nm hn => by
    obtain ⟨C, hC⟩ := zip_mem hl nm hn
    exact ⟨C, hC, PySem.W.mg_of X G (h1 _ hC), h1 _ hC⟩
  refine ⟨fun nm hn C e => ?_, fun nm hn => ?_, fun nm hn C cl => ?_⟩
  · obtain ⟨C', _, e2, c⟩ := at_ nm hn
    rw [e2] at e
    cases e
    exact c
  · obtain ⟨C', _, e2, _⟩ := at_ nm hn
    exact ⟨C', e2⟩
  · obtain ⟨C', hz, e2, c⟩ := at_ nm hn
    have := ClsOf.uniq cl c
    subst this
    obtain ⟨t, k, u⟩ := h2 _ hz
    refine ⟨t, fun cn hcn D e => ?_, u⟩
    obtain ⟨D', hz2, e3, _⟩ := at_ cn hcn
    rw [e3] at e
    cases e
    exact k _ hz2
theorem xcAt17 {C1 C2 C3 C4 C5 C6 C7 C8 C9 C10 C11 C12 C13 C14 C15 C16 C17 : Addr} (a1 : PySem.W.nsIn K mainGlobals "BadSchema" = some (some (.ref C1)))
    (a2 : PySem.W.nsIn K mainGlobals "BadStore" = some (some (.ref C2)))
    (a3 : PySem.W.nsIn K mainGlobals "BadParting" = some (some (.ref C3)))
    (a4 : PySem.W.nsIn K mainGlobals "BadSheet" = some (some (.ref C4)))
    (a5 : PySem.W.nsIn K mainGlobals "BadRow" = some (some (.ref C5)))
    (a6 : PySem.W.nsIn K mainGlobals "BadLot" = some (some (.ref C6)))
    (a7 : PySem.W.nsIn K mainGlobals "BadColumn" = some (some (.ref C7)))
    (a8 : PySem.W.nsIn K mainGlobals "BadCell" = some (some (.ref C8)))
    (a9 : PySem.W.nsIn K mainGlobals "BadNumber" = some (some (.ref C9)))
    (a10 : PySem.W.nsIn K mainGlobals "Twice" = some (some (.ref C10)))
    (a11 : PySem.W.nsIn K mainGlobals "Missing" = some (some (.ref C11)))
    (a12 : PySem.W.nsIn K mainGlobals "BadPaper" = some (some (.ref C12)))
    (a13 : PySem.W.nsIn K mainGlobals "BadText" = some (some (.ref C13)))
    (a14 : PySem.W.nsIn K mainGlobals "Broken" = some (some (.ref C14)))
    (a15 : PySem.W.nsIn K mainGlobals "NothingLeft" = some (some (.ref C15)))
    (a16 : PySem.W.nsIn K mainGlobals "TooMany" = some (some (.ref C16)))
    (a17 : PySem.W.nsIn K mainGlobals "ShareError" = some (some (.ref C17)))
    (t1 : ToldX K C1)
    (t2 : ToldX K C2)
    (t3 : ToldX K C3)
    (t4 : ToldX K C4)
    (t5 : ToldX K C5)
    (t6 : ToldX K C6)
    (t7 : ToldX K C7)
    (t8 : ToldX K C8)
    (t9 : ToldX K C9)
    (t10 : ToldX K C10)
    (t11 : ToldX K C11)
    (t12 : ToldX K C12)
    (t13 : ToldX K C13)
    (t14 : ToldX K C14)
    (t15 : ToldX K C15)
    (t16 : ToldX K C16)
    (t17 : ToldX K C17)
    (k1 : [C1, C2, C3, C4, C5, C6, C7, C8, C9, C10, C11, C12, C13, C14, C15, C16, C17].map (fun D => PySem.W.kitOne K (.ref C1) (.ref D)) = [some true, some false, some false, some false, some false, some false, some false, some false, some false, some false, some false, some false, some false, some false, some false, some false, some true])
    (k2 : [C1, C2, C3, C4, C5, C6, C7, C8, C9, C10, C11, C12, C13, C14, C15, C16, C17].map (fun D => PySem.W.kitOne K (.ref C2) (.ref D)) = [some false, some true, some false, some false, some false, some false, some false, some false, some false, some false, some false, some false, some false, some false, some false, some false, some true])
    (k3 : [C1, C2, C3, C4, C5, C6, C7, C8, C9, C10, C11, C12, C13, C14, C15, C16, C17].map (fun D => PySem.W.kitOne K (.ref C3) (.ref D)) = [some false, some false, some true, some false, some false, some false, some false, some false, some false, some false, some false, some false, some false, some false, some false, some false, some true])
    (k4 : [C1, C2, C3, C4, C5, C6, C7, C8, C9, C10, C11, C12, C13, C14, C15, C16, C17].map (fun D => PySem.W.kitOne K (.ref C4) (.ref D)) = [some false, some false, some false, some true, some false, some false, some false, some false, some false, some false, some false, some false, some false, some false, some false, some false, some true])
    (k5 : [C1, C2, C3, C4, C5, C6, C7, C8, C9, C10, C11, C12, C13, C14, C15, C16, C17].map (fun D => PySem.W.kitOne K (.ref C5) (.ref D)) = [some false, some false, some false, some false, some true, some false, some false, some false, some false, some false, some false, some false, some false, some false, some false, some false, some true])
    (k6 : [C1, C2, C3, C4, C5, C6, C7, C8, C9, C10, C11, C12, C13, C14, C15, C16, C17].map (fun D => PySem.W.kitOne K (.ref C6) (.ref D)) = [some false, some false, some false, some false, some false, some true, some false, some false, some false, some false, some false, some false, some false, some false, some false, some false, some true])
    (k7 : [C1, C2, C3, C4, C5, C6, C7, C8, C9, C10, C11, C12, C13, C14, C15, C16, C17].map (fun D => PySem.W.kitOne K (.ref C7) (.ref D)) = [some false, some false, some false, some false, some false, some false, some true, some false, some false, some false, some false, some false, some false, some false, some false, some false, some true])
    (k8 : [C1, C2, C3, C4, C5, C6, C7, C8, C9, C10, C11, C12, C13, C14, C15, C16, C17].map (fun D => PySem.W.kitOne K (.ref C8) (.ref D)) = [some false, some false, some false, some false, some false, some false, some false, some true, some false, some false, some false, some false, some false, some false, some false, some false, some true])
    (k9 : [C1, C2, C3, C4, C5, C6, C7, C8, C9, C10, C11, C12, C13, C14, C15, C16, C17].map (fun D => PySem.W.kitOne K (.ref C9) (.ref D)) = [some false, some false, some false, some false, some false, some false, some false, some false, some true, some false, some false, some false, some false, some false, some false, some false, some true])
    (k10 : [C1, C2, C3, C4, C5, C6, C7, C8, C9, C10, C11, C12, C13, C14, C15, C16, C17].map (fun D => PySem.W.kitOne K (.ref C10) (.ref D)) = [some false, some false, some false, some false, some false, some false, some false, some false, some false, some true, some false, some false, some false, some false, some false, some false, some true])
    (k11 : [C1, C2, C3, C4, C5, C6, C7, C8, C9, C10, C11, C12, C13, C14, C15, C16, C17].map (fun D => PySem.W.kitOne K (.ref C11) (.ref D)) = [some false, some false, some false, some false, some false, some false, some false, some false, some false, some false, some true, some false, some false, some false, some false, some false, some true])
    (k12 : [C1, C2, C3, C4, C5, C6, C7, C8, C9, C10, C11, C12, C13, C14, C15, C16, C17].map (fun D => PySem.W.kitOne K (.ref C12) (.ref D)) = [some false, some false, some false, some false, some false, some false, some false, some false, some false, some false, some false, some true, some false, some false, some false, some false, some true])
    (k13 : [C1, C2, C3, C4, C5, C6, C7, C8, C9, C10, C11, C12, C13, C14, C15, C16, C17].map (fun D => PySem.W.kitOne K (.ref C13) (.ref D)) = [some false, some false, some false, some false, some false, some false, some false, some false, some false, some false, some false, some false, some true, some false, some false, some false, some true])
    (k14 : [C1, C2, C3, C4, C5, C6, C7, C8, C9, C10, C11, C12, C13, C14, C15, C16, C17].map (fun D => PySem.W.kitOne K (.ref C14) (.ref D)) = [some false, some false, some false, some false, some false, some false, some false, some false, some false, some false, some false, some false, some false, some true, some false, some false, some true])
    (k15 : [C1, C2, C3, C4, C5, C6, C7, C8, C9, C10, C11, C12, C13, C14, C15, C16, C17].map (fun D => PySem.W.kitOne K (.ref C15) (.ref D)) = [some false, some false, some false, some false, some false, some false, some false, some false, some false, some false, some false, some false, some false, some false, some true, some false, some true])
    (k16 : [C1, C2, C3, C4, C5, C6, C7, C8, C9, C10, C11, C12, C13, C14, C15, C16, C17].map (fun D => PySem.W.kitOne K (.ref C16) (.ref D)) = [some false, some false, some false, some false, some false, some false, some false, some false, some false, some false, some false, some false, some false, some false, some false, some true, some false])
    (k17 : [C1, C2, C3, C4, C5, C6, C7, C8, C9, C10, C11, C12, C13, C14, C15, C16, C17].map (fun D => PySem.W.kitOne K (.ref C17) (.ref D)) = [some false, some false, some false, some false, some false, some false, some false, some false, some false, some false, some false, some false, some false, some false, some false, some false, some true])
    (u1 : typNames.map (fun T => PySem.W.kitOne K (.ref C1) (.type T)) = [some true, some false, some false, some false, some false])
    (u2 : typNames.map (fun T => PySem.W.kitOne K (.ref C2) (.type T)) = [some true, some false, some false, some false, some false])
    (u3 : typNames.map (fun T => PySem.W.kitOne K (.ref C3) (.type T)) = [some true, some false, some false, some false, some false])
    (u4 : typNames.map (fun T => PySem.W.kitOne K (.ref C4) (.type T)) = [some true, some false, some false, some false, some false])
    (u5 : typNames.map (fun T => PySem.W.kitOne K (.ref C5) (.type T)) = [some true, some false, some false, some false, some false])
    (u6 : typNames.map (fun T => PySem.W.kitOne K (.ref C6) (.type T)) = [some true, some false, some false, some false, some false])
    (u7 : typNames.map (fun T => PySem.W.kitOne K (.ref C7) (.type T)) = [some true, some false, some false, some false, some false])
    (u8 : typNames.map (fun T => PySem.W.kitOne K (.ref C8) (.type T)) = [some true, some false, some false, some false, some false])
    (u9 : typNames.map (fun T => PySem.W.kitOne K (.ref C9) (.type T)) = [some true, some false, some false, some false, some false])
    (u10 : typNames.map (fun T => PySem.W.kitOne K (.ref C10) (.type T)) = [some true, some false, some false, some false, some false])
    (u11 : typNames.map (fun T => PySem.W.kitOne K (.ref C11) (.type T)) = [some true, some false, some false, some false, some false])
    (u12 : typNames.map (fun T => PySem.W.kitOne K (.ref C12) (.type T)) = [some true, some false, some false, some false, some false])
    (u13 : typNames.map (fun T => PySem.W.kitOne K (.ref C13) (.type T)) = [some true, some false, some false, some false, some false])
    (u14 : typNames.map (fun T => PySem.W.kitOne K (.ref C14) (.type T)) = [some true, some false, some false, some false, some false])
    (u15 : typNames.map (fun T => PySem.W.kitOne K (.ref C15) (.type T)) = [some true, some false, some false, some false, some false])
    (u16 : typNames.map (fun T => PySem.W.kitOne K (.ref C16) (.type T)) = [some false, some true, some false, some false, some false])
    (u17 : typNames.map (fun T => PySem.W.kitOne K (.ref C17) (.type T)) = [some true, some false, some false, some false, some false]) : XcAt K := by
  refine ⟨[C1, C2, C3, C4, C5, C6, C7, C8, C9, C10, C11, C12, C13, C14, C15, C16, C17], rfl, fun p hp => ?_, fun p hp => ?_⟩
  · unfold excNames at hp
    simp only [List.zip_cons_cons, List.zip_nil_left, List.mem_cons, List.not_mem_nil, or_false] at hp
    rcases hp with rfl | rfl | rfl | rfl | rfl | rfl | rfl | rfl | rfl | rfl | rfl | rfl | rfl | rfl | rfl | rfl | rfl <;> assumption
  · unfold excNames at hp
    simp only [List.zip_cons_cons, List.zip_nil_left, List.mem_cons, List.not_mem_nil, or_false] at hp
    rcases hp with rfl | rfl | rfl | rfl | rfl | rfl | rfl | rfl | rfl | rfl | rfl | rfl | rfl | rfl | rfl | rfl | rfl
    · exact ⟨t1, zip_at (g := fun cn => some (exB "BadSchema" cn)) (k1.trans (by decide +kernel : ([some true, some false, some false, some false, some false, some false, some false, some false, some false, some false, some false, some false, some false, some false, some false, some false, some true] : List (Option Bool)) = excNames.map fun cn => some (exB "BadSchema" cn))), map_at (u1.trans (by decide +kernel : ([some true, some false, some false, some false, some false] : List (Option Bool)) = typNames.map fun T => some (exB "BadSchema" (Str.ofString T))))⟩
    · exact ⟨t2, zip_at (g := fun cn => some (exB "BadStore" cn)) (k2.trans (by decide +kernel : ([some false, some true, some false, some false, some false, some false, some false, some false, some false, some false, some false, some false, some false, some false, some false, some false, some true] : List (Option Bool)) = excNames.map fun cn => some (exB "BadStore" cn))), map_at (u2.trans (by decide +kernel : ([some true, some false, some false, some false, some false] : List (Option Bool)) = typNames.map fun T => some (exB "BadStore" (Str.ofString T))))⟩
    · exact ⟨t3, zip_at (g := fun cn => some (exB "BadParting" cn)) (k3.trans (by decide +kernel : ([some false, some false, some true, some false, some false, some false, some false, some false, some false, some false, some false, some false, some false, some false, some false, some false, some true] : List (Option Bool)) = excNames.map fun cn => some (exB "BadParting" cn))), map_at (u3.trans (by decide +kernel : ([some true, some false, some false, some false, some false] : List (Option Bool)) = typNames.map fun T => some (exB "BadParting" (Str.ofString T))))⟩
    · exact ⟨t4, zip_at (g := fun cn => some (exB "BadSheet" cn)) (k4.trans (by decide +kernel : ([some false, some false, some false, some true, some false, some false, some false, some false, some false, some false, some false, some false, some false, some false, some false, some false, some true] : List (Option Bool)) = excNames.map fun cn => some (exB "BadSheet" cn))), map_at (u4.trans (by decide +kernel : ([some true, some false, some false, some false, some false] : List (Option Bool)) = typNames.map fun T => some (exB "BadSheet" (Str.ofString T))))⟩
    · exact ⟨t5, zip_at (g := fun cn => some (exB "BadRow" cn)) (k5.trans (by decide +kernel : ([some false, some false, some false, some false, some true, some false, some false, some false, some false, some false, some false, some false, some false, some false, some false, some false, some true] : List (Option Bool)) = excNames.map fun cn => some (exB "BadRow" cn))), map_at (u5.trans (by decide +kernel : ([some true, some false, some false, some false, some false] : List (Option Bool)) = typNames.map fun T => some (exB "BadRow" (Str.ofString T))))⟩
    · exact ⟨t6, zip_at (g := fun cn => some (exB "BadLot" cn)) (k6.trans (by decide +kernel : ([some false, some false, some false, some false, some false, some true, some false, some false, some false, some false, some false, some false, some false, some false, some false, some false, some true] : List (Option Bool)) = excNames.map fun cn => some (exB "BadLot" cn))), map_at (u6.trans (by decide +kernel : ([some true, some false, some false, some false, some false] : List (Option Bool)) = typNames.map fun T => some (exB "BadLot" (Str.ofString T))))⟩
    · exact ⟨t7, zip_at (g := fun cn => some (exB "BadColumn" cn)) (k7.trans (by decide +kernel : ([some false, some false, some false, some false, some false, some false, some true, some false, some false, some false, some false, some false, some false, some false, some false, some false, some true] : List (Option Bool)) = excNames.map fun cn => some (exB "BadColumn" cn))), map_at (u7.trans (by decide +kernel : ([some true, some false, some false, some false, some false] : List (Option Bool)) = typNames.map fun T => some (exB "BadColumn" (Str.ofString T))))⟩
    · exact ⟨t8, zip_at (g := fun cn => some (exB "BadCell" cn)) (k8.trans (by decide +kernel : ([some false, some false, some false, some false, some false, some false, some false, some true, some false, some false, some false, some false, some false, some false, some false, some false, some true] : List (Option Bool)) = excNames.map fun cn => some (exB "BadCell" cn))), map_at (u8.trans (by decide +kernel : ([some true, some false, some false, some false, some false] : List (Option Bool)) = typNames.map fun T => some (exB "BadCell" (Str.ofString T))))⟩
    · exact ⟨t9, zip_at (g := fun cn => some (exB "BadNumber" cn)) (k9.trans (by decide +kernel : ([some false, some false, some false, some false, some false, some false, some false, some false, some true, some false, some false, some false, some false, some false, some false, some false, some true] : List (Option Bool)) = excNames.map fun cn => some (exB "BadNumber" cn))), map_at (u9.trans (by decide +kernel : ([some true, some false, some false, some false, some false] : List (Option Bool)) = typNames.map fun T => some (exB "BadNumber" (Str.ofString T))))⟩
    · exact ⟨t10, zip_at (g := fun cn => some (exB "Twice" cn)) (k10.trans (by decide +kernel : ([some false, some false, some false, some false, some false, some false, some false, some false, some false, some true, some false, some false, some false, some false, some false, some false, some true] : List (Option Bool)) = excNames.map fun cn => some (exB "Twice" cn))), map_at (u10.trans (by decide +kernel : ([some true, some false, some false, some false, some false] : List (Option Bool)) = typNames.map fun T => some (exB "Twice" (Str.ofString T))))⟩
    · exact ⟨t11, zip_at (g := fun cn => some (exB "Missing" cn)) (k11.trans (by decide +kernel : ([some false, some false, some false, some false, some false, some false, some false, some false, some false, some false, some true, some false, some false, some false, some false, some false, some true] : List (Option Bool)) = excNames.map fun cn => some (exB "Missing" cn))), map_at (u11.trans (by decide +kernel : ([some true, some false, some false, some false, some false] : List (Option Bool)) = typNames.map fun T => some (exB "Missing" (Str.ofString T))))⟩
    · exact ⟨t12, zip_at (g := fun cn => some (exB "BadPaper" cn)) (k12.trans (by decide +kernel : ([some false, some false, some false, some false, some false, some false, some false, some false, some false, some false, some false, some true, some false, some false, some false, some false, some true] : List (Option Bool)) = excNames.map fun cn => some (exB "BadPaper" cn))), map_at (u12.trans (by decide +kernel : ([some true, some false, some false, some false, some false] : List (Option Bool)) = typNames.map fun T => some (exB "BadPaper" (Str.ofString T))))⟩
    · exact ⟨t13, zip_at (g := fun cn => some (exB "BadText" cn)) (k13.trans (by decide +kernel : ([some false, some false, some false, some false, some false, some false, some false, some false, some false, some false, some false, some false, some true, some false, some false, some false, some true] : List (Option Bool)) = excNames.map fun cn => some (exB "BadText" cn))), map_at (u13.trans (by decide +kernel : ([some true, some false, some false, some false, some false] : List (Option Bool)) = typNames.map fun T => some (exB "BadText" (Str.ofString T))))⟩
    · exact ⟨t14, zip_at (g := fun cn => some (exB "Broken" cn)) (k14.trans (by decide +kernel : ([some false, some false, some false, some false, some false, some false, some false, some false, some false, some false, some false, some false, some false, some true, some false, some false, some true] : List (Option Bool)) = excNames.map fun cn => some (exB "Broken" cn))), map_at (u14.trans (by decide +kernel : ([some true, some false, some false, some false, some false] : List (Option Bool)) = typNames.map fun T => some (exB "Broken" (Str.ofString T))))⟩
    · exact ⟨t15, zip_at (g := fun cn => some (exB "NothingLeft" cn)) (k15.trans (by decide +kernel : ([some false, some false, some false, some false, some false, some false, some false, some false, some false, some false, some false, some false, some false, some false, some true, some false, some true] : List (Option Bool)) = excNames.map fun cn => some (exB "NothingLeft" cn))), map_at (u15.trans (by decide +kernel : ([some true, some false, some false, some false, some false] : List (Option Bool)) = typNames.map fun T => some (exB "NothingLeft" (Str.ofString T))))⟩
    · exact ⟨t16, zip_at (g := fun cn => some (exB "TooMany" cn)) (k16.trans (by decide +kernel : ([some false, some false, some false, some false, some false, some false, some false, some false, some false, some false, some false, some false, some false, some false, some false, some true, some false] : List (Option Bool)) = excNames.map fun cn => some (exB "TooMany" cn))), map_at (u16.trans (by decide +kernel : ([some false, some true, some false, some false, some false] : List (Option Bool)) = typNames.map fun T => some (exB "TooMany" (Str.ofString T))))⟩
    · exact ⟨t17, zip_at (g := fun cn => some (exB "ShareError" cn)) (k17.trans (by decide +kernel : ([some false, some false, some false, some false, some false, some false, some false, some false, some false, some false, some false, some false, some false, some false, some false, some false, some true] : List (Option Bool)) = excNames.map fun cn => some (exB "ShareError" cn))), map_at (u17.trans (by decide +kernel : ([some true, some false, some false, some false, some false] : List (Option Bool)) = typNames.map fun T => some (exB "ShareError" (Str.ofString T))))⟩
/-! calls by keywords -/
def KwAt (K : PySem.W.Frag) (nm fld : Str) : Prop := ∃ (C fI : Addr) (oc : Value) (od : Option Addr) (osl : Array (Option Value)) (fd : FuncData), ClsOf K nm C ∧ PySem.W.findIn K (.ref C) "__init__" = some (some (.ref fI)) ∧ K.lookup fI = some ⟨oc, od, .func fd, osl⟩ ∧ ∀ u v : Value, bindArgs fd ⟨[u], [(fld, v)]⟩ = pure ([("self", u), (fld, v)] : List (Str × Value))
def KwAt2 (K : PySem.W.Frag) (nm fld fld2 : Str) : Prop := ∃ (C fI : Addr) (oc : Value) (od : Option Addr) (osl : Array (Option Value)) (fd : FuncData), ClsOf K nm C ∧ PySem.W.findIn K (.ref C) "__init__" = some (some (.ref fI)) ∧ K.lookup fI = some ⟨oc, od, .func fd, osl⟩ ∧ ∀ u v v2 : Value, bindArgs fd ⟨[u], [(fld2, v2), (fld, v)]⟩ = pure ([("self", u), (fld, v), (fld2, v2)] : List (Str × Value))
theorem kwAt {nm fld : Str} {C fI : Addr} {oc : Value} {od : Option Addr} {osl : Array (Option Value)} {fd : FuncData} (a : PySem.W.nsIn K mainGlobals nm = some (some (.ref C))) (i : PySem.W.findIn K (.ref C) "__init__" = some (some (.ref fI))) (l : K.lookup fI = some ⟨oc, od, .func fd, osl⟩) (b : ∀ u v : Value, bindArgs fd ⟨[u], [(fld, v)]⟩ = pure ([("self", u), (fld, v)] : List (Str × Value))) : KwAt K nm fld := ⟨C, fI, oc, od, osl, fd, a, i, l, b⟩
theorem kwAt2 {nm fld fld2 : Str} {C fI : Addr} {oc : Value} {od : Option Addr} {osl : Array (Option Value)} {fd : FuncData} (a : PySem.W.nsIn K mainGlobals nm = some (some (.ref C))) (i : PySem.W.findIn K (.ref C) "__init__" = some (some (.ref fI))) (l : K.lookup fI = some ⟨oc, od, .func fd, osl⟩) (b : ∀ u v v2 : Value, bindArgs fd ⟨[u], [(fld2, v2), (fld, v)]⟩ = pure ([("self", u), (fld, v), (fld2, v2)] : List (Str × Value))) : KwAt2 K nm fld fld2 := ⟨C, fI, oc, od, osl, fd, a, i, l, b⟩
theorem kwIn_of {nm fld : Str} (x : KwAt K nm fld) : KwIn K nm fld := by
  obtain ⟨C, fI, oc, od, osl, fd, h1, h2, h3, h4⟩ := x
  refine ⟨fun C' fI' fd' c i l u v => ?_⟩
  have := ClsOf.uniq c h1
  subst this
  rw [h2] at i
  cases i
  obtain ⟨_, _, _, l⟩ := l
  rw [h3] at l
  cases l
  exact h4 u v
theorem kwIn2_of {nm fld fld2 : Str} (x : KwAt2 K nm fld fld2) : KwIn2 K nm fld fld2 := by
  obtain ⟨C, fI, oc, od, osl, fd, h1, h2, h3, h4⟩ := x
  refine ⟨fun C' fI' fd' c i l u v v2 => ?_⟩
  have := ClsOf.uniq c h1
  subst this
  rw [h2] at i
  cases i
  obtain ⟨_, _, _, l⟩ := l
  rw [h3] at l
  cases l
  exact h4 u v v2
def ShAt (K : PySem.W.Frag) (nm : Str) : Prop := ∃ C, PySem.W.nsIn K mainGlobals nm = some (some (.ref C)) ∧ PySem.W.excIn K C bmVE "ValueError.__new__" = true ∧ PySem.W.keepIn K (.ref C) = true
theorem shAt {nm : Str} {C : Addr} (a : PySem.W.nsIn K mainGlobals nm = some (some (.ref C))) (e : PySem.W.excIn K C bmVE "ValueError.__new__" = true) (k : PySem.W.keepIn K (.ref C) = true) : ShAt K nm := ⟨C, a, e, k⟩
theorem shIn_of {nm : Str} (X : K.In h) (G : h.Ns mainGlobals mg) (x : ShAt K nm) : ShIn K mg nm := by
  obtain ⟨C, a, e, k⟩ := x
  exact ⟨C, "ValueError", "ValueError.__new__", "ValueError.__init__", bmVE, PySem.W.mg_of X G a, PySem.F.excBase_ValueError, e, k⟩
end
end DL

/-! PL2m: lots and closures, plain. -/
namespace PL
open PySem DL
/-! ### all lots, in order -/
def neLots : List Int → List (List Int)
  | [] => []
  | c :: cs => [c] :: ((neLots cs).map (c :: ·) ++ neLots cs)
def lexLots (cs : List Int) : List (List Int) := [] :: neLots cs
/-- as the text lays them -/
def rawLots (cs : List Int) : List (List Int) := cs.foldl (fun F c => F ++ F.map fun l => l ++ [c]) [[]]
/-! ### columns, closures -/
def cols (n : Nat) : List Int := (List.range n).map fun (i : Nat) => (i : Int)
theorem mem_cols {n : Nat} {x : Int} : x ∈ cols n ↔ 0 ≤ x ∧ x < n := by
  unfold cols
  rw [List.mem_map]
  constructor
  · rintro ⟨i, hi, rfl⟩
    rw [List.mem_range] at hi
    omega
  · rintro ⟨h0, h1⟩
    exact ⟨x.toNat, List.mem_range.mpr (by omega), by omega⟩
theorem cols_asc (n : Nat) : Asc (cols n) := by
  unfold cols
  rw [Asc, List.pairwise_map]
  exact List.pairwise_lt_range.imp fun {a b} h => by omega
/-- a lot of n columns -/
structure InL (n : Nat) (l : List Int) : Prop where
  asc : Asc l
  rng : ∀ x ∈ l, 0 ≤ x ∧ x < n
theorem asc_len : ∀ {l : List Int} {a n : Int}, Asc l → (∀ x ∈ l, a ≤ x ∧ x < n) → a ≤ n → (l.length : Int) ≤ n - a
  | [], a, n, _, _, h => by simp; omega
  | x :: l, a, n, h, hr, h' => by
    obtain ⟨h1, h2⟩ := List.pairwise_cons.mp h
    have hx := hr x List.mem_cons_self
    have := asc_len (a := x + 1) (n := n) h2 (fun y hy => ⟨by have := h1 y hy; omega, (hr y (List.mem_cons_of_mem _ hy)).2⟩) (by omega)
    rw [List.length_cons]
    omega
theorem InL.len {n : Nat} {l : List Int} (h : InL n l) : l.length ≤ n := by
  have := asc_len h.asc h.rng (Int.natCast_nonneg n)
  omega
theorem filter_mem {l m : List Int} (hl : Asc l) (hm : Asc m) (h : ∀ x ∈ l, x ∈ m) : m.filter (fun x => decide (x ∈ l)) = l := by
  refine asc_ext (hm.sublist List.filter_sublist) hl fun x => ?_
  rw [List.mem_filter, decide_eq_true_eq]
  exact ⟨fun h => h.2, fun hx => ⟨h x hx, hx⟩⟩
theorem InL.sub {n : Nat} {l : List Int} (h : InL n l) : l.Sublist (cols n) := by
  have := filter_mem h.asc (cols_asc n) fun x hx => mem_cols.mpr (h.rng x hx)
  rw [← this]
  exact List.filter_sublist
theorem InL.rp {n : Nat} {l : List Int} (h : InL n l) (hn : n ≤ 64) : Rp 1 2688 (T l) := by
  have := rp_tup 64 (k := 0) (w := 41) (ds := l.map .int) (fun d hd => by
    obtain ⟨x, hx, rfl⟩ := List.mem_map.mp hd
    exact rp_int (by have := h.rng x hx; omega)) (by rw [List.length_map]; exact Nat.le_trans h.len hn)
  exact this
abbrev Rules := List (List Int × List Int)
/-- closed by the rules -/
def Cl (rs : Rules) (m : List Int) : Prop := ∀ r ∈ rs, (∀ x ∈ r.1, x ∈ m) → ∀ x ∈ r.2, x ∈ m
def subB (l m : List Int) : Bool := l.all fun x => decide (x ∈ m)
def clB (rs : Rules) (m : List Int) : Bool := rs.all fun r => !(subB r.1 m) || subB r.2 m
/-- what all closed lots have that have l -/
def settle (n : Nat) (rs : Rules) (l : List Int) : List Int := (cols n).filter fun c => (lexLots (cols n)).all fun m => !(clB rs m && subB l m) || decide (c ∈ m)
end PL

/-! PL6m: two rows that agree on a lot, steps that lead: plain laws for k03, no program. -/
namespace PL
open PySem DL
/-- the columns where two rows agree -/
def agr (a b : List Int) : List Int := (cols a.length).filter fun c => decide (a.getD c.toNat 0 = b.getD c.toNat 0)
def rowO (n : Nat) : List Int := List.replicate n 0
def rowI (n : Nat) (m : List Int) : List Int := (cols n).map fun c => if c ∈ m then 0 else 1
/-- what the steps' numbers add, each rule's left side met before -/
def leadB (rs : Rules) : List Int → List Nat → Bool
  | _, [] => true
  | F, k :: ks => match rs[k]? with
    | some r => subB r.1 F && leadB rs (F ++ r.2) ks
    | none => false
def leadF (rs : Rules) : List Int → List Nat → List Int
  | F, [] => F
  | F, k :: ks => leadF rs (F ++ (rs.getD k ([], [])).2) ks
end PL

/-! PL6n: what enumerate(zip(a, b)) yields, as a map over the columns. -/
namespace PL
open PySem DL
def cellP (a b : List Int) (c : Int) : D := .tuple [.int c, .tuple [.int (a.getD c.toNat 0), .int (b.getD c.toNat 0)]]
end PL

/-! PLx: rules for rows of ints (T), lists of coded things, loops over them. -/
namespace PL
open PySem DL L2
/-! ### coded data that may be compared -/
class Sh {α : Type} (f : α → D) : Prop where
  lay : ∀ a, (f a).canLay0 = true
  dep : ∀ a, (f a).depth ≤ 20
class Shd (d : D) : Prop where
  lay : d.canLay0 = true
  dep : d.depth ≤ 30
theorem canLayAll_map {α : Type} {f : α → D} (h : ∀ a, (f a).canLay0 = true) : ∀ xs : List α, PyData.canLayAll0 (xs.map f) = true
  | [] => rfl
  | a :: xs => by rw [List.map_cons, PyData.canLayAll0, h a, canLayAll_map h xs]; rfl
theorem depthAll_map {α : Type} {f : α → D} {k : Nat} (h : ∀ a, (f a).depth ≤ k) : ∀ xs : List α, PyData.depthAll (xs.map f) ≤ k
  | [] => Nat.zero_le _
  | a :: xs => by rw [List.map_cons, PyData.depthAll]; exact Nat.max_le.mpr ⟨h a, depthAll_map h xs⟩
instance : Sh PyData.int := ⟨fun _ => rfl, fun _ => Nat.zero_le _⟩
instance : Sh PyData.bool := ⟨fun _ => rfl, fun _ => Nat.zero_le _⟩
instance : Sh T := ⟨fun l => by unfold T; rw [PyData.canLay0]; exact canLayAll_map (fun _ => rfl) l, fun l => by unfold T; rw [PyData.depth]; exact Nat.succ_le_succ (Nat.le_trans (depthAll_map (k := 0) (fun _ => Nat.le_refl _) l) (by decide))⟩
theorem Shd.of {α : Type} {f : α → D} [h : Sh f] (a : α) : Shd (f a) := ⟨h.lay a, Nat.le_trans (h.dep a) (by decide)⟩
instance (i : Int) : Shd (.int i) := Shd.of i
instance (i : Bool) : Shd (.bool i) := Shd.of i
instance : Shd .none := ⟨rfl, Nat.zero_le _⟩
instance (l : List Int) : Shd (T l) := Shd.of l
instance {α : Type} {f : α → D} [h : Sh f] (xs : List α) : Shd (.list (xs.map f)) := ⟨by rw [PyData.canLay0]; exact canLayAll_map h.lay xs, by rw [PyData.depth]; exact Nat.succ_le_succ (Nat.le_trans (depthAll_map h.dep xs) (by decide))⟩
instance {α : Type} {f : α → D} [h : Sh f] (xs : List α) : Shd (.tuple (xs.map f)) := ⟨by rw [PyData.canLay0]; exact canLayAll_map h.lay xs, by rw [PyData.depth]; exact Nat.succ_le_succ (Nat.le_trans (depthAll_map h.dep xs) (by decide))⟩
instance : Shd (.list []) := ⟨rfl, by decide⟩
instance : Shd (.tuple []) := ⟨rfl, by decide⟩
theorem shd (d : D) [h : Shd d] : SeqAt.shaped d = true := by
  unfold SeqAt.shaped
  rw [h.lay, decide_eq_true (Nat.le_trans h.dep (by decide))]
  rfl
theorem eqOk_shd (x y : D) [Shd x] [Shd y] : eqOk x y = true := by
  unfold eqOk
  split
  · rfl
  · rw [shd x, shd y]; rfl
/-! ### an injective code, told by eqv -/
class Cod {α : Type} [DecidableEq α] (f : α → D) : Prop extends Sh f where
  eqv : ∀ a b, PyData.eqv (f a) (f b) = decide (a = b)
instance : Cod PyData.int := ⟨eqv_int⟩
instance : Cod T := ⟨eqv_T⟩
theorem eqv_strs (a b : Str) : PyData.eqv (.str a) (.str b) = decide (a = b) := by rw [Bool.eq_iff_iff, decide_eq_true_eq]; simp [PyData.eqv]
theorem eqvAll_map {α : Type} [DecidableEq α] {f : α → D} (h : ∀ a b, PyData.eqv (f a) (f b) = decide (a = b)) : ∀ xs ys : List α, PyData.eqvAll (xs.map f) (ys.map f) = decide (xs = ys)
  | [], [] => rfl
  | [], _ :: _ => rfl
  | _ :: _, [] => rfl
  | a :: xs, b :: ys => by
    rw [List.map_cons, List.map_cons, PyData.eqvAll, h, eqvAll_map h xs ys, Bool.eq_iff_iff]
    simp
theorem eqv_mapL {α : Type} [DecidableEq α] {f : α → D} [c : Cod f] (xs ys : List α) : PyData.eqv (.list (xs.map f)) (.list (ys.map f)) = decide (xs = ys) := by
  rw [← eqvAll_map c.eqv]; simp [PyData.eqv]
theorem eqv_mapT {α : Type} [DecidableEq α] {f : α → D} [c : Cod f] (xs ys : List α) : PyData.eqv (.tuple (xs.map f)) (.tuple (ys.map f)) = decide (xs = ys) := by
  rw [← eqvAll_map c.eqv]; simp [PyData.eqv]
theorem any_map {α : Type} [DecidableEq α] {f : α → D} [c : Cod f] (xs : List α) (x : α) : ((xs.map f).any fun z => PyData.eqv z (f x)) = decide (x ∈ xs) := by
  rw [Bool.eq_iff_iff, List.any_eq_true, decide_eq_true_eq]
  constructor
  · rintro ⟨z, hz, e⟩
    obtain ⟨i, hi, rfl⟩ := List.mem_map.mp hz
    rw [c.eqv, decide_eq_true_eq] at e
    rwa [← e]
  · intro h
    exact ⟨_, List.mem_map.mpr ⟨x, h, rfl⟩, by rw [c.eqv]; simp⟩
section
variable {QD : D → Prop} {QL : List D → Prop} {QE : EnvD → Prop} {l m : List Int} {c i j : Int} {neg : Bool} {η : EnvD}
/-! ### comparisons -/
theorem k_eqI : oEq (.int i) (.int j) QD = QD (.bool (decide (i = j))) := by rw [x_eq, eqOk_shd, eqv_int]; simp
theorem k_neI : oNe (.int i) (.int j) QD = QD (.bool (!decide (i = j))) := by rw [x_ne, eqOk_shd, eqv_int]; simp
theorem k_eqS {x y : Str} : oEq (.str x) (.str y) QD = QD (.bool (decide (x = y))) := by rw [x_eq, eqv_strs, show eqOk (.str x) (.str y) = true from rfl]; simp
theorem k_neS {x y : Str} : oNe (.str x) (.str y) QD = QD (.bool (!decide (x = y))) := by rw [x_ne, eqv_strs, show eqOk (.str x) (.str y) = true from rfl]; simp
theorem k_eqT : oEq (T l) (T m) QD = QD (.bool (decide (l = m))) := by rw [x_eq, eqOk_shd, eqv_T]; simp
theorem k_neT : oNe (T l) (T m) QD = QD (.bool (!decide (l = m))) := by rw [x_ne, eqOk_shd, eqv_T]; simp
section
variable {α : Type} [DecidableEq α] {f : α → D} [Cod f] {xs ys : List α} {x : α}
theorem k_eqLL : oEq (.list (xs.map f)) (.list (ys.map f)) QD = QD (.bool (decide (xs = ys))) := by rw [x_eq, eqOk_shd, eqv_mapL]; simp
theorem k_neLL : oNe (.list (xs.map f)) (.list (ys.map f)) QD = QD (.bool (!decide (xs = ys))) := by rw [x_ne, eqOk_shd, eqv_mapL]; simp
theorem k_eqTT : oEq (.tuple (xs.map f)) (.tuple (ys.map f)) QD = QD (.bool (decide (xs = ys))) := by rw [x_eq, eqOk_shd, eqv_mapT]; simp
theorem k_neTT : oNe (.tuple (xs.map f)) (.tuple (ys.map f)) QD = QD (.bool (!decide (xs = ys))) := by rw [x_ne, eqOk_shd, eqv_mapT]; simp
theorem k_inL : oIn neg (f x) (.list (xs.map f)) QD = QD (.bool (decide (x ∈ xs) != neg)) := by
  haveI : Shd (f x) := Shd.of x
  rw [x_inL, shd, shd, any_map]; simp
theorem k_inTT : oIn neg (f x) (.tuple (xs.map f)) QD = QD (.bool (decide (x ∈ xs) != neg)) := by
  haveI : Shd (f x) := Shd.of x
  rw [x_inT, shd, shd, any_map]; simp
end
theorem k_inLI : oIn neg (.int c) (.list (l.map .int)) QD = QD (.bool (decide (c ∈ l) != neg)) := k_inL (f := PyData.int)
theorem k_inLT {Ls : List (List Int)} : oIn neg (T l) (.list (Ls.map T)) QD = QD (.bool (decide (l ∈ Ls) != neg)) := (k_inL (f := T)).trans (congrArg QD (congrArg PyData.bool (congrArg (· != neg) (decide_eq_decide.mpr Iff.rfl))))
theorem k_inTTT {Ls : List (List Int)} : oIn neg (T l) (.tuple (Ls.map T)) QD = QD (.bool (decide (l ∈ Ls) != neg)) := (k_inTT (f := T)).trans (congrArg QD (congrArg PyData.bool (congrArg (· != neg) (decide_eq_decide.mpr Iff.rfl))))
theorem k_inT : oIn neg (.int c) (T l) QD = QD (.bool (decide (c ∈ l) != neg)) := k_inTT (f := PyData.int)
theorem k_in23 : oIn neg (.int c) (.tuple [.int i, .int j]) QD = QD (.bool (decide (c = i ∨ c = j) != neg)) := by
  have := @k_inT QD [i, j] c neg
  simpa [T] using this
section
variable {α : Type} {f : α → D} [Sh f] {xs : List α}
theorem eqv_nilL (xs : List D) : PyData.eqv (.list xs) (.list []) = xs.isEmpty := by
  cases xs with
  | nil => rfl
  | cons x xs => simp [PyData.eqv, PyData.eqvAll]
theorem eqv_nilT (xs : List D) : PyData.eqv (.tuple xs) (.tuple []) = xs.isEmpty := by
  cases xs with
  | nil => rfl
  | cons x xs => simp [PyData.eqv, PyData.eqvAll]
theorem k_eqLn : oEq (.list (xs.map f)) (.list []) QD = QD (.bool xs.isEmpty) := by rw [x_eq, eqOk_shd, eqv_nilL, List.isEmpty_map]; simp
theorem k_neLn : oNe (.list (xs.map f)) (.list []) QD = QD (.bool (!xs.isEmpty)) := by rw [x_ne, eqOk_shd, eqv_nilL, List.isEmpty_map]; simp
theorem k_eqTn : oEq (.tuple (xs.map f)) (.tuple []) QD = QD (.bool xs.isEmpty) := by rw [x_eq, eqOk_shd, eqv_nilT, List.isEmpty_map]; simp
theorem k_neTn : oNe (.tuple (xs.map f)) (.tuple []) QD = QD (.bool (!xs.isEmpty)) := by rw [x_ne, eqOk_shd, eqv_nilT, List.isEmpty_map]; simp
end
theorem k_eqTn' : oEq (T l) (.tuple []) QD = QD (.bool l.isEmpty) := k_eqTn (f := PyData.int)
theorem k_neTn' : oNe (T l) (.tuple []) QD = QD (.bool (!l.isEmpty)) := k_neTn (f := PyData.int)
/-! ### rows of ints -/
theorem k_onSeq {f k : List D → Prop} : onSeq (T l) f k = k (l.map .int) := id rfl
theorem k_onTupO {k : List D → Prop} : onTupO (T l) k = k (l.map .int) := id rfl
theorem k_onSeqE {k : List D → Prop} : onSeqE (T l) k = k (l.map .int) := id rfl
theorem k_lenT : fLen [T l] QD = QD (.int l.length) := by
  show QD (.int (l.map PyData.int).length) = _
  rw [List.length_map]
theorem k_tupL : fTuple [.list (l.map .int)] QD = QD (T l) := id rfl
theorem k_tupT : fTuple [T l] QD = QD (T l) := id rfl
theorem k_listT : fList [T l] QL = QL (l.map .int) := id rfl
theorem k_addT : oAdd (T l) (T m) QD = (l.length + m.length ≤ sizeLine ∧ QD (T (l ++ m))) := by
  show ((l.map PyData.int).length + (m.map PyData.int).length ≤ sizeLine ∧ QD (.tuple (l.map .int ++ m.map .int))) = _
  rw [List.length_map, List.length_map, ← List.map_append]
  rfl
theorem k_addT1 : oAdd (T l) (.tuple [.int i]) QD = (l.length + 1 ≤ sizeLine ∧ QD (T (l ++ [i]))) := k_addT (m := [i])
theorem ixN_map {α β : Type} (f : α → β) (xs : List α) (i : Int) : atI (xs.map f) i = (atI xs i).map f := by
  unfold atI
  rw [List.length_map]
  cases ixN xs.length i with
  | none => rfl
  | some j => simp
theorem onS_map {α β : Type} {f : α → β} {o : Option α} {k : β → Prop} : onS (o.map f) k = onS o fun a => k (f a) := by
  cases o <;> exact id rfl
theorem k_ixT : oIx (T l) (.int i) QD = onS (atI l i) fun x => QD (.int x) := by
  show onS (atI (l.map PyData.int) i) QD = _
  rw [ixN_map, onS_map]
theorem atI_some {α : Type} {xs : List α} {k : Nat} {a : α} (h : xs[k]? = some a) : atI xs (k : Int) = some a := atI_nat h
theorem k_isiT : isiD "tuple" (T l) = true := id rfl
theorem k_isiTi : isiD "int" (T l) = false := id rfl
theorem k_isiTb : isiD "bool" (T l) = false := id rfl
theorem k_isiTs : isiD "str" (T l) = false := id rfl
theorem k_isiTl : isiD "list" (T l) = false := id rfl
theorem k_isi {ds : List D} : isiD "tuple" (.tuple ds) = true := id rfl
theorem k_isil {ds : List D} : isiD "list" (.list ds) = true := id rfl
theorem k_isii : isiD "int" (.int i) = true := id rfl
theorem k_isiib : isiD "bool" (.int i) = false := id rfl
theorem k_isis {x : Str} : isiD "str" (.str x) = true := id rfl
theorem k_isNT : isN (T l) = false := id rfl
theorem k_flatT : flat (T l) = true := by
  unfold T flat
  induction l with
  | nil => rfl
  | cons a l ih => rw [List.map_cons, flatAll, ih]; rfl
theorem k_flatI : flatAll (l.map .int) = true := by
  induction l with
  | nil => rfl
  | cons a l ih => rw [List.map_cons, flatAll, ih]; rfl
theorem flatAll_map {α : Type} {f : α → D} (h : ∀ a, flat (f a) = true) : ∀ xs : List α, flatAll (xs.map f) = true
  | [] => rfl
  | a :: xs => by rw [List.map_cons, flatAll, h a, flatAll_map h xs]; rfl
theorem k_flatLs {Ls : List (List Int)} : flatAll (Ls.map T) = true := flatAll_map (fun l => k_flatT) Ls
theorem k_flatTLs {Ls : List (List Int)} : flat (.tuple (Ls.map T)) = true := k_flatLs
theorem k_gT {gs : GTs} : gT gs (T l) η QE = gs (l.map .int) η QE := id rfl
theorem k_on2T {k : List D → List D → Prop} : on2T [T l, T m] k = k (l.map .int) (m.map .int) := id rfl
theorem alikeI : ∀ l m : List Int, PySem.W.alikeAll (l.map .int) (m.map .int) = true
  | [], m => by cases m <;> rfl
  | _ :: _, [] => rfl
  | a :: l, b :: m => by
    rw [List.map_cons, List.map_cons, PySem.W.alikeAll, alikeI l m]
    rfl
theorem alikeT (l m : List Int) : PySem.W.alike (T l) (T m) = true := by
  unfold T
  rw [PySem.W.alike]
  exact alikeI l m
theorem depT (l : List Int) : (T l).depth = 1 := by
  unfold T
  rw [PyData.depth]
  have := depthAll_map (f := PyData.int) (k := 0) (fun _ => Nat.le_refl _) l
  omega
theorem ndT (l : List Int) : (T l).hasDict = false := PyData.hasDict_of_canLay _ ((inferInstance : Sh T).lay l)
theorem k_ordT {f : Int → Int → Bool} {k : D → D → Bool} : oOrd f k (T l) (T m) QD = QD (.bool (k (T l) (T m))) := by
  show ((PySem.W.alike (T l) (T m) = true ∧ (T l).depth ≤ 64 ∧ (T l).hasDict = false ∧ (T m).hasDict = false) ∧ QD (.bool (k (T l) (T m)))) = _
  rw [alikeT, depT, ndT, ndT]
  simp
theorem k_ltT : oLt (T l) (T m) QD = QD (.bool (ltL l m)) := by
  show ((PySem.W.alike (T l) (T m) = true ∧ (T l).depth ≤ 64 ∧ (T l).hasDict = false ∧ (T m).hasDict = false) ∧ QD (.bool (PySem.W.dataLt (T l) (T m)))) = _
  rw [alikeT, depT, dataLt_T, ndT, ndT]
  simp
end
theorem ofS_inj {a b : String} (h : Str.ofString a = Str.ofString b) : a = b := by
  rw [Str.ofString_eq_toList, Str.ofString_eq_toList] at h
  have h2 : (a.toList.map Char.toNat).toArray = (b.toList.map Char.toNat).toArray := Str.mk.inj h
  have h3 : a.toList.map Char.toNat = b.toList.map Char.toNat := by simpa using h2
  have : ∀ {l m : List Char}, l.map Char.toNat = m.map Char.toNat → l = m := by
    intro l
    induction l with
    | nil => intro m hm; cases m with
      | nil => rfl
      | cons x m => simp at hm
    | cons c l ih =>
      intro m hm
      cases m with
      | nil => simp at hm
      | cons x m =>
        simp only [List.map_cons, List.cons.injEq] at hm
        have e : c = x := Char.ext (UInt32.toNat_inj.mp hm.1)
        rw [e, ih hm.2]
  exact String.toList_inj.mp (this h3)
theorem k_ofS {a b : String} : (Str.ofString a = Str.ofString b) = (a = b) := propext ⟨ofS_inj, congrArg _⟩
theorem k_at0 {α : Type} {a : α} {l : List α} : atI (a :: l) 0 = some a := atI_nat (j := 0) rfl
theorem k_at1 {α : Type} {a b : α} {l : List α} : atI (a :: b :: l) 1 = some b := atI_nat (j := 1) rfl
theorem k_at2 {α : Type} {a b c : α} {l : List α} : atI (a :: b :: c :: l) 2 = some c := atI_nat (j := 2) rfl
theorem k_at3 {α : Type} {a b c d : α} {l : List α} : atI (a :: b :: c :: d :: l) 3 = some d := atI_nat (j := 3) rfl
/-! ### sorted -/
/-! ### dicts by lots -/
/-! ### loops over coded things -/
theorem forD_dr {α : Type} (f : α → D) {xs : List α} {g : GT} {tb : SD} {E : XP} {z : EndsD} (J : List α → EnvD → Prop)
    (h : ∀ done a rest η, xs = done ++ a :: rest → J done η → ∀ nx : EnvD → Prop, (∀ η', J (done ++ [a]) η' → nx η') → g (f a) η fun η1 => tb E { nx := nx, rt := z.rt, bk := z.nx, ct := nx } η1)
    (h0 : ∀ η, J xs η → z.nx η) {η : EnvD} (j : J [] η) : forD g tb E z (xs.map f) η := by
  refine forD_inv (fun ds η => ∃ done rest, xs = done ++ rest ∧ ds = rest.map f ∧ J done η) ?_ ?_ ⟨[], xs, rfl, rfl, j⟩
  · rintro d ds η ⟨done, rest, e, e2, hj⟩ nx hn
    cases rest with
    | nil => cases e2
    | cons a rest =>
      simp only [List.map_cons, List.cons.injEq] at e2
      obtain ⟨rfl, rfl⟩ := e2
      exact h done a rest η e hj nx fun η' j' => hn η' ⟨done ++ [a], rest, by rw [e]; simp, rfl, j'⟩
  · rintro η ⟨done, rest, e, e2, hj⟩
    have : rest = [] := by cases rest with
      | nil => rfl
      | cons c r => cases e2
    subst this
    rw [List.append_nil] at e
    subst e
    exact h0 η hj
theorem forD_each {α : Type} (f : α → D) {xs : List α} {g : GT} {tb : SD} {E : XP} {z : EndsD} (J : EnvD → Prop)
    (h : ∀ a ∈ xs, ∀ η, J η → ∀ nx : EnvD → Prop, (∀ η', J η' → nx η') → g (f a) η fun η1 => tb E { nx := nx, rt := z.rt, bk := z.nx, ct := nx } η1)
    (h0 : ∀ η, J η → z.nx η) {η : EnvD} (j : J η) : forD g tb E z (xs.map f) η :=
  forD_dr f (fun _ η => J η) (fun done a rest η e hj nx hn => h a (by rw [e]; simp) η hj nx hn) h0 j
end PL
namespace Lw
open PySem DL PL L2
def ruleD (r : List Int × List Int) : D := .tuple [T r.1, T r.2]
def schD (n : Nat) (rs : List (List Int × List Int)) : D := .tuple [.int n, .tuple (rs.map ruleD)]
instance : Sh ruleD := ⟨fun r => by
  have h1 := (inferInstance : Sh T).lay r.1
  have h2 := (inferInstance : Sh T).lay r.2
  unfold ruleD
  rw [PyData.canLay0, PyData.canLayAll0, PyData.canLayAll0, h1, h2]
  rfl, fun r => by
  unfold ruleD
  rw [PyData.depth, PyData.depthAll, PyData.depthAll, depT, depT]
  decide⟩
section
variable {QD : D → Prop} {QE : EnvD → Prop} {η : EnvD} {n : Nat} {r : List Int × List Int} {rs : List (List Int × List Int)}
theorem k_gR {gs : GTs} : gT gs (ruleD r) η QE = gs [T r.1, T r.2] η QE := id rfl
theorem k_ixR0 : oIx (ruleD r) (.int 0) QD = QD (T r.1) := id rfl
theorem k_ixR1 : oIx (ruleD r) (.int 1) QD = QD (T r.2) := id rfl
theorem k_ixS0 : oIx (schD n rs) (.int 0) QD = QD (.int n) := id rfl
theorem k_ixS1 : oIx (schD n rs) (.int 1) QD = QD (.tuple (rs.map ruleD)) := id rfl
end
end Lw

/-! PLR: who is shown alike is the same: plain data (no texts, no dicts) on one side. -/
namespace PL
open PySem PySem.Spec PyProof.Rows L2 DL TL
def S (d : D) : List Nat := d.shown.cps.toList
mutual
def pln : D → Bool
  | .none => true
  | .bool _ => true
  | .int _ => true
  | .tuple xs => plns xs
  | .list xs => plns xs
  | _ => false
def plns : List D → Bool
  | [] => true
  | x :: xs => pln x && plns xs
end
def dig (c : Nat) : Prop := 48 ≤ c ∧ c ≤ 57
/-- between the items -/
def J2 : List D → List Nat
  | [] => []
  | [x] => S x
  | x :: y :: r => S x ++ 44 :: 32 :: J2 (y :: r)
/-- how a text begins -/
def kd : D → Nat
  | .int _ => 0
  | .tuple _ => 40
  | .list _ => 91
  | .none => 78
  | .bool true => 84
  | .bool false => 70
  | .str _ => 39
  | .dict _ => 123
def cls (c : Nat) : Nat := if c = 45 ∨ (48 ≤ c ∧ c ≤ 57) then 0 else if c = 34 then 39 else c
/-- no figure comes next -/
def Stop (r : List Nat) : Prop := ∀ c t, r = c :: t → ¬ dig c
end PL

namespace Lw
open PySem PySem.Spec PyProof.Rows L2 DL
def topS (i : Nat) : Stmt := PySem.Challenge.pw_restshares_k20_errors.main.body.getD i (.Pass ⟨0, 0, 0, 0⟩)
abbrev s_law_begun : Stmt := topS 19
abbrev N_law_begun : List Str := ["_law_script", "_law_mixed", "_law_k", "_law_cell"]
theorem sc_law_begun : FnScope N_law_begun ["_law_script"] (defScope s_law_begun) := ⟨rfl, rfl, rfl, by decide +kernel, rfl, by decide +kernel, by decide +kernel⟩
abbrev s_law_next : Stmt := topS 20
abbrev N_law_next : List Str := ["_law_draw", "_law_below", "_law_great", "_law_at", "_law_found", "_law_mixed"]
theorem sc_law_next : FnScope N_law_next ["_law_draw", "_law_below"] (defScope s_law_next) := ⟨rfl, rfl, rfl, by decide +kernel, rfl, by decide +kernel, by decide +kernel⟩
abbrev s_law_marks : Stmt := topS 21
abbrev N_law_marks : List Str := ["_law_error", "_law_some", "_law_label", "_law_holds"]
theorem sc_law_marks : FnScope N_law_marks ["_law_error"] (defScope s_law_marks) := ⟨rfl, rfl, rfl, by decide +kernel, rfl, by decide +kernel, by decide +kernel⟩
abbrev s_law_labels : Stmt := topS 22
abbrev N_law_labels : List Str := ["_law_found"]
theorem sc_law_labels : FnScope N_law_labels [] (defScope s_law_labels) := ⟨rfl, rfl, rfl, by decide +kernel, rfl, by decide +kernel, by decide +kernel⟩
abbrev s_law_by_place : Stmt := topS 23
abbrev N_law_by_place : List Str := ["_law_one", "_law_far", "_law_found"]
theorem sc_law_by_place : FnScope N_law_by_place ["_law_one", "_law_far"] (defScope s_law_by_place) := ⟨rfl, rfl, rfl, by decide +kernel, rfl, by decide +kernel, by decide +kernel⟩
abbrev s_law_by_names : Stmt := topS 24
abbrev N_law_by_names : List Str := ["_law_one", "_law_far", "_law_found"]
theorem sc_law_by_names : FnScope N_law_by_names ["_law_one", "_law_far"] (defScope s_law_by_names) := ⟨rfl, rfl, rfl, by decide +kernel, rfl, by decide +kernel, by decide +kernel⟩
abbrev s_law_fields : Stmt := topS 25
abbrev N_law_fields : List Str := ["_law_row", "_law_found"]
theorem sc_law_fields : FnScope N_law_fields ["_law_row"] (defScope s_law_fields) := ⟨rfl, rfl, rfl, by decide +kernel, rfl, by decide +kernel, by decide +kernel⟩
abbrev s_law_are_right : Stmt := topS 26
abbrev N_law_are_right : List Str := ["_law_row", "_law_one", "_law_far", "_law_label", "_law_error", "_law_due"]
theorem sc_law_are_right : FnScope N_law_are_right ["_law_row", "_law_one", "_law_far"] (defScope s_law_are_right) := ⟨rfl, rfl, rfl, by decide +kernel, rfl, by decide +kernel, by decide +kernel⟩
abbrev s_law : Stmt := topS 27
abbrev N_law : List Str := ["_law_script", "_law_draw", "_law_turn", "_law_some", "_law_at", "_law_one", "_law_far", "_law_kept", "_law_rows", "_law_again", "_law_row"]
theorem sc_law : FnScope N_law ["_law_script"] (defScope s_law) := ⟨rfl, rfl, rfl, by decide +kernel, rfl, by decide +kernel, by decide +kernel⟩
/-- the built-ins are not hidden, the constants stand -/
structure Bl (mg : Str → Option Value) : Prop where
  b_LookupError : mg "LookupError" = none
  b_OverflowError : mg "OverflowError" = none
  b_RuntimeError : mg "RuntimeError" = none
  b_TypeError : mg "TypeError" = none
  b_ValueError : mg "ValueError" = none
  b_enumerate : mg "enumerate" = none
  b_int : mg "int" = none
  b_isinstance : mg "isinstance" = none
  b_len : mg "len" = none
  b_max : mg "max" = none
  b_min : mg "min" = none
  b_range : mg "range" = none
  b_repr : mg "repr" = none
  b_zip : mg "zip" = none
structure Df (K : PySem.W.Frag) (mg : Str → Option Value) : Prop where
  d_law_begun : DefIn K mg "_law_begun" s_law_begun ["_law_script"]
  d_law_next : DefIn K mg "_law_next" s_law_next ["_law_draw", "_law_below"]
  d_law_marks : DefIn K mg "_law_marks" s_law_marks ["_law_error"]
  d_law_labels : DefIn K mg "_law_labels" s_law_labels []
  d_law_by_place : DefIn K mg "_law_by_place" s_law_by_place ["_law_one", "_law_far"]
  d_law_by_names : DefIn K mg "_law_by_names" s_law_by_names ["_law_one", "_law_far"]
  d_law_fields : DefIn K mg "_law_fields" s_law_fields ["_law_row"]
  d_law_are_right : DefIn K mg "_law_are_right" s_law_are_right ["_law_row", "_law_one", "_law_far"]
structure ErrC (P : Program) (K : PySem.W.Frag) (mg : Str → Option Value) : Prop where
  c_BadCell : ClsIn P K mg "BadCell" "value"
  c_BadColumn : ClsIn P K mg "BadColumn" "value"
  c_BadLot : ClsIn P K mg "BadLot" "value"
  c_BadNumber : ClsIn P K mg "BadNumber" "value"
  c_BadPaper : ClsIn P K mg "BadPaper" "word"
  c_BadParting : ClsIn P K mg "BadParting" "place"
  c_BadRow : ClsIn P K mg "BadRow" "value"
  c_BadSchema : ClsIn P K mg "BadSchema" "place"
  c_BadSheet : ClsIn P K mg "BadSheet" "place"
  c_BadStore : ClsIn P K mg "BadStore" "place"
  c_Broken : ClsIn P K mg "Broken" "number"
  c_Missing : ClsIn P K mg "Missing" "value"
  c_NothingLeft : ClsIn P K mg "NothingLeft" "many"
  c_TooMany : ClsIn P K mg "TooMany" "most"
  c_Twice : ClsIn P K mg "Twice" "value"
  c_BadText : ClsIn2 P K mg "BadText" "line" "word"
  xc : XcIn K mg
  kw_BadCell : KwIn K "BadCell" "value"
  kw_BadColumn : KwIn K "BadColumn" "value"
  kw_BadLot : KwIn K "BadLot" "value"
  kw_BadNumber : KwIn K "BadNumber" "value"
  kw_BadPaper : KwIn K "BadPaper" "word"
  kw_BadParting : KwIn K "BadParting" "place"
  kw_BadRow : KwIn K "BadRow" "value"
  kw_BadSchema : KwIn K "BadSchema" "place"
  kw_BadSheet : KwIn K "BadSheet" "place"
  kw_BadStore : KwIn K "BadStore" "place"
  kw_Broken : KwIn K "Broken" "number"
  kw_Missing : KwIn K "Missing" "value"
  kw_NothingLeft : KwIn K "NothingLeft" "many"
  kw_TooMany : KwIn K "TooMany" "most"
  kw_Twice : KwIn K "Twice" "value"
  kw_BadText : KwIn2 K "BadText" "line" "word"
  sh_ShareError : ShIn K mg "ShareError"
def t_law_marks : SD := sSeq (sSet 1 (dNew (nLst (aCons (dTup (aCons (dK (.str "schema")) (aCons (dIsX "BadSchema" (dV 0)) (aNil)))) (aCons (dTup (aCons (dK (.str "store")) (aCons (dIsX "BadStore" (dV 0)) (aNil)))) (aNil))))))
    (sSeq (sSet 1 (dOp oAdd (dV 1) (dNew (nLst (aCons (dTup (aCons (dK (.str "parting")) (aCons (dIsX "BadParting" (dV 0)) (aNil)))) (aCons (dTup (aCons (dK (.str "sheet")) (aCons (dIsX "BadSheet" (dV 0)) (aNil)))) (aNil)))))))
    (sSeq (sSet 1 (dOp oAdd (dV 1) (dNew (nLst (aCons (dTup (aCons (dK (.str "row")) (aCons (dIsX "BadRow" (dV 0)) (aNil)))) (aCons (dTup (aCons (dK (.str "lot")) (aCons (dIsX "BadLot" (dV 0)) (aNil)))) (aNil)))))))
    (sSeq (sSet 1 (dOp oAdd (dV 1) (dNew (nLst (aCons (dTup (aCons (dK (.str "column")) (aCons (dIsX "BadColumn" (dV 0)) (aNil)))) (aCons (dTup (aCons (dK (.str "cell")) (aCons (dIsX "BadCell" (dV 0)) (aNil)))) (aNil)))))))
    (sSeq (sSet 1 (dOp oAdd (dV 1) (dNew (nLst (aCons (dTup (aCons (dK (.str "number")) (aCons (dIsX "BadNumber" (dV 0)) (aNil)))) (aCons (dTup (aCons (dK (.str "twice")) (aCons (dIsX "Twice" (dV 0)) (aNil)))) (aNil)))))))
    (sSeq (sSet 1 (dOp oAdd (dV 1) (dNew (nLst (aCons (dTup (aCons (dK (.str "missing")) (aCons (dIsX "Missing" (dV 0)) (aNil)))) (aCons (dTup (aCons (dK (.str "paper")) (aCons (dIsX "BadPaper" (dV 0)) (aNil)))) (aNil)))))))
    (sSeq (sSet 1 (dOp oAdd (dV 1) (dNew (nLst (aCons (dTup (aCons (dK (.str "text")) (aCons (dIsX "BadText" (dV 0)) (aNil)))) (aCons (dTup (aCons (dK (.str "broken")) (aCons (dIsX "Broken" (dV 0)) (aNil)))) (aNil)))))))
    (sSeq (sSet 1 (dOp oAdd (dV 1) (dNew (nLst (aCons (dTup (aCons (dK (.str "left")) (aCons (dIsX "NothingLeft" (dV 0)) (aNil)))) (aCons (dTup (aCons (dK (.str "many")) (aCons (dIsX "TooMany" (dV 0)) (aNil)))) (aNil)))))))
    (sSeq (sSet 1 (dOp oAdd (dV 1) (dNew (nLst (aCons (dTup (aCons (dK (.str "own")) (aCons (dIsX "ShareError" (dV 0)) (aNil)))) (aCons (dTup (aCons (dK (.str "sort")) (aCons (dIsX "ValueError" (dV 0)) (aNil)))) (aNil)))))))
    (sSeq (sSet 1 (dOp oAdd (dV 1) (dNew (nLst (aCons (dTup (aCons (dK (.str "over")) (aCons (dIsX "OverflowError" (dV 0)) (aNil)))) (aCons (dTup (aCons (dK (.str "run")) (aCons (dIsX "RuntimeError" (dV 0)) (aNil)))) (aNil)))))))
    (sSeq (sSet 1 (dOp oAdd (dV 1) (dNew (nLst (aCons (dTup (aCons (dK (.str "look")) (aCons (dIsX "LookupError" (dV 0)) (aNil)))) (aCons (dTup (aCons (dK (.str "kind")) (aCons (dIsX "TypeError" (dV 0)) (aNil)))) (aNil)))))))
    (sRet (dNew (nComp [2, 3] (iSeq (dV 1)) (gT (gCons' (gN 2) (gCons' (gN 3) (gNil')))) (bVal (dV 3)) (dV 2))))))))))))))
def w_law_marks : FT := bodyD 1 4 t_law_marks
def t_law_labels : SD := sSeq (sSet 0 (dNew (nLst (aCons (dK (.str "schema")) (aCons (dK (.str "store")) (aCons (dK (.str "parting")) (aCons (dK (.str "sheet")) (aCons (dK (.str "row")) (aCons (dK (.str "lot")) (aCons (dK (.str "column")) (aCons (dK (.str "cell")) (aCons (dK (.str "number")) (aCons (dK (.str "twice")) (aNil))))))))))))))
    (sRet (dOp oAdd (dV 0) (dNew (nLst (aCons (dK (.str "missing")) (aCons (dK (.str "paper")) (aCons (dK (.str "text")) (aCons (dK (.str "broken")) (aCons (dK (.str "left")) (aCons (dK (.str "many")) (aNil)))))))))))
def w_law_labels : FT := bodyD 0 1 t_law_labels
def t_law_by_place : SD := sSeq (sSet 2 (dNew (nLst (aCons (dMkX "BadSchema" "place" (dV 0)) (aCons (dMkX "BadStore" "place" (dV 0)) (aCons (dMkX "BadParting" "place" (dV 0)) (aCons (dMkX "BadSheet" "place" (dV 0)) (aNil))))))))
    (sSeq (sSet 2 (dOp oAdd (dV 2) (dNew (nLst (aCons (dMkX "BadRow" "value" (dV 0)) (aCons (dMkX "BadLot" "value" (dV 0)) (aCons (dMkX "BadColumn" "value" (dV 0)) (aCons (dMkX "BadCell" "value" (dV 0)) (aNil)))))))))
    (sSeq (sSet 2 (dOp oAdd (dV 2) (dNew (nLst (aCons (dMkX "BadNumber" "value" (dV 0)) (aCons (dMkX "Twice" "value" (dV 0)) (aCons (dMkX "Missing" "value" (dV 0)) (aCons (dMkX "BadPaper" "word" (dV 0)) (aNil)))))))))
    (sRet (dOp oAdd (dV 2) (dNew (nLst (aCons (dMkX2 "BadText" "line" "word" (dV 0) (dV 1)) (aCons (dMkX "Broken" "number" (dV 0)) (aCons (dMkX "NothingLeft" "many" (dV 0)) (aCons (dMkX "TooMany" "most" (dV 0)) (aNil)))))))))))
def w_law_by_place : FT := bodyD 2 3 t_law_by_place
def t_law_by_names : SD := sSeq (sSet 2 (dNew (nLst (aCons (dMkX "BadSchema" "place" (dV 0)) (aCons (dMkX "BadStore" "place" (dV 0)) (aCons (dMkX "BadParting" "place" (dV 0)) (aNil)))))))
    (sSeq (sSet 2 (dOp oAdd (dV 2) (dNew (nLst (aCons (dMkX "BadSheet" "place" (dV 0)) (aCons (dMkX "BadRow" "value" (dV 0)) (aCons (dMkX "BadLot" "value" (dV 0)) (aNil))))))))
    (sSeq (sSet 2 (dOp oAdd (dV 2) (dNew (nLst (aCons (dMkX "BadColumn" "value" (dV 0)) (aCons (dMkX "BadCell" "value" (dV 0)) (aCons (dMkX "BadNumber" "value" (dV 0)) (aNil))))))))
    (sSeq (sSet 2 (dOp oAdd (dV 2) (dNew (nLst (aCons (dMkX "Twice" "value" (dV 0)) (aCons (dMkX "Missing" "value" (dV 0)) (aCons (dMkX "BadPaper" "word" (dV 0)) (aNil))))))))
    (sSeq (sSet 2 (dOp oAdd (dV 2) (dNew (nLst (aCons (dMkX2r "BadText" "line" "word" (dV 1) (dV 0)) (aCons (dMkX "Broken" "number" (dV 0)) (aNil)))))))
    (sRet (dOp oAdd (dV 2) (dNew (nLst (aCons (dMkX "NothingLeft" "many" (dV 0)) (aCons (dMkX "TooMany" "most" (dV 0)) (aNil)))))))))))
def w_law_by_names : FT := bodyD 2 3 t_law_by_names
def t_law_fields : SD := sSeq (sSet 1 (dNew (nLst (aCons (dFldX "place" (dOp oIx (dV 0) (dK (.int 0)))) (aCons (dFldX "place" (dOp oIx (dV 0) (dK (.int 1)))) (aCons (dFldX "place" (dOp oIx (dV 0) (dK (.int 2)))) (aCons (dFldX "place" (dOp oIx (dV 0) (dK (.int 3)))) (aNil))))))))
    (sSeq (sSet 1 (dOp oAdd (dV 1) (dNew (nLst (aCons (dFldX "value" (dOp oIx (dV 0) (dK (.int 4)))) (aCons (dFldX "value" (dOp oIx (dV 0) (dK (.int 5)))) (aCons (dFldX "value" (dOp oIx (dV 0) (dK (.int 6)))) (aCons (dFldX "value" (dOp oIx (dV 0) (dK (.int 7)))) (aNil)))))))))
    (sSeq (sSet 1 (dOp oAdd (dV 1) (dNew (nLst (aCons (dFldX "value" (dOp oIx (dV 0) (dK (.int 8)))) (aCons (dFldX "value" (dOp oIx (dV 0) (dK (.int 9)))) (aCons (dFldX "value" (dOp oIx (dV 0) (dK (.int 10)))) (aCons (dFldX "word" (dOp oIx (dV 0) (dK (.int 11)))) (aNil)))))))))
    (sSeq (sSet 1 (dOp oAdd (dV 1) (dNew (nLst (aCons (dFldX "line" (dOp oIx (dV 0) (dK (.int 12)))) (aCons (dFldX "number" (dOp oIx (dV 0) (dK (.int 13)))) (aCons (dFldX "many" (dOp oIx (dV 0) (dK (.int 14)))) (aCons (dFldX "most" (dOp oIx (dV 0) (dK (.int 15)))) (aNil)))))))))
    (sRet (dOp oAdd (dV 1) (dNew (nLst (aCons (dFldX "word" (dOp oIx (dV 0) (dK (.int 12)))) (aNil)))))))))
def w_law_fields : FT := bodyD 1 2 t_law_fields
def t_law_are_right : SD := sSeq (sIf (bVal (dOp (oNe) (dCall fReprD (aCons (dCallF w_law_fields (cCons (dV 0) (cNil))) (aNil))) (dCall fReprD (aCons (dOp oAdd (dOp oMul (dNew (nLst (aCons (dV 1) (aNil)))) (dK (.int 16))) (dNew (nLst (aCons (dV 2) (aNil))))) (aNil))))) (sRet (dK (.bool false))) (sNext))
    (sSeq (sFor (iZip2 (aCons (dCallF w_law_labels cNil) (aCons (dV 0) (aNil)))) (gT (gCons' (gN 3) (gCons' (gN 4) (gNil')))) (sSeq (sSet 5 (dIf (bVal (dOp (oEq) (dV 3) (dK (.str "many")))) (dNew (nLst (aCons (dK (.str "many")) (aCons (dK (.str "over")) (aNil))))) (dNew (nLst (aCons (dV 3) (aCons (dK (.str "own")) (aCons (dK (.str "sort")) (aNil))))))))
    (sIf (bVal (dOp (oNe) (dCallF w_law_marks (cCons (dV 4) (cNil))) (dV 5))) (sRet (dK (.bool false))) (sNext))))
    (sRet (dK (.bool true))))
def w_law_are_right : FT := bodyD 3 6 t_law_are_right
def t_law : SD := sSeq (sFor (iRange1 (aCons (dOp oAdd (dK (.int 1)) (dOp oDiv (dCall fMin2 (aCons (dK (.int 60)) (aCons (lenScr 0) (aNil)))) (dK (.int 20)))) (aNil))) (gN 2) (sSeq (sSet 3 (dNew (nLst (aCons (dK .none) (aCons (dK (.int 0)) (aCons (dK (.bool true)) (aCons (oNeg (dK (.int 1))) (aCons (dOp oSub (dOp oPow (dK (.int 10)) (dK (.int 30))) (dK (.int 1))) (aCons (dCallF w_next (cDrw 1 (cCons (dOp oPow (dK (.int 10)) (dK (.int 6))) (cNil)))) (aCons (dK (.str "")) (aCons (dK (.str "form")) (aCons (dTup (aNil)) (aCons (dTup (aCons (dK (.int 1)) (aCons (dK (.str "a")) (aNil)))) (aCons (dNew (nLst (aCons (dK (.int 1)) (aCons (dNew (nLst (aCons (dK (.int 2)) (aNil)))) (aNil))))) (aNil)))))))))))))))
    (sSeq (sSet 3 (dOp oAdd (dV 3) (dNew (nLst (aCons (dDict0) (aCons (dDisp1K "a" 1) (aCons (dTup (aCons (dK (.str "rule")) (aCons (dK (.int 3)) (aNil)))) (aCons (dTup (aCons (dK (.int 0)) (aCons (dK (.int 1)) (aCons (dK (.int 2)) (aNil))))) (aCons (dK (.str "steps")) (aNil))))))))))
    (sFor (iRange1 (aCons (dCall fLen (aCons (dV 3) (aNil))) (aNil))) (gN 4) (sSeq (sAsg (dTup (aCons (dOp oIx (dV 3) (dV 4)) (aCons (dOp oIx (dV 3) (dCallF w_next (cDrw 1 (cCons (dCall fLen (aCons (dV 3) (aNil))) (cNil))))) (aNil)))) (gT (gCons' (gN 5) (gCons' (gN 6) (gNil')))))
    (sSeq (sSet 7 (dCall fReprD (aCons (dNew (nLst (aCons (dV 5) (aCons (dV 6) (aNil))))) (aNil))))
    (sSeq (sSet 8 (dNew (nLst (aCons (dCallF w_law_by_place (cCons (dV 5) (cCons (dV 6) (cNil)))) (aCons (dCallF w_law_by_names (cCons (dV 5) (cCons (dV 6) (cNil)))) (aNil))))))
    (sSeq (sSet 9 (dCallF w_law_by_place (cCons (dV 6) (cCons (dV 5) (cNil)))))
    (sSeq (sIf (bVal (dOp (oNe) (dNew (nComp [10] (iSeq (dV 8)) (gN 10) (bNot (bVal (dCallF w_law_are_right (cCons (dV 10) (cCons (dV 5) (cCons (dV 6) (cNil))))))) (dV 10))) (dNew (nLst (aNil))))) (sRet (dK (.bool false))) (sNext))
    (sSeq (sIf (bOr (bNot (bVal (dCallF w_law_are_right (cCons (dV 9) (cCons (dV 6) (cCons (dV 5) (cNil))))))) (bVal (dOp (oNe) (dCall fReprD (aCons (dNew (nLst (aCons (dV 5) (aCons (dV 6) (aNil))))) (aNil))) (dV 7)))) (sRet (dK (.bool false))) (sNext))
    (sIf (bVal (dOp (oNe) (dCallF w_law_marks (cCons (dMkX0 "ShareError" (dV 5)) (cNil))) (dNew (nLst (aCons (dK (.str "own")) (aCons (dK (.str "sort")) (aNil))))))) (sRet (dK (.bool false))) (sNext))))))))))))
    (sRet (dK (.bool true)))
section
variable {P : Program} {w : World} {K : PySem.W.Frag} {mg : Str → Option Value} {base : Heap}
theorem ok_law_begun {f : Addr} {fd : FuncData} {k : Nat} (F : Fun K "_law_begun" "_law_begun" s_law_begun f fd) (mlen : mg "len" = none) (menum : mg "enumerate" = none) (mint : mg "int" = none) : FnG P w K mg base CX0 (k + 1) f fd ["_law_script"] (spBegun K) := by
  refine fnG_of F sc_law_begun (fun vs H Q E h => ?_) fun cdv A outer s H vs Q E hg hr h => ?_
  · obtain ⟨a, ns, rfl, _⟩ := h
    rfl
  obtain ⟨a, ns, rfl, hS, hl, q⟩ := h
  refine ⟨_, PSs.nox (pss_cons (ps_set (i := 1) sc_law_begun.nd rfl (.inl rfl) (pe_op op_add pe_int (pe_op op_mul pe_int (pe_callB call_len_seq (by rfl) mlen PySem.boot_len (pa_cons (pv 0) pa_nil)))))
    (pss_cons (ps_for PassesOwn.never rfl (pi_enum (by rfl) menum (pa_cons (pv 0) pa_nil)) (pg_tup rfl (pgs_cons (pg_name (i := 2) sc_law_begun.nd rfl (.inl rfl)) (pgs_cons (pg_name (i := 3) sc_law_begun.nd rfl (.inl rfl)) pgs_nil)))
      (pss_one (ps_set (i := 1) sc_law_begun.nd rfl (.inl rfl) (pe_op op_mod (pe_callTy call_int1 (by rfl) mint (by decide +kernel) (pa_cons (pe_op op_add (pe_op op_add (pe_op op_mul (pv 1) pe_int) (pv 3)) (pe_op op_mul pe_int (pv 2))) pa_nil)) pe_int))))
    (pss_one (ps_ret (pe_disp (pps_cons pe_str (pv 1) (pps_cons pe_str (pe_lc (own := [("_law_cell", 3)]) (g := gName 3) rfl sc_law_begun.nd (pi_list (pv 0)) (blkOk_by (N := N_law_begun) (sc := defScope s_law_begun) (by decide +kernel)) (fun _ _ _ _ _ => pg_name (i := 3) sc_law_begun.nd rfl (Or.inl rfl))
      (fun _ _ _ _ _ => pts_one (pt_cmpR op_ge (pv 3) (pe_op op_pow pe_int pe_int) (nomark _))) (fun _ _ _ _ _ => pv 3)) (pps_cons pe_str pe_int pps_nil))) rfl rfl (by decide) (by decide)))))), ?_⟩
  refine ⟨.ref a, rfl, a, ns.map V.int, rfl, .inl hS, _, _, rfl, rfl, .inl ⟨by decide, by decide⟩, _, _, rfl, rfl, ?_⟩
  refine ⟨.ref a, rfl, a, ns.map V.int, rfl, hS, for_it (walk_enum (xs := ns.map V.int)) (fun i σ H' => ∃ m x2 x3, σ = [some (.ref a), some (.int m), x2, x3] ∧ Same H H' ∧ 0 ≤ m ∧ m < bigM) ⟨_, none, none, rfl, .refl H, ?_, ?_⟩ ?_ ?_ ?_⟩
  · rw [List.length_map]; omega
  · rw [List.length_map]; unfold bigM; omega
  · rintro i σ H1 _ ⟨m, x2, x3, _, sm, _⟩
    exact sm.seq hS
  · rintro i v σ H1 H2 hi ⟨m, x2, x3, rfl, sm, m0, m1⟩ ⟨T, x, y, rfl, hT, rfl, ex, ey⟩
    have ex : x = .int (i : Nat) := (Option.some.inj ex).symm
    subst ex
    have ey : (ns.map V.int)[i]? = some y := ey
    rw [List.getElem?_map] at ey
    obtain ⟨n, hn, rfl⟩ := Option.map_eq_some_iff.mp ey
    refine ⟨T, [.int (i : Nat), .int n], rfl, .inl (.inl upd_same), rfl, _, _, rfl, _, _, rfl, rfl, ?_⟩
    refine ⟨_, rfl, _, _, rfl, rfl, .inr ⟨by decide, by decide⟩, _, rfl, _, _, rfl, rfl, _, rfl, _, _, rfl, rfl, .inl ⟨by decide, by decide⟩, _, _, rfl, rfl, .inl ⟨_, rfl, _, _, rfl, rfl, (by show (0 : Int) < 2305843009213693951; decide), ?_⟩⟩
    exact ⟨_, some (.int (i : Nat)), some (.int n), rfl, sm.trans (same_upd hT), Int.emod_nonneg _ (by decide), Int.emod_lt_of_pos _ (by decide)⟩
  · rintro σ H1 ⟨m, x2, x3, rfl, sm, m0, m1⟩
    intro p hp
    have s1 : Same H1 (upd H1 p (.dK [])) := same_upd hp
    have hS1 := s1.seq (sm.seq hS)
    refine ⟨_, rfl, .ref a, rfl, a, rfl, ⟨_, hS1⟩, fun g hg => lc_list (xs := ns.map V.int) (fun i H' => ∃ zs : List Int, zs.length ≤ i ∧ H' g = some (.lst (zs.map V.int)) ∧ ∀ b o, b ≠ g → (upd H1 p (.dK [])) b = some o → H' b = some o) ⟨[], Nat.zero_le _, upd_same, fun b o hb e => by rw [upd_ne hb]; exact e⟩ ?_ ?_ ?_⟩
    · rintro i H2 hi ⟨zs, hz, e, k2⟩
      have : Same (upd H1 p (.dK [])) H2 := fun b o e => k2 b o (fun z => by rw [z, hg] at e; cases e) e
      exact this.seq hS1
    · rintro i x H2 hx ⟨zs, hz, e, k2⟩
      rw [List.getElem?_map] at hx
      obtain ⟨n, hn, rfl⟩ := Option.map_eq_some_iff.mp hx
      refine ⟨rfl, _, rfl, _, _, rfl, rfl, ⟨by decide, by decide, by decide⟩, _, _, rfl, rfl, _, rfl, ite2 (fun hc => ?_) fun hc => ?_⟩
      · refine ⟨_, rfl, zs.map V.int, e, ?_, zs ++ [n], ?_, ?_, fun b o hb e => ?_⟩
        · rw [List.length_map]
          have hi := (List.getElem?_eq_some_iff.mp hn).1
          exact small1000 (by omega)
        · rw [List.length_append, List.length_singleton]; omega
        · rw [upd_same, List.map_append]; rfl
        · rw [upd_ne hb]; exact k2 b o hb e
      · exact ⟨zs, by omega, e, k2⟩
    · rintro H2 ⟨zs, hz, e, k2⟩
      rw [List.length_map] at hz
      have gp : g ≠ p := fun z => by rw [z, upd_same] at hg; cases hg
      have pe : H2 p = some (.dK []) := k2 p _ (Ne.symm gp) upd_same
      refine ⟨pe, [(.inr "mixed", .int m), (.inr "great", .ref g), (.inr "turn", .int 0)], rfl, by simp, ?_⟩
      refine q p g _ (sm.free hp) (sm.free (s1.free hg)) (fun b o eb => ?_) ⟨Ne.symm gp, m, 0, zs, ?_, ⟨m0, m1⟩, Int.le_refl _, ?_, by omega⟩
      · have b1 := sm b o eb
        rw [upd_ne (ne_of_none b1 hp)]
        exact k2 b o (ne_of_none (s1 b o b1) hg) (s1 b o b1)
      · rw [upd_same]; rfl
      · rw [upd_ne gp]; exact e
theorem ok_next0 {f : Addr} {fd : FuncData} {k : Nat} (F : Fun K "_law_next" "_law_next" s_law_next f fd) (mlen : mg "len" = none) (mmax : mg "max" = none) (mint : mg "int" = none) : FnG P w K mg base CX0 (k + 1) f fd ["_law_draw", "_law_below"] spNext := by
  refine fnG_of F sc_law_next (fun vs H Q E h => ?_) fun cdv A outer s H vs Q E hg hr h => ?_
  · obtain ⟨a, g, b, rfl, _⟩ := h
    rfl
  obtain ⟨a, g, b, rfl, ⟨agne, m, t, ns, ha, ⟨m0, m1⟩, t0, hgr, hl⟩, b0, b1, q⟩ := h
  have hu := hu_of hr
  have hu64 := hr.units
  refine ⟨_, PSs.nox (pss_cons (ps_asg (pe_tup (pa_cons (pe_op op_add (pe_dget hu (pv 0) pe_str (fun _ _ => rfl)) pe_int) (pa_cons (pe_dget hu (pv 0) pe_str (fun _ _ => rfl)) pa_nil))) (pg_tup rfl (pgs_cons (pg_sub (pv 0) pe_str (set_dict hu)) (pgs_cons (pg_name (i := 2) sc_law_next.nd rfl (.inl rfl)) pgs_nil))))
    (pss_cons (ps_set (i := 3) sc_law_next.nd rfl (.inl rfl) (pe_op op_mod (pe_callTy call_int1 (by rfl) mint (by decide +kernel) (pa_cons (pe_dget hu (pv 0) pe_str (fun _ _ => rfl)) pa_nil)) (pe_callB (call_max2 rfl) (by rfl) mmax (by decide +kernel) (pa_cons pe_int (pa_cons (pe_callB call_len_seq (by rfl) mlen PySem.boot_len (pa_cons (pv 2) pa_nil)) pa_nil)))))
    (pss_cons (ps_if (PW.pt (pw_and (pt_cmpR (op_neD hu64) (pv 2) (pe_lst pa_nil) (nomark _)) (pw_and1 (pt_cmpR op_gt (pe_ix ix_list (pv 2) (pv 3) (fun _ _ => rfl)) pe_int (nomark _)))))
      (pss_cons (ps_set (i := 4) sc_law_next.nd rfl (.inl rfl) (pe_op op_mod (pe_callTy call_int1 (by rfl) mint (by decide +kernel) (pa_cons (pe_ix ix_list (pv 2) (pv 3) (fun _ _ => rfl)) pa_nil)) (pv 1)))
      (pss_cons (ps_asg (pe_op op_fdiv (pe_ix ix_list (pv 2) (pv 3) (fun _ _ => rfl)) (pv 1)) (pg_sub (pv 2) (pv 3) set_list))
      (pss_one (ps_ret (pv 4))))) pss_nil)
    (pss_cons (ps_set (i := 5) sc_law_next.nd rfl (.inl rfl) (pe_callTy call_int1 (by rfl) mint (by decide +kernel) (pa_cons (pe_op op_add (pe_op op_add (pe_op op_mul (pe_dget hu (pv 0) pe_str (fun _ _ => rfl)) pe_int) (pe_op op_mul pe_int (pe_dget hu (pv 0) pe_str (fun _ _ => rfl)))) pe_int) pa_nil)))
    (pss_cons (ps_asg (pe_op op_mod (pe_callTy call_int1 (by rfl) mint (by decide +kernel) (pa_cons (pv 5) pa_nil)) pe_int) (pg_sub (pv 0) pe_str (set_dict hu)))
    (pss_one (ps_ret (pe_op op_mod (pe_callTy call_int1 (by rfl) mint (by decide +kernel) (pa_cons (pe_op op_fdiv (pe_dget hu (pv 0) pe_str (fun _ _ => rfl)) pe_int) pa_nil)) (pv 1))))))))), ?_⟩
  have ha : H a = some (.dK (dw (.int m) (.ref g) (.int t))) := ha
  refine ⟨.ref a, rfl, a, .int t, rfl, dget_of ha (dw_turn _ _ _), t, 1, rfl, rfl, .ref a, rfl, a, .ref g, rfl, dget_of ha (dw_great _ _ _), (by decide : 2 ≤ sizeLine), fun T hT => ?_⟩
  have aT : a ≠ T := fun z => by rw [← z, ha] at hT; cases hT
  have gT : g ≠ T := fun z => by rw [← z, hgr] at hT; cases hT
  have ha1 : (upd H T (.tup [.int (t + 1), .ref g])) a = some (.dK (dw (.int m) (.ref g) (.int t))) := by rw [upd_ne aT]; exact ha
  refine ⟨T, [.int (t + 1), .ref g], rfl, .inl (.inl upd_same), rfl, _, _, rfl, .ref a, rfl, a, _, rfl, .inl ⟨_, .inr "turn", ha1, rfl, (by decide : 3 < sizeLine), rfl⟩, _, _, rfl, rfl, ?_⟩
  rw [dw_put_turn]
  generalize hH2 : upd (upd H T (.tup [.int (t + 1), .ref g])) a (.dK (dw (.int m) (.ref g) (.int (t + 1)))) = H2
  have ha2 : H2 a = some (.dK (dw (.int m) (.ref g) (.int (t + 1)))) := by rw [← hH2, upd_same]
  have hg2 : H2 g = some (.lst (ns.map V.int)) := by rw [← hH2, upd_ne agne.symm, upd_ne gT]; exact hgr
  have k2 : ∀ b o, b ≠ a → H b = some o → H2 b = some o := fun b o nb e => by
    rw [← hH2, upd_ne nb, upd_ne (fun z => by rw [z, hT] at e; cases e)]
    exact e
  have lpos : (0 : Int) < (if ((ns.map V.int).length : Int) > 1 then ((ns.map V.int).length : Int) else 1) := by split <;> omega
  refine ⟨.ref a, rfl, a, .int (t + 1), rfl, dget_of ha2 (dw_turn _ _ _), .inl ⟨_, rfl, .ref g, rfl, g, _, rfl, .inl (.of hg2), 1, _, rfl, _, _, rfl, rfl, lpos, ?_⟩⟩
  generalize hat : (t + 1) % (if ((ns.map V.int).length : Int) > 1 then ((ns.map V.int).length : Int) else 1) = at_
  have at0 : 0 ≤ at_ := by rw [← hat]; exact Int.emod_nonneg _ (Int.ne_of_gt lpos)
  have at1 : at_ < (if ((ns.map V.int).length : Int) > 1 then ((ns.map V.int).length : Int) else 1) := by rw [← hat]; exact Int.emod_lt_of_pos _ lpos
  refine ⟨.ref g, rfl, Nat.zero_le _, fun e he => ?_⟩
  have ea : a ≠ e := fun z => by rw [← z, ha2] at he; cases he
  have eg : g ≠ e := fun z => by rw [← z, hg2] at he; cases he
  have ha3 : (upd H2 e (.lst [])) a = some (.dK (dw (.int m) (.ref g) (.int (t + 1)))) := by rw [upd_ne ea]; exact ha2
  have hg3 : (upd H2 e (.lst [])) g = some (.lst (ns.map V.int)) := by rw [upd_ne eg]; exact hg2
  have k3 : ∀ b o, b ≠ a → H b = some o → (upd H2 e (.lst [])) b = some o := fun b o nb x => by
    have := k2 b o nb x
    rw [upd_ne (fun z => by rw [z, he] at this; cases this)]
    exact this
  have he3 : (upd H2 e (.lst [])) e = some (.lst []) := upd_same
  generalize upd H2 e (.lst []) = H3 at ha3 hg3 k3 he3 ⊢
  refine ⟨.list (ns.map PyData.int), .list [], .lst (.of hg3) (dp_ints ns), ?shp, shaped_ints ns, by decide, _, rfl, ite2 (fun h1 => ?good) fun _ => iteF ?fall⟩
  case shp => exact .lst (.of he3) .nil
  case good =>
    have hne : ns ≠ [] := fun z => by subst z; exact absurd h1 (by decide)
    have lp : 0 < ns.length := List.length_pos_iff.mpr hne
    have at2 : at_.toNat < ns.length := by
      rw [List.length_map] at at1
      split at at1 <;> omega
    have hv : ns[at_.toNat]? = some (ns[at_.toNat]) := List.getElem?_eq_getElem at2
    have hx : atI (ns.map V.int) at_ = some (.int (ns[at_.toNat])) := by
      have := atI_nat (xs := ns.map V.int) (j := at_.toNat) (v := .int (ns[at_.toNat])) (by rw [List.getElem?_map, hv]; rfl)
      rwa [Int.toNat_of_nonneg at0] at this
    refine ⟨.ref g, rfl, _, rfl, g, _, _, _, rfl, rfl, .of hg3, (by rw [hat]; exact hx), _, _, rfl, rfl, _, rfl, ite2 (fun h2 => ?good2) fun _ => ?fall2⟩
    case good2 =>
      -- a great cell gives its last digit
      refine ⟨.ref g, rfl, _, rfl, g, _, _, _, rfl, rfl, .of hg3, (by rw [hat]; exact hx), .inl ⟨_, rfl, .int b, rfl, _, _, rfl, rfl, b0, ?_⟩⟩
      refine ⟨.ref g, rfl, _, rfl, g, _, _, _, rfl, rfl, .of hg3, (by rw [hat]; exact hx), .int b, rfl, _, _, rfl, rfl, ⟨b0, b1⟩, .ref g, rfl, _, rfl, g, _, _, at_.toNat, rfl, rfl, hg3, ?_, _, rfl, ?_⟩
      · rw [hat]
        have := ixN_nat (n := (ns.map V.int).length) (j := at_.toNat) (by rw [List.length_map]; exact at2)
        rwa [Int.toNat_of_nonneg at0] at this
      · refine q _ _ (Int.emod_nonneg _ (Int.ne_of_gt b0)) (Int.emod_lt_of_pos _ b0) (step_of (fun c o c1 c2 x => ?_) ⟨agne, m, t + 1, ns.set at_.toNat (ns[at_.toNat] / b), ?_, ⟨m0, m1⟩, by omega, ?_, by rw [List.length_set]; exact hl⟩)
        · rw [upd_ne c2]; exact k3 c o c1 x
        · rw [upd_ne agne]; exact ha3
        · rw [upd_same, List.map_set]
    case fall2 =>
      refine ⟨.ref a, rfl, a, .int m, rfl, dget_of ha3 (dw_mixed _ _ _), m, _, rfl, rfl, .inr ⟨by decide, by decide⟩, .ref a, rfl, a, .int (t + 1), rfl, dget_of ha3 (dw_turn _ _ _), _, t + 1, rfl, rfl, .inl ⟨by decide, by decide⟩, _, _, rfl, rfl, _, _, rfl, rfl, .inl ⟨_, rfl, ?_⟩⟩
      refine ⟨_, rfl, .inl ⟨_, rfl, _, _, rfl, rfl, (by show (0 : Int) < 2305843009213693951; decide), .ref a, rfl, a, _, rfl, .inl ⟨_, .inr "mixed", ha3, rfl, (by decide : 3 < sizeLine), rfl⟩, ?_⟩⟩
      rw [dw_put_mixed]
      have n0 : 0 ≤ (m * 6364136223846793 + 1442695040888963 * (t + 1) + 13) % bigM := Int.emod_nonneg _ (by decide)
      have n1 : (m * 6364136223846793 + 1442695040888963 * (t + 1) + 13) % bigM < bigM := Int.emod_lt_of_pos _ (by decide)
      refine ⟨.ref a, rfl, a, _, rfl, dget_of upd_same (dw_mixed _ _ _), _, _, rfl, rfl, ⟨by decide, by decide⟩, .inl ⟨_, rfl, .int b, rfl, _, _, rfl, rfl, b0, ?_⟩⟩
      refine q _ _ (Int.emod_nonneg _ (Int.ne_of_gt b0)) (Int.emod_lt_of_pos _ b0) (step_of (fun c o c1 c2 x => ?_) ⟨agne, _, t + 1, ns, upd_same, ⟨n0, n1⟩, by omega, ?_, hl⟩)
      · rw [upd_ne c1]; exact k3 c o c1 x
      · rw [upd_ne agne.symm]; exact hg3
  case fall =>
    refine ⟨.ref a, rfl, a, .int m, rfl, dget_of ha3 (dw_mixed _ _ _), m, _, rfl, rfl, .inr ⟨by decide, by decide⟩, .ref a, rfl, a, .int (t + 1), rfl, dget_of ha3 (dw_turn _ _ _), _, t + 1, rfl, rfl, .inl ⟨by decide, by decide⟩, _, _, rfl, rfl, _, _, rfl, rfl, .inl ⟨_, rfl, ?_⟩⟩
    refine ⟨_, rfl, .inl ⟨_, rfl, _, _, rfl, rfl, (by show (0 : Int) < 2305843009213693951; decide), .ref a, rfl, a, _, rfl, .inl ⟨_, .inr "mixed", ha3, rfl, (by decide : 3 < sizeLine), rfl⟩, ?_⟩⟩
    rw [dw_put_mixed]
    have n0 : 0 ≤ (m * 6364136223846793 + 1442695040888963 * (t + 1) + 13) % bigM := Int.emod_nonneg _ (by decide)
    have n1 : (m * 6364136223846793 + 1442695040888963 * (t + 1) + 13) % bigM < bigM := Int.emod_lt_of_pos _ (by decide)
    refine ⟨.ref a, rfl, a, _, rfl, dget_of upd_same (dw_mixed _ _ _), _, _, rfl, rfl, ⟨by decide, by decide⟩, .inl ⟨_, rfl, .int b, rfl, _, _, rfl, rfl, b0, ?_⟩⟩
    refine q _ _ (Int.emod_nonneg _ (Int.ne_of_gt b0)) (Int.emod_lt_of_pos _ b0) (step_of (fun c o c1 c2 x => ?_) ⟨agne, _, t + 1, ns, upd_same, ⟨n0, n1⟩, by omega, ?_, hl⟩)
    · rw [upd_ne c1]; exact k3 c o c1 x
    · rw [upd_ne agne.symm]; exact hg3

variable (B : Bl mg) (W : Df K mg) (CL : ErrC P K mg)
include B W CL
theorem ok_law_next : HasF P w K mg base "_law_next" 1 ["_law_draw", "_law_below"] w_next := hasF_next W.d_law_next rfl fun f fd F => ok_next0 F B.b_len B.b_max B.b_int
theorem ok_law_marks : HasF P w K mg base "_law_marks" 1 ["_law_error"] w_law_marks := by
  refine hasF_of (k := 0) W.d_law_marks sc_law_marks fun f cdv A outer s H E hgd hr => ?_
  have hu := hu65 hr
  exact dss_cons (ds_set 1 sc_law_marks.nd ((dn_lst (da_cons (de_tup (da_cons (de_str) (da_cons (de_isX CL.xc (by decide +kernel) (by rfl) (by exact B.b_isinstance) (by rfl) (de_var 0)) (da_nil)))) (da_cons (de_tup (da_cons (de_str) (da_cons (de_isX CL.xc (by decide +kernel) (by rfl) (by exact B.b_isinstance) (by rfl) (de_var 0)) (da_nil)))) (da_nil)))).de))
    (dss_cons (ds_set 1 sc_law_marks.nd (de_add (de_var 1) ((dn_lst (da_cons (de_tup (da_cons (de_str) (da_cons (de_isX CL.xc (by decide +kernel) (by rfl) (by exact B.b_isinstance) (by rfl) (de_var 0)) (da_nil)))) (da_cons (de_tup (da_cons (de_str) (da_cons (de_isX CL.xc (by decide +kernel) (by rfl) (by exact B.b_isinstance) (by rfl) (de_var 0)) (da_nil)))) (da_nil)))).de)))
    (dss_cons (ds_set 1 sc_law_marks.nd (de_add (de_var 1) ((dn_lst (da_cons (de_tup (da_cons (de_str) (da_cons (de_isX CL.xc (by decide +kernel) (by rfl) (by exact B.b_isinstance) (by rfl) (de_var 0)) (da_nil)))) (da_cons (de_tup (da_cons (de_str) (da_cons (de_isX CL.xc (by decide +kernel) (by rfl) (by exact B.b_isinstance) (by rfl) (de_var 0)) (da_nil)))) (da_nil)))).de)))
    (dss_cons (ds_set 1 sc_law_marks.nd (de_add (de_var 1) ((dn_lst (da_cons (de_tup (da_cons (de_str) (da_cons (de_isX CL.xc (by decide +kernel) (by rfl) (by exact B.b_isinstance) (by rfl) (de_var 0)) (da_nil)))) (da_cons (de_tup (da_cons (de_str) (da_cons (de_isX CL.xc (by decide +kernel) (by rfl) (by exact B.b_isinstance) (by rfl) (de_var 0)) (da_nil)))) (da_nil)))).de)))
    (dss_cons (ds_set 1 sc_law_marks.nd (de_add (de_var 1) ((dn_lst (da_cons (de_tup (da_cons (de_str) (da_cons (de_isX CL.xc (by decide +kernel) (by rfl) (by exact B.b_isinstance) (by rfl) (de_var 0)) (da_nil)))) (da_cons (de_tup (da_cons (de_str) (da_cons (de_isX CL.xc (by decide +kernel) (by rfl) (by exact B.b_isinstance) (by rfl) (de_var 0)) (da_nil)))) (da_nil)))).de)))
    (dss_cons (ds_set 1 sc_law_marks.nd (de_add (de_var 1) ((dn_lst (da_cons (de_tup (da_cons (de_str) (da_cons (de_isX CL.xc (by decide +kernel) (by rfl) (by exact B.b_isinstance) (by rfl) (de_var 0)) (da_nil)))) (da_cons (de_tup (da_cons (de_str) (da_cons (de_isX CL.xc (by decide +kernel) (by rfl) (by exact B.b_isinstance) (by rfl) (de_var 0)) (da_nil)))) (da_nil)))).de)))
    (dss_cons (ds_set 1 sc_law_marks.nd (de_add (de_var 1) ((dn_lst (da_cons (de_tup (da_cons (de_str) (da_cons (de_isX CL.xc (by decide +kernel) (by rfl) (by exact B.b_isinstance) (by rfl) (de_var 0)) (da_nil)))) (da_cons (de_tup (da_cons (de_str) (da_cons (de_isX CL.xc (by decide +kernel) (by rfl) (by exact B.b_isinstance) (by rfl) (de_var 0)) (da_nil)))) (da_nil)))).de)))
    (dss_cons (ds_set 1 sc_law_marks.nd (de_add (de_var 1) ((dn_lst (da_cons (de_tup (da_cons (de_str) (da_cons (de_isX CL.xc (by decide +kernel) (by rfl) (by exact B.b_isinstance) (by rfl) (de_var 0)) (da_nil)))) (da_cons (de_tup (da_cons (de_str) (da_cons (de_isX CL.xc (by decide +kernel) (by rfl) (by exact B.b_isinstance) (by rfl) (de_var 0)) (da_nil)))) (da_nil)))).de)))
    (dss_cons (ds_set 1 sc_law_marks.nd (de_add (de_var 1) ((dn_lst (da_cons (de_tup (da_cons (de_str) (da_cons (de_isX CL.xc (by decide +kernel) (by rfl) (by exact B.b_isinstance) (by rfl) (de_var 0)) (da_nil)))) (da_cons (de_tup (da_cons (de_str) (da_cons (de_isXT (T := "ValueError") CL.xc (by decide) (by decide +kernel) (by rfl) (by exact B.b_isinstance) (by rfl) (by exact B.b_ValueError) (by decide +kernel) (de_var 0)) (da_nil)))) (da_nil)))).de)))
    (dss_cons (ds_set 1 sc_law_marks.nd (de_add (de_var 1) ((dn_lst (da_cons (de_tup (da_cons (de_str) (da_cons (de_isXT (T := "OverflowError") CL.xc (by decide) (by decide +kernel) (by rfl) (by exact B.b_isinstance) (by rfl) (by exact B.b_OverflowError) (by decide +kernel) (de_var 0)) (da_nil)))) (da_cons (de_tup (da_cons (de_str) (da_cons (de_isXT (T := "RuntimeError") CL.xc (by decide) (by decide +kernel) (by rfl) (by exact B.b_isinstance) (by rfl) (by exact B.b_RuntimeError) (by decide +kernel) (de_var 0)) (da_nil)))) (da_nil)))).de)))
    (dss_cons (ds_set 1 sc_law_marks.nd (de_add (de_var 1) ((dn_lst (da_cons (de_tup (da_cons (de_str) (da_cons (de_isXT (T := "LookupError") CL.xc (by decide) (by decide +kernel) (by rfl) (by exact B.b_isinstance) (by rfl) (by exact B.b_LookupError) (by decide +kernel) (de_var 0)) (da_nil)))) (da_cons (de_tup (da_cons (de_str) (da_cons (de_isXT (T := "TypeError") CL.xc (by decide) (by decide +kernel) (by rfl) (by exact B.b_isinstance) (by rfl) (by exact B.b_TypeError) (by decide +kernel) (de_var 0)) (da_nil)))) (da_nil)))).de)))
    (dss_one (ds_ret ((dn_lc (own := [("_law_label", 2), ("_law_holds", 3)]) rfl sc_law_marks.nd (di_seq (de_var 1)) (blkOk_by (N := N_law_marks) (sc := defScope s_law_marks) (by decide +kernel)) (by decide) (fun _ _ _ _ _ => dg_tup rfl (dgs_cons (dg_name 2 sc_law_marks.nd) (dgs_cons (dg_name 3 sc_law_marks.nd) (dgs_nil))) rfl rfl (fun ds η Q h => ((gl_cons (gx_n 2) (gl_cons (gx_n 3) gl_nil)) ds η Q h).1)) (fun _ _ _ _ _ => dts_one (dt_val (de_var 3))) (fun _ _ _ _ _ => de_var 2)).de)))))))))))))
theorem ok_law_labels : HasF P w K mg base "_law_labels" 1 [] w_law_labels := by
  refine hasF_of (k := 0) W.d_law_labels sc_law_labels fun f cdv A outer s H E hgd hr => ?_
  have hu := hu65 hr
  exact dss_cons (ds_set 0 sc_law_labels.nd ((dn_lst (da_cons (de_str) (da_cons (de_str) (da_cons (de_str) (da_cons (de_str) (da_cons (de_str) (da_cons (de_str) (da_cons (de_str) (da_cons (de_str) (da_cons (de_str) (da_cons (de_str) (da_nil)))))))))))).de))
    (dss_one (ds_ret (de_add (de_var 0) ((dn_lst (da_cons (de_str) (da_cons (de_str) (da_cons (de_str) (da_cons (de_str) (da_cons (de_str) (da_cons (de_str) (da_nil)))))))).de))))
theorem ok_law_by_place : HasF P w K mg base "_law_by_place" 2 ["_law_one", "_law_far"] w_law_by_place := by
  refine hasF_of (k := 1) W.d_law_by_place sc_law_by_place fun f cdv A outer s H E hgd hr => ?_
  have hu := hu65 hr
  exact dss_cons (ds_set 2 sc_law_by_place.nd ((dn_lst (da_cons (de_mkX CL.c_BadSchema CL.xc (by decide +kernel) (hr.mono (by decide)) (by rfl) (de_var 0)) (da_cons (de_mkX CL.c_BadStore CL.xc (by decide +kernel) (hr.mono (by decide)) (by rfl) (de_var 0)) (da_cons (de_mkX CL.c_BadParting CL.xc (by decide +kernel) (hr.mono (by decide)) (by rfl) (de_var 0)) (da_cons (de_mkX CL.c_BadSheet CL.xc (by decide +kernel) (hr.mono (by decide)) (by rfl) (de_var 0)) (da_nil)))))).de))
    (dss_cons (ds_set 2 sc_law_by_place.nd (de_add (de_var 2) ((dn_lst (da_cons (de_mkX CL.c_BadRow CL.xc (by decide +kernel) (hr.mono (by decide)) (by rfl) (de_var 0)) (da_cons (de_mkX CL.c_BadLot CL.xc (by decide +kernel) (hr.mono (by decide)) (by rfl) (de_var 0)) (da_cons (de_mkX CL.c_BadColumn CL.xc (by decide +kernel) (hr.mono (by decide)) (by rfl) (de_var 0)) (da_cons (de_mkX CL.c_BadCell CL.xc (by decide +kernel) (hr.mono (by decide)) (by rfl) (de_var 0)) (da_nil)))))).de)))
    (dss_cons (ds_set 2 sc_law_by_place.nd (de_add (de_var 2) ((dn_lst (da_cons (de_mkX CL.c_BadNumber CL.xc (by decide +kernel) (hr.mono (by decide)) (by rfl) (de_var 0)) (da_cons (de_mkX CL.c_Twice CL.xc (by decide +kernel) (hr.mono (by decide)) (by rfl) (de_var 0)) (da_cons (de_mkX CL.c_Missing CL.xc (by decide +kernel) (hr.mono (by decide)) (by rfl) (de_var 0)) (da_cons (de_mkX CL.c_BadPaper CL.xc (by decide +kernel) (hr.mono (by decide)) (by rfl) (de_var 0)) (da_nil)))))).de)))
    (dss_one (ds_ret (de_add (de_var 2) ((dn_lst (da_cons (de_mkX2 CL.c_BadText CL.xc (by decide +kernel) (hr.mono (by decide)) (by rfl) (de_var 0) (de_var 1)) (da_cons (de_mkX CL.c_Broken CL.xc (by decide +kernel) (hr.mono (by decide)) (by rfl) (de_var 0)) (da_cons (de_mkX CL.c_NothingLeft CL.xc (by decide +kernel) (hr.mono (by decide)) (by rfl) (de_var 0)) (da_cons (de_mkX CL.c_TooMany CL.xc (by decide +kernel) (hr.mono (by decide)) (by rfl) (de_var 0)) (da_nil)))))).de))))))
theorem ok_law_by_names : HasF P w K mg base "_law_by_names" 2 ["_law_one", "_law_far"] w_law_by_names := by
  refine hasF_of (k := 1) W.d_law_by_names sc_law_by_names fun f cdv A outer s H E hgd hr => ?_
  have hu := hu65 hr
  exact dss_cons (ds_set 2 sc_law_by_names.nd ((dn_lst (da_cons (de_mkXk CL.c_BadSchema CL.xc CL.kw_BadSchema (by decide +kernel) (hr.mono (by decide)) (by rfl) (de_var 0)) (da_cons (de_mkXk CL.c_BadStore CL.xc CL.kw_BadStore (by decide +kernel) (hr.mono (by decide)) (by rfl) (de_var 0)) (da_cons (de_mkXk CL.c_BadParting CL.xc CL.kw_BadParting (by decide +kernel) (hr.mono (by decide)) (by rfl) (de_var 0)) (da_nil))))).de))
    (dss_cons (ds_set 2 sc_law_by_names.nd (de_add (de_var 2) ((dn_lst (da_cons (de_mkXk CL.c_BadSheet CL.xc CL.kw_BadSheet (by decide +kernel) (hr.mono (by decide)) (by rfl) (de_var 0)) (da_cons (de_mkXk CL.c_BadRow CL.xc CL.kw_BadRow (by decide +kernel) (hr.mono (by decide)) (by rfl) (de_var 0)) (da_cons (de_mkXk CL.c_BadLot CL.xc CL.kw_BadLot (by decide +kernel) (hr.mono (by decide)) (by rfl) (de_var 0)) (da_nil))))).de)))
    (dss_cons (ds_set 2 sc_law_by_names.nd (de_add (de_var 2) ((dn_lst (da_cons (de_mkXk CL.c_BadColumn CL.xc CL.kw_BadColumn (by decide +kernel) (hr.mono (by decide)) (by rfl) (de_var 0)) (da_cons (de_mkXk CL.c_BadCell CL.xc CL.kw_BadCell (by decide +kernel) (hr.mono (by decide)) (by rfl) (de_var 0)) (da_cons (de_mkXk CL.c_BadNumber CL.xc CL.kw_BadNumber (by decide +kernel) (hr.mono (by decide)) (by rfl) (de_var 0)) (da_nil))))).de)))
    (dss_cons (ds_set 2 sc_law_by_names.nd (de_add (de_var 2) ((dn_lst (da_cons (de_mkXk CL.c_Twice CL.xc CL.kw_Twice (by decide +kernel) (hr.mono (by decide)) (by rfl) (de_var 0)) (da_cons (de_mkXk CL.c_Missing CL.xc CL.kw_Missing (by decide +kernel) (hr.mono (by decide)) (by rfl) (de_var 0)) (da_cons (de_mkXk CL.c_BadPaper CL.xc CL.kw_BadPaper (by decide +kernel) (hr.mono (by decide)) (by rfl) (de_var 0)) (da_nil))))).de)))
    (dss_cons (ds_set 2 sc_law_by_names.nd (de_add (de_var 2) ((dn_lst (da_cons (de_mkX2r CL.c_BadText CL.xc CL.kw_BadText (by decide +kernel) (hr.mono (by decide)) (by rfl) (de_var 1) (de_var 0)) (da_cons (de_mkXk CL.c_Broken CL.xc CL.kw_Broken (by decide +kernel) (hr.mono (by decide)) (by rfl) (de_var 0)) (da_nil)))).de)))
    (dss_one (ds_ret (de_add (de_var 2) ((dn_lst (da_cons (de_mkXk CL.c_NothingLeft CL.xc CL.kw_NothingLeft (by decide +kernel) (hr.mono (by decide)) (by rfl) (de_var 0)) (da_cons (de_mkXk CL.c_TooMany CL.xc CL.kw_TooMany (by decide +kernel) (hr.mono (by decide)) (by rfl) (de_var 0)) (da_nil)))).de))))))))
theorem ok_law_fields : HasF P w K mg base "_law_fields" 1 ["_law_row"] w_law_fields := by
  refine hasF_of (k := 0) W.d_law_fields sc_law_fields fun f cdv A outer s H E hgd hr => ?_
  have hu := hu65 hr
  exact dss_cons (ds_set 1 sc_law_fields.nd ((dn_lst (da_cons (de_fldX CL.xc (de_ix (de_var 0) (de_int))) (da_cons (de_fldX CL.xc (de_ix (de_var 0) (de_int))) (da_cons (de_fldX CL.xc (de_ix (de_var 0) (de_int))) (da_cons (de_fldX CL.xc (de_ix (de_var 0) (de_int))) (da_nil)))))).de))
    (dss_cons (ds_set 1 sc_law_fields.nd (de_add (de_var 1) ((dn_lst (da_cons (de_fldX CL.xc (de_ix (de_var 0) (de_int))) (da_cons (de_fldX CL.xc (de_ix (de_var 0) (de_int))) (da_cons (de_fldX CL.xc (de_ix (de_var 0) (de_int))) (da_cons (de_fldX CL.xc (de_ix (de_var 0) (de_int))) (da_nil)))))).de)))
    (dss_cons (ds_set 1 sc_law_fields.nd (de_add (de_var 1) ((dn_lst (da_cons (de_fldX CL.xc (de_ix (de_var 0) (de_int))) (da_cons (de_fldX CL.xc (de_ix (de_var 0) (de_int))) (da_cons (de_fldX CL.xc (de_ix (de_var 0) (de_int))) (da_cons (de_fldX CL.xc (de_ix (de_var 0) (de_int))) (da_nil)))))).de)))
    (dss_cons (ds_set 1 sc_law_fields.nd (de_add (de_var 1) ((dn_lst (da_cons (de_fldX CL.xc (de_ix (de_var 0) (de_int))) (da_cons (de_fldX CL.xc (de_ix (de_var 0) (de_int))) (da_cons (de_fldX CL.xc (de_ix (de_var 0) (de_int))) (da_cons (de_fldX CL.xc (de_ix (de_var 0) (de_int))) (da_nil)))))).de)))
    (dss_one (ds_ret (de_add (de_var 1) ((dn_lst (da_cons (de_fldX CL.xc (de_ix (de_var 0) (de_int))) (da_nil))).de)))))))
theorem ok_law_are_right : HasF P w K mg base "_law_are_right" 2 ["_law_row", "_law_one", "_law_far"] w_law_are_right := by
  have F_law_fields := ok_law_fields (P := P) (w := w) (base := base) B W CL
  have F_law_labels := ok_law_labels (P := P) (w := w) (base := base) B W CL
  have F_law_marks := ok_law_marks (P := P) (w := w) (base := base) B W CL
  refine hasF_of (k := 1) W.d_law_are_right sc_law_are_right fun f cdv A outer s H E hgd hr => ?_
  have hu := hu65 hr
  exact dss_cons (ds_if (dt_c (cm_ne (by exact hu)) (de_reprD (by exact hgd) (by exact hu) (by rfl) (by exact B.b_repr) (da_cons (de_f F_law_fields hgd hr (dc_cons (de_var 0) (dc_nil))) (da_nil))) (de_reprD (by exact hgd) (by exact hu) (by rfl) (by exact B.b_repr) (da_cons (de_add (de_mul ((dn_lst (da_cons (de_var 1) (da_nil))).de) (de_int)) ((dn_lst (da_cons (de_var 2) (da_nil))).de)) (da_nil)))) (dss_one (ds_ret (de_bl))) (dss_nil))
    (dss_cons (ds_for PassesOwn.never rfl (di_zip (by rfl) (by exact B.b_zip) (da_cons (de_f0 F_law_labels hgd hr) (da_cons (de_var 0) (da_nil)))) (dg_tup rfl (dgs_cons (dg_name 3 sc_law_are_right.nd) (dgs_cons (dg_name 4 sc_law_are_right.nd) (dgs_nil))) rfl rfl (fun ds η Q h => ((gl_cons (gx_n 3) (gl_cons (gx_n 4) gl_nil)) ds η Q h).1)) (dss_cons (ds_set 5 sc_law_are_right.nd (de_if (dt_c (cm_eq (by exact hu)) (de_var 3) (de_str)) ((dn_lst (da_cons (de_str) (da_cons (de_str) (da_nil)))).de) ((dn_lst (da_cons (de_var 3) (da_cons (de_str) (da_cons (de_str) (da_nil))))).de)))
    (dss_one (ds_if (dt_c (cm_ne (by exact hu)) (de_f F_law_marks hgd hr (dc_cons (de_var 4) (dc_nil))) (de_var 5)) (dss_one (ds_ret (de_bl))) (dss_nil)))))
    (dss_one (ds_ret (de_bl))))
theorem ok_law {f : Addr} {fd : FuncData} (F : Fun K "law" "law" s_law f fd) (pl : ∀ ns : List Int, ns.length ≤ 63 → t_law never zLaw (lawEnv 9 ns)) : FnG P w K mg base CX0 3 f fd ["_law_script"] (spLaw K) := by
  have F_law_next := ok_law_next (P := P) (w := w) (base := base) B W CL
  have F_law_by_place := ok_law_by_place (P := P) (w := w) (base := base) B W CL
  have F_law_by_names := ok_law_by_names (P := P) (w := w) (base := base) B W CL
  have F_law_are_right := ok_law_are_right (P := P) (w := w) (base := base) B W CL
  have F_law_marks := ok_law_marks (P := P) (w := w) (base := base) B W CL
  obtain ⟨fb, fdb, Fb, hmb, hbb⟩ := W.d_law_begun.ex
  have Gb := ok_law_begun (P := P) (w := w) (mg := mg) (base := base) (k := 0) Fb B.b_len B.b_enumerate B.b_int
  refine fnG_of (k := 2) F sc_law (fun vs H Q E h => spLaw_len h) fun cdv A outer s H vs Q E hgd hr h => ?_
  have hu := hu65 hr
  have body : DSs (cxOf CX0 P w K mg base N_law "law" (defScope s_law) f cdv A outer s H E).nox ((defBody s_law).drop 1) t_law := dss_cons (ds_for PassesOwn.never rfl (di_range1 (by rfl) (by exact B.b_range) (da_cons (de_add (de_int) (de_div (de_min2 (by rfl) (by rfl) (by exact B.b_min) (da_cons (de_int) (da_cons (de_lenScr 0 (by rfl) (by exact B.b_len)) (da_nil)))) (de_int))) (da_nil))) (dg_name 2 sc_law.nd) (dss_cons (ds_set 3 sc_law.nd ((dn_lst (da_cons (de_non) (da_cons (de_int) (da_cons (de_bl) (da_cons (de_neg (de_int)) (da_cons (de_sub (de_pow (de_int) (de_int)) (de_int)) (da_cons (de_f F_law_next hgd hr (dc_drw 1 (dc_cons (de_pow (de_int) (de_int)) (dc_nil)))) (da_cons (de_str) (da_cons (de_str) (da_cons (de_tup (da_nil)) (da_cons (de_tup (da_cons (de_int) (da_cons (de_str) (da_nil)))) (da_cons ((dn_lst (da_cons (de_int) (da_cons ((dn_lst (da_cons (de_int) (da_nil))).de) (da_nil)))).de) (da_nil))))))))))))).de))
    (dss_cons (ds_set 3 sc_law.nd (de_add (de_var 3) ((dn_lst (da_cons (de_dict0) (da_cons (de_disp1K) (da_cons (de_tup (da_cons (de_str) (da_cons (de_int) (da_nil)))) (da_cons (de_tup (da_cons (de_int) (da_cons (de_int) (da_cons (de_int) (da_nil))))) (da_cons (de_str) (da_nil))))))).de)))
    (dss_one (ds_for PassesOwn.never rfl (di_range1 (by rfl) (by exact B.b_range) (da_cons (de_len (by rfl) (by exact B.b_len) (da_cons (de_var 3) (da_nil))) (da_nil))) (dg_name 4 sc_law.nd) (dss_cons (ds_asg (de_tup (da_cons (de_ix (de_var 3) (de_var 4)) (da_cons (de_ix (de_var 3) (de_f F_law_next hgd hr (dc_drw 1 (dc_cons (de_len (by rfl) (by exact B.b_len) (da_cons (de_var 3) (da_nil))) (dc_nil))))) (da_nil)))) (dg_tup rfl (dgs_cons (dg_name 5 sc_law.nd) (dgs_cons (dg_name 6 sc_law.nd) (dgs_nil))) rfl rfl (fun ds η Q h => ((gl_cons (gx_n 5) (gl_cons (gx_n 6) gl_nil)) ds η Q h).1)))
    (dss_cons (ds_set 7 sc_law.nd (de_reprD (by exact hgd) (by exact hu) (by rfl) (by exact B.b_repr) (da_cons ((dn_lst (da_cons (de_var 5) (da_cons (de_var 6) (da_nil)))).de) (da_nil))))
    (dss_cons (ds_set 8 sc_law.nd ((dn_lst (da_cons (de_f F_law_by_place hgd hr (dc_cons (de_var 5) (dc_cons (de_var 6) (dc_nil)))) (da_cons (de_f F_law_by_names hgd hr (dc_cons (de_var 5) (dc_cons (de_var 6) (dc_nil)))) (da_nil)))).de))
    (dss_cons (ds_set 9 sc_law.nd (de_f F_law_by_place hgd hr (dc_cons (de_var 6) (dc_cons (de_var 5) (dc_nil)))))
    (dss_cons (ds_if (dt_c (cm_ne (by exact hu)) ((dn_lc (own := [("_law_row", 10)]) rfl sc_law.nd (di_seq (de_var 8)) (blkOk_by (N := N_law) (sc := defScope s_law) (by decide +kernel)) (by decide) (fun _ _ _ _ _ => dg_name 10 sc_law.nd) (fun _ _ _ _ _ => dts_one (dt_not (dt_val (de_f F_law_are_right hgd hr (dc_cons (de_var 10) (dc_cons (de_var 5) (dc_cons (de_var 6) (dc_nil)))))))) (fun _ _ _ _ _ => de_var 10)).de) ((dn_lst (da_nil)).de)) (dss_one (ds_ret (de_bl))) (dss_nil))
    (dss_cons (ds_if (DW.dt (dw_or (dt_not (dt_val (de_f F_law_are_right hgd hr (dc_cons (de_var 9) (dc_cons (de_var 6) (dc_cons (de_var 5) (dc_nil))))))) (dw_or1 (dt_c (cm_ne (by exact hu)) (de_reprD (by exact hgd) (by exact hu) (by rfl) (by exact B.b_repr) (da_cons ((dn_lst (da_cons (de_var 5) (da_cons (de_var 6) (da_nil)))).de) (da_nil))) (de_var 7))))) (dss_one (ds_ret (de_bl))) (dss_nil))
    (dss_one (ds_if (dt_c (cm_ne (by exact hu)) (de_f F_law_marks hgd hr (dc_cons (de_mkX0 CL.sh_ShareError CL.xc (by decide +kernel) (by rfl) (de_var 5)) (dc_nil))) ((dn_lst (da_cons (de_str) (da_cons (de_str) (da_nil)))).de)) (dss_one (ds_ret (de_bl))) (dss_nil))))))))))))))
    (dss_one (ds_ret (de_bl)))
  exact ⟨_, PSs.nox (pss_cons (ps_set (i := 1) sc_law.nd rfl (.inl rfl) (pe_callG Gb hgd (hr.mono (by decide)) rfl hmb Fb.kp hbb pass0 (pa_cons (pv 0) pa_nil))) body.pss), law_go (X := (cxOf CX0 P w K mg base N_law "law" (defScope s_law) f cdv A outer s H E).nox) rfl h pl⟩
end
end Lw

/-! PL260: k20: exceptions made, their labels, their fields. -/
namespace Lw
open PySem DL PL L2
open Lean.Parser.Tactic in
local macro_rules | `(tactic| simp_arith! only [$xs,*] $[$l:location]?) => `(tactic| simp -implicitDefEqProofs only [x_sSeq, x_sNext, x_sSet, x_sSetL, x_sOwn, x_sOwnL, x_sNew, x_sPar, x_sParN, x_sRet, x_sRetN, x_sIf, x_sDrop, x_sFor, x_sWhile, x_sNever, x_sFrz, x_sApp, x_sAppL, x_sExtL, x_sExtS, x_onSeqEL, x_onSeqET, x_sAug, x_sAsg, x_sBreak, x_sCont, x_onDat, x_onSeqL, x_onSeqT, x_on1I, x_on2I, x_on2L, x_on2T, x_onScr, x_ifB, x_onS, x_onOwn, x_onList, x_onInt, x_onCInt, x_isDrw, x_lenScr, x_dV, x_dK, x_dOp, x_dTup, x_dNew, x_nLst, x_nCall, x_nComp, x_nRg, x_dTupRg, x_gRg1, x_gRg2, x_dCall, x_dCallF, x_dSl, x_oNone, x_oSome, x_dAnd, x_dOr, x_dNot, x_oNeg, x_bVal, x_bAnd, x_bOr, x_bNot, x_dIf, x_dChain, x_aNil, x_aCons, x_cNil, x_cCons, x_cDrw, x_iSeq, x_iRange1, x_iRange2, x_iZip2, x_iEnum1, x_iEnumZ, x_on2TT, x_nSortSet, x_onTupO, x_nSortSetI, x_nSortSetE, x_fMinL, x_fSumL, x_dDict0, x_sIns, x_sPut, x_sRaise, x_dCallE, x_sTry1, x_gN, x_gT, x_gCons, x_gNil, x_bYes, x_fLenL, x_fLenT, x_fLenS, x_fTupleL, x_fTupleT, x_fListL, x_fListT, x_fSorted, x_fAll, x_fAny, x_fSum, x_fIntI, x_fIntB, x_fMin2, x_fMax2, x_fRepr, x_dIsi, x_lend, x_lendD, x_lendO, x_lendR, x_lendU, x_lendS, x_wipe0, x_wipe1, x_addI, x_addS, x_addL, x_addT, x_sub, x_mod, x_div, x_mulW, x_divW, x_pow, x_mulI, x_mulL, x_mul2T, x_mul3T, x_dTwo, x_nSortSetL, x_sM2, x_sM3, x_on2C, x_on3C, x_mNil, x_mD, x_mN, x_aStar, x_fSortedT, x_isB, x_isN, x_isN0, x_isNI, x_isNT, x_isNL, x_isNS, x_isNB, x_lt, x_ltT, x_ord, x_ordT, x_ixL, x_ixT, x_ixS, x_fListD, x_fListDL, x_fReprD, x_dRev, x_nCat2, x_sOwnCat, x_onSeqRL, x_onSeqRT, x_onCat, x_eqT0, x_neL0, x_eqL0, x_neT0, x_addBI, x_addBB, x_fSortedD, x_dDc, x_dLend, x_bLend, x_nLend, x_sMut, x_dMutP, x_onMD, x_sPutM, x_sRetM, x_sRetS, x_onMt, x_cMut, x_onMx, x_stM, x_sCallM, x_sSetM, x_mTest, x_mCall, x_mAnd, x_sIfM, x_nSortSetT, x_fLenD, x_sUpdM, x_onDct, x_iSeqD, x_lendM, x_fMin2D, x_dFld, x_onLin, x_dMeth, x_sPutI, x_onIst, x_onDctF, x_sRetI, x_onIt, x_onIx, x_stI, x_mCallE, x_sDoI, x_sSetI, x_sExtI, x_sFldV, x_sFldM, x_dDcM, x_sMakeI, x_nComp2, x_bIfE, x_lendL, x_lendI, x_ownIx, x_ownLen, x_sColM, x_onAny, x_onMxM, x_onLs, x_stMM, x_colGo0, x_sAli2, x_dLendA, x_nLendA, x_lendA, x_aliD0, x_aliD1, x_onObj, x_lendO', x_sUnp, x_dNewF, x_dNewC, x_cNewL, x_dCallXM, x_sRetMN, x_sAsgM, x_sSelfM, x_sFrzM, x_sPopI, x_fMaxI, x_dGet, x_mSetd, x_gTL, x_iZipM, x_onStr, x_nSplit, x_dJoin, x_fStrI, x_fStrS, x_fIntT, x_oInSg, x_iTxt, x_sStar1, x_dDisp1, x_onMf, x_sAppM, x_sAppR, x_onFz, x_sRetSelfM, x_sInsR, x_sPopR, x_sPutR, x_sInsM, x_dIdx, x_oNotInSg, x_sRaise2, x_sTryN, x_nCompE, x_on2M, x_dSetEq, x_dHeard, x_dLenSet, x_dMkX, x_dMkX2, x_dMkX2r, x_dMkX0, x_dIsX, x_dFldX, x_onExc, x_dDisp1K, oGe2, oLe2, oGt2, List.getElem?_cons_zero, List.getElem?_cons_succ, List.getElem?_nil, List.set_cons_zero, List.set_cons_succ, List.map_cons, List.map_nil, List.length_cons, List.length_nil, List.replicate, List.cons_append, List.nil_append, Nat.reduceSub, Nat.reduceAdd, Nat.zero_add, if_true, Bool.false_eq_true, if_false, bne_self_eq_false, Bool.true_bne, Bool.false_bne, Bool.not_true, Bool.not_false, true_and, and_true, Bool.bne_false, Bool.bne_true, k_eqI, k_neI, k_eqS, k_neS, k_eqT, k_neT, k_eqLL, k_neLL, k_eqTT, k_neTT, k_inLI, k_inLT, k_inTTT, k_inT, k_in23, k_eqLn, k_neLn, k_eqTn, k_neTn, k_eqTn', k_neTn', k_onSeq, k_onTupO, k_onSeqE, k_lenT, k_tupL, k_tupT, k_listT, k_addT, k_addT1, k_ixT, ixN_map, onS_map, k_isiT, k_isiTi, k_isiTb, k_isiTs, k_isiTl, k_isi, k_isil, k_isii, k_isiib, k_isis, k_isNT, k_flatT, k_flatI, k_flatLs, k_flatTLs, k_gT, k_on2T, k_ordT, k_ltT, k_gR, k_ixR0, k_ixR1, k_ixS0, k_ixS1, List.length_map, eq_self, Int.cast_ofNat_Int, Int.reduceEq, Int.reduceLE, Int.reduceLT, Int.reduceAdd, Int.reduceSub, Int.reduceNeg, decide_true, decide_false, or_true, true_or, or_false, false_or, k_ofS, String.reduceEq, sizeLine_eq, Nat.reduceLeDiff, k_at0, k_at1, k_at2, k_at3, $xs,*] $[$l:location]?)
variable {Q : D → Prop} {one far : D}
/-! ### what may be shown (whole numbers of 30 digits, dicts) -/
structure Sx (k w : Nat) (d : D) : Prop where
  dep : d.depth ≤ k
  wei : d.weight ≤ w
  can : d.showable = true
  lea : d.leavesShort 31 = true
theorem Sx.mono {k w k' w' : Nat} {d : D} (h : Sx k w d) (hk : k ≤ k') (hw : w ≤ w') : Sx k' w' d := ⟨Nat.le_trans h.dep hk, Nat.le_trans h.wei hw, h.can, h.lea⟩
theorem Sx.line {k w : Nat} {d : D} (h : Sx k w d) (hw : w ≤ 400000) : d.weight ≤ sizeLine := by
  have := h.wei
  rw [sizeLine_eq]
  omega
theorem Sx.repr {k w : Nat} {d : D} (h : Sx k w d) (hk : k ≤ 60) (hw : w ≤ 400000) : reprOk d := ⟨h.can, by
  have := PyData.shown_le 31 (by decide) d h.lea
  have := h.wei
  rw [sizeLine_eq]
  omega, Nat.le_trans h.dep hk⟩
theorem sx_all {k W : Nat} : ∀ {ds : List D}, (∀ d ∈ ds, Sx k W d) → PyData.depthAll ds ≤ k ∧ PyData.showableAll ds = true ∧ PyData.leavesShortAll 31 ds = true
  | [], _ => ⟨Nat.zero_le _, rfl, rfl⟩
  | d :: ds, h => by
    have r := h d List.mem_cons_self
    obtain ⟨i1, i3, i4⟩ := sx_all (ds := ds) (fun x hx => h x (List.mem_cons_of_mem _ hx))
    exact ⟨by rw [PyData.depthAll]; exact Nat.max_le.mpr ⟨r.dep, i1⟩, by rw [PyData.showableAll, r.can, i3]; rfl, by rw [PyData.leavesShortAll, r.lea, i4]; rfl⟩
theorem sx_lst {k w W : Nat} {ds : List D} (h : ∀ d ∈ ds, Sx k W d) (hw : PyData.weightAll ds ≤ w) : Sx (k + 1) w (.list ds) := by
  obtain ⟨i1, i3, i4⟩ := sx_all h
  exact ⟨by rw [PyData.depth]; exact Nat.succ_le_succ i1, by rw [PyData.weight]; exact hw, by rw [PyData.showable]; exact i3, by rw [PyData.leavesShort]; exact i4⟩
theorem wt_le {w : Nat} : ∀ {ds : List D} (m : Nat), (∀ d ∈ ds, d.weight ≤ w) → ds.length ≤ m → PyData.weightAll ds ≤ m * (w + 1)
  | [], m, _, _ => Nat.zero_le _
  | d :: ds, m, h, hm => by
    have i2 := wt_le (ds := ds) ds.length (fun x hx => h x (List.mem_cons_of_mem _ hx)) (Nat.le_refl _)
    rw [PyData.weightAll]
    have h1 := h d List.mem_cons_self
    have h3 : (ds.length + 1) * (w + 1) ≤ m * (w + 1) := Nat.mul_le_mul_right _ (by simpa using hm)
    rw [Nat.add_mul, Nat.one_mul] at h3
    omega
theorem sx_lstM {k w : Nat} {ds : List D} (m : Nat) (h : ∀ d ∈ ds, Sx k w d) (hm : ds.length ≤ m) : Sx (k + 1) (m * (w + 1)) (.list ds) := sx_lst h (wt_le m (fun d hd => (h d hd).wei) hm)
theorem sx_of : ∀ {ds : List D} {k : Nat}, PyData.depthAll ds ≤ k → PyData.showableAll ds = true → PyData.leavesShortAll 31 ds = true → ∀ x ∈ ds, Sx k (PyData.weightAll ds) x
  | d :: ds, k, h1, h2, h3, x, hx => by
    rw [PyData.depthAll] at h1
    have h1 := Nat.max_le.mp h1
    rw [PyData.showableAll, Bool.and_eq_true] at h2
    rw [PyData.leavesShortAll, Bool.and_eq_true] at h3
    rcases List.mem_cons.mp hx with rfl | z
    · exact ⟨h1.1, by rw [PyData.weightAll]; omega, h2.1, h3.1⟩
    · exact (sx_of h1.2 h2.2 h3.2 x z).mono (Nat.le_refl _) (by rw [PyData.weightAll]; omega)
theorem Sx.tup {k w : Nat} {ds : List D} (h : Sx k w (.tuple ds)) : ∃ j, k = j + 1 ∧ (∀ x ∈ ds, Sx j w x) ∧ PyData.weightAll ds ≤ w := by
  obtain ⟨h1, h2, h3, h4⟩ := h
  rw [PyData.depth] at h1
  rw [PyData.weight] at h2
  rw [PyData.showable] at h3
  rw [PyData.leavesShort] at h4
  obtain ⟨j, rfl⟩ := Nat.exists_eq_add_of_le' (Nat.le_trans (Nat.succ_le_succ (Nat.zero_le _)) h1)
  exact ⟨j, rfl, fun x hx => (sx_of (k := j) (by omega) h3 h4 x hx).mono (Nat.le_refl _) h2, h2⟩
def sxB (k w : Nat) (d : D) : Bool := decide (d.depth ≤ k) && decide (d.weight ≤ w) && d.showable && d.leavesShort 31
theorem sx_by {k w : Nat} {d : D} (h : sxB k w d = true) : Sx k w d := by
  unfold sxB at h
  simp only [Bool.and_eq_true, decide_eq_true_eq] at h
  exact ⟨h.1.1.1, h.1.1.2, h.1.2, h.2⟩
theorem sp_next {b : Int} (h0 : 0 < b) (h1 : b < 1073741824) (q : ∀ r, 0 ≤ r → r < b → Q (.int r)) : w_next never [.drw, .dat (.int b)] Q := ⟨⟨h0, h1⟩, q⟩
theorem ne_nil0 (q : Q (.bool false)) : oNe (.list []) (.list []) Q := by
  rw [x_ne]
  exact ⟨by decide +kernel, by rw [show PyData.eqv (.list []) (.list []) = true by decide +kernel]; exact q⟩
/-- label, class, fields of each -/
def exRow (one far : D) : List (Str × Str × List (Str × D)) := [
  ("schema", "BadSchema", [("place", one)]),
  ("store", "BadStore", [("place", one)]),
  ("parting", "BadParting", [("place", one)]),
  ("sheet", "BadSheet", [("place", one)]),
  ("row", "BadRow", [("value", one)]),
  ("lot", "BadLot", [("value", one)]),
  ("column", "BadColumn", [("value", one)]),
  ("cell", "BadCell", [("value", one)]),
  ("number", "BadNumber", [("value", one)]),
  ("twice", "Twice", [("value", one)]),
  ("missing", "Missing", [("value", one)]),
  ("paper", "BadPaper", [("word", one)]),
  ("text", "BadText", [("line", one), ("word", far)]),
  ("broken", "Broken", [("number", one)]),
  ("left", "NothingLeft", [("many", one)]),
  ("many", "TooMany", [("most", one)])]
def exL (one far : D) : List D := (exRow one far).map fun q => excD q.2.1 q.2.2
def mks : List (Str × Str) := [("schema", "BadSchema"), ("store", "BadStore"), ("parting", "BadParting"), ("sheet", "BadSheet"), ("row", "BadRow"), ("lot", "BadLot"), ("column", "BadColumn"), ("cell", "BadCell"), ("number", "BadNumber"), ("twice", "Twice"), ("missing", "Missing"), ("paper", "BadPaper"), ("text", "BadText"), ("broken", "Broken"), ("left", "NothingLeft"), ("many", "TooMany"), ("own", "ShareError"), ("sort", "ValueError"), ("over", "OverflowError"), ("run", "RuntimeError"), ("look", "LookupError"), ("kind", "TypeError")]
def marksL (nm : Str) : List D := (mks.filter fun q => exB nm q.2).map fun q => .str q.1
def mkR (nm : Str) (q : Str × Str) : D := .tuple [.str q.1, .bool (exB nm q.2)]
theorem mks_at {nm : Str} : mks.map (mkR nm) = [.tuple [.str "schema", .bool (exB nm "BadSchema")], .tuple [.str "store", .bool (exB nm "BadStore")], .tuple [.str "parting", .bool (exB nm "BadParting")], .tuple [.str "sheet", .bool (exB nm "BadSheet")], .tuple [.str "row", .bool (exB nm "BadRow")], .tuple [.str "lot", .bool (exB nm "BadLot")], .tuple [.str "column", .bool (exB nm "BadColumn")], .tuple [.str "cell", .bool (exB nm "BadCell")], .tuple [.str "number", .bool (exB nm "BadNumber")], .tuple [.str "twice", .bool (exB nm "Twice")], .tuple [.str "missing", .bool (exB nm "Missing")], .tuple [.str "paper", .bool (exB nm "BadPaper")], .tuple [.str "text", .bool (exB nm "BadText")], .tuple [.str "broken", .bool (exB nm "Broken")], .tuple [.str "left", .bool (exB nm "NothingLeft")], .tuple [.str "many", .bool (exB nm "TooMany")], .tuple [.str "own", .bool (exB nm "ShareError")], .tuple [.str "sort", .bool (exB nm "ValueError")], .tuple [.str "over", .bool (exB nm "OverflowError")], .tuple [.str "run", .bool (exB nm "RuntimeError")], .tuple [.str "look", .bool (exB nm "LookupError")], .tuple [.str "kind", .bool (exB nm "TypeError")]] := by
  simp only [mks, mkR, List.map_cons, List.map_nil]
set_option maxHeartbeats 4000000 in
theorem sp_law_marks {nm : Str} {fs : List (Str × D)} (hin : nm ∈ excNames) (q : Q (.list (marksL nm))) : w_law_marks never [.dat (excD nm fs)] Q := by
  refine body_in rfl ?_
  unfold t_law_marks
  simp_arith! only [hin]
  rw [← mks_at]
  refine compD_fl (mkR nm) (fun q => .str q.1) (fun q => exB nm q.2) (fun q hq R1 R0 r1 r0 => ?_) (by rw [sizeLine_eq]; decide) ?_
  · unfold mkR
    (try simp_arith! only [])
    cases e : exB nm q.2 with
    | true => exact r1 e
    | false => exact r0 e
  · exact q
theorem sp_law_labels (q : Q (.list ((("schema" : Str) :: ("store" : Str) :: ("parting" : Str) :: ("sheet" : Str) :: ("row" : Str) :: ("lot" : Str) :: ("column" : Str) :: ("cell" : Str) :: ("number" : Str) :: ("twice" : Str) :: ("missing" : Str) :: ("paper" : Str) :: ("text" : Str) :: ("broken" : Str) :: ("left" : Str) :: ("many" : Str) :: []).map .str))) : w_law_labels never [] Q := by
  refine body_in rfl ?_
  unfold t_law_labels
  simp_arith! only []
  exact q
theorem sp_law_by_place (q : Q (.list (exL one far))) : w_law_by_place never [.dat one, .dat far] Q := by
  refine body_in rfl ?_
  unfold t_law_by_place
  simp_arith! only []
  exact q
theorem sp_law_by_names (q : Q (.list (exL one far))) : w_law_by_names never [.dat one, .dat far] Q := by
  refine body_in rfl ?_
  unfold t_law_by_names
  simp_arith! only []
  exact q
theorem fld_at {ds : List D} {i : Int} {f nm : Str} {fs : List (Str × D)} {v : D} (h : L2.atI ds i = some (excD nm fs)) (hn : nm ∈ excNames) (hf : f ∈ fldNames) (hl : fs.lookup f = some v) : (onS (L2.atI ds i) fun d => onExc d fun nm fs => (nm ∈ excNames ∧ f ∈ fldNames) ∧ onS (fs.lookup f) Q) = Q v := by
  rw [h, x_onS, x_onExc, hl, x_onS]
  exact propext ⟨fun z => z.2, fun z => ⟨⟨hn, hf⟩, z⟩⟩
theorem fa_0 : (onS (L2.atI (exL one far) 0) fun d => onExc d fun (nm : Str) (fs : List (Str × D)) => (nm ∈ excNames ∧ ("place" : Str) ∈ fldNames) ∧ onS (fs.lookup ("place" : Str)) Q) = Q one := fld_at (nm := "BadSchema") (fs := [("place", one)]) (id rfl) (by decide +kernel) (by decide +kernel) (id rfl)
theorem fa_1 : (onS (L2.atI (exL one far) 1) fun d => onExc d fun (nm : Str) (fs : List (Str × D)) => (nm ∈ excNames ∧ ("place" : Str) ∈ fldNames) ∧ onS (fs.lookup ("place" : Str)) Q) = Q one := fld_at (nm := "BadStore") (fs := [("place", one)]) (id rfl) (by decide +kernel) (by decide +kernel) (id rfl)
theorem fa_2 : (onS (L2.atI (exL one far) 2) fun d => onExc d fun (nm : Str) (fs : List (Str × D)) => (nm ∈ excNames ∧ ("place" : Str) ∈ fldNames) ∧ onS (fs.lookup ("place" : Str)) Q) = Q one := fld_at (nm := "BadParting") (fs := [("place", one)]) (id rfl) (by decide +kernel) (by decide +kernel) (id rfl)
theorem fa_3 : (onS (L2.atI (exL one far) 3) fun d => onExc d fun (nm : Str) (fs : List (Str × D)) => (nm ∈ excNames ∧ ("place" : Str) ∈ fldNames) ∧ onS (fs.lookup ("place" : Str)) Q) = Q one := fld_at (nm := "BadSheet") (fs := [("place", one)]) (id rfl) (by decide +kernel) (by decide +kernel) (id rfl)
theorem fa_4 : (onS (L2.atI (exL one far) 4) fun d => onExc d fun (nm : Str) (fs : List (Str × D)) => (nm ∈ excNames ∧ ("value" : Str) ∈ fldNames) ∧ onS (fs.lookup ("value" : Str)) Q) = Q one := fld_at (nm := "BadRow") (fs := [("value", one)]) (id rfl) (by decide +kernel) (by decide +kernel) (id rfl)
theorem fa_5 : (onS (L2.atI (exL one far) 5) fun d => onExc d fun (nm : Str) (fs : List (Str × D)) => (nm ∈ excNames ∧ ("value" : Str) ∈ fldNames) ∧ onS (fs.lookup ("value" : Str)) Q) = Q one := fld_at (nm := "BadLot") (fs := [("value", one)]) (id rfl) (by decide +kernel) (by decide +kernel) (id rfl)
theorem fa_6 : (onS (L2.atI (exL one far) 6) fun d => onExc d fun (nm : Str) (fs : List (Str × D)) => (nm ∈ excNames ∧ ("value" : Str) ∈ fldNames) ∧ onS (fs.lookup ("value" : Str)) Q) = Q one := fld_at (nm := "BadColumn") (fs := [("value", one)]) (id rfl) (by decide +kernel) (by decide +kernel) (id rfl)
theorem fa_7 : (onS (L2.atI (exL one far) 7) fun d => onExc d fun (nm : Str) (fs : List (Str × D)) => (nm ∈ excNames ∧ ("value" : Str) ∈ fldNames) ∧ onS (fs.lookup ("value" : Str)) Q) = Q one := fld_at (nm := "BadCell") (fs := [("value", one)]) (id rfl) (by decide +kernel) (by decide +kernel) (id rfl)
theorem fa_8 : (onS (L2.atI (exL one far) 8) fun d => onExc d fun (nm : Str) (fs : List (Str × D)) => (nm ∈ excNames ∧ ("value" : Str) ∈ fldNames) ∧ onS (fs.lookup ("value" : Str)) Q) = Q one := fld_at (nm := "BadNumber") (fs := [("value", one)]) (id rfl) (by decide +kernel) (by decide +kernel) (id rfl)
theorem fa_9 : (onS (L2.atI (exL one far) 9) fun d => onExc d fun (nm : Str) (fs : List (Str × D)) => (nm ∈ excNames ∧ ("value" : Str) ∈ fldNames) ∧ onS (fs.lookup ("value" : Str)) Q) = Q one := fld_at (nm := "Twice") (fs := [("value", one)]) (id rfl) (by decide +kernel) (by decide +kernel) (id rfl)
theorem fa_10 : (onS (L2.atI (exL one far) 10) fun d => onExc d fun (nm : Str) (fs : List (Str × D)) => (nm ∈ excNames ∧ ("value" : Str) ∈ fldNames) ∧ onS (fs.lookup ("value" : Str)) Q) = Q one := fld_at (nm := "Missing") (fs := [("value", one)]) (id rfl) (by decide +kernel) (by decide +kernel) (id rfl)
theorem fa_11 : (onS (L2.atI (exL one far) 11) fun d => onExc d fun (nm : Str) (fs : List (Str × D)) => (nm ∈ excNames ∧ ("word" : Str) ∈ fldNames) ∧ onS (fs.lookup ("word" : Str)) Q) = Q one := fld_at (nm := "BadPaper") (fs := [("word", one)]) (id rfl) (by decide +kernel) (by decide +kernel) (id rfl)
theorem fa_12 : (onS (L2.atI (exL one far) 12) fun d => onExc d fun (nm : Str) (fs : List (Str × D)) => (nm ∈ excNames ∧ ("line" : Str) ∈ fldNames) ∧ onS (fs.lookup ("line" : Str)) Q) = Q one := fld_at (nm := "BadText") (fs := [("line", one), ("word", far)]) (id rfl) (by decide +kernel) (by decide +kernel) (id rfl)
theorem fa_13 : (onS (L2.atI (exL one far) 13) fun d => onExc d fun (nm : Str) (fs : List (Str × D)) => (nm ∈ excNames ∧ ("number" : Str) ∈ fldNames) ∧ onS (fs.lookup ("number" : Str)) Q) = Q one := fld_at (nm := "Broken") (fs := [("number", one)]) (id rfl) (by decide +kernel) (by decide +kernel) (id rfl)
theorem fa_14 : (onS (L2.atI (exL one far) 14) fun d => onExc d fun (nm : Str) (fs : List (Str × D)) => (nm ∈ excNames ∧ ("many" : Str) ∈ fldNames) ∧ onS (fs.lookup ("many" : Str)) Q) = Q one := fld_at (nm := "NothingLeft") (fs := [("many", one)]) (id rfl) (by decide +kernel) (by decide +kernel) (id rfl)
theorem fa_15 : (onS (L2.atI (exL one far) 15) fun d => onExc d fun (nm : Str) (fs : List (Str × D)) => (nm ∈ excNames ∧ ("most" : Str) ∈ fldNames) ∧ onS (fs.lookup ("most" : Str)) Q) = Q one := fld_at (nm := "TooMany") (fs := [("most", one)]) (id rfl) (by decide +kernel) (by decide +kernel) (id rfl)
theorem fa_16 : (onS (L2.atI (exL one far) 12) fun d => onExc d fun (nm : Str) (fs : List (Str × D)) => (nm ∈ excNames ∧ ("word" : Str) ∈ fldNames) ∧ onS (fs.lookup ("word" : Str)) Q) = Q far := fld_at (nm := "BadText") (fs := [("line", one), ("word", far)]) (id rfl) (by decide +kernel) (by decide +kernel) (id rfl)
set_option maxHeartbeats 4000000 in
theorem sp_law_fields (q : Q (.list (List.replicate 16 one ++ [far]))) : w_law_fields never [.dat (.list (exL one far))] Q := by
  refine body_in rfl ?_
  unfold t_law_fields
  simp_arith! only [fa_0, fa_1, fa_2, fa_3, fa_4, fa_5, fa_6, fa_7, fa_8, fa_9, fa_10, fa_11, fa_12, fa_13, fa_14, fa_15, fa_16]
  exact q
theorem marksL_of {nm : Str} {l : List Str} (h : (mks.filter fun q => exB nm q.2).map (·.1) = l) : marksL nm = l.map .str := by
  rw [← h, marksL, List.map_map]
  rfl
def RowOk (q : Str × Str × List (Str × D)) : Prop := (q.2.1 ∈ excNames ∧ PyData.strOk q.1 = true) ∧ ((q.1 = "many" ∧ (mks.filter fun p => exB q.2.1 p.2).map (·.1) = ([("many" : Str), "over"] : List Str)) ∨ (q.1 ≠ "many" ∧ (mks.filter fun p => exB q.2.1 p.2).map (·.1) = ([q.1, ("own" : Str), "sort"] : List Str)))
instance {q : Str × Str × List (Str × D)} : Decidable (RowOk q) := by unfold RowOk; infer_instance
theorem row_ok0 : ∀ q ∈ exRow .none .none, RowOk q := by decide +kernel
theorem exRow_map {one far : D} : (exRow one far).map (fun q => (q.1, q.2.1)) = (exRow .none .none).map (fun q => (q.1, q.2.1)) := id rfl
theorem row_ok {one far : D} {q : Str × Str × List (Str × D)} (h : q ∈ exRow one far) : RowOk q := by
  have h2 : (q.1, q.2.1) ∈ (exRow one far).map (fun q => (q.1, q.2.1)) := List.mem_map.mpr ⟨q, h, rfl⟩
  rw [exRow_map] at h2
  obtain ⟨p, hp, e⟩ := List.mem_map.mp h2
  have r := row_ok0 p hp
  injection e with e1 e2
  unfold RowOk at r ⊢
  rw [e1, e2] at r
  exact r
theorem ne_same {x : D} (h : eqOk x x = true) (h2 : PyData.eqv x x = true) (q : Q (.bool false)) : oNe x x Q := by
  rw [x_ne]
  exact ⟨h, by rw [h2]; exact q⟩
theorem eqOk_ss {a b c : Str} (ha : PyData.strOk a = true) (hb : PyData.strOk b = true) (hc : PyData.strOk c = true) : eqOk (.list [.str a, .str b, .str c]) (.list [.str a, .str b, .str c]) = true := by
  simp [eqOk, SeqAt.shaped, PyData.canLay0, PyData.canLayAll0, PyData.depth, PyData.depthAll, ha, hb, hc]
theorem eqv_ss {a b c : Str} : PyData.eqv (.list [.str a, .str b, .str c]) (.list [.str a, .str b, .str c]) = true := by
  simp [PyData.eqv, PyData.eqvAll]
theorem rep17 {one far : D} : (List.replicate (Int.toNat 16) [one]).flatten ++ [far] = [one, one, one, one, one, one, one, one, one, one, one, one, one, one, one, one, far] := id rfl
theorem pairs_ex {one far : D} : pairsD (([("schema" : Str), "store", "parting", "sheet", "row", "lot", "column", "cell", "number", "twice", "missing", "paper", "text", "broken", "left", "many"] : List Str).map .str) (exL one far) = (exRow one far).map fun q => .tuple [.str q.1, excD q.2.1 q.2.2] := id rfl
set_option maxHeartbeats 4000000 in
theorem sp_law_are_right (n1 : noX one = true) (n2 : noX far = true) (s1 : Sx 20 1000 one) (s2 : Sx 20 1000 far) (q : Q (.bool true)) : w_law_are_right never [.dat (.list (exL one far)), .dat one, .dat far] Q := by
  refine body_in rfl ?_
  unfold t_law_are_right
  simp_arith! only []
  refine sp_law_fields ?_
  simp_arith! only []
  rw [rep17]
  have nx : noX (.list [one, one, one, one, one, one, one, one, one, one, one, one, one, one, one, one, far]) = true := by simp only [noX, noXs, n1, n2, Bool.and_true]
  have rp : reprOk (.list [one, one, one, one, one, one, one, one, one, one, one, one, one, one, one, one, far]) := (sx_lstM (k := 20) (w := 1000) 17 (fun d hd => by
    have hd : d = one ∨ d = far := by simpa using hd
    rcases hd with rfl | rfl
    · exact s1
    · exact s2) (by simp)).repr (by decide) (by decide)
  refine ⟨nx, rp, by decide, by rw [show (List.replicate (Int.toNat 16) [one]).flatten.length = 16 from id rfl]; decide, nx, rp, ?_⟩
  rw [if_neg (by simp)]
  refine sp_law_labels ?_
  rw [x_on2L]
  show forD _ _ _ _ (pairsD (([("schema" : Str), "store", "parting", "sheet", "row", "lot", "column", "cell", "number", "twice", "missing", "paper", "text", "broken", "left", "many"] : List Str).map .str) (exL one far)) _
  rw [pairs_ex]
  refine forD_each (fun q : Str × Str × List (Str × D) => .tuple [.str q.1, excD q.2.1 q.2.2]) (fun η => ∃ c3 c4 c5, η = [.dat (.list (exL one far)), .dat one, .dat far, c3, c4, c5]) ?_ ?_ ⟨_, _, _, rfl⟩
  · rintro ⟨lb, nm, fs⟩ hq η ⟨c3, c4, c5, rfl⟩ nx hn
    have r := row_ok hq
    unfold RowOk at r
    obtain ⟨hin, r⟩ := r
    simp_arith! only []
    obtain ⟨hin, hst⟩ := hin
    have hin : nm ∈ excNames := hin
    rcases r with ⟨r1, r2⟩ | ⟨r1, r2⟩
    · rw [if_pos (by rw [decide_eq_true_eq]; exact r1)]
      refine sp_law_marks hin ?_
      rw [marksL_of r2]
      refine ne_same (by decide +kernel) (by decide +kernel) ?_
      (try simp_arith! only [])
      exact hn _ ⟨_, _, _, rfl⟩
    · rw [if_neg (by rw [decide_eq_true_eq]; exact r1)]
      refine sp_law_marks hin ?_
      rw [marksL_of r2]
      refine ne_same (eqOk_ss hst (by decide +kernel) (by decide +kernel)) eqv_ss ?_
      (try simp_arith! only [])
      exact hn _ ⟨_, _, _, rfl⟩
  · rintro η ⟨c3, c4, c5, rfl⟩
    simp_arith! only []
    exact q
end Lw

/-! LAWk20: the law. -/
namespace Lw
open PySem DL PL L2
open Lean.Parser.Tactic in
local macro_rules | `(tactic| simp_arith! only [$xs,*] $[$l:location]?) => `(tactic| simp -implicitDefEqProofs only [x_sSeq, x_sNext, x_sSet, x_sSetL, x_sOwn, x_sOwnL, x_sNew, x_sPar, x_sParN, x_sRet, x_sRetN, x_sIf, x_sDrop, x_sFor, x_sWhile, x_sNever, x_sFrz, x_sApp, x_sAppL, x_sExtL, x_sExtS, x_onSeqEL, x_onSeqET, x_sAug, x_sAsg, x_sBreak, x_sCont, x_onDat, x_onSeqL, x_onSeqT, x_on1I, x_on2I, x_on2L, x_on2T, x_onScr, x_ifB, x_onS, x_onOwn, x_onList, x_onInt, x_onCInt, x_isDrw, x_lenScr, x_dV, x_dK, x_dOp, x_dTup, x_dNew, x_nLst, x_nCall, x_nComp, x_nRg, x_dTupRg, x_gRg1, x_gRg2, x_dCall, x_dCallF, x_dSl, x_oNone, x_oSome, x_dAnd, x_dOr, x_dNot, x_oNeg, x_bVal, x_bAnd, x_bOr, x_bNot, x_dIf, x_dChain, x_aNil, x_aCons, x_cNil, x_cCons, x_cDrw, x_iSeq, x_iRange1, x_iRange2, x_iZip2, x_iEnum1, x_iEnumZ, x_on2TT, x_nSortSet, x_onTupO, x_nSortSetI, x_nSortSetE, x_fMinL, x_fSumL, x_dDict0, x_sIns, x_sPut, x_sRaise, x_dCallE, x_sTry1, x_gN, x_gT, x_gCons, x_gNil, x_bYes, x_fLenL, x_fLenT, x_fLenS, x_fTupleL, x_fTupleT, x_fListL, x_fListT, x_fSorted, x_fAll, x_fAny, x_fSum, x_fIntI, x_fIntB, x_fMin2, x_fMax2, x_fRepr, x_dIsi, x_lend, x_lendD, x_lendO, x_lendR, x_lendU, x_lendS, x_wipe0, x_wipe1, x_addI, x_addS, x_addL, x_addT, x_sub, x_mod, x_div, x_mulW, x_divW, x_pow, x_mulI, x_mulL, x_mul2T, x_mul3T, x_dTwo, x_nSortSetL, x_sM2, x_sM3, x_on2C, x_on3C, x_mNil, x_mD, x_mN, x_aStar, x_fSortedT, x_isB, x_isN, x_isN0, x_isNI, x_isNT, x_isNL, x_isNS, x_isNB, x_lt, x_ltT, x_ord, x_ordT, x_ixL, x_ixT, x_ixS, x_fListD, x_fListDL, x_fReprD, x_dRev, x_nCat2, x_sOwnCat, x_onSeqRL, x_onSeqRT, x_onCat, x_eqT0, x_neL0, x_eqL0, x_neT0, x_addBI, x_addBB, x_fSortedD, x_dDc, x_dLend, x_bLend, x_nLend, x_sMut, x_dMutP, x_onMD, x_sPutM, x_sRetM, x_sRetS, x_onMt, x_cMut, x_onMx, x_stM, x_sCallM, x_sSetM, x_mTest, x_mCall, x_mAnd, x_sIfM, x_nSortSetT, x_fLenD, x_sUpdM, x_onDct, x_iSeqD, x_lendM, x_fMin2D, x_dFld, x_onLin, x_dMeth, x_sPutI, x_onIst, x_onDctF, x_sRetI, x_onIt, x_onIx, x_stI, x_mCallE, x_sDoI, x_sSetI, x_sExtI, x_sFldV, x_sFldM, x_dDcM, x_sMakeI, x_nComp2, x_bIfE, x_lendL, x_lendI, x_ownIx, x_ownLen, x_sColM, x_onAny, x_onMxM, x_onLs, x_stMM, x_colGo0, x_sAli2, x_dLendA, x_nLendA, x_lendA, x_aliD0, x_aliD1, x_onObj, x_lendO', x_sUnp, x_dNewF, x_dNewC, x_cNewL, x_dCallXM, x_sRetMN, x_sAsgM, x_sSelfM, x_sFrzM, x_sPopI, x_fMaxI, x_dGet, x_mSetd, x_gTL, x_iZipM, x_onStr, x_nSplit, x_dJoin, x_fStrI, x_fStrS, x_fIntT, x_oInSg, x_iTxt, x_sStar1, x_dDisp1, x_onMf, x_sAppM, x_sAppR, x_onFz, x_sRetSelfM, x_sInsR, x_sPopR, x_sPutR, x_sInsM, x_dIdx, x_oNotInSg, x_sRaise2, x_sTryN, x_nCompE, x_on2M, x_dSetEq, x_dHeard, x_dLenSet, x_dMkX, x_dMkX2, x_dMkX2r, x_dMkX0, x_dIsX, x_dFldX, x_onExc, x_dDisp1K, oGe2, oLe2, oGt2, List.getElem?_cons_zero, List.getElem?_cons_succ, List.getElem?_nil, List.set_cons_zero, List.set_cons_succ, List.map_cons, List.map_nil, List.length_cons, List.length_nil, List.replicate, List.cons_append, List.nil_append, Nat.reduceSub, Nat.reduceAdd, Nat.zero_add, if_true, Bool.false_eq_true, if_false, bne_self_eq_false, Bool.true_bne, Bool.false_bne, Bool.not_true, Bool.not_false, true_and, and_true, Bool.bne_false, Bool.bne_true, k_eqI, k_neI, k_eqS, k_neS, k_eqT, k_neT, k_eqLL, k_neLL, k_eqTT, k_neTT, k_inLI, k_inLT, k_inTTT, k_inT, k_in23, k_eqLn, k_neLn, k_eqTn, k_neTn, k_eqTn', k_neTn', k_onSeq, k_onTupO, k_onSeqE, k_lenT, k_tupL, k_tupT, k_listT, k_addT, k_addT1, k_ixT, ixN_map, onS_map, k_isiT, k_isiTi, k_isiTb, k_isiTs, k_isiTl, k_isi, k_isil, k_isii, k_isiib, k_isis, k_isNT, k_flatT, k_flatI, k_flatLs, k_flatTLs, k_gT, k_on2T, k_ordT, k_ltT, k_gR, k_ixR0, k_ixR1, k_ixS0, k_ixS1, List.length_map, eq_self, Int.cast_ofNat_Int, Int.reduceEq, Int.reduceLE, Int.reduceLT, Int.reduceAdd, Int.reduceSub, Int.reduceNeg, decide_true, decide_false, or_true, true_or, or_false, false_or, k_ofS, String.reduceEq, sizeLine_eq, Nat.reduceLeDiff, k_at0, k_at1, k_at2, k_at3, $xs,*] $[$l:location]?)
variable {Q : D → Prop} {one far : D}
def valsL (x : Int) : List D := [.none, .int 0, .bool true, .int (-1), .int (10 ^ Int.toNat 30 - 1), .int x, .str "", .str "form", .tuple [], .tuple [.int 1, .str "a"], .list [.int 1, .list [.int 2]], .dict [], .dict [(.str "a", .int 1)], .tuple [.str "rule", .int 3], .tuple [.int 0, .int 1, .int 2], .str "steps"]
theorem shw {x : Int} (x0 : 0 ≤ x) (x1 : x < 1000000) : PyData.showable (.int x) = true := by
  rw [PyData.showable]
  rw [decide_eq_true_eq]
  by_cases hz : x = 0
  · subst hz
    decide
  · have := (Nat.log2_lt (n := x.natAbs) (k := 20) (by omega)).mpr (by omega)
    omega
theorem vals_ok {x : Int} (x0 : 0 ≤ x) (x1 : x < 1000000) : ∀ d ∈ valsL x, noX d = true ∧ Sx 20 1000 d := by
  intro d hd
  by_cases e : d = .int x
  · subst e
    refine ⟨rfl, by rw [PyData.depth]; decide, by
      rw [PyData.weight]
      split
      · decide
      · rename_i hz
        have hz : x.natAbs ≠ 0 := by
          intro z
          exact hz (by rw [beq_iff_eq]; omega)
        have := (Nat.log2_lt hz (k := 20)).mpr (by omega)
        omega, shw x0 x1, ?_⟩
    have := PyData.shown_int_le (i := x) (by omega)
    rw [PyData.leavesShort, decide_eq_true_eq]
    omega
  · have hd : d ∈ (valsL 0) := by
      simp only [valsL, List.mem_cons, List.not_mem_nil, or_false] at hd ⊢
      rcases hd with h | h | h | h | h | h | h | h | h | h | h | h | h | h | h | h
      all_goals first | exact absurd h e | (rw [h]; simp)
    have : ∀ d ∈ valsL 0, (noX d && sxB 20 1000 d) = true := by decide +kernel
    have h := this d hd
    rw [Bool.and_eq_true] at h
    exact ⟨h.1, sx_by h.2⟩
theorem atI_int {α : Type} {xs : List α} {i : Int} (h0 : 0 ≤ i) (h1 : i < xs.length) : ∃ a, L2.atI xs i = some a ∧ a ∈ xs := by
  have hk : i.toNat < xs.length := by omega
  refine ⟨xs[i.toNat], ?_, List.getElem_mem hk⟩
  have := atI_some (xs := xs) (k := i.toNat) (a := xs[i.toNat]) (List.getElem?_eq_getElem hk)
  rwa [show ((i.toNat : Nat) : Int) = i by omega] at this
theorem repr_two (n1 : noX one = true) (n2 : noX far = true) (s1 : Sx 20 1000 one) (s2 : Sx 20 1000 far) : noX (.list [one, far]) = true ∧ reprOk (.list [one, far]) := by
  refine ⟨by simp only [noX, noXs, n1, n2, Bool.and_true], (sx_lstM (k := 20) (w := 1000) 17 (fun d hd => ?_) (by simp)).repr (by decide) (by decide)⟩
  have hd : d = one ∨ d = far := by simpa using hd
  rcases hd with h | h
  · rw [h]; exact s1
  · rw [h]; exact s2
set_option maxHeartbeats 4000000 in
theorem plain : ∀ ns : List Int, ns.length ≤ 63 → t_law never zLaw (lawEnv 9 ns) := by
  intro ns hns
  unfold t_law lawEnv zLaw
  simp_arith! only []
  have m0 : (0 : Int) ≤ (if (ns.length : Int) < 60 then (ns.length : Int) else 60) := by split <;> omega
  have m1 : (if (ns.length : Int) < 60 then (ns.length : Int) else 60) ≤ 60 := by split <;> omega
  generalize (if (ns.length : Int) < 60 then (ns.length : Int) else 60) = mm at m0 m1 ⊢
  refine ⟨by unfold CDiv; omega, ⟨by omega, by omega⟩, ?_⟩
  refine forD_inv (fun ds η => ∃ c2 c3 c4 c5 c6 c7 c8 c9 c10, η = [.scr ns, .drw, c2, c3, c4, c5, c6, c7, c8, c9, c10]) ?turn ?last ⟨_, _, _, _, _, _, _, _, _, rfl⟩
  case turn =>
    rintro d ds η ⟨c2, c3, c4, c5, c6, c7, c8, c9, c10, rfl⟩ nx hn
    simp_arith! only []
    refine ⟨by unfold CPow; decide, by unfold CPow; decide, ?_⟩
    show w_next never [.drw, .dat (.int 1000000)] _
    refine sp_next (by decide) (by decide) fun x x0 x1 => ?_
    have ok := vals_ok x0 x1
    refine ⟨by decide, ?_⟩
    show forD _ _ _ _ ((List.range 16).map fun i => .int (0 + (i : Nat))) [_, _, _, .dat (.list (valsL x)), _, _, _, _, _, _, _]
    refine forD_each (fun i : Nat => .int (0 + (i : Nat))) (fun η => ∃ c4 c5 c6 c7 c8 c9 c10, η = [.scr ns, .drw, .dat d, .dat (.list (valsL x)), c4, c5, c6, c7, c8, c9, c10]) ?_ ?_ ⟨_, _, _, _, _, _, _, rfl⟩
    · rintro i hi η ⟨c4, c5, c6, c7, c8, c9, c10, rfl⟩ nx hn
      have hi : i < 16 := List.mem_range.mp hi
      have hlen : (valsL x).length = 16 := rfl
      simp_arith! only []
      obtain ⟨one, a1, a2⟩ := atI_int (xs := valsL x) (i := 0 + (i : Nat)) (by omega) (by omega)
      rw [a1, x_onS]
      show w_next never [.drw, .dat (.int 16)] _
      refine sp_next (by decide) (by decide) fun j j0 j1 => ?_
      obtain ⟨far, b1, b2⟩ := atI_int (xs := valsL x) (i := j) (by omega) (by omega)
      rw [x_ixL, b1, x_onS]
      obtain ⟨n1, s1⟩ := ok _ a2
      obtain ⟨n2, s2⟩ := ok _ b2
      (try simp_arith! only [])
      refine ⟨(repr_two n1 n2 s1 s2).1, (repr_two n1 n2 s1 s2).2, ?_⟩
      refine sp_law_by_place ?_
      (try simp_arith! only [])
      refine sp_law_by_names ?_
      (try simp_arith! only [])
      refine sp_law_by_place ?_
      (try simp_arith! only [])
      show compD _ _ _ _ ([exL one far, exL one far].map fun l => .list l) [] _
      refine compD_fl (fun l : List D => .list l) (fun l => .list l) (fun _ => false) (fun l hl R1 R0 r1 r0 => ?_) (by rw [sizeLine_eq]; simp) ?_
      · have hl : l = exL one far := by simpa using hl
        subst hl
        (try simp_arith! only [])
        refine sp_law_are_right n1 n2 s1 s2 ?_
        (try simp_arith! only [])
        exact r0 rfl
      · show oNe (.list []) (.list []) _
        refine ne_nil0 ?_
        (try simp_arith! only [])
        refine sp_law_are_right n2 n1 s2 s1 ?_
        (try simp_arith! only [])
        refine ⟨(repr_two n1 n2 s1 s2).1, (repr_two n1 n2 s1 s2).2, ?_⟩
        refine sp_law_marks (by decide +kernel) ?_
        rw [marksL_of (l := [("own" : Str), "sort"]) (by decide +kernel)]
        refine ne_same (by decide +kernel) (by decide +kernel) ?_
        (try simp_arith! only [])
        exact hn _ ⟨_, _, _, _, _, _, _, rfl⟩
    · rintro η ⟨c4, c5, c6, c7, c8, c9, c10, rfl⟩
      (try simp_arith! only [])
      exact hn _ ⟨_, _, _, _, _, _, _, _, _, rfl⟩
  case last =>
    rintro η ⟨c2, c3, c4, c5, c6, c7, c8, c9, c10, rfl⟩
    (try simp_arith! only [])
end Lw

section
open PySem PySem.Spec PyProof.Rows L2 DL Lw
theorem Lw.all_mk {P : Program} {w : World} {K : PySem.W.Frag} {h : Heap} {mg : Str → Option Value} {fa : Addr} (X : K.In h) (G : h.Ns mainGlobals mg) (hmg : mg "law" = some (.ref fa)) (a_law_begun : DefAt K "_law_begun" s_law_begun) (a_law_next : DefAt K "_law_next" s_law_next) (a_law_marks : DefAt K "_law_marks" s_law_marks) (a_law_labels : DefAt K "_law_labels" s_law_labels) (a_law_by_place : DefAt K "_law_by_place" s_law_by_place) (a_law_by_names : DefAt K "_law_by_names" s_law_by_names) (a_law_fields : DefAt K "_law_fields" s_law_fields) (a_law_are_right : DefAt K "_law_are_right" s_law_are_right) (a_law : DefAt K "law" s_law) (z_LookupError : PySem.W.nsIn K mainGlobals "LookupError" = some none) (z_OverflowError : PySem.W.nsIn K mainGlobals "OverflowError" = some none) (z_RuntimeError : PySem.W.nsIn K mainGlobals "RuntimeError" = some none) (z_TypeError : PySem.W.nsIn K mainGlobals "TypeError" = some none) (z_ValueError : PySem.W.nsIn K mainGlobals "ValueError" = some none) (z_enumerate : PySem.W.nsIn K mainGlobals "enumerate" = some none) (z_int : PySem.W.nsIn K mainGlobals "int" = some none) (z_isinstance : PySem.W.nsIn K mainGlobals "isinstance" = some none) (z_len : PySem.W.nsIn K mainGlobals "len" = some none) (z_max : PySem.W.nsIn K mainGlobals "max" = some none) (z_min : PySem.W.nsIn K mainGlobals "min" = some none) (z_range : PySem.W.nsIn K mainGlobals "range" = some none) (z_repr : PySem.W.nsIn K mainGlobals "repr" = some none) (z_zip : PySem.W.nsIn K mainGlobals "zip" = some none)  (k_BadCell : ClsAt P K "BadCell" "value") (k_BadColumn : ClsAt P K "BadColumn" "value") (k_BadLot : ClsAt P K "BadLot" "value") (k_BadNumber : ClsAt P K "BadNumber" "value") (k_BadPaper : ClsAt P K "BadPaper" "word") (k_BadParting : ClsAt P K "BadParting" "place") (k_BadRow : ClsAt P K "BadRow" "value") (k_BadSchema : ClsAt P K "BadSchema" "place") (k_BadSheet : ClsAt P K "BadSheet" "place") (k_BadStore : ClsAt P K "BadStore" "place") (k_Broken : ClsAt P K "Broken" "number") (k_Missing : ClsAt P K "Missing" "value") (k_NothingLeft : ClsAt P K "NothingLeft" "many") (k_TooMany : ClsAt P K "TooMany" "most") (k_Twice : ClsAt P K "Twice" "value") (k_BadText : ClsAt2 P K "BadText" "line" "word") (k_xc : XcAt K) (kw_BadCell : KwAt K "BadCell" "value") (kw_BadColumn : KwAt K "BadColumn" "value") (kw_BadLot : KwAt K "BadLot" "value") (kw_BadNumber : KwAt K "BadNumber" "value") (kw_BadPaper : KwAt K "BadPaper" "word") (kw_BadParting : KwAt K "BadParting" "place") (kw_BadRow : KwAt K "BadRow" "value") (kw_BadSchema : KwAt K "BadSchema" "place") (kw_BadSheet : KwAt K "BadSheet" "place") (kw_BadStore : KwAt K "BadStore" "place") (kw_Broken : KwAt K "Broken" "number") (kw_Missing : KwAt K "Missing" "value") (kw_NothingLeft : KwAt K "NothingLeft" "many") (kw_TooMany : KwAt K "TooMany" "most") (kw_Twice : KwAt K "Twice" "value") (kw_BadText : KwAt2 K "BadText" "line" "word") (sh_ShareError : ShAt K "ShareError") :
    ∃ fd : FuncData, (∀ (s : Shared) (u : Value), BindsTo s fd ⟨[u], []⟩ [("_law_script", u)]) ∧ ∀ base : Heap, K.In base → base.Ns mainGlobals mg → FnG P w K mg base CX0 3 fa fd ["_law_script"] (spLaw K) := by
  have B : Bl mg := ⟨PySem.W.mg_none_of X G z_LookupError, PySem.W.mg_none_of X G z_OverflowError, PySem.W.mg_none_of X G z_RuntimeError, PySem.W.mg_none_of X G z_TypeError, PySem.W.mg_none_of X G z_ValueError, PySem.W.mg_none_of X G z_enumerate, PySem.W.mg_none_of X G z_int, PySem.W.mg_none_of X G z_isinstance, PySem.W.mg_none_of X G z_len, PySem.W.mg_none_of X G z_max, PySem.W.mg_none_of X G z_min, PySem.W.mg_none_of X G z_range, PySem.W.mg_none_of X G z_repr, PySem.W.mg_none_of X G z_zip⟩
  have W : Df K mg := ⟨defIn X G a_law_begun (fun _ _ _ _ _ _ us hl => match us, hl with | [_], _ => rfl), defIn X G a_law_next (fun _ _ _ _ _ _ us hl => match us, hl with | [_, _], _ => rfl), defIn X G a_law_marks (fun _ _ _ _ _ _ us hl => match us, hl with | [_], _ => rfl), defIn X G a_law_labels (fun _ _ _ _ _ _ us hl => match us, hl with | [], _ => rfl), defIn X G a_law_by_place (fun _ _ _ _ _ _ us hl => match us, hl with | [_, _], _ => rfl), defIn X G a_law_by_names (fun _ _ _ _ _ _ us hl => match us, hl with | [_, _], _ => rfl), defIn X G a_law_fields (fun _ _ _ _ _ _ us hl => match us, hl with | [_], _ => rfl), defIn X G a_law_are_right (fun _ _ _ _ _ _ us hl => match us, hl with | [_, _, _], _ => rfl)⟩
  have CL : ErrC P K mg := ⟨clsIn_of X G k_BadCell, clsIn_of X G k_BadColumn, clsIn_of X G k_BadLot, clsIn_of X G k_BadNumber, clsIn_of X G k_BadPaper, clsIn_of X G k_BadParting, clsIn_of X G k_BadRow, clsIn_of X G k_BadSchema, clsIn_of X G k_BadSheet, clsIn_of X G k_BadStore, clsIn_of X G k_Broken, clsIn_of X G k_Missing, clsIn_of X G k_NothingLeft, clsIn_of X G k_TooMany, clsIn_of X G k_Twice, clsIn2_of X G k_BadText, xcIn_of X G k_xc, kwIn_of kw_BadCell, kwIn_of kw_BadColumn, kwIn_of kw_BadLot, kwIn_of kw_BadNumber, kwIn_of kw_BadPaper, kwIn_of kw_BadParting, kwIn_of kw_BadRow, kwIn_of kw_BadSchema, kwIn_of kw_BadSheet, kwIn_of kw_BadStore, kwIn_of kw_Broken, kwIn_of kw_Missing, kwIn_of kw_NothingLeft, kwIn_of kw_TooMany, kwIn_of kw_Twice, kwIn2_of kw_BadText, shIn_of X G sh_ShareError⟩
  exact law_fin X G hmg a_law (fun _ _ _ _ _ _ us hl => match us, hl with | [_], _ => rfl) fun base f fd _ _ F => ok_law B W CL F Lw.plain
end
open PySem PySem.W PyProof.Rows
set_option maxHeartbeats 0 in
theorem PySem.Challenge.cw_restshares_k20_errors_holds : PySem.Challenge.rw_restshares_k20_errors.Holds := by
  w_on; o_law; k_head; (case hw => w_witness2)
  k_fill
  refine DL.walk_G (l := PySem.Challenge.rw_restshares_k20_errors) (n := 63) (k := 3) (x := "_law_script") (sp := DL.spLaw) rfl (by decide) rfl ⟨rfl, by decide, by decide⟩ (by first | rfl | decide +kernel) (fun w h Y => PySem.W.kIn_of Y) ?F (fun K H a ns hl hO hS => ⟨a, ns, rfl, hl, hO, hS, fun _ => rfl⟩)
  case F =>
    intro w mg fa h KX G hmg TT
    refine DL.no_tabs rfl ?sy ?_
    (case sy => first | k_is | rfl | kernel_rfl)
    refine' Lw.all_mk KX G hmg ?a_law_begun ?a_law_next ?a_law_marks ?a_law_labels ?a_law_by_place ?a_law_by_names ?a_law_fields ?a_law_are_right ?a_law ?z_LookupError ?z_OverflowError ?z_RuntimeError ?z_TypeError ?z_ValueError ?z_enumerate ?z_int ?z_isinstance ?z_len ?z_max ?z_min ?z_range ?z_repr ?z_zip  ?k_BadCell ?k_BadColumn ?k_BadLot ?k_BadNumber ?k_BadPaper ?k_BadParting ?k_BadRow ?k_BadSchema ?k_BadSheet ?k_BadStore ?k_Broken ?k_Missing ?k_NothingLeft ?k_TooMany ?k_Twice ?k_BadText ?k_xc ?kw_BadCell ?kw_BadColumn ?kw_BadLot ?kw_BadNumber ?kw_BadPaper ?kw_BadParting ?kw_BadRow ?kw_BadSchema ?kw_BadSheet ?kw_BadStore ?kw_Broken ?kw_Missing ?kw_NothingLeft ?kw_TooMany ?kw_Twice ?kw_BadText ?sh_ShareError
    (case a_law_begun => refine' DL.defAt ?a ?l ?c ?k; (case a => k_is); (case l => k_is); (case c => k_is); (case k => k_is))
    (case a_law_next => refine' DL.defAt ?a ?l ?c ?k; (case a => k_is); (case l => k_is); (case c => k_is); (case k => k_is))
    (case a_law_marks => refine' DL.defAt ?a ?l ?c ?k; (case a => k_is); (case l => k_is); (case c => k_is); (case k => k_is))
    (case a_law_labels => refine' DL.defAt ?a ?l ?c ?k; (case a => k_is); (case l => k_is); (case c => k_is); (case k => k_is))
    (case a_law_by_place => refine' DL.defAt ?a ?l ?c ?k; (case a => k_is); (case l => k_is); (case c => k_is); (case k => k_is))
    (case a_law_by_names => refine' DL.defAt ?a ?l ?c ?k; (case a => k_is); (case l => k_is); (case c => k_is); (case k => k_is))
    (case a_law_fields => refine' DL.defAt ?a ?l ?c ?k; (case a => k_is); (case l => k_is); (case c => k_is); (case k => k_is))
    (case a_law_are_right => refine' DL.defAt ?a ?l ?c ?k; (case a => k_is); (case l => k_is); (case c => k_is); (case k => k_is))
    (case a_law => refine' DL.defAt ?a ?l ?c ?k; (case a => k_is); (case l => k_is); (case c => k_is); (case k => k_is))
    (case z_LookupError => k_is)
    (case z_OverflowError => k_is)
    (case z_RuntimeError => k_is)
    (case z_TypeError => k_is)
    (case z_ValueError => k_is)
    (case z_enumerate => k_is)
    (case z_int => k_is)
    (case z_isinstance => k_is)
    (case z_len => k_is)
    (case z_max => k_is)
    (case z_min => k_is)
    (case z_range => k_is)
    (case z_repr => k_is)
    (case z_zip => k_is)
    (case k_BadCell =>
      refine' DL.clsAt ?a ?lc ?i ?l ?lcode ?lcell ?lS ?fS ?hm ?hm2 ?co ?t ?c1 ?c2 ?c3 ?c5 ?c6 ?c7 ?c8 ?c9 ?c10 ?c11 ?c12 ?c14 ?c15 ?c16 ?c17 ?c18 ?hv ?hfile ?ns ?Sc ?h1 ?h2 ?h3 ?h4
      (case a => k_is)
      (case lc => k_is)
      (case i => k_is)
      (case l => k_is)
      (case lcode => k_is)
      (case lcell => k_is)
      (case hm => exact rfl)
      (case lS => k_is)
      (case hm2 => exact rfl)
      (case fS => k_is)
      (case co => k_is)
      (case t => k_is)
      (case c1 => first | rfl | decide +kernel)
      (case c2 => first | rfl | decide +kernel)
      (case c3 => k_is)
      (case c5 => k_is)
      (case c6 => k_is)
      (case c7 => k_is)
      (case c8 => k_is)
      (case c9 => k_is)
      (case c10 => k_is)
      (case c11 => k_is)
      (case c12 => k_is)
      (case c14 => k_is)
      (case c15 => k_is)
      (case c16 => k_is)
      (case c17 => k_is)
      (case c18 => k_is)
      (case hv => exact rfl)
      (case hfile => first | rfl | decide +kernel)
      (case ns => exact rfl)
      (case h3 => exact rfl)
      (case Sc => exact ⟨rfl, rfl, rfl, by decide +kernel, by decide +kernel, by decide +kernel, by decide +kernel, by decide +kernel, by decide +kernel, by decide +kernel⟩)
      (case h1 => intro env; exact ⟨_, rfl⟩)
      (case h2 => intro env; exact ⟨rfl, rfl⟩)
      (case h4 => intro us hl; exact match us, hl with | [_, _], _ => rfl))
    (case k_BadColumn =>
      refine' DL.clsAt ?a ?lc ?i ?l ?lcode ?lcell ?lS ?fS ?hm ?hm2 ?co ?t ?c1 ?c2 ?c3 ?c5 ?c6 ?c7 ?c8 ?c9 ?c10 ?c11 ?c12 ?c14 ?c15 ?c16 ?c17 ?c18 ?hv ?hfile ?ns ?Sc ?h1 ?h2 ?h3 ?h4
      (case a => k_is)
      (case lc => k_is)
      (case i => k_is)
      (case l => k_is)
      (case lcode => k_is)
      (case lcell => k_is)
      (case hm => exact rfl)
      (case lS => k_is)
      (case hm2 => exact rfl)
      (case fS => k_is)
      (case co => k_is)
      (case t => k_is)
      (case c1 => first | rfl | decide +kernel)
      (case c2 => first | rfl | decide +kernel)
      (case c3 => k_is)
      (case c5 => k_is)
      (case c6 => k_is)
      (case c7 => k_is)
      (case c8 => k_is)
      (case c9 => k_is)
      (case c10 => k_is)
      (case c11 => k_is)
      (case c12 => k_is)
      (case c14 => k_is)
      (case c15 => k_is)
      (case c16 => k_is)
      (case c17 => k_is)
      (case c18 => k_is)
      (case hv => exact rfl)
      (case hfile => first | rfl | decide +kernel)
      (case ns => exact rfl)
      (case h3 => exact rfl)
      (case Sc => exact ⟨rfl, rfl, rfl, by decide +kernel, by decide +kernel, by decide +kernel, by decide +kernel, by decide +kernel, by decide +kernel, by decide +kernel⟩)
      (case h1 => intro env; exact ⟨_, rfl⟩)
      (case h2 => intro env; exact ⟨rfl, rfl⟩)
      (case h4 => intro us hl; exact match us, hl with | [_, _], _ => rfl))
    (case k_BadLot =>
      refine' DL.clsAt ?a ?lc ?i ?l ?lcode ?lcell ?lS ?fS ?hm ?hm2 ?co ?t ?c1 ?c2 ?c3 ?c5 ?c6 ?c7 ?c8 ?c9 ?c10 ?c11 ?c12 ?c14 ?c15 ?c16 ?c17 ?c18 ?hv ?hfile ?ns ?Sc ?h1 ?h2 ?h3 ?h4
      (case a => k_is)
      (case lc => k_is)
      (case i => k_is)
      (case l => k_is)
      (case lcode => k_is)
      (case lcell => k_is)
      (case hm => exact rfl)
      (case lS => k_is)
      (case hm2 => exact rfl)
      (case fS => k_is)
      (case co => k_is)
      (case t => k_is)
      (case c1 => first | rfl | decide +kernel)
      (case c2 => first | rfl | decide +kernel)
      (case c3 => k_is)
      (case c5 => k_is)
      (case c6 => k_is)
      (case c7 => k_is)
      (case c8 => k_is)
      (case c9 => k_is)
      (case c10 => k_is)
      (case c11 => k_is)
      (case c12 => k_is)
      (case c14 => k_is)
      (case c15 => k_is)
      (case c16 => k_is)
      (case c17 => k_is)
      (case c18 => k_is)
      (case hv => exact rfl)
      (case hfile => first | rfl | decide +kernel)
      (case ns => exact rfl)
      (case h3 => exact rfl)
      (case Sc => exact ⟨rfl, rfl, rfl, by decide +kernel, by decide +kernel, by decide +kernel, by decide +kernel, by decide +kernel, by decide +kernel, by decide +kernel⟩)
      (case h1 => intro env; exact ⟨_, rfl⟩)
      (case h2 => intro env; exact ⟨rfl, rfl⟩)
      (case h4 => intro us hl; exact match us, hl with | [_, _], _ => rfl))
    (case k_BadNumber =>
      refine' DL.clsAt ?a ?lc ?i ?l ?lcode ?lcell ?lS ?fS ?hm ?hm2 ?co ?t ?c1 ?c2 ?c3 ?c5 ?c6 ?c7 ?c8 ?c9 ?c10 ?c11 ?c12 ?c14 ?c15 ?c16 ?c17 ?c18 ?hv ?hfile ?ns ?Sc ?h1 ?h2 ?h3 ?h4
      (case a => k_is)
      (case lc => k_is)
      (case i => k_is)
      (case l => k_is)
      (case lcode => k_is)
      (case lcell => k_is)
      (case hm => exact rfl)
      (case lS => k_is)
      (case hm2 => exact rfl)
      (case fS => k_is)
      (case co => k_is)
      (case t => k_is)
      (case c1 => first | rfl | decide +kernel)
      (case c2 => first | rfl | decide +kernel)
      (case c3 => k_is)
      (case c5 => k_is)
      (case c6 => k_is)
      (case c7 => k_is)
      (case c8 => k_is)
      (case c9 => k_is)
      (case c10 => k_is)
      (case c11 => k_is)
      (case c12 => k_is)
      (case c14 => k_is)
      (case c15 => k_is)
      (case c16 => k_is)
      (case c17 => k_is)
      (case c18 => k_is)
      (case hv => exact rfl)
      (case hfile => first | rfl | decide +kernel)
      (case ns => exact rfl)
      (case h3 => exact rfl)
      (case Sc => exact ⟨rfl, rfl, rfl, by decide +kernel, by decide +kernel, by decide +kernel, by decide +kernel, by decide +kernel, by decide +kernel, by decide +kernel⟩)
      (case h1 => intro env; exact ⟨_, rfl⟩)
      (case h2 => intro env; exact ⟨rfl, rfl⟩)
      (case h4 => intro us hl; exact match us, hl with | [_, _], _ => rfl))
    (case k_BadPaper =>
      refine' DL.clsAt ?a ?lc ?i ?l ?lcode ?lcell ?lS ?fS ?hm ?hm2 ?co ?t ?c1 ?c2 ?c3 ?c5 ?c6 ?c7 ?c8 ?c9 ?c10 ?c11 ?c12 ?c14 ?c15 ?c16 ?c17 ?c18 ?hv ?hfile ?ns ?Sc ?h1 ?h2 ?h3 ?h4
      (case a => k_is)
      (case lc => k_is)
      (case i => k_is)
      (case l => k_is)
      (case lcode => k_is)
      (case lcell => k_is)
      (case hm => exact rfl)
      (case lS => k_is)
      (case hm2 => exact rfl)
      (case fS => k_is)
      (case co => k_is)
      (case t => k_is)
      (case c1 => first | rfl | decide +kernel)
      (case c2 => first | rfl | decide +kernel)
      (case c3 => k_is)
      (case c5 => k_is)
      (case c6 => k_is)
      (case c7 => k_is)
      (case c8 => k_is)
      (case c9 => k_is)
      (case c10 => k_is)
      (case c11 => k_is)
      (case c12 => k_is)
      (case c14 => k_is)
      (case c15 => k_is)
      (case c16 => k_is)
      (case c17 => k_is)
      (case c18 => k_is)
      (case hv => exact rfl)
      (case hfile => first | rfl | decide +kernel)
      (case ns => exact rfl)
      (case h3 => exact rfl)
      (case Sc => exact ⟨rfl, rfl, rfl, by decide +kernel, by decide +kernel, by decide +kernel, by decide +kernel, by decide +kernel, by decide +kernel, by decide +kernel⟩)
      (case h1 => intro env; exact ⟨_, rfl⟩)
      (case h2 => intro env; exact ⟨rfl, rfl⟩)
      (case h4 => intro us hl; exact match us, hl with | [_, _], _ => rfl))
    (case k_BadParting =>
      refine' DL.clsAt ?a ?lc ?i ?l ?lcode ?lcell ?lS ?fS ?hm ?hm2 ?co ?t ?c1 ?c2 ?c3 ?c5 ?c6 ?c7 ?c8 ?c9 ?c10 ?c11 ?c12 ?c14 ?c15 ?c16 ?c17 ?c18 ?hv ?hfile ?ns ?Sc ?h1 ?h2 ?h3 ?h4
      (case a => k_is)
      (case lc => k_is)
      (case i => k_is)
      (case l => k_is)
      (case lcode => k_is)
      (case lcell => k_is)
      (case hm => exact rfl)
      (case lS => k_is)
      (case hm2 => exact rfl)
      (case fS => k_is)
      (case co => k_is)
      (case t => k_is)
      (case c1 => first | rfl | decide +kernel)
      (case c2 => first | rfl | decide +kernel)
      (case c3 => k_is)
      (case c5 => k_is)
      (case c6 => k_is)
      (case c7 => k_is)
      (case c8 => k_is)
      (case c9 => k_is)
      (case c10 => k_is)
      (case c11 => k_is)
      (case c12 => k_is)
      (case c14 => k_is)
      (case c15 => k_is)
      (case c16 => k_is)
      (case c17 => k_is)
      (case c18 => k_is)
      (case hv => exact rfl)
      (case hfile => first | rfl | decide +kernel)
      (case ns => exact rfl)
      (case h3 => exact rfl)
      (case Sc => exact ⟨rfl, rfl, rfl, by decide +kernel, by decide +kernel, by decide +kernel, by decide +kernel, by decide +kernel, by decide +kernel, by decide +kernel⟩)
      (case h1 => intro env; exact ⟨_, rfl⟩)
      (case h2 => intro env; exact ⟨rfl, rfl⟩)
      (case h4 => intro us hl; exact match us, hl with | [_, _], _ => rfl))
    (case k_BadRow =>
      refine' DL.clsAt ?a ?lc ?i ?l ?lcode ?lcell ?lS ?fS ?hm ?hm2 ?co ?t ?c1 ?c2 ?c3 ?c5 ?c6 ?c7 ?c8 ?c9 ?c10 ?c11 ?c12 ?c14 ?c15 ?c16 ?c17 ?c18 ?hv ?hfile ?ns ?Sc ?h1 ?h2 ?h3 ?h4
      (case a => k_is)
      (case lc => k_is)
      (case i => k_is)
      (case l => k_is)
      (case lcode => k_is)
      (case lcell => k_is)
      (case hm => exact rfl)
      (case lS => k_is)
      (case hm2 => exact rfl)
      (case fS => k_is)
      (case co => k_is)
      (case t => k_is)
      (case c1 => first | rfl | decide +kernel)
      (case c2 => first | rfl | decide +kernel)
      (case c3 => k_is)
      (case c5 => k_is)
      (case c6 => k_is)
      (case c7 => k_is)
      (case c8 => k_is)
      (case c9 => k_is)
      (case c10 => k_is)
      (case c11 => k_is)
      (case c12 => k_is)
      (case c14 => k_is)
      (case c15 => k_is)
      (case c16 => k_is)
      (case c17 => k_is)
      (case c18 => k_is)
      (case hv => exact rfl)
      (case hfile => first | rfl | decide +kernel)
      (case ns => exact rfl)
      (case h3 => exact rfl)
      (case Sc => exact ⟨rfl, rfl, rfl, by decide +kernel, by decide +kernel, by decide +kernel, by decide +kernel, by decide +kernel, by decide +kernel, by decide +kernel⟩)
      (case h1 => intro env; exact ⟨_, rfl⟩)
      (case h2 => intro env; exact ⟨rfl, rfl⟩)
      (case h4 => intro us hl; exact match us, hl with | [_, _], _ => rfl))
    (case k_BadSchema =>
      refine' DL.clsAt ?a ?lc ?i ?l ?lcode ?lcell ?lS ?fS ?hm ?hm2 ?co ?t ?c1 ?c2 ?c3 ?c5 ?c6 ?c7 ?c8 ?c9 ?c10 ?c11 ?c12 ?c14 ?c15 ?c16 ?c17 ?c18 ?hv ?hfile ?ns ?Sc ?h1 ?h2 ?h3 ?h4
      (case a => k_is)
      (case lc => k_is)
      (case i => k_is)
      (case l => k_is)
      (case lcode => k_is)
      (case lcell => k_is)
      (case hm => exact rfl)
      (case lS => k_is)
      (case hm2 => exact rfl)
      (case fS => k_is)
      (case co => k_is)
      (case t => k_is)
      (case c1 => first | rfl | decide +kernel)
      (case c2 => first | rfl | decide +kernel)
      (case c3 => k_is)
      (case c5 => k_is)
      (case c6 => k_is)
      (case c7 => k_is)
      (case c8 => k_is)
      (case c9 => k_is)
      (case c10 => k_is)
      (case c11 => k_is)
      (case c12 => k_is)
      (case c14 => k_is)
      (case c15 => k_is)
      (case c16 => k_is)
      (case c17 => k_is)
      (case c18 => k_is)
      (case hv => exact rfl)
      (case hfile => first | rfl | decide +kernel)
      (case ns => exact rfl)
      (case h3 => exact rfl)
      (case Sc => exact ⟨rfl, rfl, rfl, by decide +kernel, by decide +kernel, by decide +kernel, by decide +kernel, by decide +kernel, by decide +kernel, by decide +kernel⟩)
      (case h1 => intro env; exact ⟨_, rfl⟩)
      (case h2 => intro env; exact ⟨rfl, rfl⟩)
      (case h4 => intro us hl; exact match us, hl with | [_, _], _ => rfl))
    (case k_BadSheet =>
      refine' DL.clsAt ?a ?lc ?i ?l ?lcode ?lcell ?lS ?fS ?hm ?hm2 ?co ?t ?c1 ?c2 ?c3 ?c5 ?c6 ?c7 ?c8 ?c9 ?c10 ?c11 ?c12 ?c14 ?c15 ?c16 ?c17 ?c18 ?hv ?hfile ?ns ?Sc ?h1 ?h2 ?h3 ?h4
      (case a => k_is)
      (case lc => k_is)
      (case i => k_is)
      (case l => k_is)
      (case lcode => k_is)
      (case lcell => k_is)
      (case hm => exact rfl)
      (case lS => k_is)
      (case hm2 => exact rfl)
      (case fS => k_is)
      (case co => k_is)
      (case t => k_is)
      (case c1 => first | rfl | decide +kernel)
      (case c2 => first | rfl | decide +kernel)
      (case c3 => k_is)
      (case c5 => k_is)
      (case c6 => k_is)
      (case c7 => k_is)
      (case c8 => k_is)
      (case c9 => k_is)
      (case c10 => k_is)
      (case c11 => k_is)
      (case c12 => k_is)
      (case c14 => k_is)
      (case c15 => k_is)
      (case c16 => k_is)
      (case c17 => k_is)
      (case c18 => k_is)
      (case hv => exact rfl)
      (case hfile => first | rfl | decide +kernel)
      (case ns => exact rfl)
      (case h3 => exact rfl)
      (case Sc => exact ⟨rfl, rfl, rfl, by decide +kernel, by decide +kernel, by decide +kernel, by decide +kernel, by decide +kernel, by decide +kernel, by decide +kernel⟩)
      (case h1 => intro env; exact ⟨_, rfl⟩)
      (case h2 => intro env; exact ⟨rfl, rfl⟩)
      (case h4 => intro us hl; exact match us, hl with | [_, _], _ => rfl))
    (case k_BadStore =>
      refine' DL.clsAt ?a ?lc ?i ?l ?lcode ?lcell ?lS ?fS ?hm ?hm2 ?co ?t ?c1 ?c2 ?c3 ?c5 ?c6 ?c7 ?c8 ?c9 ?c10 ?c11 ?c12 ?c14 ?c15 ?c16 ?c17 ?c18 ?hv ?hfile ?ns ?Sc ?h1 ?h2 ?h3 ?h4
      (case a => k_is)
      (case lc => k_is)
      (case i => k_is)
      (case l => k_is)
      (case lcode => k_is)
      (case lcell => k_is)
      (case hm => exact rfl)
      (case lS => k_is)
      (case hm2 => exact rfl)
      (case fS => k_is)
      (case co => k_is)
      (case t => k_is)
      (case c1 => first | rfl | decide +kernel)
      (case c2 => first | rfl | decide +kernel)
      (case c3 => k_is)
      (case c5 => k_is)
      (case c6 => k_is)
      (case c7 => k_is)
      (case c8 => k_is)
      (case c9 => k_is)
      (case c10 => k_is)
      (case c11 => k_is)
      (case c12 => k_is)
      (case c14 => k_is)
      (case c15 => k_is)
      (case c16 => k_is)
      (case c17 => k_is)
      (case c18 => k_is)
      (case hv => exact rfl)
      (case hfile => first | rfl | decide +kernel)
      (case ns => exact rfl)
      (case h3 => exact rfl)
      (case Sc => exact ⟨rfl, rfl, rfl, by decide +kernel, by decide +kernel, by decide +kernel, by decide +kernel, by decide +kernel, by decide +kernel, by decide +kernel⟩)
      (case h1 => intro env; exact ⟨_, rfl⟩)
      (case h2 => intro env; exact ⟨rfl, rfl⟩)
      (case h4 => intro us hl; exact match us, hl with | [_, _], _ => rfl))
    (case k_Broken =>
      refine' DL.clsAt ?a ?lc ?i ?l ?lcode ?lcell ?lS ?fS ?hm ?hm2 ?co ?t ?c1 ?c2 ?c3 ?c5 ?c6 ?c7 ?c8 ?c9 ?c10 ?c11 ?c12 ?c14 ?c15 ?c16 ?c17 ?c18 ?hv ?hfile ?ns ?Sc ?h1 ?h2 ?h3 ?h4
      (case a => k_is)
      (case lc => k_is)
      (case i => k_is)
      (case l => k_is)
      (case lcode => k_is)
      (case lcell => k_is)
      (case hm => exact rfl)
      (case lS => k_is)
      (case hm2 => exact rfl)
      (case fS => k_is)
      (case co => k_is)
      (case t => k_is)
      (case c1 => first | rfl | decide +kernel)
      (case c2 => first | rfl | decide +kernel)
      (case c3 => k_is)
      (case c5 => k_is)
      (case c6 => k_is)
      (case c7 => k_is)
      (case c8 => k_is)
      (case c9 => k_is)
      (case c10 => k_is)
      (case c11 => k_is)
      (case c12 => k_is)
      (case c14 => k_is)
      (case c15 => k_is)
      (case c16 => k_is)
      (case c17 => k_is)
      (case c18 => k_is)
      (case hv => exact rfl)
      (case hfile => first | rfl | decide +kernel)
      (case ns => exact rfl)
      (case h3 => exact rfl)
      (case Sc => exact ⟨rfl, rfl, rfl, by decide +kernel, by decide +kernel, by decide +kernel, by decide +kernel, by decide +kernel, by decide +kernel, by decide +kernel⟩)
      (case h1 => intro env; exact ⟨_, rfl⟩)
      (case h2 => intro env; exact ⟨rfl, rfl⟩)
      (case h4 => intro us hl; exact match us, hl with | [_, _], _ => rfl))
    (case k_Missing =>
      refine' DL.clsAt ?a ?lc ?i ?l ?lcode ?lcell ?lS ?fS ?hm ?hm2 ?co ?t ?c1 ?c2 ?c3 ?c5 ?c6 ?c7 ?c8 ?c9 ?c10 ?c11 ?c12 ?c14 ?c15 ?c16 ?c17 ?c18 ?hv ?hfile ?ns ?Sc ?h1 ?h2 ?h3 ?h4
      (case a => k_is)
      (case lc => k_is)
      (case i => k_is)
      (case l => k_is)
      (case lcode => k_is)
      (case lcell => k_is)
      (case hm => exact rfl)
      (case lS => k_is)
      (case hm2 => exact rfl)
      (case fS => k_is)
      (case co => k_is)
      (case t => k_is)
      (case c1 => first | rfl | decide +kernel)
      (case c2 => first | rfl | decide +kernel)
      (case c3 => k_is)
      (case c5 => k_is)
      (case c6 => k_is)
      (case c7 => k_is)
      (case c8 => k_is)
      (case c9 => k_is)
      (case c10 => k_is)
      (case c11 => k_is)
      (case c12 => k_is)
      (case c14 => k_is)
      (case c15 => k_is)
      (case c16 => k_is)
      (case c17 => k_is)
      (case c18 => k_is)
      (case hv => exact rfl)
      (case hfile => first | rfl | decide +kernel)
      (case ns => exact rfl)
      (case h3 => exact rfl)
      (case Sc => exact ⟨rfl, rfl, rfl, by decide +kernel, by decide +kernel, by decide +kernel, by decide +kernel, by decide +kernel, by decide +kernel, by decide +kernel⟩)
      (case h1 => intro env; exact ⟨_, rfl⟩)
      (case h2 => intro env; exact ⟨rfl, rfl⟩)
      (case h4 => intro us hl; exact match us, hl with | [_, _], _ => rfl))
    (case k_NothingLeft =>
      refine' DL.clsAt ?a ?lc ?i ?l ?lcode ?lcell ?lS ?fS ?hm ?hm2 ?co ?t ?c1 ?c2 ?c3 ?c5 ?c6 ?c7 ?c8 ?c9 ?c10 ?c11 ?c12 ?c14 ?c15 ?c16 ?c17 ?c18 ?hv ?hfile ?ns ?Sc ?h1 ?h2 ?h3 ?h4
      (case a => k_is)
      (case lc => k_is)
      (case i => k_is)
      (case l => k_is)
      (case lcode => k_is)
      (case lcell => k_is)
      (case hm => exact rfl)
      (case lS => k_is)
      (case hm2 => exact rfl)
      (case fS => k_is)
      (case co => k_is)
      (case t => k_is)
      (case c1 => first | rfl | decide +kernel)
      (case c2 => first | rfl | decide +kernel)
      (case c3 => k_is)
      (case c5 => k_is)
      (case c6 => k_is)
      (case c7 => k_is)
      (case c8 => k_is)
      (case c9 => k_is)
      (case c10 => k_is)
      (case c11 => k_is)
      (case c12 => k_is)
      (case c14 => k_is)
      (case c15 => k_is)
      (case c16 => k_is)
      (case c17 => k_is)
      (case c18 => k_is)
      (case hv => exact rfl)
      (case hfile => first | rfl | decide +kernel)
      (case ns => exact rfl)
      (case h3 => exact rfl)
      (case Sc => exact ⟨rfl, rfl, rfl, by decide +kernel, by decide +kernel, by decide +kernel, by decide +kernel, by decide +kernel, by decide +kernel, by decide +kernel⟩)
      (case h1 => intro env; exact ⟨_, rfl⟩)
      (case h2 => intro env; exact ⟨rfl, rfl⟩)
      (case h4 => intro us hl; exact match us, hl with | [_, _], _ => rfl))
    (case k_TooMany =>
      refine' DL.clsAtO ?a ?lc ?i ?l ?lcode ?lcell ?hm ?co ?t ?c1 ?c2 ?c3 ?c5 ?c6 ?c7 ?c8 ?c9 ?c10 ?c11 ?c12 ?c14 ?c15 ?c16 ?c17 ?c18 ?hv ?hfile ?ns ?Sc ?h1 ?h2 ?h3 ?h4
      (case a => k_is)
      (case lc => k_is)
      (case i => k_is)
      (case l => k_is)
      (case lcode => k_is)
      (case lcell => k_is)
      (case hm => exact rfl)
      (case co => k_is)
      (case t => k_is)
      (case c1 => first | rfl | decide +kernel)
      (case c2 => first | rfl | decide +kernel)
      (case c3 => k_is)
      (case c5 => k_is)
      (case c6 => k_is)
      (case c7 => k_is)
      (case c8 => k_is)
      (case c9 => k_is)
      (case c10 => k_is)
      (case c11 => k_is)
      (case c12 => k_is)
      (case c14 => k_is)
      (case c15 => k_is)
      (case c16 => k_is)
      (case c17 => k_is)
      (case c18 => k_is)
      (case hv => exact rfl)
      (case hfile => first | rfl | decide +kernel)
      (case ns => exact rfl)
      (case h3 => exact rfl)
      (case Sc => exact ⟨rfl, rfl, rfl, by decide +kernel, by decide +kernel, by decide +kernel, by decide +kernel, by decide +kernel, by decide +kernel, by decide +kernel⟩)
      (case h1 => intro env; exact ⟨_, rfl⟩)
      (case h2 => intro env; exact ⟨rfl, rfl⟩)
      (case h4 => intro us hl; exact match us, hl with | [_, _], _ => rfl))
    (case k_Twice =>
      refine' DL.clsAt ?a ?lc ?i ?l ?lcode ?lcell ?lS ?fS ?hm ?hm2 ?co ?t ?c1 ?c2 ?c3 ?c5 ?c6 ?c7 ?c8 ?c9 ?c10 ?c11 ?c12 ?c14 ?c15 ?c16 ?c17 ?c18 ?hv ?hfile ?ns ?Sc ?h1 ?h2 ?h3 ?h4
      (case a => k_is)
      (case lc => k_is)
      (case i => k_is)
      (case l => k_is)
      (case lcode => k_is)
      (case lcell => k_is)
      (case hm => exact rfl)
      (case lS => k_is)
      (case hm2 => exact rfl)
      (case fS => k_is)
      (case co => k_is)
      (case t => k_is)
      (case c1 => first | rfl | decide +kernel)
      (case c2 => first | rfl | decide +kernel)
      (case c3 => k_is)
      (case c5 => k_is)
      (case c6 => k_is)
      (case c7 => k_is)
      (case c8 => k_is)
      (case c9 => k_is)
      (case c10 => k_is)
      (case c11 => k_is)
      (case c12 => k_is)
      (case c14 => k_is)
      (case c15 => k_is)
      (case c16 => k_is)
      (case c17 => k_is)
      (case c18 => k_is)
      (case hv => exact rfl)
      (case hfile => first | rfl | decide +kernel)
      (case ns => exact rfl)
      (case h3 => exact rfl)
      (case Sc => exact ⟨rfl, rfl, rfl, by decide +kernel, by decide +kernel, by decide +kernel, by decide +kernel, by decide +kernel, by decide +kernel, by decide +kernel⟩)
      (case h1 => intro env; exact ⟨_, rfl⟩)
      (case h2 => intro env; exact ⟨rfl, rfl⟩)
      (case h4 => intro us hl; exact match us, hl with | [_, _], _ => rfl))
    (case k_BadText =>
      refine' DL.clsAt2 ?a ?lc ?i ?l ?lcode ?lcell ?lS ?fS ?hm ?hm2 ?co ?t ?c1 ?c2 ?c3 ?c5 ?c6 ?c7 ?c8 ?c9 ?c10 ?c11 ?c12 ?c14 ?c8b ?c14b ?d1 ?d2 ?d3 ?d4 ?h2b ?c15 ?c16 ?c17 ?c18 ?hv ?hfile ?ns ?Sc ?h1 ?h2 ?h3 ?h4
      (case a => k_is)
      (case lc => k_is)
      (case i => k_is)
      (case l => k_is)
      (case lcode => k_is)
      (case lcell => k_is)
      (case hm => exact rfl)
      (case lS => k_is)
      (case hm2 => exact rfl)
      (case fS => k_is)
      (case co => k_is)
      (case t => k_is)
      (case c1 => first | rfl | decide +kernel)
      (case c2 => first | rfl | decide +kernel)
      (case c3 => k_is)
      (case c5 => k_is)
      (case c6 => k_is)
      (case c7 => k_is)
      (case c8 => k_is)
      (case c9 => k_is)
      (case c10 => k_is)
      (case c11 => k_is)
      (case c12 => k_is)
      (case c14 => k_is)
      (case c8b => k_is)
      (case c14b => k_is)
      (case c15 => k_is)
      (case c16 => k_is)
      (case c17 => k_is)
      (case c18 => k_is)
      (case hv => exact rfl)
      (case hfile => first | rfl | decide +kernel)
      (case ns => exact rfl)
      (case h3 => exact rfl)
      (case d1 => decide +kernel)
      (case d2 => decide +kernel)
      (case d3 => decide +kernel)
      (case d4 => decide +kernel)
      (case h2b => intro env; exact rfl)
      (case Sc => exact ⟨rfl, rfl, rfl, by decide +kernel, by decide +kernel, by decide +kernel, by decide +kernel, by decide +kernel, by decide +kernel, by decide +kernel⟩)
      (case h1 => intro env; exact ⟨_, rfl⟩)
      (case h2 => intro env; exact ⟨rfl, rfl⟩)
      (case h4 => intro us hl; exact match us, hl with | [_, _, _], _ => rfl))
    (case k_xc =>
      refine' DL.xcAt17 ?xa1 ?xa2 ?xa3 ?xa4 ?xa5 ?xa6 ?xa7 ?xa8 ?xa9 ?xa10 ?xa11 ?xa12 ?xa13 ?xa14 ?xa15 ?xa16 ?xa17 ?xt1 ?xt2 ?xt3 ?xt4 ?xt5 ?xt6 ?xt7 ?xt8 ?xt9 ?xt10 ?xt11 ?xt12 ?xt13 ?xt14 ?xt15 ?xt16 ?xt17 ?xk1 ?xk2 ?xk3 ?xk4 ?xk5 ?xk6 ?xk7 ?xk8 ?xk9 ?xk10 ?xk11 ?xk12 ?xk13 ?xk14 ?xk15 ?xk16 ?xk17 ?xu1 ?xu2 ?xu3 ?xu4 ?xu5 ?xu6 ?xu7 ?xu8 ?xu9 ?xu10 ?xu11 ?xu12 ?xu13 ?xu14 ?xu15 ?xu16 ?xu17
      (case xa1 => k_is)
      (case xa2 => k_is)
      (case xa3 => k_is)
      (case xa4 => k_is)
      (case xa5 => k_is)
      (case xa6 => k_is)
      (case xa7 => k_is)
      (case xa8 => k_is)
      (case xa9 => k_is)
      (case xa10 => k_is)
      (case xa11 => k_is)
      (case xa12 => k_is)
      (case xa13 => k_is)
      (case xa14 => k_is)
      (case xa15 => k_is)
      (case xa16 => k_is)
      (case xa17 => k_is)
      (case xt1 =>
        refine' DL.toldX ?ga ?gg ?exC ?hdC ?cl ?at_ ?gs ?tk ?ob ?n1 ?n2 ?n3 ?n4 ?n5 ?n6 ?n7
        (case ga => first | k_is | kernel_rfl | rfl)
        (case gg => first | k_is | kernel_rfl | rfl)
        (case exC => first | k_is | kernel_rfl | rfl)
        (case hdC => first | k_is | kernel_rfl | rfl)
        (case cl => first | k_is | kernel_rfl | rfl)
        (case at_ => first | k_is | kernel_rfl | rfl)
        (case gs => first | k_is | kernel_rfl | rfl)
        (case tk => first | k_is | kernel_rfl | rfl)
        (case ob => first | k_is | kernel_rfl | rfl)
        (case n1 => first | k_is | kernel_rfl | rfl)
        (case n2 => first | k_is | kernel_rfl | rfl)
        (case n3 => first | k_is | kernel_rfl | rfl)
        (case n4 => first | k_is | kernel_rfl | rfl)
        (case n5 => first | k_is | kernel_rfl | rfl)
        (case n6 => first | k_is | kernel_rfl | rfl)
        (case n7 => first | k_is | kernel_rfl | rfl)
        )
      (case xt2 =>
        refine' DL.toldX ?ga ?gg ?exC ?hdC ?cl ?at_ ?gs ?tk ?ob ?n1 ?n2 ?n3 ?n4 ?n5 ?n6 ?n7
        (case ga => first | k_is | kernel_rfl | rfl)
        (case gg => first | k_is | kernel_rfl | rfl)
        (case exC => first | k_is | kernel_rfl | rfl)
        (case hdC => first | k_is | kernel_rfl | rfl)
        (case cl => first | k_is | kernel_rfl | rfl)
        (case at_ => first | k_is | kernel_rfl | rfl)
        (case gs => first | k_is | kernel_rfl | rfl)
        (case tk => first | k_is | kernel_rfl | rfl)
        (case ob => first | k_is | kernel_rfl | rfl)
        (case n1 => first | k_is | kernel_rfl | rfl)
        (case n2 => first | k_is | kernel_rfl | rfl)
        (case n3 => first | k_is | kernel_rfl | rfl)
        (case n4 => first | k_is | kernel_rfl | rfl)
        (case n5 => first | k_is | kernel_rfl | rfl)
        (case n6 => first | k_is | kernel_rfl | rfl)
        (case n7 => first | k_is | kernel_rfl | rfl)
        )
      (case xt3 =>
        refine' DL.toldX ?ga ?gg ?exC ?hdC ?cl ?at_ ?gs ?tk ?ob ?n1 ?n2 ?n3 ?n4 ?n5 ?n6 ?n7
        (case ga => first | k_is | kernel_rfl | rfl)
        (case gg => first | k_is | kernel_rfl | rfl)
        (case exC => first | k_is | kernel_rfl | rfl)
        (case hdC => first | k_is | kernel_rfl | rfl)
        (case cl => first | k_is | kernel_rfl | rfl)
        (case at_ => first | k_is | kernel_rfl | rfl)
        (case gs => first | k_is | kernel_rfl | rfl)
        (case tk => first | k_is | kernel_rfl | rfl)
        (case ob => first | k_is | kernel_rfl | rfl)
        (case n1 => first | k_is | kernel_rfl | rfl)
        (case n2 => first | k_is | kernel_rfl | rfl)
        (case n3 => first | k_is | kernel_rfl | rfl)
        (case n4 => first | k_is | kernel_rfl | rfl)
        (case n5 => first | k_is | kernel_rfl | rfl)
        (case n6 => first | k_is | kernel_rfl | rfl)
        (case n7 => first | k_is | kernel_rfl | rfl)
        )
      (case xt4 =>
        refine' DL.toldX ?ga ?gg ?exC ?hdC ?cl ?at_ ?gs ?tk ?ob ?n1 ?n2 ?n3 ?n4 ?n5 ?n6 ?n7
        (case ga => first | k_is | kernel_rfl | rfl)
        (case gg => first | k_is | kernel_rfl | rfl)
        (case exC => first | k_is | kernel_rfl | rfl)
        (case hdC => first | k_is | kernel_rfl | rfl)
        (case cl => first | k_is | kernel_rfl | rfl)
        (case at_ => first | k_is | kernel_rfl | rfl)
        (case gs => first | k_is | kernel_rfl | rfl)
        (case tk => first | k_is | kernel_rfl | rfl)
        (case ob => first | k_is | kernel_rfl | rfl)
        (case n1 => first | k_is | kernel_rfl | rfl)
        (case n2 => first | k_is | kernel_rfl | rfl)
        (case n3 => first | k_is | kernel_rfl | rfl)
        (case n4 => first | k_is | kernel_rfl | rfl)
        (case n5 => first | k_is | kernel_rfl | rfl)
        (case n6 => first | k_is | kernel_rfl | rfl)
        (case n7 => first | k_is | kernel_rfl | rfl)
        )
      (case xt5 =>
        refine' DL.toldX ?ga ?gg ?exC ?hdC ?cl ?at_ ?gs ?tk ?ob ?n1 ?n2 ?n3 ?n4 ?n5 ?n6 ?n7
        (case ga => first | k_is | kernel_rfl | rfl)
        (case gg => first | k_is | kernel_rfl | rfl)
        (case exC => first | k_is | kernel_rfl | rfl)
        (case hdC => first | k_is | kernel_rfl | rfl)
        (case cl => first | k_is | kernel_rfl | rfl)
        (case at_ => first | k_is | kernel_rfl | rfl)
        (case gs => first | k_is | kernel_rfl | rfl)
        (case tk => first | k_is | kernel_rfl | rfl)
        (case ob => first | k_is | kernel_rfl | rfl)
        (case n1 => first | k_is | kernel_rfl | rfl)
        (case n2 => first | k_is | kernel_rfl | rfl)
        (case n3 => first | k_is | kernel_rfl | rfl)
        (case n4 => first | k_is | kernel_rfl | rfl)
        (case n5 => first | k_is | kernel_rfl | rfl)
        (case n6 => first | k_is | kernel_rfl | rfl)
        (case n7 => first | k_is | kernel_rfl | rfl)
        )
      (case xt6 =>
        refine' DL.toldX ?ga ?gg ?exC ?hdC ?cl ?at_ ?gs ?tk ?ob ?n1 ?n2 ?n3 ?n4 ?n5 ?n6 ?n7
        (case ga => first | k_is | kernel_rfl | rfl)
        (case gg => first | k_is | kernel_rfl | rfl)
        (case exC => first | k_is | kernel_rfl | rfl)
        (case hdC => first | k_is | kernel_rfl | rfl)
        (case cl => first | k_is | kernel_rfl | rfl)
        (case at_ => first | k_is | kernel_rfl | rfl)
        (case gs => first | k_is | kernel_rfl | rfl)
        (case tk => first | k_is | kernel_rfl | rfl)
        (case ob => first | k_is | kernel_rfl | rfl)
        (case n1 => first | k_is | kernel_rfl | rfl)
        (case n2 => first | k_is | kernel_rfl | rfl)
        (case n3 => first | k_is | kernel_rfl | rfl)
        (case n4 => first | k_is | kernel_rfl | rfl)
        (case n5 => first | k_is | kernel_rfl | rfl)
        (case n6 => first | k_is | kernel_rfl | rfl)
        (case n7 => first | k_is | kernel_rfl | rfl)
        )
      (case xt7 =>
        refine' DL.toldX ?ga ?gg ?exC ?hdC ?cl ?at_ ?gs ?tk ?ob ?n1 ?n2 ?n3 ?n4 ?n5 ?n6 ?n7
        (case ga => first | k_is | kernel_rfl | rfl)
        (case gg => first | k_is | kernel_rfl | rfl)
        (case exC => first | k_is | kernel_rfl | rfl)
        (case hdC => first | k_is | kernel_rfl | rfl)
        (case cl => first | k_is | kernel_rfl | rfl)
        (case at_ => first | k_is | kernel_rfl | rfl)
        (case gs => first | k_is | kernel_rfl | rfl)
        (case tk => first | k_is | kernel_rfl | rfl)
        (case ob => first | k_is | kernel_rfl | rfl)
        (case n1 => first | k_is | kernel_rfl | rfl)
        (case n2 => first | k_is | kernel_rfl | rfl)
        (case n3 => first | k_is | kernel_rfl | rfl)
        (case n4 => first | k_is | kernel_rfl | rfl)
        (case n5 => first | k_is | kernel_rfl | rfl)
        (case n6 => first | k_is | kernel_rfl | rfl)
        (case n7 => first | k_is | kernel_rfl | rfl)
        )
      (case xt8 =>
        refine' DL.toldX ?ga ?gg ?exC ?hdC ?cl ?at_ ?gs ?tk ?ob ?n1 ?n2 ?n3 ?n4 ?n5 ?n6 ?n7
        (case ga => first | k_is | kernel_rfl | rfl)
        (case gg => first | k_is | kernel_rfl | rfl)
        (case exC => first | k_is | kernel_rfl | rfl)
        (case hdC => first | k_is | kernel_rfl | rfl)
        (case cl => first | k_is | kernel_rfl | rfl)
        (case at_ => first | k_is | kernel_rfl | rfl)
        (case gs => first | k_is | kernel_rfl | rfl)
        (case tk => first | k_is | kernel_rfl | rfl)
        (case ob => first | k_is | kernel_rfl | rfl)
        (case n1 => first | k_is | kernel_rfl | rfl)
        (case n2 => first | k_is | kernel_rfl | rfl)
        (case n3 => first | k_is | kernel_rfl | rfl)
        (case n4 => first | k_is | kernel_rfl | rfl)
        (case n5 => first | k_is | kernel_rfl | rfl)
        (case n6 => first | k_is | kernel_rfl | rfl)
        (case n7 => first | k_is | kernel_rfl | rfl)
        )
      (case xt9 =>
        refine' DL.toldX ?ga ?gg ?exC ?hdC ?cl ?at_ ?gs ?tk ?ob ?n1 ?n2 ?n3 ?n4 ?n5 ?n6 ?n7
        (case ga => first | k_is | kernel_rfl | rfl)
        (case gg => first | k_is | kernel_rfl | rfl)
        (case exC => first | k_is | kernel_rfl | rfl)
        (case hdC => first | k_is | kernel_rfl | rfl)
        (case cl => first | k_is | kernel_rfl | rfl)
        (case at_ => first | k_is | kernel_rfl | rfl)
        (case gs => first | k_is | kernel_rfl | rfl)
        (case tk => first | k_is | kernel_rfl | rfl)
        (case ob => first | k_is | kernel_rfl | rfl)
        (case n1 => first | k_is | kernel_rfl | rfl)
        (case n2 => first | k_is | kernel_rfl | rfl)
        (case n3 => first | k_is | kernel_rfl | rfl)
        (case n4 => first | k_is | kernel_rfl | rfl)
        (case n5 => first | k_is | kernel_rfl | rfl)
        (case n6 => first | k_is | kernel_rfl | rfl)
        (case n7 => first | k_is | kernel_rfl | rfl)
        )
      (case xt10 =>
        refine' DL.toldX ?ga ?gg ?exC ?hdC ?cl ?at_ ?gs ?tk ?ob ?n1 ?n2 ?n3 ?n4 ?n5 ?n6 ?n7
        (case ga => first | k_is | kernel_rfl | rfl)
        (case gg => first | k_is | kernel_rfl | rfl)
        (case exC => first | k_is | kernel_rfl | rfl)
        (case hdC => first | k_is | kernel_rfl | rfl)
        (case cl => first | k_is | kernel_rfl | rfl)
        (case at_ => first | k_is | kernel_rfl | rfl)
        (case gs => first | k_is | kernel_rfl | rfl)
        (case tk => first | k_is | kernel_rfl | rfl)
        (case ob => first | k_is | kernel_rfl | rfl)
        (case n1 => first | k_is | kernel_rfl | rfl)
        (case n2 => first | k_is | kernel_rfl | rfl)
        (case n3 => first | k_is | kernel_rfl | rfl)
        (case n4 => first | k_is | kernel_rfl | rfl)
        (case n5 => first | k_is | kernel_rfl | rfl)
        (case n6 => first | k_is | kernel_rfl | rfl)
        (case n7 => first | k_is | kernel_rfl | rfl)
        )
      (case xt11 =>
        refine' DL.toldX ?ga ?gg ?exC ?hdC ?cl ?at_ ?gs ?tk ?ob ?n1 ?n2 ?n3 ?n4 ?n5 ?n6 ?n7
        (case ga => first | k_is | kernel_rfl | rfl)
        (case gg => first | k_is | kernel_rfl | rfl)
        (case exC => first | k_is | kernel_rfl | rfl)
        (case hdC => first | k_is | kernel_rfl | rfl)
        (case cl => first | k_is | kernel_rfl | rfl)
        (case at_ => first | k_is | kernel_rfl | rfl)
        (case gs => first | k_is | kernel_rfl | rfl)
        (case tk => first | k_is | kernel_rfl | rfl)
        (case ob => first | k_is | kernel_rfl | rfl)
        (case n1 => first | k_is | kernel_rfl | rfl)
        (case n2 => first | k_is | kernel_rfl | rfl)
        (case n3 => first | k_is | kernel_rfl | rfl)
        (case n4 => first | k_is | kernel_rfl | rfl)
        (case n5 => first | k_is | kernel_rfl | rfl)
        (case n6 => first | k_is | kernel_rfl | rfl)
        (case n7 => first | k_is | kernel_rfl | rfl)
        )
      (case xt12 =>
        refine' DL.toldX ?ga ?gg ?exC ?hdC ?cl ?at_ ?gs ?tk ?ob ?n1 ?n2 ?n3 ?n4 ?n5 ?n6 ?n7
        (case ga => first | k_is | kernel_rfl | rfl)
        (case gg => first | k_is | kernel_rfl | rfl)
        (case exC => first | k_is | kernel_rfl | rfl)
        (case hdC => first | k_is | kernel_rfl | rfl)
        (case cl => first | k_is | kernel_rfl | rfl)
        (case at_ => first | k_is | kernel_rfl | rfl)
        (case gs => first | k_is | kernel_rfl | rfl)
        (case tk => first | k_is | kernel_rfl | rfl)
        (case ob => first | k_is | kernel_rfl | rfl)
        (case n1 => first | k_is | kernel_rfl | rfl)
        (case n2 => first | k_is | kernel_rfl | rfl)
        (case n3 => first | k_is | kernel_rfl | rfl)
        (case n4 => first | k_is | kernel_rfl | rfl)
        (case n5 => first | k_is | kernel_rfl | rfl)
        (case n6 => first | k_is | kernel_rfl | rfl)
        (case n7 => first | k_is | kernel_rfl | rfl)
        )
      (case xt13 =>
        refine' DL.toldX ?ga ?gg ?exC ?hdC ?cl ?at_ ?gs ?tk ?ob ?n1 ?n2 ?n3 ?n4 ?n5 ?n6 ?n7
        (case ga => first | k_is | kernel_rfl | rfl)
        (case gg => first | k_is | kernel_rfl | rfl)
        (case exC => first | k_is | kernel_rfl | rfl)
        (case hdC => first | k_is | kernel_rfl | rfl)
        (case cl => first | k_is | kernel_rfl | rfl)
        (case at_ => first | k_is | kernel_rfl | rfl)
        (case gs => first | k_is | kernel_rfl | rfl)
        (case tk => first | k_is | kernel_rfl | rfl)
        (case ob => first | k_is | kernel_rfl | rfl)
        (case n1 => first | k_is | kernel_rfl | rfl)
        (case n2 => first | k_is | kernel_rfl | rfl)
        (case n3 => first | k_is | kernel_rfl | rfl)
        (case n4 => first | k_is | kernel_rfl | rfl)
        (case n5 => first | k_is | kernel_rfl | rfl)
        (case n6 => first | k_is | kernel_rfl | rfl)
        (case n7 => first | k_is | kernel_rfl | rfl)
        )
      (case xt14 =>
        refine' DL.toldX ?ga ?gg ?exC ?hdC ?cl ?at_ ?gs ?tk ?ob ?n1 ?n2 ?n3 ?n4 ?n5 ?n6 ?n7
        (case ga => first | k_is | kernel_rfl | rfl)
        (case gg => first | k_is | kernel_rfl | rfl)
        (case exC => first | k_is | kernel_rfl | rfl)
        (case hdC => first | k_is | kernel_rfl | rfl)
        (case cl => first | k_is | kernel_rfl | rfl)
        (case at_ => first | k_is | kernel_rfl | rfl)
        (case gs => first | k_is | kernel_rfl | rfl)
        (case tk => first | k_is | kernel_rfl | rfl)
        (case ob => first | k_is | kernel_rfl | rfl)
        (case n1 => first | k_is | kernel_rfl | rfl)
        (case n2 => first | k_is | kernel_rfl | rfl)
        (case n3 => first | k_is | kernel_rfl | rfl)
        (case n4 => first | k_is | kernel_rfl | rfl)
        (case n5 => first | k_is | kernel_rfl | rfl)
        (case n6 => first | k_is | kernel_rfl | rfl)
        (case n7 => first | k_is | kernel_rfl | rfl)
        )
      (case xt15 =>
        refine' DL.toldX ?ga ?gg ?exC ?hdC ?cl ?at_ ?gs ?tk ?ob ?n1 ?n2 ?n3 ?n4 ?n5 ?n6 ?n7
        (case ga => first | k_is | kernel_rfl | rfl)
        (case gg => first | k_is | kernel_rfl | rfl)
        (case exC => first | k_is | kernel_rfl | rfl)
        (case hdC => first | k_is | kernel_rfl | rfl)
        (case cl => first | k_is | kernel_rfl | rfl)
        (case at_ => first | k_is | kernel_rfl | rfl)
        (case gs => first | k_is | kernel_rfl | rfl)
        (case tk => first | k_is | kernel_rfl | rfl)
        (case ob => first | k_is | kernel_rfl | rfl)
        (case n1 => first | k_is | kernel_rfl | rfl)
        (case n2 => first | k_is | kernel_rfl | rfl)
        (case n3 => first | k_is | kernel_rfl | rfl)
        (case n4 => first | k_is | kernel_rfl | rfl)
        (case n5 => first | k_is | kernel_rfl | rfl)
        (case n6 => first | k_is | kernel_rfl | rfl)
        (case n7 => first | k_is | kernel_rfl | rfl)
        )
      (case xt16 =>
        refine' DL.toldX ?ga ?gg ?exC ?hdC ?cl ?at_ ?gs ?tk ?ob ?n1 ?n2 ?n3 ?n4 ?n5 ?n6 ?n7
        (case ga => first | k_is | kernel_rfl | rfl)
        (case gg => first | k_is | kernel_rfl | rfl)
        (case exC => first | k_is | kernel_rfl | rfl)
        (case hdC => first | k_is | kernel_rfl | rfl)
        (case cl => first | k_is | kernel_rfl | rfl)
        (case at_ => first | k_is | kernel_rfl | rfl)
        (case gs => first | k_is | kernel_rfl | rfl)
        (case tk => first | k_is | kernel_rfl | rfl)
        (case ob => first | k_is | kernel_rfl | rfl)
        (case n1 => first | k_is | kernel_rfl | rfl)
        (case n2 => first | k_is | kernel_rfl | rfl)
        (case n3 => first | k_is | kernel_rfl | rfl)
        (case n4 => first | k_is | kernel_rfl | rfl)
        (case n5 => first | k_is | kernel_rfl | rfl)
        (case n6 => first | k_is | kernel_rfl | rfl)
        (case n7 => first | k_is | kernel_rfl | rfl)
        )
      (case xt17 =>
        refine' DL.toldX ?ga ?gg ?exC ?hdC ?cl ?at_ ?gs ?tk ?ob ?n1 ?n2 ?n3 ?n4 ?n5 ?n6 ?n7
        (case ga => first | k_is | kernel_rfl | rfl)
        (case gg => first | k_is | kernel_rfl | rfl)
        (case exC => first | k_is | kernel_rfl | rfl)
        (case hdC => first | k_is | kernel_rfl | rfl)
        (case cl => first | k_is | kernel_rfl | rfl)
        (case at_ => first | k_is | kernel_rfl | rfl)
        (case gs => first | k_is | kernel_rfl | rfl)
        (case tk => first | k_is | kernel_rfl | rfl)
        (case ob => first | k_is | kernel_rfl | rfl)
        (case n1 => first | k_is | kernel_rfl | rfl)
        (case n2 => first | k_is | kernel_rfl | rfl)
        (case n3 => first | k_is | kernel_rfl | rfl)
        (case n4 => first | k_is | kernel_rfl | rfl)
        (case n5 => first | k_is | kernel_rfl | rfl)
        (case n6 => first | k_is | kernel_rfl | rfl)
        (case n7 => first | k_is | kernel_rfl | rfl)
        )
      (case xk1 => first | kernel_rfl | rfl | k_is)
      (case xk2 => first | kernel_rfl | rfl | k_is)
      (case xk3 => first | kernel_rfl | rfl | k_is)
      (case xk4 => first | kernel_rfl | rfl | k_is)
      (case xk5 => first | kernel_rfl | rfl | k_is)
      (case xk6 => first | kernel_rfl | rfl | k_is)
      (case xk7 => first | kernel_rfl | rfl | k_is)
      (case xk8 => first | kernel_rfl | rfl | k_is)
      (case xk9 => first | kernel_rfl | rfl | k_is)
      (case xk10 => first | kernel_rfl | rfl | k_is)
      (case xk11 => first | kernel_rfl | rfl | k_is)
      (case xk12 => first | kernel_rfl | rfl | k_is)
      (case xk13 => first | kernel_rfl | rfl | k_is)
      (case xk14 => first | kernel_rfl | rfl | k_is)
      (case xk15 => first | kernel_rfl | rfl | k_is)
      (case xk16 => first | kernel_rfl | rfl | k_is)
      (case xk17 => first | kernel_rfl | rfl | k_is)
      (case xu1 => first | kernel_rfl | rfl | k_is)
      (case xu2 => first | kernel_rfl | rfl | k_is)
      (case xu3 => first | kernel_rfl | rfl | k_is)
      (case xu4 => first | kernel_rfl | rfl | k_is)
      (case xu5 => first | kernel_rfl | rfl | k_is)
      (case xu6 => first | kernel_rfl | rfl | k_is)
      (case xu7 => first | kernel_rfl | rfl | k_is)
      (case xu8 => first | kernel_rfl | rfl | k_is)
      (case xu9 => first | kernel_rfl | rfl | k_is)
      (case xu10 => first | kernel_rfl | rfl | k_is)
      (case xu11 => first | kernel_rfl | rfl | k_is)
      (case xu12 => first | kernel_rfl | rfl | k_is)
      (case xu13 => first | kernel_rfl | rfl | k_is)
      (case xu14 => first | kernel_rfl | rfl | k_is)
      (case xu15 => first | kernel_rfl | rfl | k_is)
      (case xu16 => first | kernel_rfl | rfl | k_is)
      (case xu17 => first | kernel_rfl | rfl | k_is)
      )
    (case kw_BadCell => refine' DL.kwAt ?ka ?ki ?kl ?kb; (case ka => k_is); (case ki => k_is); (case kl => k_is); (case kb => intro u v; rfl))
    (case kw_BadColumn => refine' DL.kwAt ?ka ?ki ?kl ?kb; (case ka => k_is); (case ki => k_is); (case kl => k_is); (case kb => intro u v; rfl))
    (case kw_BadLot => refine' DL.kwAt ?ka ?ki ?kl ?kb; (case ka => k_is); (case ki => k_is); (case kl => k_is); (case kb => intro u v; rfl))
    (case kw_BadNumber => refine' DL.kwAt ?ka ?ki ?kl ?kb; (case ka => k_is); (case ki => k_is); (case kl => k_is); (case kb => intro u v; rfl))
    (case kw_BadPaper => refine' DL.kwAt ?ka ?ki ?kl ?kb; (case ka => k_is); (case ki => k_is); (case kl => k_is); (case kb => intro u v; rfl))
    (case kw_BadParting => refine' DL.kwAt ?ka ?ki ?kl ?kb; (case ka => k_is); (case ki => k_is); (case kl => k_is); (case kb => intro u v; rfl))
    (case kw_BadRow => refine' DL.kwAt ?ka ?ki ?kl ?kb; (case ka => k_is); (case ki => k_is); (case kl => k_is); (case kb => intro u v; rfl))
    (case kw_BadSchema => refine' DL.kwAt ?ka ?ki ?kl ?kb; (case ka => k_is); (case ki => k_is); (case kl => k_is); (case kb => intro u v; rfl))
    (case kw_BadSheet => refine' DL.kwAt ?ka ?ki ?kl ?kb; (case ka => k_is); (case ki => k_is); (case kl => k_is); (case kb => intro u v; rfl))
    (case kw_BadStore => refine' DL.kwAt ?ka ?ki ?kl ?kb; (case ka => k_is); (case ki => k_is); (case kl => k_is); (case kb => intro u v; rfl))
    (case kw_Broken => refine' DL.kwAt ?ka ?ki ?kl ?kb; (case ka => k_is); (case ki => k_is); (case kl => k_is); (case kb => intro u v; rfl))
    (case kw_Missing => refine' DL.kwAt ?ka ?ki ?kl ?kb; (case ka => k_is); (case ki => k_is); (case kl => k_is); (case kb => intro u v; rfl))
    (case kw_NothingLeft => refine' DL.kwAt ?ka ?ki ?kl ?kb; (case ka => k_is); (case ki => k_is); (case kl => k_is); (case kb => intro u v; rfl))
    (case kw_TooMany => refine' DL.kwAt ?ka ?ki ?kl ?kb; (case ka => k_is); (case ki => k_is); (case kl => k_is); (case kb => intro u v; rfl))
    (case kw_Twice => refine' DL.kwAt ?ka ?ki ?kl ?kb; (case ka => k_is); (case ki => k_is); (case kl => k_is); (case kb => intro u v; rfl))
    (case kw_BadText => refine' DL.kwAt2 ?ka ?ki ?kl ?kb; (case ka => k_is); (case ki => k_is); (case kl => k_is); (case kb => intro u v v2; rfl))
    (case sh_ShareError => refine' DL.shAt ?sa ?se ?sk; (case sa => k_is); (case se => first | k_is | kernel_rfl | rfl); (case sk => k_is))
