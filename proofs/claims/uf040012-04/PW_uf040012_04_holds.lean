import PyProof.Rows.All
import Wide.All
import Open.Line
import PySem.Challenge.RW_uf040012_04
set_option Elab.async false
set_option linter.unusedVariables false
set_option linter.unusedSimpArgs false

noncomputable section

set_option maxRecDepth 100000
namespace Mine
open PySem

/-- plain values -/
inductive PV where
  | none
  | bool (b : Bool)
  | int (i : Int)
  | str (x : Str)
  | ty (n : String)
  | tup (ds : List PV)
  | lst (ds : List PV)
  | loc (i : Nat)

/-- plain objects that change -/
inductive PO where
  | list (ds : List PV)
  | dict (es : List (List Int × PV))

abbrev Store := List PO
abbrev Locals := Str → Option PV

mutual
inductive Rep (h : Heap) (η : List Addr) : Value → PV → Prop
  | none : Rep h η Value.none PV.none
  | bool (b : Bool) : Rep h η (Value.bool b) (PV.bool b)
  | int (i : Int) (t : Tok) : Rep h η (Value.int i t) (PV.int i)
  | str (x : Str) (t : Tok) : Rep h η (Value.str x t) (PV.str x)
  | ty (n : String) : Rep h η (Value.type n) (PV.ty n)
  | tup {a : Addr} {vs : List Value} {ds : List PV} : a ∉ η → h.IsTuple a vs.toArray → RepAll h η vs ds → Rep h η (Value.ref a) (PV.tup ds)
  | lst {a : Addr} {vs : List Value} {ds : List PV} : a ∉ η → h.PlainList a vs.toArray → RepAll h η vs ds → Rep h η (Value.ref a) (PV.lst ds)
  | loc {a : Addr} {i : Nat} : η[i]? = some a → Rep h η (Value.ref a) (PV.loc i)
inductive RepAll (h : Heap) (η : List Addr) : List Value → List PV → Prop
  | nil : RepAll h η [] []
  | cons {v : Value} {vs : List Value} {d : PV} {ds : List PV} : Rep h η v d → RepAll h η vs ds → RepAll h η (v :: vs) (d :: ds)
end

/-- what a stretch of the run leaves as it was: all but the mutable places η and what P names -/
structure Step (P : Addr → Prop) (η η' : List Addr) (h h' : Heap) : Prop where
  grow : ∃ ex, η' = η ++ ex
  keep : ∀ b o, h.get? b = some o → b ∉ η → ¬ P b → h'.get? b = some o ∧ b ∉ η'

/-- P names no tuple and no list -/
noncomputable def NoSeq (P : Addr → Prop) (h : Heap) : Prop := ∀ b o, P b → h.get? b = some o → ∀ items n, o.data ≠ .seq items n

theorem NoSeq.bot (h : Heap) : NoSeq (fun _ => False) h := fun _ _ hf => hf.elim

theorem Step.refl {P : Addr → Prop} {η : List Addr} {h : Heap} : Step P η η h h := ⟨⟨[], by simp⟩, fun _ _ e n _ => ⟨e, n⟩⟩

theorem Step.trans {P P' : Addr → Prop} {η η₁ η₂ : List Addr} {h h₁ h₂ : Heap} (a : Step P η η₁ h h₁) (b : Step P' η₁ η₂ h₁ h₂) (hP : ∀ x, P' x → P x ∨ h.get? x = none) : Step P η η₂ h h₂ := by
  obtain ⟨e1, he1⟩ := a.grow
  obtain ⟨e2, he2⟩ := b.grow
  refine ⟨⟨e1 ++ e2, by rw [he2, he1, List.append_assoc]⟩, fun x o e n p => ?_⟩
  obtain ⟨q1, q2⟩ := a.keep x o e n p
  refine b.keep x o q1 q2 fun hp' => ?_
  rcases hP x hp' with r | r
  · exact p r
  · rw [r] at e; cases e

theorem Step.trans0 {P : Addr → Prop} {η η₁ η₂ : List Addr} {h h₁ h₂ : Heap} (a : Step P η η₁ h h₁) (b : Step (fun _ => False) η₁ η₂ h₁ h₂) : Step P η η₂ h h₂ := a.trans b fun _ f => f.elim
theorem Step.transS {P : Addr → Prop} {η η₁ η₂ : List Addr} {h h₁ h₂ : Heap} (a : Step P η η₁ h h₁) (b : Step P η₁ η₂ h₁ h₂) : Step P η η₂ h h₂ := a.trans b fun _ f => .inl f
theorem Step.weaken {P P' : Addr → Prop} {η η₁ : List Addr} {h h₁ : Heap} (a : Step P η η₁ h h₁) (hP : ∀ x, P x → P' x ∨ h.get? x = none) : Step P' η η₁ h h₁ :=
  ⟨a.grow, fun b o e n p => a.keep b o e n fun q => (hP b q).elim p fun r => by rw [r] at e; cases e⟩

theorem Step.getη {P : Addr → Prop} {η η' : List Addr} {h h' : Heap} (a : Step P η η' h h') {i : Nat} {x : Addr} (e : η[i]? = some x) : η'[i]? = some x := by
  obtain ⟨ex, rfl⟩ := a.grow
  rw [List.getElem?_append_left (List.getElem?_eq_some_iff.mp e).1]; exact e

/-- a push -/
theorem Step.push {P : Addr → Prop} {η : List Addr} {h : Heap} (o : Obj) : Step P η η h (h.push o) :=
  ⟨⟨[], by simp⟩, fun _ _ e n _ => ⟨Heap.get?_push_of_some o e, n⟩⟩
/-- a push whose object is a new mutable place -/
theorem Step.pushη {P : Addr → Prop} {η : List Addr} {h : Heap} (o : Obj) : Step P η (η ++ [h.objs.size]) h (h.push o) :=
  ⟨⟨[h.objs.size], rfl⟩, fun b _ e n _ => ⟨Heap.get?_push_of_some o e, fun hm => by
    rcases List.mem_append.mp hm with hm | hm
    · exact n hm
    · have h1 := Heap.lt_size e
      rw [List.mem_singleton.mp hm] at h1; exact Nat.lt_irrefl _ h1⟩⟩
theorem Step.ext {η : List Addr} {h h' : Heap} (hk : ∀ b o, h.get? b = some o → h'.get? b = some o) {P : Addr → Prop} : Step P η η h h' :=
  ⟨⟨[], by simp⟩, fun b o e n _ => ⟨hk b o e, n⟩⟩
theorem Step.extBut {η : List Addr} {h h' : Heap} {a : Addr} (hk : Heap.ExtBut a h h') : Step (fun b => b = a) η η h h' :=
  ⟨⟨[], by simp⟩, fun b o e n p => ⟨hk b o p e, n⟩⟩
theorem Step.extNew {η : List Addr} {h h' : Heap} {a : Addr} (hk : Heap.ExtBut a h h') (hn : h.get? a = none) {P : Addr → Prop} : Step P η η h h' :=
  ⟨⟨[], by simp⟩, fun b o e n _ => ⟨hk b o (fun q => by rw [q, hn] at e; cases e) e, n⟩⟩
theorem Step.sameη {η : List Addr} {h h' : Heap} {a : Addr} (hk : Heap.SameBut a h h') (ha : a ∈ η) {P : Addr → Prop} : Step P η η h h' :=
  ⟨⟨[], by simp⟩, fun b o e n _ => ⟨hk.extBut b o (fun q => n (q ▸ ha)) e, n⟩⟩

mutual
theorem Rep.step {P : Addr → Prop} {η η' : List Addr} {h h' : Heap} (st : Step P η η' h h') (ns : NoSeq P h) : ∀ {v : Value} {d : PV}, Rep h η v d → Rep h' η' v d
  | _, _, .none => .none
  | _, _, .bool b => .bool b
  | _, _, .int i t => .int i t
  | _, _, .str x t => .str x t
  | _, _, .ty n => .ty n
  | _, _, .tup (a := a) hn ⟨o, ho, hc, n, hd⟩ r => by
    have k := st.keep a o ho hn fun p => ns a o p ho _ _ hd
    exact .tup k.2 ⟨o, k.1, hc, n, hd⟩ (RepAll.step st ns r)
  | _, _, .lst (a := a) hn ⟨n, ho⟩ r => by
    have k := st.keep a _ ho hn fun p => ns a _ p ho _ _ rfl
    exact .lst k.2 ⟨n, k.1⟩ (RepAll.step st ns r)
  | _, _, .loc e => .loc (st.getη e)
theorem RepAll.step {P : Addr → Prop} {η η' : List Addr} {h h' : Heap} (st : Step P η η' h h') (ns : NoSeq P h) : ∀ {vs : List Value} {ds : List PV}, RepAll h η vs ds → RepAll h' η' vs ds
  | _, _, .nil => .nil
  | _, _, .cons a r => .cons (Rep.step st ns a) (RepAll.step st ns r)
end

section
variable {h : Heap} {η : List Addr}
theorem RepAll.length {vs : List Value} {ds : List PV} (r : RepAll h η vs ds) : vs.length = ds.length := by
  induction vs generalizing ds with
  | nil => cases r; rfl
  | cons v vs ih => cases r with | cons a r => rw [List.length_cons, List.length_cons, ih r]
theorem RepAll.append {vs ws : List Value} {ds es : List PV} (r : RepAll h η vs ds) (q : RepAll h η ws es) : RepAll h η (vs ++ ws) (ds ++ es) := by
  induction vs generalizing ds with
  | nil => cases r; exact q
  | cons v vs ih => cases r with | cons a r => exact .cons a (ih r)
theorem RepAll.get {vs : List Value} {ds : List PV} (r : RepAll h η vs ds) {k : Nat} {d : PV} (e : ds[k]? = some d) : ∃ v, vs[k]? = some v ∧ Rep h η v d := by
  induction vs generalizing ds k with
  | nil => cases r; cases e
  | cons v vs ih =>
    cases r with
    | cons a r =>
      cases k with
      | zero => cases e; exact ⟨v, rfl, a⟩
      | succ k => exact ih r e
theorem RepAll.getV {vs : List Value} {ds : List PV} (r : RepAll h η vs ds) {k : Nat} {v : Value} (e : vs[k]? = some v) : ∃ d, ds[k]? = some d ∧ Rep h η v d := by
  induction vs generalizing ds k with
  | nil => cases e
  | cons w vs ih =>
    cases r with
    | cons a r =>
      cases k with
      | zero => cases e; exact ⟨_, rfl, a⟩
      | succ k => exact ih r e
theorem RepAll.take {vs : List Value} {ds : List PV} (r : RepAll h η vs ds) (n : Nat) : RepAll h η (vs.take n) (ds.take n) := by
  induction vs generalizing ds n with
  | nil => cases r; simp; exact .nil
  | cons w vs ih =>
    cases r with
    | cons a r =>
      cases n with
      | zero => exact .nil
      | succ n => exact .cons a (ih r n)
theorem RepAll.drop {vs : List Value} {ds : List PV} (r : RepAll h η vs ds) (n : Nat) : RepAll h η (vs.drop n) (ds.drop n) := by
  induction vs generalizing ds n with
  | nil => cases r; simp; exact .nil
  | cons w vs ih =>
    cases r with
    | cons a r =>
      cases n with
      | zero => exact .cons a r
      | succ n => exact ih r n
end

variable (prog : Program) (w : World)

/-- the kind of the dicts' keys: tuples of ints -/
abbrev tk : HeapKind prog w (List Int) := tupleKind (intKind prog w)

/-- what stands at a mutable place -/
noncomputable def RepObj (h : Heap) (η : List Addr) (a : Addr) : PO → Prop
  | .list ds => ∃ vs : List Value, h.PlainList a vs.toArray ∧ RepAll h η vs ds
  | .dict es => ∃ xs : List (List Int × Addr × Value), h.DictOfH (tk prog w) a xs ∧ xs.map (·.1) = es.map (·.1) ∧ (∀ x ∈ xs, x.2.1 ∉ η) ∧ RepAll h η (xs.map (·.2.2)) (es.map (·.2))

structure Ok (B : Heap) (η : List Addr) (σ : Store) (h : Heap) : Prop where
  base : ∀ b o, B.get? b = some o → h.get? b = some o ∧ b ∉ η
  nodup : η.Nodup
  len : η.length = σ.length
  stat : ∃ o, B.get? cStatics = some o
  low : ∀ a ∈ η, cStatics < a
  objs : ∀ (i : Nat) (a : Addr) (o : PO), η[i]? = some a → σ[i]? = some o → RepObj prog w h η a o

end Mine

set_option maxRecDepth 100000
namespace Mine
open PySem

/-- what a global name stands for -/
inductive GK where
  | no
  | fn
  | builtin
  | val (d : PV)

abbrev Glob := Str → GK
/-- the functions that have been shown: name, arguments, store to answer, store -/
abbrev Fns := Str → List PV → Store → Option (PV × Store)

noncomputable def xz (x : Str) : Option PV :=
  if x = "list" then some (.ty "list") else if x = "tuple" then some (.ty "tuple") else if x = "str" then some (.ty "str") else if x = "bool" then some (.ty "bool")
  else if x = "int" then some (.ty "int") else none
noncomputable def Glob.val? (G : Glob) (x : Str) : Option PV := match G x with | .val d => some d | .builtin => xz x | _ => none
noncomputable def Glob.isB (G : Glob) (x : Str) : Bool := match G x with | .builtin => true | _ => false
noncomputable def Glob.isF (G : Glob) (x : Str) : Bool := match G x with | .fn => true | _ => false

noncomputable def upd (ρ : Locals) (x : Str) (d : PV) : Locals := fun y => if y = x then some d else ρ y

/-- the items of a list, whichever kind -/
noncomputable def items? (σ : Store) : PV → Option (List PV)
  | .lst ds => some ds
  | .loc i => match σ[i]? with
    | some (.list ds) => some ds
    | _ => none
  | _ => none

/-- the keys of a dict -/
noncomputable def keys? (σ : Store) : PV → Option (List (List Int))
  | .loc i => match σ[i]? with
    | some (.dict es) => some (es.map (·.1))
    | _ => none
  | _ => none

noncomputable def yv : Const → Option PV
  | .none => some .none
  | .bool b => some (.bool b)
  | .int i => some (.int i)
  | .str x => some (.str x)
  | _ => none

/-- an index that lies in a sequence -/
noncomputable def idxP (i : Int) (n : Nat) : Option Nat :=
  if 0 ≤ i ∧ i < n ∧ i < 2 ^ 63 then some i.toNat else none

noncomputable def binP : Operator → PV → PV → Option PV
  | .Add, .int a, .int b => some (.int (a + b))
  | .Sub, .int a, .int b => some (.int (a - b))
  | .Mult, .int a, .int b => if a.natAbs < 2 ^ 62 ∨ b.natAbs < 2 ^ 62 then some (.int (a * b)) else none
  | .FloorDiv, .int a, .int b => if b ≠ 0 ∧ b.natAbs < 1073741824 then some (.int (a.fdiv b)) else none
  | .Mod, .int a, .int b => if b ≠ 0 then some (.int (a.fmod b)) else none
  | .Add, .str x, .str y => if x.length + y.length ≤ sizeLine then some (.str (x ++ y)) else none
  | _, _, _ => none

mutual
noncomputable def datOf : PV → Option PyData
  | .none => some .none
  | .bool b => some (.bool b)
  | .int i => some (.int i)
  | .str x => some (.str x)
  | .tup ds => (datsOf ds).map .tuple
  | .lst ds => (datsOf ds).map .list
  | .loc _ => none
  | .ty _ => none
noncomputable def datsOf : List PV → Option (List PyData)
  | [] => some []
  | d :: ds => match datOf d, datsOf ds with
    | some x, some xs => some (x :: xs)
    | _, _ => none
end

noncomputable def datP (σ : Store) : PV → Option PyData
  | .loc i => match σ[i]? with
    | some (.list ds) => (datsOf ds).map .list
    | _ => none
  | d => datOf d

/-- what the kit's comparison serves -/
noncomputable def shapedP (d : PyData) : Bool := d.canLay0 && decide (d.depth ≤ 16)

noncomputable def eqP (σ : Store) : PV → PV → Option Bool
  | .int a, .int b => some (a == b)
  | .bool a, .bool b => some (a == b)
  | .str x, .str y => some (x == y)
  | a, b => match datP σ a, datP σ b with
    | some x, some y => if shapedP x && shapedP y then some (PyData.eqv x y) else none
    | _, _ => none

noncomputable def keyOf : List PV → Option (List Int)
  | [] => some []
  | .int i :: r => (keyOf r).map (i :: ·)
  | _ => none

noncomputable def find (k : List Int) (es : List (List Int × PV)) : Option PV := (es.find? fun e => decide (e.1 = k)).map (·.2)
noncomputable def put (k : List Int) (d : PV) (es : List (List Int × PV)) : List (List Int × PV) :=
  if (find k es).isSome then es.map (fun e => if e.1 = k then (e.1, d) else e) else es ++ [(k, d)]

/-- x in a container -/
noncomputable def inP (σ : Store) : PV → PV → Option Bool
  | .str y, .str x => some !(Builtin.Str.occurrences x y 0 x.length 1).isEmpty
  | .tup ks, .loc i => match σ[i]?, keyOf ks with
    | some (.dict es), some k => some (find k es).isSome
    | _, _ => none
  | _, _ => none

noncomputable def cmpP (σ : Store) : CmpOp → PV → PV → Option PV
  | .Lt, .int a, .int b => some (.bool (decide (a < b)))
  | .LtE, .int a, .int b => some (.bool (decide (a ≤ b)))
  | .Gt, .int a, .int b => some (.bool (decide (b < a)))
  | .GtE, .int a, .int b => some (.bool (decide (b ≤ a)))
  | .Eq, a, b => (eqP σ a b).map .bool
  | .NotEq, a, b => (eqP σ a b).map fun c => .bool (!c)
  | .In, a, b => (inP σ a b).map .bool
  | .NotIn, .str a, .str b => (inP σ (.str a) (.str b)).map fun c => .bool (!c)
  | _, _, _ => none

/-- isinstance, where the texts ask it -/
noncomputable def isiP (σ : Store) (d : PV) (t : String) : Option Bool :=
  if t = "list" then (match items? σ d with | some _ => some true | none => none)
  else if t = "str" then (match d with | .str _ => some true | _ => none)
  else if t = "bool" then (match d with | .bool _ => some true | .int _ => some false | _ => none)
  else if t = "int" then (match d with | .int _ => some true | _ => none)
  else none

/-- the built-in functions that are served -/
noncomputable def callB (f : Str) (vs : List PV) (σ : Store) : Option PV :=
  if f = "len" then
    match vs with
    | [.str x] => if x.length ≤ sizeLine then some (.int x.length) else none
    | [.tup ds] => if ds.length ≤ sizeLine then some (.int ds.length) else none
    | [d] => match items? σ d with
      | some ds => if ds.length ≤ sizeLine then some (.int ds.length) else none
      | none => none
    | _ => none
  else if f = "max" then
    match vs with
    | [.int a, .int b] => some (.int (if b > a then b else a))
    | _ => none
  else if f = "min" then
    match vs with
    | [.int a, .int b] => some (.int (if b < a then b else a))
    | _ => none
  else if f = "int" then
    match vs with
    | [.bool b] => some (.int (if b then 1 else 0))
    | _ => none
  else if f = "list" then
    match vs with
    | [d] => match items? σ d with
      | some ds => if ds.length ≤ sizeLine then some (.lst ds) else none
      | none => match keys? σ d with
        | some ks => if ks.length ≤ sizeLine then some (.lst (ks.map fun k => .tup (k.map .int))) else none
        | none => none
    | _ => none
  else if f = "isinstance" then
    match vs with
    | [d, .ty T] => (isiP σ d T).map .bool
    | _ => none
  else none

/-- the type of what a method is asked of -/
noncomputable def recvT (σ : Store) : PV → Option Bool
  | .lst _ => some true
  | .loc i => match σ[i]? with
    | some (.list _) => some true
    | some (.dict _) => some false
    | none => none
  | _ => none

/-- the methods that are served: of a list (true), of a dict (false) -/
noncomputable def methP (T : Bool) (name : Str) (o : PV) (vs : List PV) (σ : Store) : Option (PV × Store) :=
  match T with
  | true =>
    if name = "append" then
      match o, vs with
      | .loc i, [d] => match σ[i]? with
        | some (.list ds) => if ds.length ≤ sizeLine then some (.none, σ.set i (.list (ds ++ [d]))) else none
        | _ => none
      | _, _ => none
    else if name = "pop" then
      match o, vs with
      | .loc i, [] => match σ[i]? with
        | some (.list ds) => match ds.getLast? with
          | some d => if ds.length ≤ sizeLine then some (d, σ.set i (.list ds.dropLast)) else none
          | none => none
        | _ => none
      | _, _ => none
    else none
  | false =>
    if name = "pop" then
      match o, vs with
      | .loc i, [.tup ks] => match σ[i]?, keyOf ks with
        | some (.dict es), some k => match find k es with
          | some d => if es.length ≤ sizeLine then some (d, σ.set i (.dict (es.filter fun e => !decide (e.1 = k)))) else none
          | none => none
        | _, _ => none
      | _, _ => none
    else if name = "get" then
      match o, vs with
      | .loc i, [.tup ks, d] => match σ[i]?, keyOf ks with
        | some (.dict es), some k => some ((find k es).getD d, σ)
        | _, _ => none
      | _, _ => none
    else none

noncomputable def subP (σ : Store) : PV → PV → Option PV
  | .str x, .int i => match idxP i x.length with
    | some j => (x.cps[j]?).map fun c => .str ⟨#[c]⟩
    | none => none
  | .tup ds, .int i => match idxP i ds.length with
    | some j => ds[j]?
    | none => none
  | .lst ds, .int i => match idxP i ds.length with
    | some j => ds[j]?
    | none => none
  | .loc l, .int i => match σ[l]? with
    | some (.list ds) => (match idxP i ds.length with
      | some j => ds[j]?
      | none => none)
    | _ => none
  | .loc l, .tup ks => match σ[l]?, keyOf ks with
    | some (.dict es), some k => find k es
    | _, _ => none
  | _, _ => none

/-- an item stored -/
noncomputable def setP (σ : Store) : PV → PV → PV → Option Store
  | .loc l, .tup ks, d => match σ[l]?, keyOf ks with
    | some (.dict es), some k => if es.length ≤ sizeLine then some (σ.set l (.dict (put k d es))) else none
    | _, _ => none
  | _, _, _ => none

/-- a slice from a written place to a written place -/
noncomputable def sliceP : PV → Const → Const → Option PV
  | .lst ds, .int lo, .int hi => if 0 ≤ lo ∧ lo ≤ hi ∧ ds.length ≤ sizeLine then some (.lst ((ds.take hi.toNat).drop lo.toNat)) else none
  | _, _, _ => none

section
variable (Φ : Fns) (G : Glob)
mutual
noncomputable def evalE : Expr → Locals → Store → Option (PV × Store)
  | .Constant c _ _, _, σ => match yv c with
    | some d => some (d, σ)
    | none => none
  | .Name x _, ρ, σ => match ρ x with
    | some d => some (d, σ)
    | none => match G.val? x with
      | some d => some (d, σ)
      | none => none
  | .BinOp l op r _, ρ, σ => match evalE l ρ σ with
    | none => none
    | some (a, σ₁) => match evalE r ρ σ₁ with
      | none => none
      | some (b, σ₂) => match binP op a b with
        | some d => some (d, σ₂)
        | none => none
  | .UnaryOp .Not x _, ρ, σ => match evalE x ρ σ with
    | some (.bool b, σ₁) => some (.bool (!b), σ₁)
    | _ => none
  | .UnaryOp .USub x _, ρ, σ => match evalE x ρ σ with
    | some (.int i, σ₁) => some (.int (-i), σ₁)
    | _ => none
  | .BoolOp op vs _, ρ, σ => evalB op vs ρ σ
  | .Compare l [op] [r] _, ρ, σ => match evalE l ρ σ with
    | none => none
    | some (a, σ₁) => match evalE r ρ σ₁ with
      | none => none
      | some (b, σ₂) => match cmpP σ₂ op a b with
        | some d => some (d, σ₂)
        | none => none
  | .Call (.Name f _) args [] _, ρ, σ =>
    match evalEs args ρ σ with
      | none => none
      | some (vs, σ₁) => match G f with
        | .fn => Φ f vs σ₁
        | .builtin => match callB f vs σ₁ with
          | some d => some (d, σ₁)
          | none => none
        | _ => none
  | .Call (.Attribute (.Name x p) name _) args [] _, ρ, σ => match ρ x with
    | none => none
    | some o => match recvT σ o with
      | none => none
      | some T => match evalEs args ρ σ with
        | none => none
        | some (vs, σ₁) => methP T name o vs σ₁
  | .Subscript v (.Slice (some (.Constant lo _ _)) (some (.Constant hi _ _)) none _) _, ρ, σ => match evalE v ρ σ with
    | none => none
    | some (a, σ₁) => match sliceP a lo hi with
      | some d => some (d, σ₁)
      | none => none
  | .Subscript v i _, ρ, σ => match evalE v ρ σ with
    | none => none
    | some (a, σ₁) => match evalE i ρ σ₁ with
      | none => none
      | some (b, σ₂) => match subP σ₂ a b with
        | some d => some (d, σ₂)
        | none => none
  | .List elts _, ρ, σ => match evalEs elts ρ σ with
    | some (ds, σ₁) => if ds.length ≤ sizeLine then some (.lst ds, σ₁) else none
    | none => none
  | .Tuple elts _ _, ρ, σ => match evalEs elts ρ σ with
    | some (ds, σ₁) => if ds.length ≤ sizeLine then some (.tup ds, σ₁) else none
    | none => none
  | _, _, _ => none
noncomputable def evalEs : List Expr → Locals → Store → Option (List PV × Store)
  | [], _, σ => some ([], σ)
  | e :: es, ρ, σ => match evalE e ρ σ with
    | none => none
    | some (d, σ₁) => match evalEs es ρ σ₁ with
      | none => none
      | some (ds, σ₂) => some (d :: ds, σ₂)
noncomputable def evalB : BoolOp → List Expr → Locals → Store → Option (PV × Store)
  | _, [], _, _ => none
  | _, [e], ρ, σ => evalE e ρ σ
  | op, e :: es, ρ, σ => match evalE e ρ σ with
    | some (.bool b, σ₁) => match op, b with
      | .And, false => some (.bool false, σ₁)
      | .Or, true => some (.bool true, σ₁)
      | _, _ => evalB op es ρ σ₁
    | _ => none
end
mutual
/-- a test, as the machine takes it -/
noncomputable def evalT : Expr → Locals → Store → Option (Bool × Store)
  | .UnaryOp .Not x _, ρ, σ => match evalT x ρ σ with
    | some (b, σ₁) => some (!b, σ₁)
    | none => none
  | .BoolOp op vs _, ρ, σ => evalTs op vs ρ σ
  | .IfExp .., _, _ => none
  | e, ρ, σ => match evalE Φ G e ρ σ with
    | some (.bool b, σ₁) => some (b, σ₁)
    | _ => none
noncomputable def evalTs : BoolOp → List Expr → Locals → Store → Option (Bool × Store)
  | op, [], _, σ => some (op == .And, σ)
  | op, e :: es, ρ, σ => match evalT e ρ σ with
    | none => none
    | some (b, σ₁) => match op, b with
      | .And, false => some (false, σ₁)
      | .Or, true => some (true, σ₁)
      | _, _ => evalTs op es ρ σ₁
end

end

noncomputable def isSlice : Expr → Bool
  | .Slice .. => true
  | _ => false
noncomputable def isName : Expr → Bool
  | .Name .. => true
  | _ => false

/-! what the text's names must be -/
section
variable (G : Glob) (kd : Str → Option NameKind)
noncomputable def chkN (x : Str) : Bool := !(x == ("__debug__" : Str)) && (match kd x with
  | some .local => (G.val? x).isNone
  | some .cell => (G.val? x).isNone
  | some .globalImplicit => true
  | _ => false)
noncomputable def chkG (x : Str) : Bool := !(x == ("__debug__" : Str)) && (match kd x with
  | some .globalImplicit => true
  | _ => false)
noncomputable def chkL (x : Str) : Bool := (match kd x with
  | some .local => true
  | some .cell => true
  | _ => false)
mutual
noncomputable def chkE : Expr → Bool
  | .Constant .. => true
  | .Name x _ => chkN G kd x
  | .BinOp l _ r _ => chkE l && chkE r
  | .UnaryOp _ x _ => chkE x
  | .BoolOp _ vs _ => chkEs vs
  | .Compare l _ rs _ => chkE l && chkEs rs
  | .Call (.Name f _) args [] _ => chkG kd f && chkEs args
  | .Call (.Attribute (.Name x _) _ apos) args [] pos => chkN G kd x && (apos.endLine == pos.line) && chkEs args
  | .Subscript v i _ => if isSlice i then isName v && chkE v else chkE v && chkE i
  | .List elts _ => chkEs elts
  | .Tuple elts _ _ => chkEs elts
  | .Dict [] [] _ => true
  | _ => false
noncomputable def chkEs : List Expr → Bool
  | [] => true
  | e :: es => chkE e && chkEs es
end
noncomputable def chkNm : Expr → Bool
  | .Name x _ => chkL kd x
  | _ => false
noncomputable def chkT : Expr → Bool
  | .Name x _ => chkL kd x
  | .Tuple es _ _ => es.all (chkNm kd)
  | .Subscript v i _ => chkE G kd v && chkE G kd i
  | _ => false
mutual
noncomputable def chkS : Stmt → Bool
  | .Expr e _ => chkE G kd e
  | .Return (some e) _ => chkE G kd e
  | .If t b o _ => chkE G kd t && chkSs b && chkSs o
  | .Assign [.Subscript o i _] e _ => chkE G kd o && chkE G kd i && chkE G kd e
  | .Assign [t] e _ => chkT G kd t && chkE G kd e
  | .For (.Tuple ts k p) e b o _ => chkT G kd (.Tuple ts k p) && chkE G kd e && chkSs b && chkSs o
  | .For (.Name x _) e b o _ => chkL kd x && chkE G kd e && chkSs b && chkSs o
  | .While t b o _ => chkE G kd t && chkSs b && chkSs o
  | .Raise .. => true
  | _ => false
noncomputable def chkSs : List Stmt → Bool
  | [] => true
  | s :: r => chkS s && chkSs r
end
end

section
variable (Φ : Fns) (G : Glob)
inductive Fl where
  | next
  | ret (d : PV)

abbrev Run := Locals → Store → Option (Fl × Locals × Store)

/-- bind a target -/
noncomputable def bindNames : List Expr → List PV → Locals → Option Locals
  | [], [], ρ => some ρ
  | .Name x _ :: es, d :: ds, ρ => bindNames es ds (upd ρ x d)
  | _, _, _ => none
noncomputable def bindT : Expr → PV → Locals → Option Locals
  | .Name x _, d, ρ => some (upd ρ x d)
  | .Tuple es _ _, .tup ds, ρ => bindNames es ds ρ
  | _, _, _ => none

noncomputable def forL (bind : PV → Locals → Option Locals) (run : Run) : List PV → Locals → Store → Option (Fl × Locals × Store)
  | [], ρ, σ => some (.next, ρ, σ)
  | d :: ds, ρ, σ => match bind d ρ with
    | none => none
    | some ρ₁ => match run ρ₁ σ with
      | none => none
      | some (.next, ρ₂, σ₂) => forL bind run ds ρ₂ σ₂
      | some (.ret v, ρ₂, σ₂) => some (.ret v, ρ₂, σ₂)

noncomputable def forLoc (bind : PV → Locals → Option Locals) (run : Run) (l : Nat) : Nat → Nat → Locals → Store → Option (Fl × Locals × Store)
  | 0, _, _, _ => none
  | n + 1, i, ρ, σ => match σ[l]? with
    | some (.list ds) => match ds[i]? with
      | none => some (.next, ρ, σ)
      | some d => match bind d ρ with
        | none => none
        | some ρ₁ => match run ρ₁ σ with
          | none => none
          | some (.next, ρ₂, σ₂) => forLoc bind run l n (i + 1) ρ₂ σ₂
          | some (.ret v, ρ₂, σ₂) => some (.ret v, ρ₂, σ₂)
    | _ => none

noncomputable def whileL (test : Locals → Store → Option (Bool × Store)) (run : Run) : Nat → Run
  | 0, _, _ => none
  | n + 1, ρ, σ => match test ρ σ with
    | none => none
    | some (false, σ₁) => some (.next, ρ, σ₁)
    | some (true, σ₁) => match run ρ σ₁ with
      | none => none
      | some (.next, ρ₂, σ₂) => whileL test run n ρ₂ σ₂
      | some (.ret v, ρ₂, σ₂) => some (.ret v, ρ₂, σ₂)

/-- the ints of a range -/
noncomputable def rangeP (a b st : Int) : List PV := (List.range (Builtin.Range.rangeSize a b st).toNat).map fun (i : Nat) => .int (a + (i : Int) * st)

noncomputable def rangeOk (a b st : Int) : Bool := decide (a.natAbs < 2 ^ 61) && decide (b.natAbs < 2 ^ 61) && decide (0 < st) && decide (st < 1000)
noncomputable def rangeArgs : List PV → Option (List PV)
  | [.int b] => if rangeOk 0 b 1 then some (rangeP 0 b 1) else none
  | [.int a, .int b] => if rangeOk a b 1 then some (rangeP a b 1) else none
  | [.int a, .int b, .int st] => if rangeOk a b st then some (rangeP a b st) else none
  | _ => none

noncomputable def whileMost : Nat := 100000000

/-- the arguments of a call of range -/
noncomputable def rangeOf (G : Glob) : Expr → Option (List Expr)
  | .Call (.Name f _) args [] _ => if f = "range" ∧ G.isB f = true then some args else none
  | _ => none

mutual
noncomputable def execS : Stmt → Run
  | .Expr (.Call f args kws p) _, ρ, σ => match evalE Φ G (.Call f args kws p) ρ σ with
    | some (_, σ₁) => some (.next, ρ, σ₁)
    | none => none
  | .Return (some e) _, ρ, σ => match evalE Φ G e ρ σ with
    | some (d, σ₁) => some (.ret d, ρ, σ₁)
    | none => none
  | .If test body orelse _, ρ, σ => match evalT Φ G test ρ σ with
    | none => none
    | some (b, σ₁) => if b then execSs body ρ σ₁ else execSs orelse ρ σ₁
  | .Assign [.Name x _] (.List [] _) _, ρ, σ => some (.next, upd ρ x (.loc σ.length), σ ++ [.list []])
  | .Assign [.Name x _] (.List [e] _) _, ρ, σ => match evalE Φ G e ρ σ with
    | some (d, σ₁) => some (.next, upd ρ x (.loc σ₁.length), σ₁ ++ [.list [d]])
    | none => none
  | .Assign [.Name x _] (.Dict [] [] _) _, ρ, σ => some (.next, upd ρ x (.loc σ.length), σ ++ [.dict []])
  | .Assign [.Name x _] e _, ρ, σ => match evalE Φ G e ρ σ with
    | some (d, σ₁) => some (.next, upd ρ x d, σ₁)
    | none => none
  | .Assign [.Tuple ts k p] (.Tuple ..) _, _, _ => none
  | .Assign [.Tuple ts k p] e _, ρ, σ => match evalE Φ G e ρ σ with
    | some (d, σ₁) => match bindT (.Tuple ts k p) d ρ with
      | some ρ₁ => some (.next, ρ₁, σ₁)
      | none => none
    | none => none
  | .Assign [.Subscript o i _] e _, ρ, σ => match evalE Φ G e ρ σ with
    | none => none
    | some (d, σ₁) => match evalE Φ G o ρ σ₁ with
      | none => none
      | some (a, σ₂) => match evalE Φ G i ρ σ₂ with
        | none => none
        | some (b, σ₃) => match setP σ₃ a b d with
          | some σ₄ => some (.next, ρ, σ₄)
          | none => none
  | .For (.Tuple ts k p) e body [] _, ρ, σ => match evalE Φ G e ρ σ with
    | some (.tup ds, σ₁) => forL (bindT (.Tuple ts k p)) (fun ρ σ => execSs body ρ σ) ds ρ σ₁
    | _ => none
  | .For (.Name x p) e body [] _, ρ, σ => match rangeOf G e with
    | some args => match evalEs Φ G args ρ σ with
      | none => none
      | some (vs, σ₁) => match rangeArgs vs with
        | some ds => forL (bindT (.Name x p)) (fun ρ σ => execSs body ρ σ) ds ρ σ₁
        | none => none
    | none => match evalE Φ G e ρ σ with
      | some (.lst ds, σ₁) => forL (bindT (.Name x p)) (fun ρ σ => execSs body ρ σ) ds ρ σ₁
      | some (.tup ds, σ₁) => forL (bindT (.Name x p)) (fun ρ σ => execSs body ρ σ) ds ρ σ₁
      | some (.str y, σ₁) => forL (bindT (.Name x p)) (fun ρ σ => execSs body ρ σ) (y.cps.toList.map fun c => .str ⟨#[c]⟩) ρ σ₁
      | some (.loc l, σ₁) => match items? σ₁ (.loc l) with
        | some ds => forLoc (bindT (.Name x p)) (fun ρ σ => execSs body ρ σ) l (ds.length + 1) 0 ρ σ₁
        | none => none
      | _ => none
  | .While test body [] _, ρ, σ => whileL (fun ρ σ => evalT Φ G test ρ σ) (fun ρ σ => execSs body ρ σ) whileMost ρ σ
  | _, _, _ => none
noncomputable def execSs : List Stmt → Run
  | [], ρ, σ => some (.next, ρ, σ)
  | st :: rest, ρ, σ => match execS st ρ σ with
    | none => none
    | some (.next, ρ₁, σ₁) => execSs rest ρ₁ σ₁
    | some (f, ρ₁, σ₁) => some (f, ρ₁, σ₁)
end
end

/-! unfolding, one row a shape -/
section
variable {Φ : Fns} {G : Glob} {ρ : Locals} {σ : Store} {p pos : Pos} {x y : Str} {e l r v : Expr} {es args : List Expr} {n k : Nat}
theorem zB {c : Const} : evalE Φ G (.Constant c k pos) ρ σ = match yv c with
    | some d => some (d, σ)
    | none => none := rfl
theorem yc : evalE Φ G (.Name x pos) ρ σ = match ρ x with
    | some d => some (d, σ)
    | none => match G.val? x with
      | some d => some (d, σ)
      | none => none := rfl
theorem zC {op : Operator} : evalE Φ G (.BinOp l op r pos) ρ σ = match evalE Φ G l ρ σ with
    | none => none
    | some (a, σ₁) => match evalE Φ G r ρ σ₁ with
      | none => none
      | some (b, σ₂) => match binP op a b with
        | some d => some (d, σ₂)
        | none => none := rfl
theorem yM : evalE Φ G (.UnaryOp .Not e pos) ρ σ = match evalE Φ G e ρ σ with
    | some (.bool b, σ₁) => some (.bool (!b), σ₁)
    | _ => none := rfl
theorem yd : evalE Φ G (.UnaryOp .USub e pos) ρ σ = match evalE Φ G e ρ σ with
    | some (.int i, σ₁) => some (.int (-i), σ₁)
    | _ => none := rfl
theorem zl {op : BoolOp} : evalE Φ G (.BoolOp op es pos) ρ σ = evalB Φ G op es ρ σ := rfl
theorem yN {op : CmpOp} : evalE Φ G (.Compare l [op] [r] pos) ρ σ = match evalE Φ G l ρ σ with
    | none => none
    | some (a, σ₁) => match evalE Φ G r ρ σ₁ with
      | none => none
      | some (b, σ₂) => match cmpP σ₂ op a b with
        | some d => some (d, σ₂)
        | none => none := rfl
theorem ye : evalE Φ G (.Call (.Name x p) args [] pos) ρ σ = match evalEs Φ G args ρ σ with
      | none => none
      | some (vs, σ₁) => match G x with
        | .fn => Φ x vs σ₁
        | .builtin => match callB x vs σ₁ with
          | some d => some (d, σ₁)
          | none => none
        | _ => none := rfl
theorem yf {ap : Pos} : evalE Φ G (.Call (.Attribute (.Name x p) y ap) args [] pos) ρ σ = match ρ x with
    | none => none
    | some o => match recvT σ o with
      | none => none
      | some T => match evalEs Φ G args ρ σ with
        | none => none
        | some (vs, σ₁) => methP T y o vs σ₁ := rfl
theorem zD {lo hi : Const} {k1 k2 : Nat} {p1 p2 p3 : Pos} : evalE Φ G (.Subscript v (.Slice (some (.Constant lo k1 p1)) (some (.Constant hi k2 p2)) none p3) pos) ρ σ = match evalE Φ G v ρ σ with
    | none => none
    | some (a, σ₁) => match sliceP a lo hi with
      | some d => some (d, σ₁)
      | none => none := rfl
/-- an item read, whatever the index -/
noncomputable def subE (Φ : Fns) (G : Glob) (v i : Expr) (ρ : Locals) (σ : Store) : Option (PV × Store) := match evalE Φ G v ρ σ with
    | none => none
    | some (a, σ₁) => match evalE Φ G i ρ σ₁ with
      | none => none
      | some (b, σ₂) => match subP σ₂ a b with
        | some d => some (d, σ₂)
        | none => none
theorem zG : subE Φ G v e ρ σ = match evalE Φ G v ρ σ with
    | none => none
    | some (a, σ₁) => match evalE Φ G e ρ σ₁ with
      | none => none
      | some (b, σ₂) => match subP σ₂ a b with
        | some d => some (d, σ₂)
        | none => none := rfl
theorem zE : evalE Φ G (.Subscript v (.Name x p) pos) ρ σ = subE Φ G v (.Name x p) ρ σ := rfl
theorem zm {c : Const} : evalE Φ G (.Subscript v (.Constant c k p) pos) ρ σ = subE Φ G v (.Constant c k p) ρ σ := rfl
theorem zn {op : Operator} : evalE Φ G (.Subscript v (.BinOp l op r p) pos) ρ σ = subE Φ G v (.BinOp l op r p) ρ σ := rfl
theorem zF {ks : List Keyword} : evalE Φ G (.Subscript v (.Call e args ks p) pos) ρ σ = subE Φ G v (.Call e args ks p) ρ σ := rfl
theorem yg {e' : Expr} : evalE Φ G (.Subscript v (.Subscript e e' p) pos) ρ σ = subE Φ G v (.Subscript e e' p) ρ σ := rfl
theorem zo : evalE Φ G (.Subscript v (.Tuple es k p) pos) ρ σ = subE Φ G v (.Tuple es k p) ρ σ := rfl
theorem yh : evalE Φ G (.List es pos) ρ σ = match evalEs Φ G es ρ σ with
    | some (ds, σ₁) => if ds.length ≤ sizeLine then some (.lst ds, σ₁) else none
    | none => none := rfl
theorem zH : evalE Φ G (.Tuple es k pos) ρ σ = match evalEs Φ G es ρ σ with
    | some (ds, σ₁) => if ds.length ≤ sizeLine then some (.tup ds, σ₁) else none
    | none => none := rfl
theorem yi : evalEs Φ G [] ρ σ = some ([], σ) := rfl
theorem zI : evalEs Φ G (e :: es) ρ σ = match evalE Φ G e ρ σ with
    | none => none
    | some (d, σ₁) => match evalEs Φ G es ρ σ₁ with
      | none => none
      | some (ds, σ₂) => some (d :: ds, σ₂) := rfl
theorem eb_nil {op : BoolOp} : evalB Φ G op [] ρ σ = none := rfl
theorem eb_one {op : BoolOp} : evalB Φ G op [e] ρ σ = evalE Φ G e ρ σ := rfl
theorem eb_cons {op : BoolOp} : evalB Φ G op (e :: l :: es) ρ σ = match evalE Φ G e ρ σ with
    | some (.bool b, σ₁) => match op, b with
      | .And, false => some (.bool false, σ₁)
      | .Or, true => some (.bool true, σ₁)
      | _, _ => evalB Φ G op (l :: es) ρ σ₁
    | _ => none := rfl
theorem yj : evalT Φ G (.UnaryOp .Not e pos) ρ σ = match evalT Φ G e ρ σ with
    | some (b, σ₁) => some (!b, σ₁)
    | none => none := rfl
theorem zc {op : BoolOp} : evalT Φ G (.BoolOp op es pos) ρ σ = evalTs Φ G op es ρ σ := rfl
/-- a test by its value -/
noncomputable def valT (r : Option (PV × Store)) : Option (Bool × Store) := match r with
    | some (.bool b, σ₁) => some (b, σ₁)
    | _ => none
theorem zd {b : Bool} : valT (some (.bool b, σ)) = some (b, σ) := rfl
theorem zJ : evalT Φ G (.Name x pos) ρ σ = valT (evalE Φ G (.Name x pos) ρ σ) := rfl
theorem zK {ks : List Keyword} : evalT Φ G (.Call e args ks pos) ρ σ = valT (evalE Φ G (.Call e args ks pos) ρ σ) := rfl
theorem yk {ops : List CmpOp} : evalT Φ G (.Compare l ops es pos) ρ σ = valT (evalE Φ G (.Compare l ops es pos) ρ σ) := rfl
theorem yl : evalT Φ G (.Subscript l r pos) ρ σ = valT (evalE Φ G (.Subscript l r pos) ρ σ) := rfl
theorem ets_nil {op : BoolOp} : evalTs Φ G op [] ρ σ = some (op == .And, σ) := rfl
theorem ets_cons {op : BoolOp} : evalTs Φ G op (e :: es) ρ σ = match evalT Φ G e ρ σ with
    | none => none
    | some (b, σ₁) => match op, b with
      | .And, false => some (false, σ₁)
      | .Or, true => some (true, σ₁)
      | _, _ => evalTs Φ G op es ρ σ₁ := rfl
end
section
variable {Φ : Fns} {G : Glob} {ρ : Locals} {σ : Store} {p q pos : Pos} {x y : Str} {e e' l r v t : Expr} {es args : List Expr} {k : Nat} {b o : List Stmt} {s : Stmt}
theorem ym {ks : List Keyword} : execS Φ G (.Expr (.Call e args ks p) pos) ρ σ = match evalE Φ G (.Call e args ks p) ρ σ with
    | some (_, σ₁) => some (.next, ρ, σ₁)
    | none => none := rfl
theorem yO : execS Φ G (.Return (some e) pos) ρ σ = match evalE Φ G e ρ σ with
    | some (d, σ₁) => some (.ret d, ρ, σ₁)
    | none => none := rfl
theorem xx : execS Φ G (.If t b o pos) ρ σ = match evalT Φ G t ρ σ with
    | none => none
    | some (c, σ₁) => if c then execSs Φ G b ρ σ₁ else execSs Φ G o ρ σ₁ := rfl
theorem yn : execS Φ G (.Assign [.Name x p] (.List [] q) pos) ρ σ = some (.next, upd ρ x (.loc σ.length), σ ++ [.list []]) := rfl
theorem yo : execS Φ G (.Assign [.Name x p] (.List [e] q) pos) ρ σ = match evalE Φ G e ρ σ with
    | some (d, σ₁) => some (.next, upd ρ x (.loc σ₁.length), σ₁ ++ [.list [d]])
    | none => none := rfl
theorem zL : execS Φ G (.Assign [.Name x p] (.Dict [] [] q) pos) ρ σ = some (.next, upd ρ x (.loc σ.length), σ ++ [.dict []]) := rfl
/-- a name stored -/
noncomputable def setN (ρ : Locals) (x : Str) (r : Option (PV × Store)) : Option (Fl × Locals × Store) := match r with
    | some (d, σ₁) => some (.next, upd ρ x d, σ₁)
    | none => none
theorem zf {d : PV} : setN ρ x (some (d, σ)) = some (.next, upd ρ x d, σ) := rfl
theorem yp : execS Φ G (.Assign [.Name x p] (.List (e :: e' :: es) q) pos) ρ σ = setN ρ x (evalE Φ G (.List (e :: e' :: es) q) ρ σ) := rfl
theorem zM : execS Φ G (.Assign [.Name x p] (.Name y q) pos) ρ σ = setN ρ x (evalE Φ G (.Name y q) ρ σ) := rfl
theorem zp {c : Const} : execS Φ G (.Assign [.Name x p] (.Constant c k q) pos) ρ σ = setN ρ x (evalE Φ G (.Constant c k q) ρ σ) := rfl
theorem zq {op : Operator} : execS Φ G (.Assign [.Name x p] (.BinOp l op r q) pos) ρ σ = setN ρ x (evalE Φ G (.BinOp l op r q) ρ σ) := rfl
theorem ze {op : BoolOp} : execS Φ G (.Assign [.Name x p] (.BoolOp op es q) pos) ρ σ = setN ρ x (evalE Φ G (.BoolOp op es q) ρ σ) := rfl
theorem zN {op : UnaryOp} : execS Φ G (.Assign [.Name x p] (.UnaryOp op e q) pos) ρ σ = setN ρ x (evalE Φ G (.UnaryOp op e q) ρ σ) := rfl
theorem yq {ops : List CmpOp} : execS Φ G (.Assign [.Name x p] (.Compare l ops es q) pos) ρ σ = setN ρ x (evalE Φ G (.Compare l ops es q) ρ σ) := rfl
theorem zO {ks : List Keyword} : execS Φ G (.Assign [.Name x p] (.Call e args ks q) pos) ρ σ = setN ρ x (evalE Φ G (.Call e args ks q) ρ σ) := rfl
theorem yr : execS Φ G (.Assign [.Name x p] (.Subscript l r q) pos) ρ σ = setN ρ x (evalE Φ G (.Subscript l r q) ρ σ) := rfl
theorem zr : execS Φ G (.Assign [.Name x p] (.Tuple es k q) pos) ρ σ = setN ρ x (evalE Φ G (.Tuple es k q) ρ σ) := rfl
/-- names stored at once -/
noncomputable def setT (ρ : Locals) (t : Expr) (r : Option (PV × Store)) : Option (Fl × Locals × Store) := match r with
    | some (d, σ₁) => match bindT t d ρ with
      | some ρ₁ => some (.next, ρ₁, σ₁)
      | none => none
    | none => none
theorem zP {ks : List Keyword} : execS Φ G (.Assign [.Tuple es k p] (.Call e args ks q) pos) ρ σ = setT ρ (.Tuple es k p) (evalE Φ G (.Call e args ks q) ρ σ) := rfl
theorem yt : execS Φ G (.Assign [.Tuple es k p] (.Subscript l r q) pos) ρ σ = setT ρ (.Tuple es k p) (evalE Φ G (.Subscript l r q) ρ σ) := rfl
theorem xs_sub {i : Expr} : execS Φ G (.Assign [.Subscript v i p] e pos) ρ σ = match evalE Φ G e ρ σ with
    | none => none
    | some (d, σ₁) => match evalE Φ G v ρ σ₁ with
      | none => none
      | some (a, σ₂) => match evalE Φ G i ρ σ₂ with
        | none => none
        | some (b, σ₃) => match setP σ₃ a b d with
          | some σ₄ => some (.next, ρ, σ₄)
          | none => none := rfl
theorem zg {d : PV} : setT ρ t (some (d, σ)) = match bindT t d ρ with
      | some ρ₁ => some (.next, ρ₁, σ)
      | none => none := rfl
theorem yA : bindNames [] [] ρ = some ρ := rfl
theorem zY {d : PV} {ds : List PV} : bindNames (.Name x p :: es) (d :: ds) ρ = bindNames es ds (upd ρ x d) := rfl
theorem zX {d : PV} : bindT (.Name x p) d ρ = some (upd ρ x d) := rfl
theorem yz {ds : List PV} : bindT (.Tuple es k p) (.tup ds) ρ = bindNames es ds ρ := rfl
theorem x_for : execS Φ G (.For (.Name x p) e b [] pos) ρ σ = match rangeOf G e with
    | some args => match evalEs Φ G args ρ σ with
      | none => none
      | some (vs, σ₁) => match rangeArgs vs with
        | some ds => forL (bindT (.Name x p)) (fun ρ σ => execSs Φ G b ρ σ) ds ρ σ₁
        | none => none
    | none => match evalE Φ G e ρ σ with
      | some (.lst ds, σ₁) => forL (bindT (.Name x p)) (fun ρ σ => execSs Φ G b ρ σ) ds ρ σ₁
      | some (.tup ds, σ₁) => forL (bindT (.Name x p)) (fun ρ σ => execSs Φ G b ρ σ) ds ρ σ₁
      | some (.str y, σ₁) => forL (bindT (.Name x p)) (fun ρ σ => execSs Φ G b ρ σ) (y.cps.toList.map fun c => .str ⟨#[c]⟩) ρ σ₁
      | some (.loc l, σ₁) => match items? σ₁ (.loc l) with
        | some ds => forLoc (bindT (.Name x p)) (fun ρ σ => execSs Φ G b ρ σ) l (ds.length + 1) 0 ρ σ₁
        | none => none
      | _ => none := rfl
theorem x_forT : execS Φ G (.For (.Tuple es k p) e b [] pos) ρ σ = match evalE Φ G e ρ σ with
    | some (.tup ds, σ₁) => forL (bindT (.Tuple es k p)) (fun ρ σ => execSs Φ G b ρ σ) ds ρ σ₁
    | _ => none := rfl
theorem x_while : execS Φ G (.While t b [] pos) ρ σ = whileL (fun ρ σ => evalT Φ G t ρ σ) (fun ρ σ => execSs Φ G b ρ σ) whileMost ρ σ := rfl
theorem yu : execSs Φ G [] ρ σ = some (.next, ρ, σ) := rfl
theorem zQ : execSs Φ G (s :: b) ρ σ = match execS Φ G s ρ σ with
    | none => none
    | some (.next, ρ₁, σ₁) => execSs Φ G b ρ₁ σ₁
    | some (f, ρ₁, σ₁) => some (f, ρ₁, σ₁) := rfl
end
section
variable {G : Glob} {kd : Str → Option NameKind} {p q pos : Pos} {x y : Str} {e l r v t : Expr} {es args : List Expr} {k : Nat} {b o : List Stmt} {s : Stmt}
theorem ck_name : chkE G kd (.Name x pos) = chkN G kd x := rfl
theorem ck_binop {op : Operator} : chkE G kd (.BinOp l op r pos) = (chkE G kd l && chkE G kd r) := rfl
theorem ck_unop {op : UnaryOp} : chkE G kd (.UnaryOp op e pos) = chkE G kd e := rfl
theorem ck_boolop {op : BoolOp} : chkE G kd (.BoolOp op es pos) = chkEs G kd es := rfl
theorem ck_cmp {ops : List CmpOp} : chkE G kd (.Compare l ops es pos) = (chkE G kd l && chkEs G kd es) := rfl
theorem ck_call : chkE G kd (.Call (.Name x p) args [] pos) = (chkG kd x && chkEs G kd args) := rfl
theorem ck_meth {ap : Pos} : chkE G kd (.Call (.Attribute (.Name x p) y ap) args [] pos) = (chkN G kd x && (ap.endLine == pos.line) && chkEs G kd args) := rfl
theorem ck_slice {a b c : Option Expr} : chkE G kd (.Subscript (.Name x p) (.Slice a b c q) pos) = chkN G kd x := rfl
theorem ck_sub : chkE G kd (.Subscript v e pos) = if isSlice e then isName v && chkE G kd v else chkE G kd v && chkE G kd e := rfl
theorem ck_list : chkE G kd (.List es pos) = chkEs G kd es := rfl
theorem ck_tuple : chkE G kd (.Tuple es k pos) = chkEs G kd es := rfl
theorem ck_nil : chkEs G kd [] = true := rfl
theorem ck_cons : chkEs G kd (e :: es) = (chkE G kd e && chkEs G kd es) := rfl
theorem ct_name : chkT G kd (.Name x pos) = chkL kd x := rfl
theorem ct_tuple : chkT G kd (.Tuple es k pos) = es.all (chkNm kd) := rfl
theorem cn_name : chkNm kd (.Name x pos) = chkL kd x := rfl
theorem cs_expr : chkS G kd (.Expr e pos) = chkE G kd e := rfl
theorem cs_ret : chkS G kd (.Return (some e) pos) = chkE G kd e := rfl
theorem cs_if : chkS G kd (.If t b o pos) = (chkE G kd t && chkSs G kd b && chkSs G kd o) := rfl
theorem cs_name : chkS G kd (.Assign [.Name x p] e pos) = (chkT G kd (.Name x p) && chkE G kd e) := rfl
theorem cs_tuple : chkS G kd (.Assign [.Tuple es k p] e pos) = (chkT G kd (.Tuple es k p) && chkE G kd e) := rfl
theorem cs_for : chkS G kd (.For (.Name x p) e b o pos) = (chkL kd x && chkE G kd e && chkSs G kd b && chkSs G kd o) := rfl
theorem cs_forT : chkS G kd (.For (.Tuple es k p) e b o pos) = (chkT G kd (.Tuple es k p) && chkE G kd e && chkSs G kd b && chkSs G kd o) := rfl
theorem cs_sub {i : Expr} : chkS G kd (.Assign [.Subscript v i p] e pos) = (chkE G kd v && chkE G kd i && chkE G kd e) := rfl
theorem cs_while : chkS G kd (.While t b o pos) = (chkE G kd t && chkSs G kd b && chkSs G kd o) := rfl
theorem cs_nil : chkSs G kd [] = true := rfl
theorem cs_cons : chkSs G kd (s :: b) = (chkS G kd s && chkSs G kd b) := rfl
end

end Mine

set_option maxRecDepth 100000
namespace Mine
open PySem

variable {prog : Program} {w : World}

theorem keyKeep {h h' : Heap} {ks : List Int} {a : Addr} (x : (tk prog w).is h ks a) (hk : ∀ o, h.get? a = some o → h'.get? a = some o) : (tk prog w).is h' ks a := by
  obtain ⟨o, items, n, e, r⟩ := x
  exact ⟨o, items, n, hk _ e, r⟩

theorem keyTup {h : Heap} {ks : List Int} {a : Addr} (x : (tk prog w).is h ks a) : ∃ o items n, h.get? a = some o ∧ o.data = .seq items n := by
  obtain ⟨o, items, n, e, _, d, _⟩ := x
  exact ⟨o, items, n, e, d⟩

/-- an object at a mutable place, over a stretch that leaves that place alone -/
theorem RepObj.step {P : Addr → Prop} {η η' : List Addr} {h h' : Heap} (st : Step P η η' h h') (ns : NoSeq P h) {a : Addr} {o : PO} (ha : ∀ ob, h.get? a = some ob → h'.get? a = some ob)
    (r : RepObj prog w h η a o) : RepObj prog w h' η' a o := by
  cases o with
  | list ds =>
    obtain ⟨vs, p, q⟩ := r
    exact ⟨vs, p.at ha, q.step st ns⟩
  | dict es =>
    obtain ⟨xs, ⟨ob, ea, ep, e1, e2, e3, e4, e5, e6⟩, k, n, q⟩ := r
    have kk : ∀ x ∈ xs, (tk prog w).is h' x.1 x.2.1 ∧ x.2.1 ∉ η' := fun x hx => by
      obtain ⟨o', items, n', g, d⟩ := keyTup (e5 x hx)
      have s1 := st.keep x.2.1 o' g (n x hx) fun p => ns _ _ p g _ _ d
      exact ⟨keyKeep (e5 x hx) fun o'' g' => by rw [g] at g'; cases g'; exact s1.1, s1.2⟩
    exact ⟨xs, ⟨ob, ea, ep, ha _ e1, e2, e3, e4, fun x hx => (kk x hx).1, e6⟩, k, fun x hx => (kk x hx).2, q.step st ns⟩

/-- nothing that the store knows is touched -/
theorem Ok.keep {P : Addr → Prop} {B : Heap} {η : List Addr} {σ : Store} {h h' : Heap} (k : Ok prog w B η σ h) (hk : ∀ b o, h.get? b = some o → ¬ P b → h'.get? b = some o) (ns : NoSeq P h)
    (hP : ∀ b, P b → b ∉ η ∧ B.get? b = none) : Ok prog w B η σ h' := by
  refine ⟨fun b o e => ⟨hk b o (k.base b o e).1 fun p => ?_, (k.base b o e).2⟩, k.nodup, k.len, k.stat, k.low, fun i a o e1 e2 => ?_⟩
  · rw [(hP b p).2] at e; cases e
  · exact RepObj.step (P := P) ⟨⟨[], by simp⟩, fun b o e n p => ⟨hk b o e p, n⟩⟩ ns (fun ob e => hk a ob e fun p => (hP a p).1 (List.mem_of_getElem? e1)) (k.objs i a o e1 e2)
theorem Ok.ext {B : Heap} {η : List Addr} {σ : Store} {h h' : Heap} (k : Ok prog w B η σ h) (hk : ∀ b o, h.get? b = some o → h'.get? b = some o) : Ok prog w B η σ h' :=
  k.keep (P := fun _ => False) (fun b o e _ => hk b o e) (NoSeq.bot h) fun _ f => f.elim

theorem Ok.fresh {B : Heap} {η : List Addr} {σ : Store} {h : Heap} (k : Ok prog w B η σ h) : h.objs.size ∉ η := fun hm => by
  obtain ⟨i, hi, e⟩ := List.getElem_of_mem hm
  have e1 : η[i]? = some h.objs.size := by rw [List.getElem?_eq_getElem hi, e]
  have hi' : i < σ.length := by rw [← k.len]; exact hi
  have r := k.objs i _ (σ[i]'hi') e1 (List.getElem?_eq_getElem hi')
  have : ∃ o, h.get? h.objs.size = some o := by
    cases q : σ[i]'hi' with
    | list ds => rw [q] at r; obtain ⟨vs, ⟨n, p⟩, _⟩ := r; exact ⟨_, p⟩
    | dict es => rw [q] at r; obtain ⟨xs, ⟨ob, _, _, p, _⟩, _⟩ := r; exact ⟨_, p⟩
  obtain ⟨o, g⟩ := this
  exact Nat.lt_irrefl _ (Heap.lt_size g)

/-- a new mutable object -/
theorem Ok.alloc {B : Heap} {η : List Addr} {σ : Store} {h : Heap} (k : Ok prog w B η σ h) (ob : Obj) (o : PO) (ho : RepObj prog w (h.push ob) (η ++ [h.objs.size]) h.objs.size o) :
    Ok prog w B (η ++ [h.objs.size]) (σ ++ [o]) (h.push ob) := by
  have st : Step (fun _ => False) η (η ++ [h.objs.size]) h (h.push ob) := Step.pushη ob
  refine ⟨fun b x e => st.keep b x (k.base b x e).1 (k.base b x e).2 id, ?_, by simp [k.len], k.stat, fun a ha => ?_, fun i a o' e1 e2 => ?_⟩
  · refine List.nodup_append.mpr ⟨k.nodup, by simp, ?_⟩
    rintro a ha b hb rfl
    exact k.fresh (by simpa using (List.mem_singleton.mp hb) ▸ ha)
  · rcases List.mem_append.mp ha with ha | ha
    · exact k.low a ha
    · obtain ⟨x, hx⟩ := k.stat
      rw [List.mem_singleton.mp ha]
      exact Heap.lt_size (k.base _ _ hx).1
  · by_cases hi : i < η.length
    · rw [List.getElem?_append_left hi] at e1
      rw [List.getElem?_append_left (by rw [← k.len]; exact hi)] at e2
      exact RepObj.step st (NoSeq.bot h) (fun x e => Heap.get?_push_of_some ob e) (k.objs i a o' e1 e2)
    · have hi' : i = η.length := by
        have := (List.getElem?_eq_some_iff.mp e1).1
        simp at this; omega
      subst hi'
      rw [List.getElem?_append_right (Nat.le_refl _)] at e1
      rw [List.getElem?_append_right (by rw [k.len]; exact Nat.le_refl _), k.len] at e2
      simp at e1 e2
      subst e1 e2
      exact ho

/-- a mutable object is changed -/
theorem Ok.set {B : Heap} {η : List Addr} {σ : Store} {h h' : Heap} (k : Ok prog w B η σ h) {i : Nat} {a : Addr} (ha : η[i]? = some a) (hs : Heap.SameBut a h h') {o : PO} (ho : RepObj prog w h' η a o) :
    Ok prog w B η (σ.set i o) h' := by
  have hm : a ∈ η := List.mem_of_getElem? ha
  have st : Step (fun _ => False) η η h h' := Step.sameη hs hm
  refine ⟨fun b x e => st.keep b x (k.base b x e).1 (k.base b x e).2 id, k.nodup, by simp [k.len], k.stat, k.low, fun j b o' e1 e2 => ?_⟩
  by_cases hj : j = i
  · subst hj
    rw [ha] at e1; cases e1
    have : j < σ.length := by
      have := (List.getElem?_eq_some_iff.mp e2).1
      simpa using this
    rw [List.getElem?_set_self this] at e2
    cases e2
    exact ho
  · have hne : b ≠ a := fun q => by
      subst q
      have h1 := (List.getElem?_eq_some_iff.mp ha).1
      exact hj ((List.getElem?_inj h1 k.nodup).mp (ha.trans e1.symm)).symm
    rw [List.getElem?_set_ne (Ne.symm hj)] at e2
    exact RepObj.step st (NoSeq.bot h) (fun x e => (hs.2 b hne).trans e) (k.objs j b o' e1 e2)

theorem RepObj.lst {B : Heap} {η : List Addr} {σ : Store} {h : Heap} (k : Ok prog w B η σ h) {i : Nat} {a : Addr} {ds : List PV} (ha : η[i]? = some a) (hs : σ[i]? = some (.list ds)) :
    ∃ vs : List Value, h.PlainList a vs.toArray ∧ RepAll h η vs ds := k.objs i a _ ha hs
/-- the items of a list value, as the heap holds them -/
theorem items_of {B : Heap} {η : List Addr} {σ : Store} {h : Heap} (k : Ok prog w B η σ h) {v : Value} {d : PV} {ds : List PV} (r : Rep h η v d) (e : items? σ d = some ds) :
    ∃ a vs, v = .ref a ∧ h.PlainList a (List.toArray vs) ∧ RepAll h η vs ds := by
  cases r with
  | lst hn p q => simp only [items?, Option.some.injEq] at e; subst e; exact ⟨_, _, rfl, p, q⟩
  | loc ha =>
    simp only [items?] at e
    split at e
    · rename_i hs
      cases e
      obtain ⟨vs, p, q⟩ := RepObj.lst k ha hs
      exact ⟨_, vs, rfl, p, q⟩
    · cases e
  | _ => simp [items?] at e

end Mine

set_option maxRecDepth 100000
namespace Mine
open PySem PySem.Spec PyProof.Rows

variable {prog : Program} {w : World} {A : Around} {E : Value → Shared → Prop} {s : Shared} {B : Heap} {η : List Addr} {σ : Store}

abbrev Ext (h h' : Heap) : Prop := ∀ b o, h.get? b = some o → h'.get? b = some o
theorem Ext.refl (h : Heap) : Ext h h := fun _ _ e => e
theorem Ext.push (h : Heap) (o : Obj) : Ext h (h.push o) := fun _ _ e => Heap.get?_push_of_some o e

theorem Rep.ext {h h' : Heap} {v : Value} {d : PV} (r : Rep h η v d) (x : Ext h h') : Rep h' η v d := r.step (P := fun _ => False) (Step.ext x) (NoSeq.bot h)
theorem RepAll.ext {h h' : Heap} {vs : List Value} {ds : List PV} (r : RepAll h η vs ds) (x : Ext h h') : RepAll h' η vs ds := r.step (P := fun _ => False) (Step.ext x) (NoSeq.bot h)

/-- a new list that nothing may change -/
theorem rep_newList {h : Heap} (k : Ok prog w B η σ h) {vs : List Value} {ds : List PV} (r : RepAll h η vs ds) {n : Nat} : Rep (h.push { cls := .type "list", data := .seq vs.toArray n }) η (.ref h.objs.size) (.lst ds) :=
  .lst k.fresh ⟨n, Heap.get?_push_size _ rfl⟩ (r.ext (Ext.push _ _))
theorem rep_newTup {h : Heap} (k : Ok prog w B η σ h) {vs : List Value} {ds : List PV} (r : RepAll h η vs ds) {n : Nat} : Rep (h.push { cls := .type "tuple", data := .seq vs.toArray n }) η (.ref h.objs.size) (.tup ds) :=
  .tup k.fresh ⟨_, Heap.get?_push_size _ rfl, rfl, n, rfl⟩ (r.ext (Ext.push _ _))

theorem mulOk {a b : Int} (h : a.natAbs < 2 ^ 62 ∨ b.natAbs < 2 ^ 62) : IntMulOk a b := by
  have key : ∀ x : Int, x.natAbs < 2 ^ 62 → ¬ Builtin.Int.intBits x > shortFactorBits := fun x hx hb => by
    have : Builtin.Int.intBits x ≤ 63 := by
      unfold Builtin.Int.intBits
      split
      · omega
      · rename_i h0
        have h1 : x.natAbs.log2 < 62 := (Nat.log2_lt (by simpa using h0)).mpr hx
        omega
    have e : shortFactorBits = 64 := rfl
    omega
  intro hc
  simp only [Bool.and_eq_true, decide_eq_true_eq] at hc
  rcases h with h | h
  · exact key a h hc.1.1
  · exact key b h hc.1.2

theorem bin_ok {op : Operator} {a b : Value} {x y d : PV} {Q : Value → Shared → Prop} (k : Ok prog w B η σ s.heap) (ra : Rep s.heap η a x) (rb : Rep s.heap η b y) (e : binP op x y = some d)
    (hQ : ∀ v h' tk, Ext s.heap h' → Rep h' η v d → Q v { s with heap := h', toks := tk }) : wpAny (model prog w) A (binaryOp op a b) Q E s := by
  unfold binP at e
  split at e
  · cases ra; cases rb; cases e; exact add_int (hQ _ s.heap _ (Ext.refl _) (.int _ _))
  · cases ra; cases rb; cases e; exact sub_int (hQ _ s.heap _ (Ext.refl _) (.int _ _))
  · split at e
    · rename_i hc
      cases ra; cases rb; cases e; exact mul_int (hQ _ s.heap _ (Ext.refl _) (.int _ _)) (mulOk hc)
    · cases e
  · split at e
    · rename_i hc
      cases ra; cases rb; cases e; exact floordiv_int hc.1 (hQ _ s.heap _ (Ext.refl _) (.int _ _)) (.inl (PyProof.noPylong_small hc.2))
    · cases e
  · split at e
    · rename_i hc
      cases ra; cases rb; cases e; exact mod_int' hc (hQ _ s.heap _ (Ext.refl _) (.int _ _))
    · cases e
  · split at e
    · rename_i hc
      cases ra; cases rb; cases e; exact add_str (fun t' tk => hQ _ s.heap _ (Ext.refl _) (.str _ _)) hc
    · cases e
  · cases e

-- a plain value, as the kit reads it
mutual
theorem rep_reads {h : Heap} : ∀ {v : Value} {d : PV} {x : PyData}, Rep h η v d → datOf d = some x → ∃ as, Reads h v x as
  | _, _, _, .none, e => by cases e; exact ⟨_, .none⟩
  | _, _, _, .bool b, e => by cases e; exact ⟨_, .bool b⟩
  | _, _, _, .int i t, e => by cases e; exact ⟨_, .int i t⟩
  | _, _, _, .str x t, e => by cases e; exact ⟨_, .str x t⟩
  | _, _, _, .tup _ ⟨o, ho, hc, n, hd⟩ r, e => by
    simp only [datOf, Option.map_eq_some_iff] at e
    obtain ⟨xs, e1, rfl⟩ := e
    obtain ⟨as, q⟩ := reps_reads r e1
    exact ⟨_, .tuple ho hc hd (by simpa using q)⟩
  | _, _, _, .lst _ ⟨n, ho⟩ r, e => by
    simp only [datOf, Option.map_eq_some_iff] at e
    obtain ⟨xs, e1, rfl⟩ := e
    obtain ⟨as, q⟩ := reps_reads r e1
    exact ⟨_, .list ho rfl rfl (by simpa using q)⟩
  | _, _, _, .loc _, e => by cases e
  | _, _, _, .ty _, e => by cases e
theorem reps_reads {h : Heap} : ∀ {vs : List Value} {ds : List PV} {xs : List PyData}, RepAll h η vs ds → datsOf ds = some xs → ∃ as, ReadsAll h vs xs as
  | _, _, _, .nil, e => by cases e; exact ⟨_, .nil⟩
  | _, _, _, .cons a r, e => by
    simp only [datsOf] at e
    split at e
    · rename_i x xs e1 e2
      cases e
      obtain ⟨as, q⟩ := rep_reads a e1
      obtain ⟨bs, p⟩ := reps_reads r e2
      exact ⟨_, .cons q p⟩
    · cases e
end

theorem dat_reads (k : Ok prog w B η σ s.heap) {v : Value} {d : PV} {x : PyData} (r : Rep s.heap η v d) (e : datP σ d = some x) : ∃ as, Reads s.heap v x as := by
  cases r with
  | loc ha =>
    simp only [datP] at e
    split at e
    · rename_i ds hs
      simp only [Option.map_eq_some_iff] at e
      obtain ⟨xs, e1, rfl⟩ := e
      obtain ⟨vs, ⟨n, p⟩, q⟩ := RepObj.lst k ha hs
      obtain ⟨as, q⟩ := reps_reads q e1
      exact ⟨_, .list p rfl rfl (by simpa using q)⟩
    · cases e
  | none => exact rep_reads (η := η) .none (by simpa [datP] using e)
  | bool b => exact rep_reads (η := η) (.bool b) (by simpa [datP] using e)
  | int i t => exact rep_reads (η := η) (.int i t) (by simpa [datP] using e)
  | str y t => exact rep_reads (η := η) (.str y t) (by simpa [datP] using e)
  | ty n => simp [datP, datOf] at e
  | tup h1 h2 h3 => exact rep_reads (.tup h1 h2 h3) (by simpa [datP] using e)
  | lst h1 h2 h3 => exact rep_reads (.lst h1 h2 h3) (by simpa [datP] using e)

theorem shaped_of {d : PyData} (h : shapedP d = true) : SeqAt.shaped d = true := by
  unfold shapedP at h
  unfold SeqAt.shaped
  simp only [Bool.and_eq_true, decide_eq_true_eq] at h ⊢
  exact ⟨h.1, by omega⟩

theorem eq_ok {a b : Value} {x y : PV} {c : Bool} {Q : Value → Shared → Prop} (k : Ok prog w B η σ s.heap) (hu : A.units + 64 < cLine) (ra : Rep s.heap η a x) (rb : Rep s.heap η b y) (e : eqP σ x y = some c)
    (hQ : Q (.bool c) s) : wpAny (model prog w) A (compareOp .Eq a b) Q E s := by
  unfold eqP at e
  split at e
  · cases ra; cases rb; cases e; exact eq_int hQ
  · cases ra; cases rb; cases e; exact eq_bool hQ
  · cases ra; cases rb; cases e; exact eq_str hQ
  · split at e
    · rename_i u v e1 e2
      split at e
      · rename_i hs
        simp only [Bool.and_eq_true] at hs
        cases e
        obtain ⟨as, q⟩ := dat_reads k ra e1
        obtain ⟨bs, p⟩ := dat_reads k rb e2
        exact SeqAt.compareEq_shaped q p (shaped_of hs.1) (shaped_of hs.2) hu hQ
      · cases e
    · cases e

theorem ne_ok {a b : Value} {x y : PV} {c : Bool} {Q : Value → Shared → Prop} (k : Ok prog w B η σ s.heap) (hu : A.units + 64 < cLine) (ra : Rep s.heap η a x) (rb : Rep s.heap η b y) (e : eqP σ x y = some c)
    (hQ : Q (.bool (!c)) s) : wpAny (model prog w) A (compareOp .NotEq a b) Q E s := by
  unfold eqP at e
  split at e
  · cases ra; cases rb; cases e; exact ne_int hQ
  · cases ra; cases rb; cases e; exact ne_bool hQ
  · cases ra; cases rb; cases e; exact ne_str hQ
  · split at e
    · rename_i u v e1 e2
      split at e
      · rename_i hs
        simp only [Bool.and_eq_true] at hs
        cases e
        obtain ⟨as, q⟩ := dat_reads k ra e1
        obtain ⟨bs, p⟩ := dat_reads k rb e2
        exact SeqAt.compareNe_shaped q p (shaped_of hs.1) (shaped_of hs.2) hu hQ
      · cases e
    · cases e

end Mine

set_option maxRecDepth 100000
namespace Mine
open PySem PySem.Spec PyProof.Rows

section
variable {prog : Program} {w : World} {A : Around} {E : Value → Shared → Prop} {s : Shared}

theorem erase_map {α β : Type} (f : α → β) : ∀ (l : List α) (j : Nat), (l.map f).eraseIdx j = (l.eraseIdx j).map f
  | [], _ => by simp
  | x :: l, 0 => by simp
  | x :: l, j + 1 => by simp [erase_map f l j]

/-- a dict as it lies, whatever its keys are -/
noncomputable def RawD (h : Heap) (d : Addr) (es : Array DictEntry) (ep : Nat) : Prop := ∃ o, h.get? d = some o ∧ o.ExactDict ∧ o.data = .dict es ep
theorem RawD.typeIs {d : Addr} {es : Array DictEntry} {ep : Nat} (x : RawD s.heap d es ep) : s.TypeIs (.ref d) "dict" := let ⟨o, ho, hc, _⟩ := x; ⟨o, ho, hc.1⟩
theorem RawD.keep {h h' : Heap} {d : Addr} {es : Array DictEntry} {ep : Nat} (x : RawD h d es ep) (hk : ∀ o, h.get? d = some o → h'.get? d = some o) : RawD h' d es ep := let ⟨o, ho, r⟩ := x; ⟨o, hk _ ho, r⟩

theorem raw_iter {d : Addr} {es : Array DictEntry} {ep : Nat} {Q : Value → Shared → Prop} (hd : (d == sysModules) = false) (hm : RawD s.heap d es ep)
    (hQ : Q (.ref s.heap.objs.size) { s with heap := s.heap.push { cls := .type "dict_keyiterator", data := .fields #[.ref d, .int 0 0, .int es.size 0, .int ep 0] } }) :
    wpAny (model prog w) A (pyIter (.ref d)) Q E s := by
  have hT := hm.typeIs
  obtain ⟨o, ho, hc, hdat⟩ := hm
  refine wpAny_pyIter_slot hT F.slot_dict_iter (wpAny_call_entry F.slot_dict_iter hT F.entry_dict_iter ?_ (F.args_dict_iter_1 _))
  unfold Builtin.«dict.__iter__»
  refine wpAny_bind ?_
  unfold Builtin.Dict.dictSlotNone
  refine wpAny_bind (wpAny_notOrdered_dict hT ?_)
  show wpAny _ _ (pure (Value.ref d)) _ _ s
  refine wpAny_pure ?_
  show wpAny _ _ (Builtin.Dict.showsAll d >>= _) _ _ s
  unfold Builtin.Dict.showsAll
  rw [if_neg (by rw [hd]; exact Bool.false_ne_true)]
  refine wpAny_bind (wpAny_pure ?_)
  refine wpAny_bind (wpAny_dictEntries ho hdat ?_)
  refine wpAny_bind (wpAny_dictEpoch ho hdat ?_)
  refine wpAny_bind (wpAny_newObj_type (wpAny_pure ⟨_, rfl, "dict_keyiterator", _, ⟨_, Heap.get?_push_size _ rfl, rfl⟩, F.slot_dict_keyiterator_next.lookup, ?_⟩))
  simpa [rawInt] using hQ

theorem raw_item {it d : Addr} {i ep : Nat} {es : Array DictEntry} {e : DictEntry} {Q : Option Value → Shared → Prop} (hit : s.heap.IsKeyIter it d i es.size ep) (hm : RawD s.heap d es ep) (hx : es[i]? = some e)
    (hQ : ∀ h', h'.IsKeyIter it d (i + 1) es.size ep → Heap.SameBut it s.heap h' → Q (some e.key) { s with heap := h' }) :
    wpAny (model prog w) A (pyNext (.ref it)) Q E s := by
  obtain ⟨o, ho, hc, hd⟩ := id hit
  obtain ⟨od, hod, hcd, hdd⟩ := id hm
  unfold pyNext
  refine wpAny_bind (wpAny_attempt (wpAny_callSpecial?_slot (name := Str.ofString "__next__") hit.typeIs F.slot_dict_keyiterator_next
    (wpAny_call_entry F.slot_dict_keyiterator_next hit.typeIs F.entry_dict_keyiterator_next ?_ (F.args_dict_keyiterator_next_1 _))))
  refine wpAny_bind (wpAny_pure ?_)
  refine wpAny_bind ?_
  refine wpAny_bind ?_
  first | refine wpAny_bind (wpAny_typeNameOfWhole_keyiter hit.typeIs (wpAny_pure ?_)) | refine wpAny_bind (wpAny_typeNameOf_keyiter hit.typeIs (wpAny_pure ?_))
  refine wpAny_bind (wpAny_fieldsOf ho hd ?_)
  have hown : Builtin.Dict_items.ownsTuple "dict_keyiterator" = false := by decide
  simp only [hown, Bool.false_eq_true, if_false]
  show wpAny _ _ (if (Value.ref d == Value.none) = true then _ else _) _ _ s
  rw [if_neg (show ¬ ((Value.ref d == Value.none) = true) from Bool.false_ne_true)]
  refine wpAny_bind (wpAny_pure ?_)
  refine wpAny_bind (wpAny_dictEntries hod hdd ?_)
  rw [if_neg (by simp)]
  refine wpAny_bind (wpAny_pure ?_)
  refine wpAny_bind (wpAny_dictEpoch hod hdd ?_)
  rw [if_neg (by simp)]
  refine wpAny_pure ?_
  simp only [show ¬ ((i : Int) < 0) from by omega, if_false, Int.toNat_natCast, hx]
  refine wpAny_bind ?_
  first | refine wpAny_bind (wpAny_typeNameOfWhole_keyiter hit.typeIs (wpAny_pure ?_)) | refine wpAny_bind (wpAny_typeNameOf_keyiter hit.typeIs (wpAny_pure ?_))
  refine wpAny_bind (wpAny_isOneOf_keyiter hit.typeIs ?_)
  show wpAny _ _ (setField (.ref it) 1 (rawInt ((i : Int) + 1)) >>= _) _ _ s
  refine wpAny_bind (wpAny_setField ho hd (by simp) ?_)
  have hit' : (s.heap.update it (Obj.mapFields (·.setIfInBounds 1 (rawInt ((i : Int) + 1))))).IsKeyIter it d (i + 1) es.size ep :=
    ⟨_, Heap.get?_update_self _ ho (Obj.isFreed_of_fields (Obj.data_mapFields hd _)), (Obj.cls_mapFields ..).trans hc, by rw [Obj.data_mapFields hd]; simp [rawInt]⟩
  refine wpAny_bind (wpAny_holding ?_)
  refine wpAny_bind (wpAny_isOneOf_keyiter (s := { s with heap := s.heap.update it (Obj.mapFields (·.setIfInBounds 1 (rawInt ((i : Int) + 1)))) }) hit'.typeIs ?_)
  show wpAny _ _ (pure e.key) _ _ _
  exact wpAny_pure (wpAny_pure ⟨_, rfl, wpAny_pure (hQ _ hit' (Heap.SameBut.update ..))⟩)

theorem raw_end {it d : Addr} {i ep : Nat} {es : Array DictEntry} {Q : Option Value → Shared → Prop} (hh : A.handled = none) (hit : s.heap.IsKeyIter it d i es.size ep) (hm : RawD s.heap d es ep) (hge : es.size ≤ i)
    (hQ : ∀ h', Heap.ExtBut it s.heap h' → Q none { s with heap := h' }) : wpAny (model prog w) A (pyNext (.ref it)) Q E s := by
  obtain ⟨o, ho, hc, hd⟩ := id hit
  obtain ⟨od, hod, hcd, hdd⟩ := id hm
  unfold pyNext
  refine wpAny_bind (wpAny_attempt (wpAny_callSpecial?_slot (name := Str.ofString "__next__") hit.typeIs F.slot_dict_keyiterator_next
    (wpAny_call_entry F.slot_dict_keyiterator_next hit.typeIs F.entry_dict_keyiterator_next ?_ (F.args_dict_keyiterator_next_1 _))))
  refine wpAny_bind (wpAny_pure ?_)
  refine wpAny_bind ?_
  refine wpAny_bind ?_
  first | refine wpAny_bind (wpAny_typeNameOfWhole_keyiter hit.typeIs (wpAny_pure ?_)) | refine wpAny_bind (wpAny_typeNameOf_keyiter hit.typeIs (wpAny_pure ?_))
  refine wpAny_bind (wpAny_fieldsOf ho hd ?_)
  have hown : Builtin.Dict_items.ownsTuple "dict_keyiterator" = false := by decide
  simp only [hown, Bool.false_eq_true, if_false]
  show wpAny _ _ (if (Value.ref d == Value.none) = true then _ else _) _ _ s
  rw [if_neg (show ¬ ((Value.ref d == Value.none) = true) from Bool.false_ne_true)]
  refine wpAny_bind (wpAny_pure ?_)
  refine wpAny_bind (wpAny_dictEntries hod hdd ?_)
  rw [if_neg (by simp)]
  refine wpAny_bind (wpAny_pure ?_)
  refine wpAny_bind (wpAny_dictEpoch hod hdd ?_)
  rw [if_neg (by simp)]
  refine wpAny_pure ?_
  simp only [show ¬ ((i : Int) < 0) from by omega, if_false, Int.toNat_natCast, Array.getElem?_eq_none hge]
  refine wpAny_bind ?_
  first | refine wpAny_bind (wpAny_typeNameOfWhole_keyiter hit.typeIs (wpAny_pure ?_)) | refine wpAny_bind (wpAny_typeNameOf_keyiter hit.typeIs (wpAny_pure ?_))
  show wpAny _ _ (setField (.ref it) 0 .none >>= _) _ _ s
  refine wpAny_bind (wpAny_setField ho hd (by simp) ?_)
  show wpAny _ _ (newExc (.type "StopIteration") [] >>= _) _ _ _
  refine wpAny_bind ?_
  simp only [newExc, newTuple]
  refine wpAny_bind (wpAny_newObj_type ?_ (by size_fits))
  refine wpAny_bind (m := firstArgMember _ _) (wpAny_of_eq (a := Value.none) (by first | rfl | (simp only [firstArgMember]; rfl)) ?_)
  refine wpAny_newObj_type ?_ (by size_fits)
  simp only [raiseNew]
  refine wpAny_bind (wpAny_handled ?_)
  rw [show A.in1.handled = none from hh]
  refine wpAny_bind (wpAny_pure (wpAny_throw ?_))
  refine wpAny_bind (wpAny_isInstance (T := "StopIteration") (b := true) ⟨_, Heap.get?_push_size _ rfl, rfl⟩ isSubtype_stop ?_)
  exact wpAny_pure (hQ _ (((Heap.SameBut.update ..).extBut.push _).push _))

theorem raw_walks (hh : A.handled = none) (I d : Addr) (hne : d ≠ I) (es : Array DictEntry) (ep : Nat) :
    Walks prog w A I [I, d] [I] es.size (fun i v => ∃ e, es[i]? = some e ∧ v = e.key) (fun i h => h.IsKeyIter I d i es.size ep ∧ RawD h d es ep) where
  sub := fun b hb => by simp at hb; simp [hb]
  frame := fun _ _ _ st hk => ⟨st.1.at fun o e => hk I (by simp) o e, st.2.keep fun o e => hk d (by simp) o e⟩
  item := fun i s Q E hi st hQ => by
    have hx : es[i]? = some es[i] := by simp [hi]
    refine raw_item st.1 st.2 hx fun h' hit' hs' => ?_
    exact hQ _ h' s.toks ⟨_, hx, rfl⟩ ⟨hit', st.2.keep fun o e => hs'.extBut d o hne e⟩ fun b o hb e => hs'.extBut b o (fun h => hb (by simp [h])) e
  done := fun s Q E st hQ => raw_end hh st.1 st.2 (Nat.le_refl _) fun h' he' => hQ h' s.toks fun b o hb e => he' b o (fun h => hb (by simp [h])) e
  self := fun _ _ _ _ st hQ => wpAny_pyIter_keyiter st.1 hQ

theorem dict_hint {r : Addr} {Q : Bool → Shared → Prop} (hT : s.TypeIs (.ref r) "dict") (h : Q false s) : wpAny (model prog w) A (Builtin.List.listLengthHint (.ref r)) Q E s := by
  unfold Builtin.List.listLengthHint
  refine wpAny_bind (wpAny_specialOf hT F.slot_dict_len.lookup ?_)
  generalize hid : ("dict.__len__" : String) = id0
  wp_delta
  rw [show splitId id0 = some ("dict", "__len__") from by subst hid; decide +kernel]
  subst hid
  refine wpAny_bind (wpAny_isInstance (T := "dict") (b := true) hT (by rw [isSubtype_type]; kernel_rfl) ?_)
  refine wpAny_ite_split (fun hab => absurd hab (by decide)) (fun _ => ?_)
  refine wpAny_ite_split (fun _ => ?_) (fun hab => absurd (by decide +kernel) hab)
  exact wpAny_bind (wpAny_typeOf hT (wpAny_pure h))

/-- list(d) -/
theorem list_of_dict {d : Addr} {es : Array DictEntry} {ep : Nat} {Q : Value → Shared → Prop} (hh : A.handled = none) (lo : (d == sysModules) = false) (hm : RawD s.heap d es ep) (hn : es.size ≤ sizeLine)
    (hQ : ∀ h' tk c', (∀ b o, s.heap.get? b = some o → h'.get? b = some o) → h'.get? s.heap.objs.size = some { cls := .type "list", dict := none, data := .seq (es.map (·.key)) c', slots := #[] } → Q (.ref s.heap.objs.size) { s with heap := h', toks := tk }) :
    wpAny (model prog w) A (call (.type "list") [.ref d]) Q E s := by
  have hlt : d < s.heap.objs.size := let ⟨_, ho, _⟩ := hm; Heap.lt_size ho
  have hdS : d ≠ s.heap.objs.size := Nat.ne_of_lt hlt
  refine callType_codes (Q₁ := fun obj s₁ => obj = .ref s.heap.objs.size ∧ s₁ = { s with heap := s.heap.push { cls := .type "list", data := .seq #[] } }) F.called_list (F.typeCall_list_1 _) F.entry_list_init
    (code_list_new _ ⟨rfl, rfl⟩) fun obj s₁ h₁ => ?_
  obtain ⟨rfl, rfl⟩ := h₁
  have hS : (s.heap.push { cls := .type "list", data := .seq #[] }).get? s.heap.objs.size = some { cls := .type "list", data := .seq #[] } := Heap.get?_push_size _ rfl
  refine ⟨⟨_, hS, rfl⟩, F.args_list_init_2 _ _, ?_⟩
  have old1 : ∀ b o, s.heap.get? b = some o → (s.heap.push { cls := .type "list", data := .seq #[] }).get? b = some o := fun b o e => Heap.get?_push_of_some _ e
  generalize s.heap.push { cls := .type "list", data := .seq #[] } = H1 at hS old1
  show wpAny _ _ (do let old ← Builtin.List.listItems (.ref s.heap.objs.size); Builtin.List.listUpdate (.ref s.heap.objs.size) (fun _ => #[]); letGo old.toList.reverse; Builtin.List.listExtendWith (.ref s.heap.objs.size) (.ref d) .none) _ _ _
  refine wpAny_bind ?_
  unfold Builtin.List.listItems
  refine wpAny_bind (wpAny_seqItems hS rfl (wpAny_pure ?_))
  show wpAny _ _ (updateSeq s.heap.objs.size (fun _ => #[]) >>= fun _ => letGo (#[] : Array Value).toList.reverse >>= fun _ => Builtin.List.listExtendWith (.ref s.heap.objs.size) (.ref d) .none) _ _ _
  refine wpAny_bind (wpAny_updateSeq hS rfl ?_)
  have hS2 := Heap.get?_update_self (Obj.mapSeq (fun _ => (#[] : Array Value))) hS rfl
  refine wpAny_bind (wpAny_letGo ?_)
  have old2 : ∀ b o, s.heap.get? b = some o → (H1.update s.heap.objs.size (Obj.mapSeq (fun _ => (#[] : Array Value)))).get? b = some o :=
    fun b o e => (Heap.get?_update_other _ _ (Ne.symm (Nat.ne_of_lt (Heap.lt_size e)))).trans (old1 b o e)
  obtain ⟨c0, hS2⟩ : ∃ c, (H1.update s.heap.objs.size (Obj.mapSeq (fun _ => (#[] : Array Value)))).get? s.heap.objs.size = some { cls := .type "list", data := .seq #[] c } := ⟨_, hS2⟩
  generalize H1.update s.heap.objs.size (Obj.mapSeq (fun _ => (#[] : Array Value))) = H2 at hS2 old2
  have hm2 : RawD H2 d es ep := hm.keep fun o e => old2 _ _ e
  have hSI : s.heap.objs.size ≠ H2.objs.size := Nat.ne_of_lt (Heap.lt_size hS2)
  have hdI : d ≠ H2.objs.size := let ⟨_, ho, _⟩ := hm2; Nat.ne_of_lt (Heap.lt_size ho)
  have W := raw_walks (prog := prog) (w := w) (A := A.in1.in1) hh H2.objs.size d hdI es ep
  have hSf : s.heap.objs.size ∉ [H2.objs.size, d] := by
    simp only [List.mem_cons, List.not_mem_nil, or_false, not_or]; exact ⟨hSI, Ne.symm hdS⟩
  unfold Builtin.List.listExtendWith
  refine wpAny_bind (wpAny_typeOf (T := "dict") hm2.typeIs ?_)
  have h1 : Builtin.List.listSameRef (.ref s.heap.objs.size) (.ref d) = false := by simp [Builtin.List.listSameRef, Ne.symm hdS]
  have h2 : (Value.type "dict" == Value.type "list") = false := by decide
  have h3 : (Value.type "dict" == Value.type "tuple") = false := by decide
  simp only [h1, h2, h3, Bool.or_false, Bool.false_eq_true, if_false]
  refine wpAny_bind (raw_iter lo hm2 ?_)
  have hS3 := Heap.get?_push_of_some { cls := .type "dict_keyiterator", data := .fields #[.ref d, .int 0 0, .int es.size 0, .int ep 0] } hS2
  have hI3 : (H2.push { cls := .type "dict_keyiterator", data := .fields #[.ref d, .int 0 0, .int es.size 0, .int ep 0] }).IsKeyIter H2.objs.size d 0 es.size ep := ⟨_, Heap.get?_push_size _ rfl, rfl, rfl⟩
  have old3 : ∀ b o, s.heap.get? b = some o → (H2.push { cls := .type "dict_keyiterator", data := .fields #[.ref d, .int 0 0, .int es.size 0, .int ep 0] }).get? b = some o := fun b o e => Heap.get?_push_of_some _ (old2 b o e)
  have hm3 : RawD (H2.push { cls := .type "dict_keyiterator", data := .fields #[.ref d, .int 0 0, .int es.size 0, .int ep 0] }) d es ep := hm.keep fun o e => old3 _ _ e
  generalize H2.push { cls := .type "dict_keyiterator", data := .fields #[.ref d, .int 0 0, .int es.size 0, .int ep 0] } = H3 at hS3 hI3 old3 hm3
  have key : ∀ (h : Heap) (c : Nat), h.IsKeyIter H2.objs.size d 0 es.size ep → RawD h d es ep → (∀ b o, s.heap.get? b = some o → h.get? b = some o) → h.get? s.heap.objs.size = some { cls := .type "list", data := .seq #[] c } →
      codeAny (model prog w) A.in1 (.builtin "list.extend.loop" ⟨[.ref s.heap.objs.size, .ref H2.objs.size, .none], []⟩) (wants (fun r s₂ => r = Value.none ∧ Q (.ref s.heap.objs.size) s₂) E) { s with heap := h } := by
    intro h c hi hr hk hl
    refine codeAny_extend_loopS W.toS hn s.heap.objs.size hSf .none es.size 0 _ #[] c rfl (Nat.zero_le _) ⟨hi, hr⟩ hl (ItemsOf.nil _) fun s' acc' c' hm' hS' hacc => ?_
    have hacc' : acc' = es.map (·.key) := by
      refine Array.ext_getElem? fun i => ?_
      by_cases hi : i < acc'.size
      · obtain ⟨e, he, hv⟩ := hacc.2 i acc'[i] (by simp [hi])
        rw [Array.getElem?_map, he, Array.getElem?_eq_getElem hi, hv]; rfl
      · rw [Array.getElem?_eq_none (Nat.le_of_not_lt hi), Array.getElem?_eq_none]
        rw [Array.size_map]; have := hacc.1; omega
    subst hacc'
    rw [Moved.eq_with hm']
    refine ⟨rfl, hQ s'.heap s'.toks c' (fun b o e => hm'.heap b o (fun hmem => ?_) (hk b o e)) hS'⟩
    rcases List.mem_cons.mp hmem with q | q
    · rw [q] at e; exact Nat.lt_irrefl _ (Heap.lt_size e)
    · rw [List.mem_singleton.mp q] at e; exact Nat.lt_irrefl _ (Heap.lt_size (old2 _ _ e))
  refine wpAny_bind (wpAny_holding (dict_hint hm3.typeIs ?_))
  refine wpAny_ite_split (fun _ => ?_) (fun _ => wpAny_pure ⟨plainId_quiet F.plain_extend_loop _, key _ c0 hI3 hm3 old3 hS3⟩)
  refine wpAny_bind (wpAny_rule ?_)
  refine wpAny_bind ?_
  show wpAny _ _ (updateSeq s.heap.objs.size (·.push .none) >>= fun _ => updateSeq s.heap.objs.size (·.pop)) _ _ _
  refine wpAny_bind (wpAny_updateSeq hS3 rfl ?_)
  have hS4 := Heap.get?_update_self (Obj.mapSeq (·.push Value.none)) hS3 rfl
  refine wpAny_updateSeq (hz := by seq_fits) hS4 rfl ?_
  have hS5 := Heap.get?_update_self (Obj.mapSeq (·.pop)) hS4 rfl
  have oth : ∀ b o, b ≠ s.heap.objs.size → H3.get? b = some o → ((H3.update s.heap.objs.size (Obj.mapSeq (·.push Value.none))).update s.heap.objs.size (Obj.mapSeq (·.pop))).get? b = some o :=
    fun b o hb e => (Heap.get?_update_other _ _ (Ne.symm hb)).trans ((Heap.get?_update_other _ _ (Ne.symm hb)).trans e)
  exact wpAny_pure ⟨plainId_quiet F.plain_extend_loop _, key _ _ (hI3.at fun o e => oth _ o (Ne.symm hSI) e) (hm3.keep fun o e => oth _ o hdS e) (fun b o e => oth b o (Nat.ne_of_lt (Heap.lt_size e)) (old3 b o e)) hS5⟩

/-- d.pop(k) -/
theorem dict_pop {d a : Addr} {xs : List (List Int × Addr × Value)} {k : List Int} {j : Nat} {p : Addr × Value} {Q : Value → Shared → Prop} (hu : A.units + 1 < cLine) (hkey : (tk prog w).is s.heap k a) (hm : s.heap.DictOfH (tk prog w) d xs)
    (hj : xs[j]? = some (k, p)) (hsz : xs.length ≤ sizeLine)
    (hQ : ∀ h' t, h'.DictOfH (tk prog w) d (xs.eraseIdx j) → Heap.SameBut d s.heap h' → Q p.2 { s with heap := h', toks := t }) : wpAny (model prog w) A (call (.builtin "dict.pop") [.ref d, .ref a]) Q E s := by
  have hT := hm.typeIs
  obtain ⟨o, es, ep, ho, hc, hd, he, his, hn⟩ := id hm
  have hes : es.size = xs.length := size_of_entries he
  have hjl : j < xs.length := (List.getElem?_eq_some_iff.mp hj).1
  refine wpAny_call_entry F.slot_dict_pop hT F.entry_dict_pop ?_ (F.args_dict_pop_2 _ _)
  unfold Builtin.«dict.pop»
  refine wpAny_bind ?_
  unfold Builtin.Dict.keyAndDefault
  refine wpAny_bind (wpAny_notOrdered_dict hT ?_)
  show wpAny _ _ (pure (d, Value.ref a, none)) _ _ s
  refine wpAny_pure ?_
  have hkp : (keyPart (Value.ref a)).isSome = false := rfl
  simp only [hkp, Bool.false_eq_true, if_false]
  refine wpAny_bind (wpAny_dictEntries ho hd (wpAny_bind (wpAny_pure ?_)))
  have hne : es.isEmpty = false := by rw [Array.isEmpty_eq_false_iff]; intro q; rw [q] at hes; simp at hes; omega
  simp only [hne, Bool.false_eq_true, if_false]
  refine wpAny_bind ?_
  unfold Builtin.Dict.takeOut
  refine wpAny_holding ?_
  refine wpAny_bind ((tk prog w).pyHash (tupleKind_room_in1 hu) hkey (wpAny_bind (wpAny_dictFind_heap (knd := tk prog w) (s := { s with toks := s.toks + (tk prog w).draws k }) (tupleKind_room_in1 hu) hkey ho hd he his hn ?_ ?_)))
  · intro hno; exact absurd hj (hno j p)
  · intro j' p' hj'
    have ejj : j' = j := idxH_unique hn hj' hj
    subst ejj
    rw [hj] at hj'
    cases hj'
    refine wpAny_bind (wpAny_dictEntries (s := { s with toks := s.toks + (tk prog w).draws k }) ho hd ?_)
    rw [entry_at he j', hj]
    refine wpAny_bind (wpAny_updateDictKeys (hz := by omega) (s := { s with toks := s.toks + (tk prog w).draws k }) ho hd (wpAny_pure ?_))
    show wpAny _ _ _ _ _ _
    simp only [Option.isNone_some, Bool.false_eq_true, if_false]
    refine wpAny_bind (wpAny_letGo (wpAny_pure ⟨_, rfl, hQ _ _ ⟨_, _, ep + 1, Heap.get?_update_self _ ho (Obj.isFreed_of_dict (Obj.data_mapDictKeys hd _)), hc.mapDictKeys _, Obj.data_mapDictKeys hd _, ?_, ?_, ?_⟩ (Heap.SameBut.update ..)⟩))
    · rw [Array.eraseIdxIfInBounds, dif_pos (by omega), Array.toList_eraseIdx, he, erase_map]
    · intro x hx
      exact (tk prog w).keeps (his x (List.mem_of_mem_eraseIdx hx)) ho hd (Heap.SameBut.update ..)
    · rw [← erase_map]; exact hn.eraseIdx _

/-- l.pop() -/
theorem list_pop {l : Addr} {vs : List Value} {v : Value} {Q : Value → Shared → Prop} (hl : s.heap.PlainList l (vs ++ [v]).toArray) (hsz : vs.length + 1 ≤ sizeLine)
    (hQ : ∀ h', h'.PlainList l vs.toArray → Heap.SameBut l s.heap h' → Q v { s with heap := h' }) : wpAny (model prog w) A (call (.builtin "list.pop") [.ref l]) Q E s := by
  obtain ⟨n, ho⟩ := hl
  refine call_meets F.slot_list_pop ⟨_, ho, rfl⟩ F.entry_list_pop (F.args_list_pop_1 _) (MeetsSeq.list_pop_last l (vs ++ [v]).toArray n v (by simp) (by simpa using hsz)) ⟨ho, ?_⟩
  refine hQ _ ⟨n + 1, ?_⟩ (Heap.SameBut.update ..)
  rw [Heap.get?_update_self _ ho rfl]
  simp [Obj.mapSeq, Array.eraseIdxIfInBounds, List.eraseIdx_append_of_length_le]
end
end Mine

set_option maxRecDepth 100000
namespace Mine
open PySem PySem.Spec PyProof.Rows

variable {prog : Program} {w : World} {A : Around} {E : Value → Shared → Prop} {s : Shared} {B : Heap} {η : List Addr} {σ : Store}

/-! keys -/
theorem key_items {h : Heap} {vs : List Value} {ds : List PV} {ks : List Int} (r : RepAll h η vs ds) (e : keyOf ds = some ks) : ItemsAre (intKind prog w) ks vs := by
  induction vs generalizing ds ks with
  | nil => cases r; cases e; exact .nil
  | cons v vs ih =>
    cases r with
    | cons a r =>
      cases a with
      | int i t =>
        simp only [keyOf, Option.map_eq_some_iff] at e
        obtain ⟨l, e1, rfl⟩ := e
        exact .cons (by show Value.isInt i (.int i t) = true; simp [Value.isInt]) (ih r e1)
      | _ => simp [keyOf] at e
theorem key_is {h : Heap} {a : Addr} {vs : List Value} {ds : List PV} {ks : List Int} (ht : h.IsTuple a vs.toArray) (r : RepAll h η vs ds) (e : keyOf ds = some ks) : (tk prog w).is h ks a := by
  obtain ⟨o, ho, hc, n, hd⟩ := ht
  exact ⟨o, _, n, ho, hc, hd, by simpa using key_items r e⟩

theorem find_at {xs : List (List Int × Addr × Value)} {es : List (List Int × PV)} {h : Heap} (k : List Int) (e : xs.map (·.1) = es.map (·.1)) (r : RepAll h η (xs.map (·.2.2)) (es.map (·.2))) :
    (find k es = none ∧ atKey xs k = none) ∨ ∃ d p, find k es = some d ∧ atKey xs k = some p ∧ Rep h η p.2 d := by
  induction xs generalizing es with
  | nil =>
    cases es with
    | nil => exact .inl ⟨rfl, rfl⟩
    | cons => cases e
  | cons x xs ih =>
    cases es with
    | nil => cases e
    | cons y es =>
      simp only [List.map_cons, List.cons.injEq] at e
      cases r with
      | cons a r =>
        by_cases hk : x.1 = k
        · refine .inr ⟨y.2, x.2, ?_, ?_, a⟩
          · unfold find; rw [List.find?_cons_of_pos (by simp [← e.1, hk])]; rfl
          · unfold atKey; rw [List.find?_cons_of_pos (by simp [hk])]; rfl
        · have h1 : find k (y :: es) = find k es := by unfold find; rw [List.find?_cons_of_neg (by simp [← e.1, hk])]
          have h2 : atKey (x :: xs) k = atKey xs k := by unfold atKey; rw [List.find?_cons_of_neg (by simp [hk])]
          rw [h1, h2]; exact ih e.2 r

theorem low_ne {a : Addr} (k : Ok prog w B η σ s.heap) (ha : a ∈ η) : (a == sysModules) = false := by
  have h1 := k.low a ha
  exact beq_eq_false_iff_ne.mpr fun q => absurd (q ▸ h1 : cStatics < sysModules) (by decide)

theorem key_rep {h : Heap} {a : Addr} {ks : List Int} (x : (tk prog w).is h ks a) (ha : a ∉ η) : Rep h η (.ref a) (.tup (ks.map .int)) := by
  obtain ⟨o, items, n, ho, hc, hd, hi⟩ := x
  have : ∀ {ks : List Int} {vs : List Value}, ItemsAre (intKind prog w) ks vs → RepAll h η vs (ks.map .int) := by
    intro ks vs hi
    induction hi with
    | nil => exact .nil
    | cons h1 _ ih =>
      obtain ⟨t, rfl⟩ := Value.isInt_shape h1
      exact .cons (.int _ _) ih
  exact .tup ha ⟨o, ho, hc, n, by simpa using hd⟩ (this hi)

theorem list_keys {d : PV} {v : Value} {ks : List (List Int)} {Q : Value → Shared → Prop} (k : Ok prog w B η σ s.heap) (hh : A.handled = none) (r : Rep s.heap η v d) (e : keys? σ d = some ks) (hc : ks.length ≤ sizeLine)
    (hQ : ∀ v h' tk, Ext s.heap h' → Rep h' η v (.lst (ks.map fun k => .tup (k.map .int))) → Q v { s with heap := h', toks := tk }) : wpAny (model prog w) A (call (.type "list") [v]) Q E s := by
  cases r with
  | loc ha =>
    rename_i a i
    simp only [keys?] at e
    split at e
    · rename_i es hσ
      cases e
      obtain ⟨xs, ⟨o, ea, ep, e1, e2, e3, e4, e5, e6⟩, hk, hn, r⟩ := (k.objs _ _ _ ha hσ : ∃ xs, _)
      have hsz : ea.size = xs.length := size_of_entries e4
      have hl : xs.length = (es.map (·.1)).length := by rw [← hk, List.length_map]
      refine list_of_dict hh (low_ne k (List.mem_of_getElem? ha)) ⟨o, e1, e2, e3⟩ (by omega) fun h' t c' hx hD => ?_
      refine hQ _ h' t hx (.lst k.fresh (vs := xs.map fun x => .ref x.2.1) ⟨c', ?_⟩ ?_)
      · rw [hD]
        have : ea.map (·.key) = (xs.map fun x => Value.ref x.2.1).toArray := by
          apply Array.toList_inj.mp
          rw [Array.toList_map, e4, List.map_map]
          rfl
        rw [this]
      · rw [← hk]
        have key : ∀ ys : List (List Int × Addr × Value), (∀ y ∈ ys, y ∈ xs) → RepAll h' η (ys.map fun x => .ref x.2.1) ((ys.map (·.1)).map fun k => .tup (k.map .int)) := by
          intro ys
          induction ys with
          | nil => intro _; exact .nil
          | cons y ys ih =>
            intro hy
            exact .cons (key_rep (keyKeep (e5 y (hy y (.head _))) fun o e => hx _ _ e) (hn y (hy y (.head _)))) (ih fun z hz => hy z (.tail _ hz))
        exact key xs fun _ h => h
    · cases e
  | _ => simp [keys?] at e

/-! comparisons -/
theorem in_ok {a b : Value} {x y : PV} {c : Bool} {Q : Value → Shared → Prop} (k : Ok prog w B η σ s.heap) (hu : A.units + 64 < cLine) (ra : Rep s.heap η a x) (rb : Rep s.heap η b y) (e : inP σ x y = some c)
    (hQ : ∀ tk, Q (.bool c) { s with toks := tk }) : wpAny (model prog w) A (compareOp .In a b) Q E s := by
  unfold inP at e
  split at e
  · cases ra; cases rb; cases e; exact in_str (hQ s.toks)
  · cases ra with
    | tup n1 t1 r1 =>
      cases rb with
      | loc hb =>
        split at e
        · rename_i es ks hs hk
          cases e
          obtain ⟨xs, hD, e1, n, r⟩ := (k.objs _ _ _ hb hs : ∃ xs, _)
          have hm := List.mem_of_getElem? hb
          refine wpAny_in_heap (knd := tk prog w) (tupleKind_room_in1 (by omega)) (key_is t1 r1 hk) (low_ne k hm) hD ?_
          rcases find_at ks e1 r with ⟨q1, q2⟩ | ⟨d, p, q1, q2, _⟩
          · rw [q2]; rw [q1] at hQ; exact hQ _
          · rw [q2]; rw [q1] at hQ; exact hQ _
        · cases e
  · cases e

theorem notIn_ok {a b : Value} {x y : Str} {c : Bool} {Q : Value → Shared → Prop} (ra : Rep s.heap η a (.str x)) (rb : Rep s.heap η b (.str y)) (e : inP σ (.str x) (.str y) = some c)
    (hQ : ∀ tk, Q (.bool (!c)) { s with toks := tk }) : wpAny (model prog w) A (compareOp .NotIn a b) Q E s := by
  cases ra; cases rb; cases e; exact notIn_str (hQ s.toks)

theorem vbool_beq (a b : Bool) : (Value.bool a == Value.bool b) = (a == b) := by cases a <;> cases b <;> rfl

theorem cmp_ok {op : CmpOp} {a b : Value} {x y d : PV} {Q : Value → Shared → Prop} (k : Ok prog w B η σ s.heap) (hu : A.units + 64 < cLine) (ra : Rep s.heap η a x) (rb : Rep s.heap η b y) (e : cmpP σ op x y = some d)
    (hQ : ∀ c tk, d = .bool c → Q (.bool c) { s with toks := tk }) : wpAny (model prog w) A (compareOp op a b) Q E s := by
  unfold cmpP at e
  split at e
  · cases ra; cases rb; cases e; exact lt_int (hQ _ s.toks rfl)
  · cases ra; cases rb; cases e; exact le_int (hQ _ s.toks rfl)
  · cases ra; cases rb; cases e; exact gt_int (hQ _ s.toks rfl)
  · cases ra; cases rb; cases e; exact ge_int (hQ _ s.toks rfl)
  · obtain ⟨c, e1, rfl⟩ := Option.map_eq_some_iff.mp e; exact eq_ok k hu ra rb e1 (hQ _ s.toks rfl)
  · obtain ⟨c, e1, rfl⟩ := Option.map_eq_some_iff.mp e; exact ne_ok k hu ra rb e1 (hQ _ s.toks rfl)
  · obtain ⟨c, e1, rfl⟩ := Option.map_eq_some_iff.mp e; exact in_ok k hu ra rb e1 fun tk => hQ _ tk rfl
  · obtain ⟨c, e1, rfl⟩ := Option.map_eq_some_iff.mp e; exact notIn_ok ra rb e1 fun tk => hQ _ tk rfl
  · cases e

theorem isi_ok {v : Value} {d : PV} {t : String} {b : Bool} {Q : Value → Shared → Prop} (k : Ok prog w B η σ s.heap) (r : Rep s.heap η v d) (e : isiP σ d t = some b)
    (hQ : ∀ tk, Q (.bool b) { s with toks := tk }) : wpAny (model prog w) A (call (.builtin "isinstance") [v, .type t]) Q E s := by
  unfold isiP at e
  split at e
  · rename_i ht
    subst ht
    split at e
    · rename_i ds hi
      cases e
      obtain ⟨x, vs, rfl, ⟨n, p⟩, q⟩ := items_of k r hi
      exact IsiPair.list_list p rfl (hQ s.toks)
    · cases e
  · split at e
    · rename_i ht
      subst ht
      split at e
      · cases e; cases r; exact IsiPair.str_str (hQ s.toks)
      · cases e
    · split at e
      · rename_i ht
        subst ht
        split at e
        · cases e; cases r; exact IsiPair.bool_bool (hQ s.toks)
        · cases e; cases r; exact IsiPair.int_bool (hQ _)
        · cases e
      · split at e
        · rename_i ht
          subst ht
          split at e
          · cases e; cases r; exact IsiPair.int_int (hQ s.toks)
          · cases e
        · cases e

/-! the built-in functions -/
noncomputable def bval (f : Str) : Value :=
  if f = "len" then .builtin "len" else if f = "max" then .builtin "max" else if f = "min" then .builtin "min" else if f = "int" then .type "int" else if f = "isinstance" then .builtin "isinstance" else .type "list"

theorem two24 : sizeLine = 16777216 := rfl

theorem callB_ok {f : Str} {vs : List PV} {ws : List Value} {d : PV} {Q : Value → Shared → Prop} (k : Ok prog w B η σ s.heap) (hh : A.handled = none) (r : RepAll s.heap η ws vs) (e : callB f vs σ = some d)
    (hQ : ∀ v h' tk, Ext s.heap h' → Rep h' η v d → Q v { s with heap := h', toks := tk }) : wpAny (model prog w) A (call (bval f) ws) Q E s := by
  have hs := two24
  unfold callB at e
  split at e
  · rename_i hf
    subst hf
    show wpAny (model prog w) A (call (.builtin "len") ws) Q E s
    split at e
    · split at e
      · rename_i hc
        cases e
        cases r with | cons a r => cases r; cases a with | str x t => exact len_str (by omega) (hQ _ s.heap _ (Ext.refl _) (.int _ _))
      · cases e
    · split at e
      · rename_i hc
        cases e
        cases r with
        | cons a r =>
          cases r
          cases a with
          | tup n1 t1 r1 =>
            have l1 := r1.length
            refine len_tuple t1 (by simp; omega) ?_
            rw [List.size_toArray, l1]
            exact hQ _ s.heap _ (Ext.refl _) (.int _ _)
      · cases e
    · split at e
      · rename_i ds hi
        split at e
        · rename_i hc
          cases e
          cases r with
          | cons a r =>
            cases r
            obtain ⟨x, vs, rfl, p, q⟩ := items_of k a hi
            have l1 := q.length
            refine Calls.call_len_list p.isList (by simp; omega) ?_
            have : ((List.toArray vs).size : Int) = (ds.length : Int) := by simp [l1]
            rw [this]
            exact hQ _ s.heap _ (Ext.refl _) (.int _ _)
        · cases e
      · cases e
    · cases e
  · split at e
    · rename_i hf
      subst hf
      show wpAny (model prog w) A (call (.builtin "max") ws) Q E s
      split at e
      · cases e
        cases r with
        | cons a r => cases r with | cons b r => cases r; cases a with | int i t => cases b with | int j u =>
          refine max_two_ints hh fun h' tk hk => ?_
          split
          · rename_i hc; exact hQ _ h' tk hk (by rw [if_pos hc]; exact .int _ _)
          · rename_i hc; exact hQ _ h' tk hk (by rw [if_neg hc]; exact .int _ _)
      · cases e
    · split at e
      · rename_i hf
        subst hf
        show wpAny (model prog w) A (call (.builtin "min") ws) Q E s
        split at e
        · cases e
          cases r with
          | cons a r => cases r with | cons b r => cases r; cases a with | int i t => cases b with | int j u =>
            refine min_two_ints hh fun h' tk hk => ?_
            split
            · rename_i hc; exact hQ _ h' tk hk (by rw [if_pos hc]; exact .int _ _)
            · rename_i hc; exact hQ _ h' tk hk (by rw [if_neg hc]; exact .int _ _)
        · cases e
      · split at e
        · rename_i hf
          subst hf
          show wpAny (model prog w) A (call (.type "int") ws) Q E s
          split at e
          · cases e
            cases r with
            | cons a r => cases r; cases a with | bool b => exact call_int_bool (hQ _ s.heap _ (Ext.refl _) (.int _ _))
          · cases e
        · split at e
          · rename_i hf
            subst hf
            show wpAny (model prog w) A (call (.type "list") ws) Q E s
            split at e
            · split at e
              · rename_i ds hi
                split at e
                · rename_i hc
                  cases e
                  cases r with
                  | cons a r =>
                    cases r
                    obtain ⟨x, vs, rfl, ⟨n, p⟩, q⟩ := items_of k a hi
                    have l1 := q.length
                    refine call_list_seq x (.inl rfl) p rfl rfl (fun h' c' hk hn => ?_) (by simp; omega)
                    exact hQ _ h' s.toks hk (.lst k.fresh ⟨c', hn⟩ (q.ext hk))
                · cases e
              · split at e
                · rename_i ks hks
                  split at e
                  · rename_i hc
                    cases e
                    cases r with
                    | cons a r =>
                      cases r
                      exact list_keys k hh a hks hc hQ
                  · cases e
                · cases e
            · cases e
          · split at e
            · rename_i hf
              subst hf
              show wpAny (model prog w) A (call (.builtin "isinstance") ws) Q E s
              split at e
              · obtain ⟨b, e1, rfl⟩ := Option.map_eq_some_iff.mp e
                cases r with
                | cons a r => cases r with | cons b r => cases r; cases b with | ty T =>
                  exact isi_ok k a e1 fun tk => hQ _ s.heap tk (Ext.refl _) (.bool _)
              · cases e
            · cases e

/-! items -/
theorem idx_facts {i : Int} {n j : Nat} (h : idxP i n = some j) : 0 ≤ i ∧ i < n ∧ i < 2 ^ 63 ∧ j = i.toNat := by
  unfold idxP at h
  split at h
  · rename_i hi; cases h; exact ⟨hi.1, hi.2.1, hi.2.2, rfl⟩
  · cases h
theorem seqIndex_of {i : Int} {n : Nat} (h0 : 0 ≤ i) (h1 : i < n) : seqIndex? i n = some i.toNat := by
  unfold seqIndex?
  have h2 : ¬ i < 0 := by omega
  simp only [h2, if_false]
  simp [h0, h1]

theorem sub_ok {value slice : Expr} {a b : Value} {x y d : PV} {Q : Value → Shared → Prop} (k : Ok prog w B η σ s.heap) (hu : A.units + 64 < cLine) (ra : Rep s.heap η a x) (rb : Rep s.heap η b y) (e : subP σ x y = some d)
    (hs : subscripted slice false a b = operate [a, b] (getItem a b))
    (hQ : ∀ v tk, Rep s.heap η v d → Q v { s with toks := tk }) : wpAny (model prog w) A (subscriptTail value slice a b) Q E s := by
  unfold subP at e
  split at e
  · split at e
    · rename_i j hj
      obtain ⟨c, hc, rfl⟩ := Option.map_eq_some_iff.mp e
      cases ra; cases rb
      obtain ⟨h0, h1, h2, rfl⟩ := idx_facts hj
      refine tail_any (T := "str") (id := "str.__getitem__") rfl F.slot_str_getitem.lookup (getItem_str (c := c) ?_ ?_ (hQ _ _ (.str _ _))) hs
      · simp; omega
      · rw [seqIndex_of h0 h1]; exact hc
    · cases e
  · split at e
    · rename_i j hj
      cases ra with
      | tup n1 t1 r1 =>
        cases rb
        obtain ⟨h0, h1, h2, rfl⟩ := idx_facts hj
        obtain ⟨v, hv, rv⟩ := r1.get e
        have l1 := r1.length
        obtain ⟨o, ho, hc, n, hd⟩ := id t1
        refine tail_any (T := "tuple") (id := "tuple.__getitem__") ⟨o, ho, hc⟩ F.slot_tuple_getitem.lookup (getItem_tuple t1 (by omega) h2 (seqIndex_of h0 (by simp; omega)) (by simpa using hv) (hQ v s.toks rv)) hs
    · cases e
  · split at e
    · rename_i j hj
      cases ra with
      | lst n1 t1 r1 =>
        cases rb
        obtain ⟨h0, h1, h2, rfl⟩ := idx_facts hj
        obtain ⟨v, hv, rv⟩ := r1.get e
        exact tail_any (T := "list") (id := "list.__getitem__") t1.isList.typeIs F.slot_list_getitem.lookup (wpAny_getItem_list t1.isList h0 h2 (by simpa using hv) (hQ v s.toks rv)) hs
    · cases e
  · split at e
    · rename_i ds hσ
      split at e
      · rename_i j hj
        cases ra with
        | loc ha =>
          cases rb
          obtain ⟨vs, t1, r1⟩ := RepObj.lst k ha hσ
          obtain ⟨h0, h1, h2, rfl⟩ := idx_facts hj
          obtain ⟨v, hv, rv⟩ := r1.get e
          exact tail_any (T := "list") (id := "list.__getitem__") t1.isList.typeIs F.slot_list_getitem.lookup (wpAny_getItem_list t1.isList h0 h2 (by simpa using hv) (hQ v s.toks rv)) hs
      · cases e
    · cases e
  · split at e
    · rename_i es ks hσ hk
      cases ra with
      | loc ha =>
        cases rb with
        | tup n1 t1 r1 =>
          obtain ⟨xs, hD, e1, n, r⟩ := (k.objs _ _ _ ha hσ : ∃ xs, _)
          rcases find_at ks e1 r with ⟨q1, q2⟩ | ⟨d', p, q1, q2, rp⟩
          · rw [q1] at e; cases e
          · rw [q1] at e; cases e
            obtain ⟨o, ea, ep, ho, hx, _⟩ := id hD
            exact tail_any (T := "dict") (id := "dict.__getitem__") ⟨o, ho, hx.1⟩ F.slot_dict_getitem.lookup (wpAny_getItem_heap (knd := tk prog w) (tupleKind_room_in1 (by omega)) (key_is t1 r1 hk) hD q2 (hQ _ _ rp)) hs
    · cases e
  · cases e

end Mine

set_option maxRecDepth 100000
namespace Mine
open PySem PySem.Spec PyProof.Rows

/-- the law's ground: the base heap and its names -/
structure Cx (B : Heap) (mg mb : Str → Option Value) (G : Glob) : Prop where
  g : B.Ns mainGlobals mg
  b : B.Ns builtinsNs mb
  nolimit : B.NoLimit
  builtins : ∀ x : Str, x ≠ "__name__" → mb x = bootBuiltins x
  isB : ∀ x, G x = .builtin → mg x = none ∧ x ≠ "__name__"
  isV : ∀ x d, G x = .val d → ∃ v, mg x = some v ∧ ∀ h η, Ext B h → (∀ b o, B.get? b = some o → b ∉ η) → Rep h η v d

/-- room below the machine's lines for n more frames -/
structure Room (n : Nat) (A : Around) : Prop where
  handled : A.handled = none
  depth : A.depth + n < recursionLimit
  units : A.units + 3 * n + 100 < cLine

structure EnvOk (env : Env) : Prop where
  kind : env.scope.kind = .function
  globals : env.globals = mainGlobals
  builtins : env.builtins = builtinsNs

noncomputable def Own (env : Env) (b : Addr) : Prop := b = env.locals ∨ ∃ x, env.cells.lookup x = some b

/-- the frame at hand holds ρ -/
structure Fm (B : Heap) (env : Env) (ρ : Locals) (η : List Addr) (h : Heap) : Prop where
  ns : ∃ m, h.Ns env.locals m ∧ ∀ x d, env.kindOf x = some .local → ρ x = some d → ∃ v, m x = some v ∧ Rep h η v d
  cell : ∀ x d, env.kindOf x = some .cell → ρ x = some d → ∃ c v, env.cells.lookup x = some c ∧ h.IsCell c (some v) ∧ Rep h η v d
  cells : ∀ x, env.kindOf x = some .cell → ∃ c v, env.cells.lookup x = some c ∧ h.IsCell c v
  kinds : ∀ x d, ρ x = some d → env.kindOf x = some .local ∨ env.kindOf x = some .cell
  off : ∀ b, Own env b → b ∉ η ∧ B.get? b = none
  live : ∀ b, Own env b → ∃ o, h.get? b = some o ∧ ∀ items n, o.data ≠ .seq items n
  cellNe : ∀ x c, env.cells.lookup x = some c → c ≠ env.locals
  cellInj : ∀ x y c, env.cells.lookup x = some c → env.cells.lookup y = some c → x = y

section
variable {prog : Program} {w : World} {B : Heap} {env : Env} {ρ : Locals} {η η' : List Addr} {h h' : Heap}
theorem Fm.step (F : Fm B env ρ η h) (st : Step (fun _ => False) η η' h h') : Fm B env ρ η' h' := by
  have up : ∀ b o, Own env b → h.get? b = some o → h'.get? b = some o ∧ b ∉ η' := fun b o hb e => st.keep b o e (F.off b hb).1 id
  refine ⟨?_, fun x d hk hr => ?_, fun x hk => ?_, F.kinds, fun b hb => ?_, fun b hb => ?_, F.cellNe, F.cellInj⟩
  · obtain ⟨m, ⟨o, es, ep, ho, r⟩, hm⟩ := F.ns
    refine ⟨m, ⟨o, es, ep, (up _ o (.inl rfl) ho).1, r⟩, fun x d hk hr => ?_⟩
    obtain ⟨v, e, rv⟩ := hm x d hk hr
    exact ⟨v, e, rv.step st (NoSeq.bot h)⟩
  · obtain ⟨c, v, hc, ⟨o, ho, hd⟩, rv⟩ := F.cell x d hk hr
    exact ⟨c, v, hc, ⟨o, (up c o (.inr ⟨x, hc⟩) ho).1, hd⟩, rv.step st (NoSeq.bot h)⟩
  · obtain ⟨c, v, hc, ⟨o, ho, hd⟩⟩ := F.cells x hk
    exact ⟨c, v, hc, ⟨o, (up c o (.inr ⟨x, hc⟩) ho).1, hd⟩⟩
  · obtain ⟨o, ho, _⟩ := F.live b hb
    exact ⟨(up b o hb ho).2, (F.off b hb).2⟩
  · obtain ⟨o, ho, hn⟩ := F.live b hb
    exact ⟨o, (up b o hb ho).1, hn⟩
theorem Fm.noSeq (F : Fm B env ρ η h) : NoSeq (Own env) h := fun b o hb e items n hd => by
  obtain ⟨o', ho, hn⟩ := F.live b hb
  rw [ho] at e; cases e
  exact hn items n hd
end

/-- the functions of Φ do what it says -/
noncomputable def FnsOk (prog : Program) (w : World) (B : Heap) (mg : Str → Option Value) (Φ : Fns) (n : Nat) : Prop :=
  ∀ f vs σ d σ', Φ f vs σ = some (d, σ') → ∃ a o fd, mg f = some (.ref a) ∧ B.get? a = some o ∧ o.data = .func fd ∧
    ∀ (A : Around) (s : Shared) (η : List Addr) (E : Value → Shared → Prop) (Q : Value → Shared → Prop) (ws : List Value), Room n A → Ok prog w B η σ s.heap → RepAll s.heap η ws vs →
      (∀ v η' h' tk, Step (fun _ => False) η η' s.heap h' → Ok prog w B η' σ' h' → Rep h' η' v d → Q v { s with heap := h', toks := tk }) →
      wpAny (model prog w) A (call (.ref a) ws) Q E s

section
variable {prog : Program} {w : World} {A : Around} {E : Value → Shared → Prop} {s : Shared} {B : Heap} {η : List Addr} {σ : Store} {env : Env} {ρ : Locals} {mg mb : Str → Option Value} {G : Glob} {Φ : Fns} {n : Nat}

theorem Ok.extB {h : Heap} (k : Ok prog w B η σ h) : Ext B h := fun b o e => (k.base b o e).1

theorem name_global {x : Str} {pos : Pos} {v : Value} {Q : Value → Shared → Prop} (C : Cx B mg mb G) (k : Ok prog w B η σ s.heap) (eo : EnvOk env) (hc : chkG env.kindOf x = true) (hv : mg x = some v) (h : Q v s) :
    wpAny (model prog w) A (eval (.Name x pos) env) Q E s := by
  unfold chkG at hc
  simp only [Bool.and_eq_true, Bool.not_eq_true'] at hc
  have hx : env.kindOf x = some .globalImplicit := by
    have := hc.2
    split at this
    · assumption
    · cases this
  exact Calls.Name_function_global eo.kind hx (Calls.loadGlobal_global (by rw [eo.globals]; exact C.g.keeps k.extB) hv h) hc.1

theorem name_builtin {x : Str} {pos : Pos} {v : Value} {Q : Value → Shared → Prop} (C : Cx B mg mb G) (k : Ok prog w B η σ s.heap) (eo : EnvOk env) (hc : chkG env.kindOf x = true) (hb : G x = .builtin) (hv : bootBuiltins x = some v) (h : Q v s) :
    wpAny (model prog w) A (eval (.Name x pos) env) Q E s := by
  unfold chkG at hc
  simp only [Bool.and_eq_true, Bool.not_eq_true'] at hc
  have hx : env.kindOf x = some .globalImplicit := by
    have := hc.2
    split at this
    · assumption
    · cases this
  have q := C.isB x hb
  exact Calls.Name_function_global eo.kind hx (Calls.loadGlobal_builtin (by rw [eo.globals]; exact C.g.keeps k.extB) q.1 (by rw [eo.builtins]; exact C.b.keeps k.extB) ((C.builtins x q.2).trans hv) h) hc.1

theorem name_local {x : Str} {pos : Pos} {d : PV} {Q : Value → Shared → Prop} (eo : EnvOk env) (F : Fm B env ρ η s.heap) (hc : chkN G env.kindOf x = true) (hr : ρ x = some d) (h : ∀ v, Rep s.heap η v d → Q v s) :
    wpAny (model prog w) A (eval (.Name x pos) env) Q E s := by
  unfold chkN at hc
  simp only [Bool.and_eq_true, Bool.not_eq_true'] at hc
  rcases F.kinds x d hr with hk | hk
  · obtain ⟨m, hns, hm⟩ := F.ns
    obtain ⟨v, e, rv⟩ := hm x d hk hr
    exact wpAny_Name (wpAny_loadName_local eo.kind hk hns e (h v rv)) hc.1
  · obtain ⟨c, v, hc', hv, rv⟩ := F.cell x d hk hr
    exact wpAny_Name (wpAny_loadName_cell eo.kind hk hc' hv (h v rv)) hc.1

/-- an expression does what the interpreter says -/
noncomputable def ES (prog : Program) (w : World) (B : Heap) (env : Env) (Φ : Fns) (G : Glob) (n : Nat) (e : Expr) : Prop :=
  ∀ ρ σ d σ', chkE G env.kindOf e = true → evalE Φ G e ρ σ = some (d, σ') → ∀ (A : Around) (s : Shared) (η : List Addr) (E : Value → Shared → Prop) (Q : Value → Shared → Prop),
    Room n A → Ok prog w B η σ s.heap → Fm B env ρ η s.heap →
    (∀ v η' h' tk, Step (fun _ => False) η η' s.heap h' → Ok prog w B η' σ' h' → Rep h' η' v d → Q v { s with heap := h', toks := tk }) →
    wpAny (model prog w) A (eval e env) Q E s
noncomputable def ESs (prog : Program) (w : World) (B : Heap) (env : Env) (Φ : Fns) (G : Glob) (n : Nat) (es : List Expr) : Prop :=
  ∀ ρ σ ds σ', chkEs G env.kindOf es = true → evalEs Φ G es ρ σ = some (ds, σ') → ∀ (pos : Pos) (A : Around) (s : Shared) (η : List Addr) (E : Value → Shared → Prop) (Q : List Value → Shared → Prop),
    Room n A → Ok prog w B η σ s.heap → Fm B env ρ η s.heap →
    (∀ vs η' h' tk, Step (fun _ => False) η η' s.heap h' → Ok prog w B η' σ' h' → RepAll h' η' vs ds → Q vs { s with heap := h', toks := tk }) →
    wpAny (model prog w) A (spliced (backTo pos (starEach es env))) Q E s

theorem ES.constant (c : Const) (kk : Nat) (pos : Pos) : ES prog w B env Φ G n (.Constant c kk pos) := by
  intro ρ σ d σ' hc he A s η E Q R k F hQ
  simp only [zB, yc, zC, yM, yd, zl, yN, ye, yf, yh, zH] at he
  split at he
  · rename_i d' hd
    cases he
    cases c with
    | none => cases hd; exact wpAny_Constant_none (hQ _ η s.heap s.toks Step.refl k .none)
    | bool b => cases hd; exact wpAny_Constant_bool (hQ _ η s.heap s.toks Step.refl k (.bool _))
    | int i => cases hd; exact wpAny_Constant_int (hQ _ η s.heap _ Step.refl k (.int _ _))
    | str x => cases hd; exact wpAny_Constant_str (hQ _ η s.heap _ Step.refl k (.str _ _))
    | _ => cases hd
  · cases he

theorem ty_boot {x : Str} {d : PV} (h : xz x = some d) : ∃ T, bootBuiltins x = some (.type T) ∧ d = .ty T := by
  unfold xz at h
  split at h
  · rename_i q; subst q; cases h; exact ⟨_, by decide +kernel, rfl⟩
  · split at h
    · rename_i q; subst q; cases h; exact ⟨_, by decide +kernel, rfl⟩
    · split at h
      · rename_i q; subst q; cases h; exact ⟨_, by decide +kernel, rfl⟩
      · split at h
        · rename_i q; subst q; cases h; exact ⟨_, by decide +kernel, rfl⟩
        · split at h
          · rename_i q; subst q; cases h; exact ⟨_, by decide +kernel, rfl⟩
          · cases h

theorem ES.name (C : Cx B mg mb G) (eo : EnvOk env) (x : Str) (pos : Pos) : ES prog w B env Φ G n (.Name x pos) := by
  intro ρ σ d σ' hc he A s η E Q R k F hQ
  simp only [zB, yc, zC, yM, yd, zl, yN, ye, yf, yh, zH] at he
  simp only [ck_name, ck_binop, ck_unop, ck_boolop, ck_cmp, ck_call, ck_meth, ck_slice, ck_list, ck_tuple] at hc
  split at he
  · rename_i d' hd
    cases he
    exact name_local eo F hc hd fun v rv => hQ v η s.heap s.toks Step.refl k rv
  · rename_i hn
    split at he
    · rename_i d' hd
      cases he
      have hcg : chkG env.kindOf x = true := by
        unfold chkN at hc
        unfold chkG
        simp only [Bool.and_eq_true] at hc ⊢
        refine ⟨hc.1, ?_⟩
        have h2 := hc.2
        split at h2
        · rw [hd] at h2; cases h2
        · rw [hd] at h2; cases h2
        · rename_i q; rw [q]
        · cases h2
      unfold Glob.val? at hd
      split at hd
      · rename_i hg
        cases hd
        obtain ⟨v, hv, rv⟩ := C.isV x d hg
        exact name_global C k eo hcg hv (hQ v η s.heap s.toks Step.refl k (rv _ _ k.extB fun b o e => (k.base b o e).2))
      · rename_i hg
        obtain ⟨T, hT, rfl⟩ := ty_boot hd
        exact name_builtin C k eo hcg hg hT (hQ _ η s.heap s.toks Step.refl k (.ty T))
      · cases hd
    · cases he

theorem ES.binop {l r : Expr} {op : Operator} {pos : Pos} (hl : ES prog w B env Φ G n l) (hr : ES prog w B env Φ G n r) : ES prog w B env Φ G n (.BinOp l op r pos) := by
  intro ρ σ d σ' hc he A s η E Q R k F hQ
  simp only [zB, yc, zC, yM, yd, zl, yN, ye, yf, yh, zH] at he
  simp only [ck_name, ck_binop, ck_unop, ck_boolop, ck_cmp, ck_call, ck_meth, ck_slice, ck_list, ck_tuple, Bool.and_eq_true] at hc
  split at he
  · cases he
  · rename_i a σ₁ h1
    split at he
    · cases he
    · rename_i b σ₂ h2
      split at he
      · rename_i d' h3
        cases he
        refine wpAny_BinOp (hl ρ σ a σ₁ hc.1 h1 A s η E _ R k F fun va η₁ H₁ t₁ s1 k1 r1 => ?_)
        refine hr ρ σ₁ b _ hc.2 h2 A _ η₁ E _ R k1 (F.step s1) fun vb η₂ H₂ t₂ s2 k2 r2 => ?_
        refine bin_ok k2 (r1.step s2 (NoSeq.bot _)) r2 h3 fun v H₃ t₃ x3 r3 => ?_
        exact hQ v η₂ H₃ t₃ ((s1.trans0 s2).trans0 (Step.ext x3)) (k2.ext x3) r3
      · cases he

theorem ES.unop {x : Expr} {op : UnaryOp} {pos : Pos} (hx : ES prog w B env Φ G n x) : ES prog w B env Φ G n (.UnaryOp op x pos) := by
  intro ρ σ d σ' hc he A s η E Q R k F hQ
  simp only [ck_name, ck_binop, ck_unop, ck_boolop, ck_cmp, ck_call, ck_meth, ck_slice, ck_list, ck_tuple] at hc
  cases op with
  | Not =>
    simp only [zB, yc, zC, yM, yd, zl, yN, ye, yf, yh, zH] at he
    split at he
    · rename_i b σ₁ h1
      cases he
      refine wpAny_UnaryOp (hx ρ σ _ _ hc h1 A s η E _ R k F fun v η₁ H₁ t₁ s1 k1 r1 => ?_)
      cases r1
      exact not_value (wpAny_truthy_bool (hQ _ η₁ H₁ t₁ s1 k1 (.bool _)))
    · cases he
  | USub =>
    simp only [zB, yc, zC, yM, yd, zl, yN, ye, yf, yh, zH] at he
    split at he
    · rename_i i σ₁ h1
      cases he
      refine wpAny_UnaryOp (hx ρ σ _ _ hc h1 A s η E _ R k F fun v η₁ H₁ t₁ s1 k1 r1 => ?_)
      cases r1
      exact P.neg_int (hQ _ η₁ H₁ _ s1 k1 (.int _ _))
    · cases he
  | _ => exact nomatch (show (none : Option (PV × Store)) = some _ from he)

theorem marks_none {op : CmpOp} {r : Expr} {ρ : Locals} {σ : Store} {x : PV × Store} (h : evalE Φ G r ρ σ = some x) : behindInMarks op r = false := by
  cases r <;> first | rfl | (exact nomatch (show (none : Option (PV × Store)) = some _ from h))

theorem ES.compare {l r : Expr} {op : CmpOp} {pos : Pos} (hl : ES prog w B env Φ G n l) (hr : ES prog w B env Φ G n r) : ES prog w B env Φ G n (.Compare l [op] [r] pos) := by
  intro ρ σ d σ' hc he A s η E Q R k F hQ
  simp only [zB, yc, zC, yM, yd, zl, yN, ye, yf, yh, zH] at he
  simp only [ck_name, ck_binop, ck_unop, ck_boolop, ck_cmp, ck_call, ck_meth, ck_slice, ck_list, ck_tuple, ck_nil, ck_cons, Bool.and_eq_true] at hc
  split at he
  · cases he
  · rename_i a σ₁ h1
    split at he
    · cases he
    · rename_i b σ₂ h2
      split at he
      · rename_i d' h3
        cases he
        refine wpAny_Compare1 (hl ρ σ a σ₁ hc.1 h1 A s η E _ R k F fun va η₁ H₁ t₁ s1 k1 r1 => ?_) (marks_none h2)
        refine hr ρ σ₁ b _ hc.2.1 h2 A _ η₁ E _ R k1 (F.step s1) fun vb η₂ H₂ t₂ s2 k2 r2 => ?_
        refine cmp_ok k2 (by have := R.units; omega) (r1.step s2 (NoSeq.bot _)) r2 h3 fun c tk hd => ?_
        subst hd
        exact hQ _ η₂ H₂ tk (s1.trans0 s2) k2 (.bool _)
      · cases he

theorem star_one {e : Expr} {es : List Expr} {ρ : Locals} {σ : Store} {x : PV × Store} (h : evalE Φ G e ρ σ = some x) : starEach (e :: es) env = (false, eval e env) :: starEach es env := by
  cases e <;> first | rfl | (exact nomatch (show (none : Option (PV × Store)) = some _ from h))

theorem ESs.nil : ESs prog w B env Φ G n [] := by
  intro ρ σ ds σ' hc he pos A s η E Q R k F hQ
  simp only [yi, zI, Option.some.injEq, Prod.mk.injEq] at he
  obtain ⟨rfl, rfl⟩ := he
  exact Calls.spliced_nil (hQ [] η s.heap s.toks Step.refl k .nil)
theorem ESs.cons {e : Expr} {es : List Expr} (h1 : ES prog w B env Φ G n e) (h2 : ESs prog w B env Φ G n es) : ESs prog w B env Φ G n (e :: es) := by
  intro ρ σ ds σ' hc he pos A s η E Q R k F hQ
  simp only [yi, zI] at he
  simp only [ck_nil, ck_cons, Bool.and_eq_true] at hc
  split at he
  · cases he
  · rename_i d σ₁ e1
    split at he
    · cases he
    · rename_i ds' σ₂ e2
      cases he
      rw [star_one e1]
      refine Calls.spliced_cons (h1 ρ σ d σ₁ hc.1 e1 A s η E _ R k F fun v η₁ H₁ t₁ s1 k1 r1 => ?_)
      refine h2 ρ σ₁ ds' _ hc.2 e2 pos A _ η₁ E _ R k1 (F.step s1) fun vs η₂ H₂ t₂ s2 k2 r2 => ?_
      exact hQ _ η₂ H₂ t₂ (s1.trans0 s2) k2 (.cons (r1.step s2 (NoSeq.bot _)) r2)

/-- the arguments of a call -/
theorem ESs.args {es : List Expr} (h : ESs prog w B env Φ G n es) {σ' : Store} {ds : List PV} (hc : chkEs G env.kindOf es = true) (he : evalEs Φ G es ρ σ = some (ds, σ')) {pos : Pos} {f : Value} {Q : Args → Shared → Prop}
    (R : Room n A) (k : Ok prog w B η σ s.heap) (F : Fm B env ρ η s.heap)
    (hQ : ∀ vs η' h' tk, Step (fun _ => False) η η' s.heap h' → Ok prog w B η' σ' h' → RepAll h' η' vs ds → Q ⟨vs, []⟩ { s with heap := h', toks := tk }) :
    wpAny (model prog w) A (evalArgs f true (backTo pos (starEach es env)) []) Q E s ∧ (backTo pos (starEach es env)).any (·.1) = false ∧ es.length = ds.length := by
  have star : ∀ (es : List Expr) (σ σ' : Store) (ds : List PV), evalEs Φ G es ρ σ = some (ds, σ') → (backTo pos (starEach es env)).any (·.1) = false ∧ es.length = ds.length := by
    intro es
    induction es with
    | nil => intro σ σ' ds he; simp only [yi, zI, Option.some.injEq, Prod.mk.injEq] at he; obtain ⟨rfl, rfl⟩ := he; exact ⟨rfl, rfl⟩
    | cons e es ih =>
      intro σ σ' ds he
      simp only [yi, zI] at he
      split at he
      · cases he
      · rename_i d σ₁ e1
        split at he
        · cases he
        · rename_i ds' σ₂ e2
          cases he
          have q := ih _ _ _ e2
          rw [star_one e1]
          exact ⟨by simpa [backTo] using q.1, by simp [q.2]⟩
  refine ⟨?_, star es _ _ _ he⟩
  cases es with
  | nil =>
    simp only [yi, zI, Option.some.injEq, Prod.mk.injEq] at he
    obtain ⟨rfl, rfl⟩ := he
    exact PySem.evalArgs_none (hQ [] η s.heap s.toks Step.refl k .nil)
  | cons e es =>
    have e1 : ∃ x, evalE Φ G e ρ σ = some x := by
      simp only [yi, zI] at he
      split at he
      · cases he
      · rename_i d σ₁ e1; exact ⟨_, e1⟩
    obtain ⟨x, e1⟩ := e1
    have hw := h ρ σ ds σ' hc he pos A s η E (fun vs s' => Q ⟨vs, []⟩ s') R k F hQ
    rw [star_one e1] at hw ⊢
    exact Calls.evalArgs_plain hw
end

end Mine

set_option maxRecDepth 100000
namespace Mine
open PySem PySem.Spec PyProof.Rows

section
variable {prog : Program} {w : World} {A : Around} {E : Value → Shared → Prop} {s : Shared} {B : Heap} {η : List Addr} {σ : Store} {env : Env} {ρ : Locals} {mg mb : Str → Option Value} {G : Glob} {Φ : Fns} {n : Nat}

theorem boot_of {f : Str} {vs : List PV} {σ : Store} {d : PV} (e : callB f vs σ = some d) : bootBuiltins f = some (bval f) := by
  unfold callB at e
  split at e
  · rename_i h; subst h; decide +kernel
  · split at e
    · rename_i h; subst h; decide +kernel
    · split at e
      · rename_i h; subst h; decide +kernel
      · split at e
        · rename_i h; subst h; decide +kernel
        · split at e
          · rename_i h; subst h; decide +kernel
          · split at e
            · rename_i h; subst h; decide +kernel
            · cases e

theorem callWith_bval {f : Str} {pos : Pos} {args : List (Bool × Sem Value)} {Q : Value → Shared → Prop} (hplain : args.any (·.1) = false)
    (h : wpAny (model prog w) A (evalArgs (bval f) true args []) (fun a s₁ => wpAny (model prog w) A (call (bval f) a.pos a.kw) Q E s₁) E s) :
    wpAny (model prog w) A (callWith pos (bval f) [] args []) Q E s := by
  unfold bval at h ⊢
  split at h
  · rename_i c; rw [if_pos c]; exact Calls.callWith_builtin hplain h
  · rename_i c; rw [if_neg c]
    split at h
    · rename_i c; rw [if_pos c]; exact Calls.callWith_builtin hplain h
    · rename_i c; rw [if_neg c]
      split at h
      · rename_i c; rw [if_pos c]; exact Calls.callWith_builtin hplain h
      · rename_i c; rw [if_neg c]
        split at h
        · rename_i c; rw [if_pos c]; exact PySem.callWith_type hplain h
        · rename_i c; rw [if_neg c]
          split at h
          · rename_i c; rw [if_pos c]; exact Calls.callWith_builtin hplain h
          · rename_i c; rw [if_neg c]; exact PySem.callWith_type hplain h

theorem ES.call (C : Cx B mg mb G) (Fn : FnsOk prog w B mg Φ n) (eo : EnvOk env) {f : Str} {p pos : Pos} {args : List Expr} (ha : ESs prog w B env Φ G n args) :
    ES prog w B env Φ G n (.Call (.Name f p) args [] pos) := by
  intro ρ σ d σ' hc he A s η E Q R k F hQ
  simp only [zB, yc, zC, yM, yd, zl, yN, ye, yf, yh, zH] at he
  simp only [ck_name, ck_binop, ck_unop, ck_boolop, ck_cmp, ck_call, ck_meth, ck_slice, ck_list, ck_tuple, Bool.and_eq_true] at hc
  refine wpAny_Call_Name_kw ?_
  show wpAny (model prog w) A (eval (.Name f p) env) (fun f s₁ => wpAny (model prog w) A (callWith pos f [] (backTo pos (starEach args env)) []) Q E s₁) E s
  split at he
  · cases he
  · rename_i vs σ₁ e1
    split at he
    · obtain ⟨a, o, fd, m1, m2, m3, hcall⟩ := Fn f vs σ₁ d σ' he
      refine name_global C k eo hc.1 m1 ?_
      have hA := fun Q => ha.args (A := A) (s := s) (E := E) (Q := Q) hc.2 e1 (pos := pos) (f := .ref a) R k F
      refine Calls.callWith_function (o := o) (fd := fd) ((hA _ fun ws η₁ H₁ t₁ s1 k1 r1 => ?_).1)
      refine ⟨⟨(k1.base a o m2).1, m3⟩, ?_⟩
      refine hcall A { s with heap := H₁, toks := t₁ } η₁ E Q ws R k1 r1 fun v η₂ H₂ t₂ s2 k2 r2 => ?_
      exact hQ v η₂ H₂ t₂ (s1.trans0 s2) k2 r2
    · rename_i hg
      split at he
      · rename_i d' hb
        cases he
        refine name_builtin C k eo hc.1 hg (boot_of hb) ?_
        have hA := fun Q => ha.args (A := A) (s := s) (E := E) (Q := Q) hc.2 e1 (pos := pos) (f := bval f) R k F
        refine callWith_bval (hA (fun _ _ => True) fun _ _ _ _ _ _ _ => trivial).2.1 ((hA _ fun ws η₁ H₁ t₁ s1 k1 r1 => ?_).1)
        refine callB_ok k1 R.handled r1 hb fun v H₂ t₂ x2 r2 => ?_
        exact hQ v η₁ H₂ t₂ (s1.trans0 (Step.ext x2)) (k1.ext x2) r2
      · cases he
    · cases he

theorem ES.sub {v i : Expr} {pos : Pos} (hv : ES prog w B env Φ G n v) (hi : ES prog w B env Φ G n i) (hns : ∀ a b c p, i ≠ .Slice a b c p) : ES prog w B env Φ G n (.Subscript v i pos) := by
  intro ρ σ d σ' hc he A s η E Q R k F hQ
  have he' : (match evalE Φ G v ρ σ with
    | none => none
    | some (a, σ₁) => match evalE Φ G i ρ σ₁ with
      | none => none
      | some (b, σ₂) => match subP σ₂ a b with
        | some d => some (d, σ₂)
        | none => none) = some (d, σ') := by
    cases i <;> first | exact he | exact absurd rfl (hns _ _ _ _)
  have hc : chkE G env.kindOf v = true ∧ chkE G env.kindOf i = true := by
    have h1 : isSlice i = false := by
      cases i <;> first | rfl | exact absurd rfl (hns _ _ _ _)
    rw [ck_sub, h1] at hc
    simpa using hc
  split at he'
  · cases he'
  · rename_i a σ₁ e1
    split at he'
    · cases he'
    · rename_i b σ₂ e2
      split at he'
      · rename_i d' e3
        cases he'
        refine Subscript_ (hv ρ σ a σ₁ hc.1 e1 A s η E _ R k F fun va η₁ H₁ t₁ s1 k1 r1 => ?_)
        refine hi ρ σ₁ b _ hc.2 e2 A _ η₁ E _ R k1 (F.step s1) fun vb η₂ H₂ t₂ s2 k2 r2 => ?_
        refine sub_ok k2 (by have := R.units; omega) (r1.step s2 (NoSeq.bot _)) r2 e3 (by cases i <;> first | rfl | exact absurd rfl (hns _ _ _ _)) fun v tk rv => ?_
        exact hQ v η₂ H₂ tk (s1.trans0 s2) k2 rv
      · cases he'

theorem ES.list {elts : List Expr} {pos : Pos} (ha : ESs prog w B env Φ G n elts) : ES prog w B env Φ G n (.List elts pos) := by
  intro ρ σ d σ' hc he A s η E Q R k F hQ
  simp only [zB, yc, zC, yM, yd, zl, yN, ye, yf, yh, zH] at he
  simp only [ck_name, ck_binop, ck_unop, ck_boolop, ck_cmp, ck_call, ck_meth, ck_slice, ck_list, ck_tuple] at hc
  split at he
  · rename_i ds σ₁ e1
    split at he
    · rename_i hl
      cases he
      refine wpAny_List (ha ρ σ ds _ hc e1 pos A s η E _ R k F fun vs η₁ H₁ t₁ s1 k1 r1 => ⟨by rw [r1.length]; exact hl, ?_⟩)
      exact hQ _ η₁ _ t₁ (s1.trans0 (Step.push _)) (k1.ext (Ext.push _ _)) (rep_newList k1 r1)
    · cases he
  · cases he
theorem ES.tuple {elts : List Expr} {kk : Nat} {pos : Pos} (ha : ESs prog w B env Φ G n elts) : ES prog w B env Φ G n (.Tuple elts kk pos) := by
  intro ρ σ d σ' hc he A s η E Q R k F hQ
  simp only [zB, yc, zC, yM, yd, zl, yN, ye, yf, yh, zH] at he
  simp only [ck_name, ck_binop, ck_unop, ck_boolop, ck_cmp, ck_call, ck_meth, ck_slice, ck_list, ck_tuple] at hc
  split at he
  · rename_i ds σ₁ e1
    split at he
    · rename_i hl
      cases he
      refine wpAny_Tuple (ha ρ σ ds _ hc e1 pos A s η E _ R k F fun vs η₁ H₁ t₁ s1 k1 r1 => ⟨by rw [r1.length]; exact hl, ?_⟩)
      exact hQ _ η₁ _ t₁ (s1.trans0 (Step.push _)) (k1.ext (Ext.push _ _)) (rep_newTup k1 r1)
    · cases he
  · cases he
end

end Mine

set_option maxRecDepth 100000
namespace Mine
open PySem PySem.Spec PyProof.Rows

section
variable {prog : Program} {w : World} {A : Around} {E : Value → Shared → Prop} {s : Shared} {B : Heap} {η : List Addr} {σ : Store} {env : Env} {ρ : Locals} {mg mb : Str → Option Value} {G : Glob} {Φ : Fns} {n : Nat}

theorem slice_pick (items : Array Value) (lo hi : Nat) (hab : lo ≤ hi) : slicePick items (some (lo : Int)) (some (hi : Int)) none = ((items.toList.take hi).drop lo).toArray := by
  have h1 : slicePick items (some (lo : Int)) (some (hi : Int)) none = slicePick items (some ((min lo items.size : Nat) : Int)) (some ((min hi items.size : Nat) : Int)) none := by
    have e : sliceBounds (some (lo : Int)) (some (hi : Int)) none items.size = sliceBounds (some ((min lo items.size : Nat) : Int)) (some ((min hi items.size : Nat) : Int)) none items.size := by
      unfold sliceBounds
      simp only [Option.getD_none]
      have a1 : ¬ (lo : Int) < 0 := by omega
      have a2 : ¬ (hi : Int) < 0 := by omega
      have a3 : ¬ ((min lo items.size : Nat) : Int) < 0 := by omega
      have a4 : ¬ ((min hi items.size : Nat) : Int) < 0 := by omega
      simp only [a1, a2, a3, a4, if_false]
      have : (1 : Int) > 0 := by decide
      simp only [this, if_true]
      refine Prod.ext ?_ (Prod.ext ?_ rfl) <;> simp only <;> omega
    unfold slicePick
    rw [e]
  rw [h1, slicePick_run items _ _ (Nat.min_le_right _ _) (by omega)]
  congr 1
  rw [List.drop_take]
  have hl : items.size = items.toList.length := by simp
  by_cases q1 : lo ≤ items.size
  · rw [Nat.min_eq_left q1]
    by_cases q2 : hi ≤ items.size
    · rw [Nat.min_eq_left q2]
    · rw [Nat.min_eq_right (by omega)]
      rw [List.take_of_length_le (by rw [List.length_drop]; omega), List.take_of_length_le (by rw [List.length_drop]; omega)]
  · rw [Nat.min_eq_right (by omega), Nat.min_eq_right (by omega)]
    rw [Nat.sub_self, List.take_zero, List.drop_eq_nil_of_le (by omega), List.take_nil]

theorem ES.slice {x : Str} {px : Pos} {lo hi : Const} {k1 k2 : Nat} {p1 p2 p3 pos : Pos} (hv : ES prog w B env Φ G n (.Name x px)) :
    ES prog w B env Φ G n (.Subscript (.Name x px) (.Slice (some (.Constant lo k1 p1)) (some (.Constant hi k2 p2)) none p3) pos) := by
  intro ρ σ d σ' hc he A s η E Q R k F hQ
  have hc' : chkE G env.kindOf (.Name x px) = true := by
    simpa only [ck_name, ck_binop, ck_unop, ck_boolop, ck_cmp, ck_call, ck_meth, ck_slice, ck_list, ck_tuple] using hc
  have he' : (match evalE Φ G (.Name x px) ρ σ with
    | none => none
    | some (a, σ₁) => match sliceP a lo hi with
      | some d => some (d, σ₁)
      | none => none) = some (d, σ') := he
  split at he'
  · cases he'
  · rename_i a σ₁ e1
    split at he'
    · rename_i d' e2
      cases he'
      unfold sliceP at e2
      split at e2
      · rename_i ds lo hi
        split at e2
        · rename_i hb
          cases e2
          refine wpAny_Subscript_list_slice (hv ρ σ _ _ hc' e1 A s η E _ R k F fun va η₁ H₁ t₁ s1 k1 r1 => ?_)
          refine wpAny_evalPart_some (wpAny_Constant_int (wpAny_evalPart_some (wpAny_Constant_int ?_)))
          cases r1 with
          | lst nm p r =>
            rename_i l vs
            have hl := r.length
            refine ⟨l, vs.toArray, some lo, some hi, rfl, p.isList, by simp; omega, .int _ _, .int _ _, ?_⟩
            have e4 : slicePick vs.toArray (some lo) (some hi) none = ((vs.take hi.toNat).drop lo.toNat).toArray := by
              have e5 := slice_pick vs.toArray lo.toNat hi.toNat (by omega)
              rw [Int.toNat_of_nonneg hb.1, Int.toNat_of_nonneg (by omega)] at e5
              simpa using e5
            rw [e4]
            have x1 : Ext H₁ (H₁.push { cls := .type "slice", data := .fields #[.int lo t₁, .int hi (t₁ + 1), .none] }) := Ext.push _ _
            have k2 := k1.ext x1
            have e6 : H₁.objs.size + 1 = (H₁.push { cls := .type "slice", data := .fields #[.int lo t₁, .int hi (t₁ + 1), .none] }).objs.size := (Heap.size_push _ _).symm
            show Q (.ref (H₁.objs.size + 1)) _
            rw [e6]
            refine hQ _ η₁ _ _ ((s1.trans0 (Step.ext x1)).trans0 (Step.push _)) (k2.ext (Ext.push _ _)) (rep_newList k2 (RepAll.ext (RepAll.drop (RepAll.take r _) _) x1))
        · cases e2
      · cases e2
    · cases he'

/-! methods -/
/-- a method by its name -/
noncomputable def tyN (T : Bool) : String := if T then "list" else "dict"
noncomputable def methId (T : Bool) (name : Str) : Option String :=
  if T then (if name = "append" then some "list.append" else if name = "pop" then some "list.pop" else none)
  else if name = "pop" then some "dict.pop" else if name = "get" then some "dict.get" else none
theorem meth_slot {T : Bool} {name : Str} {id : String} (h : methId T name = some id) : Slot (tyN T) name id ∧ typeOf (.builtin id) = pure (.type "method_descriptor") := by
  unfold methId at h
  cases T
  · rw [if_neg (by decide)] at h
    split at h
    · rename_i q; subst q; cases h; exact ⟨PySem.F.slot_dict_pop, PySem.F.type_dict_pop⟩
    · split at h
      · rename_i q; subst q; cases h; exact ⟨PySem.F.slot_dict_get, PySem.F.type_dict_get⟩
      · cases h
  · rw [if_pos rfl] at h
    split at h
    · rename_i q; subst q; cases h; exact ⟨PySem.F.slot_list_append, PySem.F.type_list_append⟩
    · split at h
      · rename_i q; subst q; cases h; exact ⟨PySem.F.slot_list_pop, PySem.F.type_list_pop⟩
      · cases h

theorem find_idx {xs : List (List Int × Addr × Value)} {k : List Int} {p : Addr × Value} (h : atKey xs k = some p) : ∃ j : Nat, xs[j]? = some (k, p) := by
  unfold atKey at h
  obtain ⟨x, hx, rfl⟩ := Option.map_eq_some_iff.mp h
  have h1 := List.mem_of_find?_eq_some hx
  have h2 := List.find?_some hx
  obtain ⟨j, hj, e⟩ := List.getElem_of_mem h1
  refine ⟨j, ?_⟩
  rw [List.getElem?_eq_getElem hj, e]
  have : x.1 = k := by simpa using h2
  rw [← this]

theorem erase_filter {β : Type} {xs : List (List Int × β)} {j : Nat} {k : List Int} {p : β} (hn : (xs.map (·.1)).Nodup) (hj : xs[j]? = some (k, p)) : xs.eraseIdx j = xs.filter fun e => !decide (e.1 = k) := by
  induction xs generalizing j with
  | nil => cases hj
  | cons x xs ih =>
    have h1 := List.nodup_cons.mp hn
    cases j with
    | zero =>
      cases hj
      rw [List.eraseIdx_cons_zero, List.filter_cons_of_neg (by simp)]
      refine (List.filter_eq_self.mpr fun e he => ?_).symm
      have : e.1 ≠ k := fun q => h1.1 (List.mem_map.mpr ⟨e, he, q⟩)
      simp [this]
    | succ j =>
      have hx : x.1 ≠ k := fun q => h1.1 (List.mem_map.mpr ⟨_, List.mem_of_getElem? hj, q.symm⟩)
      rw [List.eraseIdx_cons_succ, List.filter_cons_of_pos (by simp [hx]), ih h1.2 hj]

theorem filter_al {h : Heap} {k : List Int} : ∀ {xs : List (List Int × Addr × Value)} {es : List (List Int × PV)}, xs.map (·.1) = es.map (·.1) → RepAll h η (xs.map (·.2.2)) (es.map (·.2)) →
    (xs.filter fun e => !decide (e.1 = k)).map (·.1) = (es.filter fun e => !decide (e.1 = k)).map (·.1) ∧ RepAll h η ((xs.filter fun e => !decide (e.1 = k)).map (·.2.2)) ((es.filter fun e => !decide (e.1 = k)).map (·.2))
  | [], [], _, _ => ⟨rfl, .nil⟩
  | [], _ :: _, e, _ => by cases e
  | _ :: _, [], e, _ => by cases e
  | x :: xs, y :: es, e, r => by
    simp only [List.map_cons, List.cons.injEq] at e
    cases r with
    | cons a r =>
      obtain ⟨i1, i2⟩ := filter_al (k := k) e.2 r
      rw [List.filter_cons, List.filter_cons, e.1]
      by_cases q : y.1 = k
      · rw [decide_eq_true q]; exact ⟨i1, i2⟩
      · rw [decide_eq_false q]
        simp only [Bool.not_false, if_true, List.map_cons, e.1, i1]
        exact ⟨trivial, .cons a i2⟩

theorem meth_ok {T : Bool} {name : Str} {o : PV} {a : Value} {vs : List PV} {ws : List Value} {d : PV} {σ' : Store} {Q : Value → Shared → Prop} (k : Ok prog w B η σ s.heap) (hu : A.units + 64 < cLine) (ro : Rep s.heap η a o) (r : RepAll s.heap η ws vs) (e : methP T name o vs σ = some (d, σ'))
    (hQ : ∀ v h' tk, Step (fun _ => False) η η s.heap h' → Ok prog w B η σ' h' → Rep h' η v d → Q v { s with heap := h', toks := tk }) :
    ∃ id, methId T name = some id ∧ wpAny (model prog w) A (call (.builtin id) (a :: ws)) Q E s := by
  unfold methP at e
  cases T
  · dsimp only at e
    split at e
    · rename_i hn
      subst hn
      refine ⟨"dict.pop", rfl, ?_⟩
      split at e
      · split at e
        · rename_i i ks _ _ es kk hs hk
          split at e
          · rename_i dd hf
            split at e
            · rename_i hl
              cases e
              cases ro with
              | loc ha =>
                cases r with
                | cons x r =>
                  cases r
                  cases x with
                  | tup n1 t1 r1 =>
                    obtain ⟨xs, hD, e1, n, rv⟩ := (k.objs _ _ _ ha hs : ∃ xs, _)
                    rcases find_at kk e1 rv with ⟨q1, q2⟩ | ⟨d', p, q1, q2, rp⟩
                    · rw [q1] at hf; cases hf
                    · rw [q1] at hf; cases hf
                      obtain ⟨j, hj⟩ := find_idx q2
                      have hnd : (xs.map (·.1)).Nodup := let ⟨_, _, _, _, _, _, _, _, h⟩ := hD; h
                      have hlen : xs.length = es.length := by have := congrArg List.length e1; simpa using this
                      refine dict_pop (by omega) (key_is t1 r1 hk) hD hj (by omega) fun h' t hm' hsb => ?_
                      have hm := List.mem_of_getElem? ha
                      have st : Step (fun _ => False) η η s.heap h' := Step.sameη hsb hm
                      rw [erase_filter hnd hj] at hm'
                      obtain ⟨f1, f2⟩ := filter_al (k := kk) e1 (rv.step st (NoSeq.bot _))
                      refine hQ _ h' t st (k.set ha hsb ⟨_, hm', f1, fun x hx => n x (List.mem_filter.mp hx).1, f2⟩) (rp.step st (NoSeq.bot _))
            · cases e
          · cases e
        · cases e
      · cases e
    · split at e
      · rename_i hn
        subst hn
        refine ⟨"dict.get", rfl, ?_⟩
        split at e
        · split at e
          · rename_i i ks d0 _ _ es kk hs hk
            cases e
            cases ro with
            | loc ha =>
              cases r with
              | cons x r =>
                cases r with
                | cons y r =>
                  cases r
                  cases x with
                  | tup n1 t1 r1 =>
                    obtain ⟨xs, hD, e1, n, rv⟩ := (k.objs _ _ _ ha hs : ∃ xs, _)
                    have hm := List.mem_of_getElem? ha
                    refine call_meetsIn PySem.F.slot_dict_get hD.typeIs PySem.F.entry_dict_get (PySem.F.args_dict_get_3 _ _ _) (meetsH_dict_get_default (tk prog w) _ _ (low_ne k hm) _) ⟨tupleKind_room_in1 (by omega), kk, xs, key_is t1 r1 hk, hD, ?_⟩
                    rcases find_at kk e1 rv with ⟨q1, q2⟩ | ⟨d', p, q1, q2, rp⟩
                    · rw [q2]; rw [q1] at hQ; exact hQ _ s.heap _ Step.refl k y
                    · rw [q2]; rw [q1] at hQ; exact hQ _ s.heap _ Step.refl k rp
          · cases e
        · cases e
      · cases e
  · dsimp only at e
    split at e
    · rename_i hn
      subst hn
      refine ⟨"list.append", rfl, ?_⟩
      split at e
      · split at e
        · rename_i i d1 ds hs
          split at e
          · rename_i hl
            cases e
            cases ro with
            | loc ha =>
              cases r with
              | cons x r =>
                cases r
                rename_i vx
                obtain ⟨us, p, q⟩ := RepObj.lst k ha hs
                have l1 := q.length
                refine wpAny_list_append_plain p (fun h' hp' hsb => ?_) (by simp; omega)
                have hm := List.mem_of_getElem? ha
                have st : Step (fun _ => False) η η s.heap h' := Step.sameη hsb hm
                refine hQ _ h' s.toks st (k.set ha hsb ?_) .none
                refine ⟨us ++ [vx], by simpa using hp', (q.step st (NoSeq.bot _)).append (.cons (x.step st (NoSeq.bot _)) .nil)⟩
          · cases e
        · cases e
      · cases e
    · split at e
      · rename_i hn
        subst hn
        refine ⟨"list.pop", rfl, ?_⟩
        split at e
        · split at e
          · rename_i i ds hs
            split at e
            · rename_i dl hlast
              split at e
              · rename_i hl
                cases e
                cases ro with
                | loc ha =>
                  cases r
                  obtain ⟨us, p, q⟩ := RepObj.lst k ha hs
                  obtain ⟨ds', rfl⟩ := List.getLast?_eq_some_iff.mp hlast
                  have l1 := q.length
                  have hne : us ≠ [] := fun h => by rw [h] at l1; simp at l1
                  obtain ⟨us', u, rfl⟩ : ∃ us' u, us = us' ++ [u] := ⟨us.dropLast, us.getLast hne, (List.dropLast_concat_getLast hne).symm⟩
                  simp only [List.length_append, List.length_cons, List.length_nil] at l1 hl
                  have q1 := q.take us'.length
                  have q2 := q.drop us'.length
                  have ll : us'.length = ds'.length := by omega
                  rw [List.take_left, ll, List.take_left] at q1
                  rw [List.drop_left, ll, List.drop_left] at q2
                  refine list_pop p (by omega) fun h' hp' hsb => ?_
                  have hm := List.mem_of_getElem? ha
                  have st : Step (fun _ => False) η η s.heap h' := Step.sameη hsb hm
                  rw [List.dropLast_concat] at hQ
                  cases q2 with
                  | cons rr _ => exact hQ _ h' s.toks st (k.set ha hsb ⟨us', hp', q1.step st (NoSeq.bot _)⟩) (rr.step st (NoSeq.bot _))
              · cases e
            · cases e
          · cases e
        · cases e
      · cases e

theorem recv_ok {T : Bool} {o : PV} {a : Value} (k : Ok prog w B η σ s.heap) (ro : Rep s.heap η a o) (e : recvT σ o = some T) : s.TypeIs a (tyN T) ∧ ∀ b, a = .ref b → ∃ ob, s.heap.get? b = some ob ∧ ob.dict = none := by
  cases ro with
  | lst nm p q =>
    cases e
    obtain ⟨n, p⟩ := p
    exact ⟨⟨_, p, rfl⟩, fun b hb => by cases hb; exact ⟨_, p, rfl⟩⟩
  | loc ha =>
    simp only [recvT] at e
    split at e
    · rename_i ds hs
      cases e
      obtain ⟨us, ⟨n, p⟩, q⟩ := RepObj.lst k ha hs
      exact ⟨⟨_, p, rfl⟩, fun b hb => by cases hb; exact ⟨_, p, rfl⟩⟩
    · rename_i es hs
      cases e
      obtain ⟨xs, ⟨ob, ea, ep, p1, p2, _⟩, _⟩ := (k.objs _ _ _ ha hs : ∃ xs, _)
      exact ⟨⟨_, p1, p2.1⟩, fun b hb => by cases hb; exact ⟨_, p1, p2.2.1⟩⟩
    · cases e
  | _ => simp [recvT] at e

theorem star_all {es : List Expr} {σ σ' : Store} {ds : List PV} {pos : Pos} (he : evalEs Φ G es ρ σ = some (ds, σ')) : (backTo pos (starEach es env)).all (fun x => !x.1) = true := by
  induction es generalizing σ ds with
  | nil => rfl
  | cons e es ih =>
    simp only [yi, zI] at he
    split at he
    · cases he
    · rename_i d σ₁ e1
      split at he
      · cases he
      · rename_i ds' σ₂ e2
        cases he
        rw [star_one e1]
        have := ih e2
        simpa [backTo] using this

theorem meth_few {T : Bool} {name : Str} {o : PV} {vs : List PV} {r : PV × Store} (e : methP T name o vs σ = some r) : vs.length < 3 ∧ ∃ id, methId T name = some id := by
  unfold methP at e
  cases T
  · dsimp only at e
    split at e
    · rename_i hn
      subst hn
      split at e
      · exact ⟨by simp, _, rfl⟩
      · cases e
    · split at e
      · rename_i hn
        subst hn
        split at e
        · exact ⟨by simp, _, rfl⟩
        · cases e
      · cases e
  · dsimp only at e
    split at e
    · rename_i hn
      subst hn
      split at e
      · exact ⟨by simp, _, rfl⟩
      · cases e
    · split at e
      · rename_i hn
        subst hn
        split at e
        · exact ⟨by simp, _, rfl⟩
        · cases e
      · cases e
theorem plain_attrs (T : Bool) : PlainAttrs (tyN T) := by cases T; exact PySem.F.plainAttrs_dict; exact PySem.F.plainAttrs_list

theorem ES.method (C : Cx B mg mb G) (eo : EnvOk env) {x name : Str} {p apos pos : Pos} {args : List Expr} (ha : ESs prog w B env Φ G n args) :
    ES prog w B env Φ G n (.Call (.Attribute (.Name x p) name apos) args [] pos) := by
  intro ρ σ d σ' hc he A s η E Q R k F hQ
  simp only [zB, yc, zC, yM, yd, zl, yN, ye, yf, yh, zH] at he
  simp only [ck_name, ck_binop, ck_unop, ck_boolop, ck_cmp, ck_call, ck_meth, ck_slice, ck_list, ck_tuple, Bool.and_eq_true] at hc
  split at he
  · cases he
  · rename_i o ho
    split at he
    · cases he
    · rename_i T hT
      split at he
      · cases he
      · rename_i vs σ₁ e1
        obtain ⟨hfew, id, hid⟩ := meth_few he
        obtain ⟨hslot, hty⟩ := meth_slot hid
        have hA := fun (Q : Args → Shared → Prop) f => ha.args (A := A) (s := s) (E := E) (Q := Q) hc.2 e1 (pos := pos) (f := f) R k F
        have hlen := (hA (fun _ _ => True) .none fun _ _ _ _ _ _ _ => trivial).2.2
        refine wpAny_Call_method (T := tyN T) (id := id) rfl ?_ hc.1.2 (plain_attrs T) hslot hty ?_
        · have hk : backToKw pos (keywordEach [] env) = [] := rfl
          rw [star_all e1, hk]
          simp
          omega
        · refine name_local eo F hc.1.1 ho fun v rv => ?_
          obtain ⟨t1, t2⟩ := recv_ok k rv hT
          refine ⟨t1, t2, ?_⟩
          refine Calls.callWith_builtin (hA (fun _ _ => True) .none fun _ _ _ _ _ _ _ => trivial).2.1 ((hA _ _ fun ws η₁ H₁ t₁ s1 k1 r1 => ?_).1)
          obtain ⟨id', hid', hw⟩ := meth_ok (A := A) (E := E) (Q := Q) (s := { s with heap := H₁, toks := t₁ }) k1 (by have := R.units; omega) (rv.step s1 (NoSeq.bot _)) r1 he fun v' H₂ t₂ s2 k2 r2 => hQ v' η₁ H₂ t₂ (s1.trans0 s2) k2 r2
          rw [hid] at hid'
          cases hid'
          exact hw
end

end Mine

set_option maxRecDepth 100000
namespace Mine
open PySem PySem.Spec PyProof.Rows

section
variable {prog : Program} {w : World} {A : Around} {E : Value → Shared → Prop} {s : Shared} {B : Heap} {η : List Addr} {σ : Store} {env : Env} {ρ : Locals} {mg mb : Str → Option Value} {G : Glob} {Φ : Fns} {n : Nat}

theorem ESs.of_all : ∀ (es : List Expr), (∀ e ∈ es, ES prog w B env Φ G n e) → ESs prog w B env Φ G n es
  | [], _ => ESs.nil
  | e :: es, h => ESs.cons (h e (.head _)) (ESs.of_all es fun x hx => h x (.tail _ hx))

theorem boolOp_cons {M : Model} {pos : Pos} {op : BoolOp} {x y : Sem Value} {rest : List (Sem Value)} {Q : Value → Shared → Prop}
    (h : wpAny M A x (fun v s₁ => wpAny M A (truthy v) (fun t s₂ => match op, t with
      | .And, false | .Or, true => Q v s₂
      | _, _ => wpAny M A (boolOp pos op (y :: rest)) Q E s₂) E s₁) E s) : wpAny M A (boolOp pos op (x :: y :: rest)) Q E s := by
  show wpAny M A (x >>= fun v => standAt pos >>= fun _ => holding [v] (truthy v) >>= fun t => match op, t with
    | .And, false | .Or, true => pure v
    | _, _ => boolOp pos op (y :: rest)) Q E s
  refine wpAny_bind (wpAny_mono h (fun v s₁ h₁ => ?_) fun _ _ x => x)
  refine wpAny_bind (wpAny_standAt (wpAny_bind (wpAny_holding (wpAny_mono h₁ (fun t s₂ h₂ => ?_) fun _ _ x => x))))
  cases op <;> cases t
  · exact wpAny_pure h₂
  · exact h₂
  · exact h₂
  · exact wpAny_pure h₂

theorem EB_ok {op : BoolOp} {pos : Pos} : ∀ (es : List Expr), (∀ e ∈ es, ES prog w B env Φ G n e) → ∀ ρ σ d σ', chkEs G env.kindOf es = true → evalB Φ G op es ρ σ = some (d, σ') →
    ∀ (A : Around) (s : Shared) (η : List Addr) (E : Value → Shared → Prop) (Q : Value → Shared → Prop), Room n A → Ok prog w B η σ s.heap → Fm B env ρ η s.heap →
    (∀ v η' h' tk, Step (fun _ => False) η η' s.heap h' → Ok prog w B η' σ' h' → Rep h' η' v d → Q v { s with heap := h', toks := tk }) →
    wpAny (model prog w) A (boolOp pos op (evalEach es env)) Q E s
  | [], _, ρ, σ, d, σ', _, he => by exact nomatch (show (none : Option (PV × Store)) = some _ from he)
  | [e], h, ρ, σ, d, σ', hc, he => by
    intro A s η E Q R k F hQ
    simp only [eb_nil, eb_one, eb_cons] at he
    simp only [ck_nil, ck_cons, Bool.and_eq_true] at hc
    exact h e (.head _) ρ σ d σ' hc.1 he A s η E Q R k F hQ
  | e :: y :: es, h, ρ, σ, d, σ', hc, he => by
    intro A s η E Q R k F hQ
    have ih := EB_ok (op := op) (pos := pos) (y :: es) fun x hx => h x (.tail _ hx)
    simp only [eb_nil, eb_one, eb_cons] at he
    simp only [ck_nil, ck_cons, Bool.and_eq_true] at hc
    split at he
    · rename_i b σ₁ e1
      refine boolOp_cons (h e (.head _) ρ σ _ σ₁ hc.1 e1 A s η E _ R k F fun v η₁ H₁ t₁ s1 k1 r1 => ?_)
      cases r1
      refine wpAny_truthy_bool ?_
      have hc2 : chkEs G env.kindOf (y :: es) = true := by simp only [ck_nil, ck_cons, Bool.and_eq_true]; exact hc.2
      have go : evalB Φ G op (y :: es) ρ σ₁ = some (d, σ') → wpAny (model prog w) A (boolOp pos op (evalEach (y :: es) env)) Q E { s with heap := H₁, toks := t₁ } := fun q =>
        ih ρ σ₁ d σ' hc2 q A { s with heap := H₁, toks := t₁ } η₁ E Q R k1 (F.step s1) fun v' η₂ H₂ t₂ s2 k2 r2 => hQ v' η₂ H₂ t₂ (s1.trans0 s2) k2 r2
      cases op <;> cases b
      · cases he; exact hQ _ η₁ H₁ t₁ s1 k1 (.bool _)
      · exact go he
      · exact go he
      · cases he; exact hQ _ η₁ H₁ t₁ s1 k1 (.bool _)
    · cases he

theorem ES.none {e : Expr} (h : ∀ ρ σ, evalE Φ G e ρ σ = none) : ES prog w B env Φ G n e := by
  intro ρ σ d σ' hc he; rw [h] at he; cases he

variable (prog w B mg mb G Φ n) in
/-- what the induction takes along -/
structure Gnd (env : Env) : Prop where
  C : Cx B mg mb G
  Fn : FnsOk prog w B mg Φ n
  eo : EnvOk env

mutual
theorem soundE (D : Gnd prog w B mg mb G Φ n env) : ∀ e : Expr, ES prog w B env Φ G n e
  | .Constant c k p => ES.constant c k p
  | .Name x p => ES.name D.C D.eo x p
  | .BinOp l op r p => ES.binop (soundE D l) (soundE D r)
  | .UnaryOp op x p => ES.unop (soundE D x)
  | .BoolOp op vs p => by
    have h := soundAll D vs
    intro ρ σ d σ' hc he A s η E Q R k F hQ
    exact EB_ok (op := op) (pos := p) vs h ρ σ d σ' hc he A s η E Q R k F hQ
  | .Compare l ops rs p => by
    have hl := soundE D l
    have hr := soundAll D rs
    match ops, rs, hr with
    | [op], [r], hr => exact ES.compare hl (hr r (.head _))
    | [], _, _ => exact ES.none fun ρ σ => rfl
    | [_], [], _ => exact ES.none fun ρ σ => rfl
    | [_], _ :: _ :: _, _ => exact ES.none fun ρ σ => rfl
    | _ :: _ :: _, _, _ => exact ES.none fun ρ σ => rfl
  | .Call f args kws p => by
    have ha := soundAll D args
    match f, kws with
    | .Name x q, [] => exact ES.call D.C D.Fn D.eo (ESs.of_all _ ha)
    | .Attribute (.Name x q) nm ap, [] => exact ES.method D.C D.eo (ESs.of_all _ ha)
    | f, kws =>
      by_cases hk : kws = []
      · subst hk
        cases f with
        | Name x q => exact ES.call D.C D.Fn D.eo (ESs.of_all _ ha)
        | Attribute o nm ap =>
          cases o with
          | Name x q => exact ES.method D.C D.eo (ESs.of_all _ ha)
          | _ => exact ES.none fun ρ σ => rfl
        | _ => exact ES.none fun ρ σ => rfl
      · cases kws with
        | nil => exact absurd rfl hk
        | cons a b => exact ES.none fun ρ σ => by cases f with | Attribute o _ _ => (cases o <;> rfl) | _ => rfl
  | .Subscript v i p => by
    have hv := soundE D v
    have hI := soundE D i
    cases i with
    | Slice a b c q =>
      cases v with
      | Name x px =>
        have key : ∀ a b c, evalE Φ G (.Slice a b c q) = fun _ _ => none := fun a b c => rfl
        have no : ∀ a b c, (∀ ρ σ, evalE Φ G (.Subscript (.Name x px) (.Slice a b c q) p) ρ σ = (match evalE Φ G (.Name x px) ρ σ with
            | none => none
            | some (u, σ₁) => match evalE Φ G (.Slice a b c q) ρ σ₁ with
              | none => none
              | some (z, σ₂) => match subP σ₂ u z with
                | some d => some (d, σ₂)
                | none => none)) → ES prog w B env Φ G n (.Subscript (.Name x px) (.Slice a b c q) p) := fun a b c hh => ES.none fun ρ σ => by
          rw [hh, key]
          split <;> rfl
        cases c with
        | some c =>
          refine no _ _ _ fun ρ σ => ?_
          cases a with
          | none => rfl
          | some a =>
            cases b with
            | none => cases a <;> rfl
            | some b => cases a <;> first | rfl | (cases b <;> rfl)
        | none =>
          cases a with
          | none => exact no _ _ _ fun ρ σ => rfl
          | some a =>
            cases b with
            | none => exact no _ _ _ fun ρ σ => by cases a <;> rfl
            | some b =>
              cases a with
              | Constant c1 k1 p1 =>
                cases b with
                | Constant c2 k2 p2 => exact ES.slice hv
                | _ => exact no _ _ _ fun ρ σ => rfl
              | _ => exact no _ _ _ fun ρ σ => rfl
      | _ => intro ρ σ d σ' hc; exact nomatch (show false = true from hc)
    | _ => exact ES.sub hv hI (fun _ _ _ _ q => by cases q)
  | .List es p => ES.list (ESs.of_all _ (soundAll D es))
  | .Tuple es k p => ES.tuple (ESs.of_all _ (soundAll D es))
  | .NamedExpr .. => ES.none fun ρ σ => rfl
  | .Lambda .. => ES.none fun ρ σ => rfl
  | .IfExp .. => ES.none fun ρ σ => rfl
  | .Dict .. => ES.none fun ρ σ => rfl
  | .Set .. => ES.none fun ρ σ => rfl
  | .ListComp .. => ES.none fun ρ σ => rfl
  | .SetComp .. => ES.none fun ρ σ => rfl
  | .DictComp .. => ES.none fun ρ σ => rfl
  | .GeneratorExp .. => ES.none fun ρ σ => rfl
  | .Await .. => ES.none fun ρ σ => rfl
  | .Yield .. => ES.none fun ρ σ => rfl
  | .YieldFrom .. => ES.none fun ρ σ => rfl
  | .FormattedValue .. => ES.none fun ρ σ => rfl
  | .JoinedStr .. => ES.none fun ρ σ => rfl
  | .Attribute .. => ES.none fun ρ σ => rfl
  | .Starred .. => ES.none fun ρ σ => rfl
  | .Slice .. => ES.none fun ρ σ => rfl
theorem soundAll (D : Gnd prog w B mg mb G Φ n env) : ∀ es : List Expr, ∀ e ∈ es, ES prog w B env Φ G n e
  | [], _, h => nomatch h
  | e :: es, x, h => by
    have h1 := soundE D e
    have h2 := soundAll D es
    rcases List.mem_cons.mp h with rfl | h
    · exact h1
    · exact h2 x h
end
end

end Mine

set_option maxRecDepth 100000
namespace Mine
open PySem PySem.Spec PyProof.Rows

section
variable {prog : Program} {w : World} {A : Around} {E : Value → Shared → Prop} {s : Shared} {B : Heap} {η : List Addr} {σ : Store} {env : Env} {ρ : Locals} {mg mb : Str → Option Value} {G : Glob} {Φ : Fns} {n : Nat}

/-- a test does what the interpreter says -/
noncomputable def ET (prog : Program) (w : World) (B : Heap) (env : Env) (Φ : Fns) (G : Glob) (n : Nat) (e : Expr) : Prop :=
  ∀ ρ σ b σ', chkE G env.kindOf e = true → evalT Φ G e ρ σ = some (b, σ') → ∀ (A : Around) (s : Shared) (η : List Addr) (E : Value → Shared → Prop) (Q : Bool → Shared → Prop),
    Room n A → Ok prog w B η σ s.heap → Fm B env ρ η s.heap →
    (∀ η' h' tk, Step (fun _ => False) η η' s.heap h' → Ok prog w B η' σ' h' → Q b { s with heap := h', toks := tk }) →
    wpAny (model prog w) A (isTrue e env (eval e env)) Q E s

theorem ET.value {e : Expr} (h : ES prog w B env Φ G n e) (hT : ∀ ρ σ, evalT Φ G e ρ σ = (match evalE Φ G e ρ σ with | some (.bool b, σ₁) => some (b, σ₁) | _ => none))
    (he : isTrue e env (eval e env) = (do let v ← eval e env; standAt e.pos; holding [v] (truthy v))) : ET prog w B env Φ G n e := by
  intro ρ σ b σ' hc ht A s η E Q R k F hQ
  rw [hT] at ht
  split at ht
  · rename_i b' σ₁ e1
    cases ht
    refine wpAny_isTrue_value (h ρ σ _ _ hc e1 A s η E _ R k F fun v η₁ H₁ t₁ s1 k1 r1 => ?_) he
    cases r1
    exact wpAny_truthy_bool (hQ η₁ H₁ t₁ s1 k1)
  · cases ht

theorem ET.compare {l r : Expr} {op : CmpOp} {pos : Pos} (hl : ES prog w B env Φ G n l) (hr : ES prog w B env Φ G n r) : ET prog w B env Φ G n (.Compare l [op] [r] pos) := by
  intro ρ σ b σ' hc ht A s η E Q R k F hQ
  rw [yk, yN] at ht
  unfold valT at ht
  simp only [ck_name, ck_binop, ck_unop, ck_boolop, ck_cmp, ck_call, ck_meth, ck_slice, ck_list, ck_tuple, ck_nil, ck_cons, Bool.and_eq_true] at hc
  split at ht
  · rename_i b' σ₁ e0
    cases ht
    split at e0
    · cases e0
    · rename_i a σ₁ h1
      split at e0
      · cases e0
      · rename_i b σ₂ h2
        split at e0
        · rename_i d' h3
          cases e0
          refine wpAny_isTrue_Compare1 (hl ρ σ a σ₁ hc.1 h1 A s η E _ R k F fun va η₁ H₁ t₁ s1 k1 r1 => ?_) (marks_none h2)
          refine hr ρ σ₁ b _ hc.2.1 h2 A _ η₁ E _ R k1 (F.step s1) fun vb η₂ H₂ t₂ s2 k2 r2 => ?_
          refine cmp_ok k2 (by have := R.units; omega) (r1.step s2 (NoSeq.bot _)) r2 h3 fun c tk hd => ?_
          cases hd
          exact wpAny_truthy_bool (hQ η₂ H₂ tk (s1.trans0 s2) k2)
        · cases e0
  · cases ht

theorem ETs_ok {op : BoolOp} : ∀ (es : List Expr), (∀ e ∈ es, ET prog w B env Φ G n e) → ∀ ρ σ b σ', chkEs G env.kindOf es = true → evalTs Φ G op es ρ σ = some (b, σ') →
    ∀ (A : Around) (s : Shared) (η : List Addr) (E : Value → Shared → Prop) (Q : Bool → Shared → Prop), Room n A → Ok prog w B η σ s.heap → Fm B env ρ η s.heap →
    (∀ η' h' tk, Step (fun _ => False) η η' s.heap h' → Ok prog w B η' σ' h' → Q b { s with heap := h', toks := tk }) →
    wpAny (model prog w) A (allTrue op es env) Q E s
  | [], _, ρ, σ, b, σ', _, he => by
    intro A s η E Q R k F hQ
    simp only [ets_nil, ets_cons, Option.some.injEq, Prod.mk.injEq] at he
    obtain ⟨rfl, rfl⟩ := he
    cases op
    · exact wpAny_allTrue_And_nil (hQ η s.heap s.toks Step.refl k)
    · exact wpAny_allTrue_Or_nil (hQ η s.heap s.toks Step.refl k)
  | e :: es, h, ρ, σ, b, σ', hc, he => by
    intro A s η E Q R k F hQ
    have ih := ETs_ok (op := op) es fun x hx => h x (.tail _ hx)
    simp only [ets_nil, ets_cons] at he
    simp only [ck_nil, ck_cons, Bool.and_eq_true] at hc
    split at he
    · cases he
    · rename_i b1 σ₁ e1
      have go : ∀ η₁ H₁ t₁, Step (fun _ => False) η η₁ s.heap H₁ → Ok prog w B η₁ σ₁ H₁ → evalTs Φ G op es ρ σ₁ = some (b, σ') → wpAny (model prog w) A (allTrue op es env) Q E { s with heap := H₁, toks := t₁ } := fun η₁ H₁ t₁ s1 k1 q =>
        ih ρ σ₁ b σ' hc.2 q A { s with heap := H₁, toks := t₁ } η₁ E Q R k1 (F.step s1) fun η₂ H₂ t₂ s2 k2 => hQ η₂ H₂ t₂ (s1.trans0 s2) k2
      cases op
      · refine wpAny_allTrue_And_cons (h e (.head _) ρ σ _ σ₁ hc.1 e1 A s η E _ R k F fun η₁ H₁ t₁ s1 k1 => ?_)
        cases b1
        · cases he; exact hQ η₁ H₁ t₁ s1 k1
        · exact go η₁ H₁ t₁ s1 k1 he
      · refine wpAny_allTrue_Or_cons (h e (.head _) ρ σ _ σ₁ hc.1 e1 A s η E _ R k F fun η₁ H₁ t₁ s1 k1 => ?_)
        cases b1
        · exact go η₁ H₁ t₁ s1 k1 he
        · cases he; exact hQ η₁ H₁ t₁ s1 k1

theorem ET.none {e : Expr} (h : ∀ ρ σ, evalT Φ G e ρ σ = none) : ET prog w B env Φ G n e := by
  intro ρ σ d σ' hc he; rw [h] at he; cases he

mutual
theorem soundT (D : Gnd prog w B mg mb G Φ n env) : ∀ e : Expr, ET prog w B env Φ G n e
  | .UnaryOp op x p => by
    have h := soundT D x
    have h' := soundE D (.UnaryOp op x p)
    cases op with
    | Not =>
      intro ρ σ b σ' hc ht A s η E Q R k F hQ
      simp only [yj, zc, zJ, zK, yk, yl] at ht
      simp only [ck_name, ck_binop, ck_unop, ck_boolop, ck_cmp, ck_call, ck_meth, ck_slice, ck_list, ck_tuple] at hc
      split at ht
      · rename_i b1 σ₁ e1
        cases ht
        exact wpAny_isTrue_Not (h ρ σ _ _ hc e1 A s η E _ R k F fun η₁ H₁ t₁ s1 k1 => hQ η₁ H₁ t₁ s1 k1)
      · cases ht
    | USub => exact ET.value h' (fun ρ σ => rfl) rfl
    | UAdd => exact ET.value h' (fun ρ σ => rfl) rfl
    | Invert => exact ET.value h' (fun ρ σ => rfl) rfl
  | .BoolOp op vs p => by
    have h := soundTs D vs
    intro ρ σ b σ' hc ht A s η E Q R k F hQ
    exact wpAny_isTrue_BoolOp (ETs_ok (op := op) vs h ρ σ b σ' hc ht A s η E Q R k F hQ)
  | .Compare l ops rs p => by
    have hl := soundE D l
    have hr := soundAll D rs
    match ops, rs, hr with
    | [op], [r], hr => exact ET.compare hl (hr r (.head _))
    | [], _, _ => exact ET.none fun ρ σ => rfl
    | [_], [], _ => exact ET.none fun ρ σ => rfl
    | [_], _ :: _ :: _, _ => exact ET.none fun ρ σ => rfl
    | _ :: _ :: _, _, _ => exact ET.none fun ρ σ => rfl
  | .IfExp .. => ET.none fun ρ σ => rfl
  | .Constant c k p => ET.value (soundE D _) (fun ρ σ => rfl) rfl
  | .Name x p => ET.value (soundE D _) (fun ρ σ => rfl) rfl
  | .BinOp l op r p => ET.value (soundE D _) (fun ρ σ => rfl) rfl
  | .Call f args kws p => ET.value (soundE D _) (fun ρ σ => rfl) rfl
  | .Subscript v i p => ET.value (soundE D _) (fun ρ σ => rfl) rfl
  | .List es p => ET.value (soundE D _) (fun ρ σ => rfl) rfl
  | .Tuple es k p => ET.value (soundE D _) (fun ρ σ => rfl) rfl
  | .NamedExpr .. => ET.value (soundE D _) (fun ρ σ => rfl) rfl
  | .Lambda .. => ET.value (soundE D _) (fun ρ σ => rfl) rfl
  | .Dict .. => ET.value (soundE D _) (fun ρ σ => rfl) rfl
  | .Set .. => ET.value (soundE D _) (fun ρ σ => rfl) rfl
  | .ListComp .. => ET.value (soundE D _) (fun ρ σ => rfl) rfl
  | .SetComp .. => ET.value (soundE D _) (fun ρ σ => rfl) rfl
  | .DictComp .. => ET.value (soundE D _) (fun ρ σ => rfl) rfl
  | .GeneratorExp .. => ET.value (soundE D _) (fun ρ σ => rfl) rfl
  | .Await .. => ET.value (soundE D _) (fun ρ σ => rfl) rfl
  | .Yield .. => ET.value (soundE D _) (fun ρ σ => rfl) rfl
  | .YieldFrom .. => ET.value (soundE D _) (fun ρ σ => rfl) rfl
  | .FormattedValue .. => ET.value (soundE D _) (fun ρ σ => rfl) rfl
  | .JoinedStr .. => ET.value (soundE D _) (fun ρ σ => rfl) rfl
  | .Attribute .. => ET.value (soundE D _) (fun ρ σ => rfl) rfl
  | .Starred .. => ET.value (soundE D _) (fun ρ σ => rfl) rfl
  | .Slice .. => ET.value (soundE D _) (fun ρ σ => rfl) rfl
theorem soundTs (D : Gnd prog w B mg mb G Φ n env) : ∀ es : List Expr, ∀ e ∈ es, ET prog w B env Φ G n e
  | [], _, h => nomatch h
  | e :: es, x, h => by
    have h1 := soundT D e
    have h2 := soundTs D es
    rcases List.mem_cons.mp h with rfl | h
    · exact h1
    · exact h2 x h
end

/-! stores -/
theorem store_ok {x : Str} {v : Value} {d : PV} {Q : Unit → Shared → Prop} (eo : EnvOk env) (k : Ok prog w B η σ s.heap) (F : Fm B env ρ η s.heap) (hc : chkL env.kindOf x = true) (rv : Rep s.heap η v d)
    (hQ : ∀ h' tk, Step (Own env) η η s.heap h' → Ok prog w B η σ h' → Fm B env (upd ρ x d) η h' → Q () { s with heap := h', toks := tk }) : wpAny (model prog w) A (storeName env x v) Q E s := by
  have ns := F.noSeq
  have main : ∀ (c : Addr) h', Own env c → Heap.SameBut c s.heap h' → (∃ o, h'.get? c = some o ∧ ∀ items n, o.data ≠ .seq items n) →
      Step (Own env) η η s.heap h' ∧ Ok prog w B η σ h' ∧ (∀ b, Own env b → ∃ o, h'.get? b = some o ∧ ∀ items n, o.data ≠ .seq items n) := fun c h' hown hs hl => by
    refine ⟨⟨⟨[], by simp⟩, fun b o e nb np => ⟨(hs.2 b fun q => np (q ▸ hown)).trans e, nb⟩⟩, k.keep (P := Own env) (fun b o e np => (hs.2 b fun q => np (q ▸ hown)).trans e) ns F.off, fun b hb => ?_⟩
    by_cases q : b = c
    · subst q; exact hl
    · obtain ⟨o, ho, hn⟩ := F.live b hb
      exact ⟨o, (hs.2 b q).trans ho, hn⟩
  unfold chkL at hc
  split at hc
  · rename_i hk
    obtain ⟨m, hns, hm⟩ := F.ns
    refine wpAny_storeName_local hk hns (fun h' hn hs => ?_) (by rw [eo.kind]; rfl)
    obtain ⟨st, k', lv⟩ := main env.locals h' (.inl rfl) hs (by obtain ⟨o, es, ep, ho, hd, _⟩ := hn; exact ⟨o, ho, fun items n q => by rw [hd] at q; cases q⟩)
    refine hQ h' _ st k' ⟨⟨_, hn, fun y d' hy hr => ?_⟩, fun y d' hy hr => ?_, fun y hy => ?_, fun y d' hr => ?_, F.off, lv, F.cellNe, F.cellInj⟩
    · unfold upd at hr
      split at hr
      · rename_i e; subst e; cases hr; exact ⟨v, by simp, rv.step st ns⟩
      · rename_i e
        obtain ⟨u, hu, ru⟩ := hm y d' hy hr
        exact ⟨u, by simp [e, hu], ru.step st ns⟩
    · have e : y ≠ x := fun e => by subst e; rw [hk] at hy; cases hy
      unfold upd at hr
      rw [if_neg e] at hr
      obtain ⟨c, u, hc', ⟨o, ho, hd⟩, ru⟩ := F.cell y d' hy hr
      exact ⟨c, u, hc', ⟨o, (hs.2 c (F.cellNe y c hc')).trans ho, hd⟩, ru.step st ns⟩
    · obtain ⟨c, u, hc', ⟨o, ho, hd⟩⟩ := F.cells y hy
      exact ⟨c, u, hc', ⟨o, (hs.2 c (F.cellNe y c hc')).trans ho, hd⟩⟩
    · unfold upd at hr
      split at hr
      · rename_i e; subst e; exact .inl hk
      · exact F.kinds y d' hr
  · rename_i hk
    obtain ⟨c, v₀, hcl, hv₀⟩ := F.cells x hk
    refine wpAny_storeName_cell eo.kind hk hcl hv₀ fun h' hv' hs => ?_
    obtain ⟨st, k', lv⟩ := main c h' (.inr ⟨x, hcl⟩) hs (by obtain ⟨o, ho, hd⟩ := hv'; exact ⟨o, ho, fun items n q => by rw [hd] at q; cases q⟩)
    refine hQ h' s.toks st k' ⟨?_, fun y d' hy hr => ?_, fun y hy => ?_, fun y d' hr => ?_, F.off, lv, F.cellNe, F.cellInj⟩
    · obtain ⟨m, ⟨o, es, ep, ho, r⟩, hm⟩ := F.ns
      refine ⟨m, ⟨o, es, ep, (hs.2 _ (Ne.symm (F.cellNe x c hcl))).trans ho, r⟩, fun y d' hy hr => ?_⟩
      have e : y ≠ x := fun e => by subst e; rw [hk] at hy; cases hy
      unfold upd at hr
      rw [if_neg e] at hr
      obtain ⟨u, hu, ru⟩ := hm y d' hy hr
      exact ⟨u, hu, ru.step st ns⟩
    · unfold upd at hr
      split at hr
      · rename_i e; subst e; cases hr; exact ⟨c, v, hcl, hv', rv.step st ns⟩
      · rename_i e
        obtain ⟨c', u, hc', ⟨o, ho, hd⟩, ru⟩ := F.cell y d' hy hr
        have hne : c' ≠ c := fun q => e (F.cellInj y x c (q ▸ hc') hcl)
        exact ⟨c', u, hc', ⟨o, (hs.2 c' hne).trans ho, hd⟩, ru.step st ns⟩
    · by_cases e : y = x
      · subst e; exact ⟨c, _, hcl, hv'⟩
      · obtain ⟨c', u, hc', ⟨o, ho, hd⟩⟩ := F.cells y hy
        have hne : c' ≠ c := fun q => e (F.cellInj y x c (q ▸ hc') hcl)
        exact ⟨c', u, hc', ⟨o, (hs.2 c' hne).trans ho, hd⟩⟩
    · unfold upd at hr
      split at hr
      · rename_i e; subst e; exact .inr hk
      · exact F.kinds y d' hr
  · cases hc
end

end Mine

set_option maxRecDepth 100000
namespace Mine
open PySem PySem.Spec PyProof.Rows

section
variable {prog : Program} {w : World} {A : Around} {E : Value → Shared → Prop} {s : Shared} {B : Heap} {η η' : List Addr} {σ : Store} {env : Env} {ρ : Locals} {mg mb : Str → Option Value} {G : Glob} {Φ : Fns} {n : Nat} {h h' : Heap}

theorem Fm.stepP {P : Addr → Prop} (F : Fm B env ρ η h) (st : Step P η η' h h') (ns : NoSeq P h) (hd : ∀ b, Own env b → ¬ P b) : Fm B env ρ η' h' := by
  have up : ∀ b o, Own env b → h.get? b = some o → h'.get? b = some o ∧ b ∉ η' := fun b o hb e => st.keep b o e (F.off b hb).1 (hd b hb)
  refine ⟨?_, fun x d hk hr => ?_, fun x hk => ?_, F.kinds, fun b hb => ?_, fun b hb => ?_, F.cellNe, F.cellInj⟩
  · obtain ⟨m, ⟨o, es, ep, ho, r⟩, hm⟩ := F.ns
    refine ⟨m, ⟨o, es, ep, (up _ o (.inl rfl) ho).1, r⟩, fun x d hk hr => ?_⟩
    obtain ⟨v, e, rv⟩ := hm x d hk hr
    exact ⟨v, e, rv.step st ns⟩
  · obtain ⟨c, v, hc, ⟨o, ho, hd⟩, rv⟩ := F.cell x d hk hr
    exact ⟨c, v, hc, ⟨o, (up c o (.inr ⟨x, hc⟩) ho).1, hd⟩, rv.step st ns⟩
  · obtain ⟨c, v, hc, ⟨o, ho, hd⟩⟩ := F.cells x hk
    exact ⟨c, v, hc, ⟨o, (up c o (.inr ⟨x, hc⟩) ho).1, hd⟩⟩
  · obtain ⟨o, ho, _⟩ := F.live b hb
    exact ⟨(up b o hb ho).2, (F.off b hb).2⟩
  · obtain ⟨o, ho, hn⟩ := F.live b hb
    exact ⟨o, (up b o hb ho).1, hn⟩

noncomputable def FlRep (h : Heap) (η : List Addr) : Flow → Fl → Prop
  | .next, .next => True
  | .ret v, .ret d => Rep h η v d
  | _, _ => False

theorem FlRep.step {P : Addr → Prop} {f : Flow} {g : Fl} (r : FlRep h η f g) (st : Step P η η' h h') (ns : NoSeq P h) : FlRep h' η' f g := by
  cases f <;> cases g <;> first | exact r.elim | trivial | exact Rep.step st ns r

/-- a statement does what the interpreter says -/
noncomputable def SS (prog : Program) (w : World) (B : Heap) (env : Env) (Φ : Fns) (G : Glob) (n : Nat) (st : Stmt) : Prop :=
  ∀ ρ σ f ρ' σ', chkS G env.kindOf st = true → execS Φ G st ρ σ = some (f, ρ', σ') → ∀ (A : Around) (s : Shared) (η : List Addr) (E : Value → Shared → Prop) (Q : Flow → Shared → Prop),
    Room n A → Ok prog w B η σ s.heap → Fm B env ρ η s.heap →
    (∀ fl η' h' tk, Step (Own env) η η' s.heap h' → Ok prog w B η' σ' h' → Fm B env ρ' η' h' → FlRep h' η' fl f → Q fl { s with heap := h', toks := tk }) →
    wpAny (model prog w) A (exec st env) Q E s
noncomputable def SSs (prog : Program) (w : World) (B : Heap) (env : Env) (Φ : Fns) (G : Glob) (n : Nat) (sts : List Stmt) : Prop :=
  ∀ ρ σ f ρ' σ', chkSs G env.kindOf sts = true → execSs Φ G sts ρ σ = some (f, ρ', σ') → ∀ (A : Around) (s : Shared) (η : List Addr) (E : Value → Shared → Prop) (Q : Flow → Shared → Prop),
    Room n A → Ok prog w B η σ s.heap → Fm B env ρ η s.heap →
    (∀ fl η' h' tk, Step (Own env) η η' s.heap h' → Ok prog w B η' σ' h' → Fm B env ρ' η' h' → FlRep h' η' fl f → Q fl { s with heap := h', toks := tk }) →
    wpAny (model prog w) A (execs sts env) Q E s

theorem SSs.nil : SSs prog w B env Φ G n [] := by
  intro ρ σ f ρ' σ' hc he A s η E Q R k F hQ
  simp only [yu, zQ, Option.some.injEq, Prod.mk.injEq] at he
  obtain ⟨rfl, rfl, rfl⟩ := he
  exact wpAny_execs_nil (hQ .next η s.heap s.toks Step.refl k F trivial)

theorem SSs.cons {st : Stmt} {rest : List Stmt} (h1 : SS prog w B env Φ G n st) (h2 : SSs prog w B env Φ G n rest) : SSs prog w B env Φ G n (st :: rest) := by
  intro ρ σ f ρ' σ' hc he A s η E Q R k F hQ
  simp only [yu, zQ] at he
  simp only [cs_nil, cs_cons, Bool.and_eq_true] at hc
  split at he
  · cases he
  · rename_i ρ₁ σ₁ e1
    refine wpAny_execs_cons (h1 ρ σ _ ρ₁ σ₁ hc.1 e1 A s η E _ R k F fun fl η₁ H₁ t₁ s1 k1 F1 r1 => ?_)
    cases fl with
    | next => exact h2 ρ₁ σ₁ f ρ' σ' hc.2 he A { s with heap := H₁, toks := t₁ } η₁ E Q R k1 F1 fun fl η₂ H₂ t₂ s2 k2 F2 r2 => hQ fl η₂ H₂ t₂ (s1.transS s2) k2 F2 r2
    | _ => exact r1.elim
  · rename_i f₁ ρ₁ σ₁ hne e1
    cases he
    refine wpAny_execs_cons (h1 ρ σ _ _ _ hc.1 e1 A s η E _ R k F fun fl η₁ H₁ t₁ s1 k1 F1 r1 => ?_)
    cases fl with
    | next => cases f with | next => exact absurd rfl hne | _ => exact r1.elim
    | brk => exact hQ _ η₁ H₁ t₁ s1 k1 F1 r1
    | cont => exact hQ _ η₁ H₁ t₁ s1 k1 F1 r1
    | ret v => exact hQ _ η₁ H₁ t₁ s1 k1 F1 r1

theorem Step.own {P : Addr → Prop} {η₁ : List Addr} {h₁ : Heap} (st : Step (fun _ => False) η η₁ h h₁) : Step P η η₁ h h₁ := st.weaken fun _ f => f.elim

theorem SS.expr {e : Expr} {pos : Pos} (eo : EnvOk env) (he : ES prog w B env Φ G n e) : SS prog w B env Φ G n (.Expr e pos) := by
  intro ρ σ f ρ' σ' hc hx A s η E Q R k F hQ
  cases e with
  | Call fn args kws p =>
    simp only [ym, yO, xx, yn, yo, zL, x_for, x_while] at hx
    simp only [cs_expr, cs_ret, cs_if, cs_name, cs_tuple, cs_for, cs_while] at hc
    split at hx
    · rename_i d σ₁ e1
      cases hx
      refine wpAny_Expr_any (he ρ _ d _ hc e1 A s η E _ R k F fun v η₁ H₁ t₁ s1 k1 r1 => ?_) (by unfold interactive; rw [eo.kind]; rfl) rfl
      exact hQ .next η₁ H₁ t₁ s1.own k1 (F.step s1) trivial
    · cases hx
  | _ => exact nomatch (show (none : Option (Fl × Locals × Store)) = some _ from hx)

theorem SS.ret {e : Expr} {pos : Pos} (he : ES prog w B env Φ G n e) : SS prog w B env Φ G n (.Return (some e) pos) := by
  intro ρ σ f ρ' σ' hc hx A s η E Q R k F hQ
  simp only [ym, yO, xx, yn, yo, zL, x_for, x_while] at hx
  simp only [cs_expr, cs_ret, cs_if, cs_name, cs_tuple, cs_for, cs_while] at hc
  split at hx
  · rename_i d σ₁ e1
    cases hx
    refine wpAny_Return_some (he ρ _ d _ hc e1 A s η E _ R k F fun v η₁ H₁ t₁ s1 k1 r1 => ?_)
    exact hQ (.ret v) η₁ H₁ t₁ s1.own k1 (F.step s1) r1
  · cases hx

theorem SS.ite {t : Expr} {b o : List Stmt} {pos : Pos} (ht : ET prog w B env Φ G n t) (hb : SSs prog w B env Φ G n b) (ho : SSs prog w B env Φ G n o) : SS prog w B env Φ G n (.If t b o pos) := by
  intro ρ σ f ρ' σ' hc hx A s η E Q R k F hQ
  simp only [ym, yO, xx, yn, yo, zL, x_for, x_while] at hx
  simp only [cs_expr, cs_ret, cs_if, cs_name, cs_tuple, cs_for, cs_while, Bool.and_eq_true] at hc
  split at hx
  · cases hx
  · rename_i c σ₁ e1
    refine wpAny_If (ht ρ σ c σ₁ hc.1.1 e1 A s η E _ R k F fun η₁ H₁ t₁ s1 k1 => ?_)
    split at hx
    · rename_i hcb
      rw [if_pos hcb]
      exact hb ρ σ₁ f ρ' σ' hc.1.2 hx A { s with heap := H₁, toks := t₁ } η₁ E Q R k1 (F.step s1) fun fl η₂ H₂ t₂ s2 k2 F2 r2 => hQ fl η₂ H₂ t₂ (s1.own.transS s2) k2 F2 r2
    · rename_i hcb
      rw [if_neg hcb]
      exact ho ρ σ₁ f ρ' σ' hc.2 hx A { s with heap := H₁, toks := t₁ } η₁ E Q R k1 (F.step s1) fun fl η₂ H₂ t₂ s2 k2 F2 r2 => hQ fl η₂ H₂ t₂ (s1.own.transS s2) k2 F2 r2

/-! assignments -/
theorem bindNames_ok (eo : EnvOk env) : ∀ (es : List Expr) (ds : List PV) (vs : List Value) (ρ ρ' : Locals) (s : Shared) (Q : Unit → Shared → Prop), bindNames es ds ρ = some ρ' →
    es.all (chkNm env.kindOf) = true → Ok prog w B η σ s.heap → Fm B env ρ η s.heap → RepAll s.heap η vs ds →
    (∀ h' tk, Step (Own env) η η s.heap h' → Ok prog w B η σ h' → Fm B env ρ' η h' → Q () { s with heap := h', toks := tk }) →
    wpAny (model prog w) A (assignInOrder ((assignEach es env).map (·.2)) vs) Q E s
  | [], ds, vs, ρ, ρ', s, Q, hb, hc, k, F, r, hQ => by
    cases ds with
    | nil => cases r; simp only [yA, zY, Option.some.injEq] at hb; subst hb; exact wpAny_assignInOrder_none (hQ s.heap s.toks Step.refl k F)
    | cons => exact nomatch (show (none : Option Locals) = some _ from hb)
  | e :: es, ds, vs, ρ, ρ', s, Q, hb, hc, k, F, r, hQ => by
    cases e with
    | Name x p =>
      cases ds with
      | nil => exact nomatch (show (none : Option Locals) = some _ from hb)
      | cons d ds =>
        cases r with
        | cons a r =>
          simp only [yA, zY] at hb
          simp only [List.all_cons, Bool.and_eq_true] at hc
          refine wpAny_assignInOrder_more (wpAny_assign_Name (store_ok eo k F hc.1 a fun h₁ t₁ s1 k1 F1 => ?_))
          exact bindNames_ok eo es ds _ _ ρ' { s with heap := h₁, toks := t₁ } Q hb hc.2 k1 F1 (r.step s1 F.noSeq) fun h₂ t₂ s2 k2 F2 => hQ h₂ t₂ (s1.transS s2) k2 F2
    | _ => exact nomatch (show (none : Option Locals) = some _ from hb)

theorem bindNames_len : ∀ (es : List Expr) (ds : List PV) (ρ ρ' : Locals), bindNames es ds ρ = some ρ' → es.length = ds.length ∧ (assignEach es env).length = ds.length ∧ (assignEach es env).findIdx? (·.1) = none
  | [], [], _, _, _ => ⟨rfl, rfl, rfl⟩
  | [], _ :: _, _, _, h => by exact nomatch (show (none : Option Locals) = some _ from h)
  | e :: es, ds, ρ, ρ', h => by
    cases e with
    | Name x p =>
      cases ds with
      | nil => exact nomatch (show (none : Option Locals) = some _ from h)
      | cons d ds =>
        simp only [yA, zY] at h
        have ih := bindNames_len es ds _ _ h
        refine ⟨by simp [ih.1], ?_, ?_⟩
        · show (_ :: assignEach es env).length = _; simp [ih.2.1]
        · show ((false, _) :: assignEach es env).findIdx? (·.1) = none
          rw [List.findIdx?_cons]; simpa using ih.2.2
    | _ => exact nomatch (show (none : Option Locals) = some _ from h)

theorem bindT_ok (eo : EnvOk env) {t : Expr} {d : PV} {v : Value} {ρ' : Locals} {Q : Unit → Shared → Prop} (hh : A.handled = none) (hb : bindT t d ρ = some ρ') (hc : chkT G env.kindOf t = true) (k : Ok prog w B η σ s.heap) (F : Fm B env ρ η s.heap)
    (r : Rep s.heap η v d) (hQ : ∀ h' tk, Step (Own env) η η s.heap h' → Ok prog w B η σ h' → Fm B env ρ' η h' → Q () { s with heap := h', toks := tk }) :
    wpAny (model prog w) A (assign t env v) Q E s := by
  cases t with
  | Name x p =>
    simp only [zX, yz, Option.some.injEq] at hb
    subst hb
    exact wpAny_assign_Name (store_ok eo k F hc r hQ)
  | Tuple es kk p =>
    cases d with
    | tup ds =>
      simp only [zX, yz] at hb
      obtain ⟨l1, l2, l3⟩ := bindNames_len (env := env) es ds _ _ hb
      cases r with
      | tup nm t1 r1 =>
        rename_i a vs
        have hl := r1.length
        refine wpAny_assign_Tuple hh t1 (by rw [l2]; simp [hl]) l3 fun h₁ hx => ?_
        have x1 : Ext s.heap h₁ := fun b o e => hx b o (Nat.ne_of_lt (Heap.lt_size e)) e
        have xG : Step (fun _ => False) η η s.heap h₁ := Step.ext x1
        exact bindNames_ok eo es ds vs ρ ρ' { s with heap := h₁ } Q hb hc (k.ext x1) (F.step xG) (r1.ext x1) fun h₂ t₂ s2 k2 F2 => hQ h₂ t₂ (xG.own.transS s2) k2 F2
    | _ => exact nomatch (show (none : Option Locals) = some _ from hb)
  | _ => exact nomatch (show (none : Option Locals) = some _ from hb)

theorem swaps_none {e : Expr} {t : Option Expr} {l : Nat} {x : PV × Store} (h : evalE Φ G e ρ σ = some x) : swapsWith e t l env = pure false := by
  cases e <;> first | (exact nomatch (show (none : Option (PV × Store)) = some _ from h)) | rfl

theorem SS.assignName {x : Str} {p pos : Pos} {e : Expr} (eo : EnvOk env) (he : ES prog w B env Φ G n e) (h1 : ∀ y q, e = .List [y] q → ES prog w B env Φ G n y) : SS prog w B env Φ G n (.Assign [.Name x p] e pos) := by
  intro ρ σ f ρ' σ' hc hx A s η E Q R k F hQ
  simp only [cs_expr, cs_ret, cs_if, cs_name, cs_tuple, cs_for, cs_while, Bool.and_eq_true] at hc
  have hcx : chkL env.kindOf x = true := hc.1
  have plain : (match evalE Φ G e ρ σ with
      | some (d, σ₁) => some (Fl.next, upd ρ x d, σ₁)
      | none => none) = some (f, ρ', σ') → wpAny (model prog w) A (exec (.Assign [.Name x p] e pos) env) Q E s := fun hx => by
    split at hx
    · rename_i d σ₁ e1
      cases hx
      refine wpAny_Assign_Name (he ρ _ d _ hc.2 e1 A s η E _ R k F fun v η₁ H₁ t₁ s1 k1 r1 => ?_) (swaps_none e1)
      refine store_ok eo k1 (F.step s1) hcx r1 fun h₂ t₂ s2 k2 F2 => ?_
      exact hQ .next η₁ h₂ t₂ (s1.own.transS s2) k2 F2 trivial
    · cases hx
  cases e with
  | List es q =>
    cases es with
    | nil =>
      simp only [ym, yO, xx, yn, yo, zL, x_for, x_while, Option.some.injEq, Prod.mk.injEq] at hx
      obtain ⟨rfl, rfl, rfl⟩ := hx
      refine wpAny_Assign_Name (wpAny_List (Calls.spliced_nil ⟨by decide, ?_⟩)) rfl
      have xG : Step (fun _ => False) η (η ++ [s.heap.objs.size]) s.heap (s.heap.push { cls := .type "list", data := .seq ([] : List Value).toArray }) := Step.pushη _
      have k1 := k.alloc { cls := .type "list", data := .seq ([] : List Value).toArray } (.list []) ⟨[], ⟨0, Heap.get?_push_size _ rfl⟩, .nil⟩
      refine store_ok (d := .loc σ.length) eo k1 (F.step xG) hcx (.loc (by rw [List.getElem?_append_right (by rw [k.len]; exact Nat.le_refl _), k.len]; simp)) fun h₂ t₂ s2 k2 F2 => ?_
      exact hQ .next _ h₂ t₂ (xG.own.transS s2) k2 F2 trivial
    | cons y ys =>
      cases ys with
      | nil =>
        simp only [ym, yO, xx, yn, yo, zL, x_for, x_while] at hx
        split at hx
        · rename_i d σ₁ e1
          cases hx
          have hcy : chkE G env.kindOf y = true := by
            have := hc.2
            simp only [ck_name, ck_binop, ck_unop, ck_boolop, ck_cmp, ck_call, ck_meth, ck_slice, ck_list, ck_tuple, ck_nil, ck_cons, Bool.and_eq_true] at this
            exact this.1
          refine wpAny_Assign_Name (wpAny_List ?_) rfl
          rw [star_one e1]
          refine Calls.spliced_cons ((h1 y q rfl) ρ _ d _ hcy e1 A s η E _ R k F fun v η₁ H₁ t₁ s1 k1 r1 => ?_)
          refine Calls.spliced_nil ⟨(by show 1 ≤ sizeLine; decide), ?_⟩
          have xH : Step (fun _ => False) η₁ (η₁ ++ [H₁.objs.size]) H₁ (H₁.push { cls := .type "list", data := .seq [v].toArray }) := Step.pushη _
          have k2 := k1.alloc { cls := .type "list", data := .seq [v].toArray } (.list [d]) ⟨[v], ⟨0, Heap.get?_push_size _ rfl⟩, .cons (r1.step xH (NoSeq.bot _)) .nil⟩
          refine store_ok (d := .loc σ₁.length) eo k2 ((F.step s1).step xH) hcx (.loc (by rw [List.getElem?_append_right (by rw [k1.len]; exact Nat.le_refl _), k1.len]; simp)) fun h₂ t₂ s3 k3 F3 => ?_
          exact hQ .next _ h₂ t₂ ((s1.trans0 xH).own.transS s3) k3 F3 trivial
        · cases hx
      | cons z zs => exact plain hx
  | Dict ks vs q =>
    cases ks with
    | nil =>
      cases vs with
      | nil =>
        simp only [ym, yO, xx, yn, yo, zL, x_for, x_while, Option.some.injEq, Prod.mk.injEq] at hx
        obtain ⟨rfl, rfl, rfl⟩ := hx
        refine wpAny_Assign_Name (wpAny_Dict_empty ?_) rfl
        have xG : Step (fun _ => False) η (η ++ [s.heap.objs.size]) s.heap (s.heap.push { cls := .type "dict", data := .dict #[] }) := Step.pushη _
        have k1 := k.alloc { cls := .type "dict", data := .dict #[] } (.dict []) ⟨[], ⟨_, #[], 0, Heap.get?_push_size _ rfl, ⟨rfl, rfl, rfl⟩, rfl, rfl, (fun _ h => by cases h), .nil⟩, rfl, (fun _ h => by cases h), .nil⟩
        refine store_ok (d := .loc σ.length) eo k1 (F.step xG) hcx (.loc (by rw [List.getElem?_append_right (by rw [k.len]; exact Nat.le_refl _), k.len]; simp)) fun h₂ t₂ s2 k2 F2 => ?_
        exact hQ .next _ h₂ t₂ (xG.own.transS s2) k2 F2 trivial
      | cons => exact plain hx
    | cons => exact plain hx
  | _ => exact plain hx

theorem SS.assignTuple {ts : List Expr} {kk : Nat} {p pos : Pos} {e : Expr} (eo : EnvOk env) (he : ES prog w B env Φ G n e) : SS prog w B env Φ G n (.Assign [.Tuple ts kk p] e pos) := by
  intro ρ σ f ρ' σ' hc hx A s η E Q R k F hQ
  simp only [cs_expr, cs_ret, cs_if, cs_name, cs_tuple, cs_for, cs_while, Bool.and_eq_true] at hc
  have hx' : (∀ a b c, e ≠ .Tuple a b c) ∧ (match evalE Φ G e ρ σ with
    | some (d, σ₁) => match bindT (.Tuple ts kk p) d ρ with
      | some ρ₁ => some (Fl.next, ρ₁, σ₁)
      | none => none
    | none => none) = some (f, ρ', σ') := by
    cases e <;> first | (exact ⟨(fun _ _ _ q => by cases q), hx⟩) | (exact nomatch (show (none : Option (Fl × Locals × Store)) = some _ from hx))
  obtain ⟨hnt, hx'⟩ := hx'
  split at hx'
  · rename_i d σ₁ e1
    split at hx'
    · rename_i ρ₁ e2
      cases hx'
      refine wpAny_Assign_stores (he ρ _ d _ hc.2 e1 A s η E _ R k F fun v η₁ H₁ t₁ s1 k1 r1 => ?_) (by show swapsWith e (some (.Tuple ts kk p)) pos.line env = pure false; exact swaps_none e1) (by cases e <;> first | rfl | exact absurd rfl (hnt _ _ _))
      show wpAny (model prog w) A (assign (.Tuple ts kk p) env v) _ E _
      refine bindT_ok eo R.handled e2 hc.1 k1 (F.step s1) r1 fun h₂ t₂ s2 k2 F2 => ?_
      exact hQ .next η₁ h₂ t₂ (s1.own.transS s2) k2 F2 trivial
    · cases hx'
  · cases hx'

theorem stored_al {h : Heap} {k : List Int} {a : Addr} {v : Value} {dv : PV} {xs : List (List Int × Addr × Value)} {es : List (List Int × PV)} (e : xs.map (·.1) = es.map (·.1)) (r : RepAll h η (xs.map (·.2.2)) (es.map (·.2))) (rv : Rep h η v dv) :
    (storedH xs k a v).map (·.1) = (put k dv es).map (·.1) ∧ RepAll h η ((storedH xs k a v).map (·.2.2)) ((put k dv es).map (·.2)) ∧ ∀ x ∈ storedH xs k a v, x.2.1 = a ∨ ∃ y ∈ xs, y.2.1 = x.2.1 := by
  rcases find_at k e r with ⟨q1, q2⟩ | ⟨d', p, q1, q2, _⟩
  · rw [storedH_new q2]
    have : put k dv es = es ++ [(k, dv)] := by unfold put; rw [q1]; rfl
    rw [this]
    refine ⟨by simp [e], by simpa using r.append (.cons rv .nil), fun x hx => ?_⟩
    rcases List.mem_append.mp hx with h | h
    · exact .inr ⟨x, h, rfl⟩
    · rw [List.mem_singleton.mp h]; exact .inl rfl
  · rw [storedH_old q2]
    have : put k dv es = es.map (fun e => if e.1 = k then (e.1, dv) else e) := by unfold put; rw [q1]; rfl
    rw [this]
    refine ⟨?_, ?_, fun x hx => ?_⟩
    · rw [keys_map_putAt, e, List.map_map]
      refine List.map_congr_left fun y _ => ?_
      show y.1 = (if y.1 = k then (y.1, dv) else y).1
      split <;> rfl
    · clear q1 q2 this
      induction xs generalizing es with
      | nil => cases es with | nil => exact .nil | cons => cases e
      | cons x xs ih =>
        cases es with
        | nil => cases e
        | cons y es =>
          simp only [List.map_cons, List.cons.injEq] at e
          cases r with
          | cons b r =>
            simp only [List.map_cons]
            refine .cons ?_ (ih e.2 r)
            unfold putAt
            by_cases q : x.1 = k
            · rw [if_pos q, if_pos (e.1 ▸ q)]; exact rv
            · rw [if_neg q, if_neg (e.1 ▸ q)]; exact b
    · obtain ⟨y, hy, rfl⟩ := List.mem_map.mp hx
      refine .inr ⟨y, hy, ?_⟩
      unfold putAt
      split <;> rfl

theorem SS.assignSub {o i e : Expr} {p pos : Pos} (ho : ES prog w B env Φ G n o) (hi : ES prog w B env Φ G n i) (he : ES prog w B env Φ G n e) : SS prog w B env Φ G n (.Assign [.Subscript o i p] e pos) := by
  intro ρ σ f ρ' σ' hc hx A s η E Q R k F hQ
  rw [cs_sub] at hc
  simp only [Bool.and_eq_true] at hc
  rw [xs_sub] at hx
  split at hx
  · cases hx
  · rename_i d σ₁ e1
    split at hx
    · cases hx
    · rename_i a σ₂ e2
      split at hx
      · cases hx
      · rename_i b σ₃ e3
        split at hx
        · rename_i σ₄ e4
          cases hx
          refine wpAny_Assign_Subscript (he ρ _ d _ hc.2 e1 A s η E _ R k F fun v η₁ H₁ t₁ s1 k1 r1 => ?_) (swaps_none e1)
          refine ho ρ _ a _ hc.1.1 e2 A { s with heap := H₁, toks := t₁ } η₁ E _ R k1 (F.step s1) fun va η₂ H₂ t₂ s2 k2 r2 => ?_
          refine hi ρ _ b _ hc.1.2 e3 A { s with heap := H₂, toks := t₂ } η₂ E _ R k2 ((F.step s1).step s2) fun vb η₃ H₃ t₃ s3 k3 r3 => ?_
          have rv := (r1.step s2 (NoSeq.bot _)).step s3 (NoSeq.bot _)
          have ra := r2.step s3 (NoSeq.bot _)
          have s13 := (s1.trans0 s2).trans0 s3
          have F3 := ((F.step s1).step s2).step s3
          unfold setP at e4
          split at e4
          · split at e4
            · rename_i es kk hs hk
              split at e4
              · rename_i hl
                cases e4
                cases ra with
                | loc ha =>
                  cases r3 with
                  | tup n1 t1 q1 =>
                    obtain ⟨xs, hD, g1, gn, gr⟩ := (k3.objs _ _ _ ha hs : ∃ xs, _)
                    have hlen : xs.length = es.length := by have := congrArg List.length g1; simpa using this
                    refine wpAny_setItem_heap (knd := tk prog w) (tupleKind_room_in1 (by have := R.units; omega)) (key_is t1 q1 hk) hD (fun h' hm' hsb => ?_) (by omega)
                    have hm := List.mem_of_getElem? ha
                    have st : Step (fun _ => False) η₃ η₃ H₃ h' := Step.sameη hsb hm
                    obtain ⟨f1, f2, f3⟩ := stored_al (k := kk) (a := _) g1 (gr.step st (NoSeq.bot _)) (rv.step st (NoSeq.bot _))
                    refine hQ .next η₃ h' _ (s13.trans0 st).own (k3.set ha hsb ⟨_, hm', f1, fun x hx => ?_, f2⟩) (F3.step st) trivial
                    rcases f3 x hx with q | ⟨y, hy, q⟩
                    · rw [q]; exact n1
                    · rw [← q]; exact gn y hy
              · cases e4
            · cases e4
          · cases e4
        · cases hx
end

end Mine

set_option maxRecDepth 100000
namespace Mine
open PySem PySem.Spec PyProof.Rows

section
variable {prog : Program} {w : World} {A : Around} {E : Value → Shared → Prop} {s : Shared} {B : Heap} {η η' : List Addr} {σ : Store} {env : Env} {ρ : Locals} {mg mb : Str → Option Value} {G : Glob} {Φ : Fns} {n : Nat} {h h' : Heap}

/-- a loop over things that stay, by any of the kit's walks -/
theorem forL_ok (eo : EnvOk env) {tg : Expr} {body : List Stmt} (hb : SSs prog w B env Φ G n body) (hcb : chkSs G env.kindOf body = true) (hcx : chkT G env.kindOf tg = true) {I : Addr} {fp wr : List Addr} {N : Nat} {P : Nat → Value → Prop} {St : Nat → Heap → Prop}
    (W : Walks prog w A I fp wr N P St) (hlg : ∀ i (s' : Shared) v (Q' : Unit → Shared → Prop) (E' : Value → Shared → Prop), St i s'.heap → Q' () s' → wpAny (model prog w) A (letOwnedTupleGo tg (.ref I) v) Q' E' s') (hlive : ∀ i h, St i h → ∀ b ∈ fp, ∃ o, h.get? b = some o) (hns : ∀ i h, St i h → NoSeq (fun b => b ∈ wr) h)
    {ds : List PV} (hN : ds.length = N) {f : Fl} {ρ' : Locals} {σ' : Store} (he : forL (bindT tg) (fun ρ σ => execSs Φ G body ρ σ) ds ρ σ = some (f, ρ', σ'))
    (R : Room n A) (k : Ok prog w B η σ s.heap) (F : Fm B env ρ η s.heap) (hst : St 0 s.heap) (hfp : ∀ b ∈ fp, b ∉ η ∧ ¬ Own env b) (hwB : ∀ b ∈ wr, B.get? b = none)
    (hItem : ∀ i v d, P i v → ds[i]? = some d → Rep s.heap η v d) {RR : Result → Shared → Prop}
    (hR : ∀ fl η' h' tk, Step (fun b => Own env b ∨ b ∈ wr) η η' s.heap h' → Ok prog w B η' σ' h' → Fm B env ρ' η' h' → FlRep h' η' fl f → RR (.ok fl) { s with heap := h', toks := tk }) :
    codeAny (model prog w) A (.forLoop tg (.ref I) body [] env) RR s := by
  have nsP : NoSeq (fun b => Own env b ∨ b ∈ wr) s.heap := fun b o hb e => hb.elim (fun q => F.noSeq b o q e) fun q => hns 0 _ hst b o q e
  refine codeAny_forLoop_any (fun m s' => ∃ i η₁ h₁ t₁ ρ₁ σ₁, s' = { s with heap := h₁, toks := t₁ } ∧ i ≤ N ∧ m = N - i ∧ St i h₁ ∧ Step (fun b => Own env b ∨ b ∈ wr) η η₁ s.heap h₁ ∧ Ok prog w B η₁ σ₁ h₁ ∧ Fm B env ρ₁ η₁ h₁ ∧
    (∀ b ∈ fp, b ∉ η₁) ∧ forL (bindT tg) (fun ρ σ => execSs Φ G body ρ σ) (ds.drop i) ρ₁ σ₁ = some (f, ρ', σ')) ?_ N
    ⟨0, η, s.heap, s.toks, ρ, σ, rfl, Nat.zero_le _, rfl, hst, Step.refl, k, F, fun b hb => (hfp b hb).1, by simpa using he⟩
  rintro m s' ⟨i, η₁, h₁, t₁, ρ₁, σ₁, rfl, hi, rfl, xG, sp1, k1, F1, hf1, he1⟩
  have hOw : ∀ b, Own env b → ¬ b ∈ wr := fun b hb hw => (hfp b (W.sub b hw)).2 hb
  by_cases hlt : i < N
  · have hd : ∃ d, ds[i]? = some d := ⟨_, List.getElem?_eq_getElem (by omega)⟩
    obtain ⟨d, hd⟩ := hd
    have hdrop : ds.drop i = d :: ds.drop (i + 1) := by
      have hi' := (List.getElem?_eq_some_iff.mp hd)
      rw [List.drop_eq_getElem_cons hi'.1, hi'.2]
    rw [hdrop] at he1
    simp only [forL] at he1
    split at he1
    · cases he1
    rename_i ρb hbnd
    refine W.item i _ _ _ hlt xG fun v h₂ t₂ hP xH hk2 => ?_
    have sp2 : Step (fun b => b ∈ wr) η₁ η₁ h₁ h₂ := ⟨⟨[], by simp⟩, fun b o e nb nw => ⟨hk2 b o nw e, nb⟩⟩
    have k2 : Ok prog w B η₁ σ₁ h₂ := k1.keep (P := fun b => b ∈ wr) (fun b o e nw => hk2 b o nw e) (hns i h₁ xG) fun b hb => ⟨hf1 b (W.sub b hb), hwB b hb⟩
    have F2 : Fm B env ρ₁ η₁ h₂ := F1.stepP sp2 (hns i h₁ xG) hOw
    have sp12 : Step (fun b => Own env b ∨ b ∈ wr) η η₁ s.heap h₂ := sp1.trans sp2 fun x hx => .inl (.inr hx)
    have rv : Rep h₂ η₁ v d := (hItem i v d hP hd).step sp12 nsP
    refine hlg (i + 1) _ _ _ _ xH (bindT_ok eo R.handled hbnd hcx k2 F2 rv fun h₃ t₃ sp3 k3 F3 => ?_)
    split at he1
    · cases he1
    · rename_i ρ₂ σ₂ e2
      refine hb _ _ _ ρ₂ σ₂ hcb e2 A { s with heap := h₃, toks := t₃ } η₁ _ _ R k3 F3 fun fl η₄ h₄ t₄ sp4 k4 F4 r4 => ?_
      have sp34 : Step (Own env) η₁ η₄ h₂ h₄ := sp3.transS sp4
      have keepfp : ∀ b ∈ fp, ∀ o, h₂.get? b = some o → h₄.get? b = some o ∧ b ∉ η₄ := fun b hb o e => sp34.keep b o e (hf1 b hb) (hfp b hb).2
      have st4 : St (i + 1) h₄ := W.frame _ _ _ xH fun b hb o e => (keepfp b hb o e).1
      have hf4 : ∀ b ∈ fp, b ∉ η₄ := fun b hb => by obtain ⟨o, ho⟩ := hlive _ _ xH b hb; exact (keepfp b hb o ho).2
      have sp14 : Step (fun b => Own env b ∨ b ∈ wr) η η₄ s.heap h₄ := sp12.trans sp34 fun x hx => .inl (.inl hx)
      cases fl with
      | next => exact ⟨N - (i + 1), by omega, i + 1, η₄, h₄, t₄, ρ₂, σ₂, rfl, hlt, rfl, st4, sp14, k4, F4, hf4, he1⟩
      | _ => exact r4.elim
    · rename_i d' ρ₂ σ₂ e2
      cases he1
      refine hb _ _ _ _ _ hcb e2 A { s with heap := h₃, toks := t₃ } η₁ _ _ R k3 F3 fun fl η₄ h₄ t₄ sp4 k4 F4 r4 => ?_
      have sp14 : Step (fun b => Own env b ∨ b ∈ wr) η η₄ s.heap h₄ := sp12.trans (sp3.transS sp4) fun x hx => .inl (.inl hx)
      cases fl with
      | ret v' => exact hR (.ret v') η₄ h₄ t₄ sp14 k4 F4 r4
      | _ => exact r4.elim
  · have hin : i = N := by omega
    have hdrop : ds.drop i = [] := List.drop_eq_nil_of_le (by omega)
    rw [hdrop] at he1
    simp only [forL, Option.some.injEq, Prod.mk.injEq] at he1
    obtain ⟨rfl, rfl, rfl⟩ := he1
    refine W.done _ _ _ (hin ▸ xG) fun h₂ t₂ hk2 => ?_
    have sp2 : Step (fun b => b ∈ wr) η₁ η₁ h₁ h₂ := ⟨⟨[], by simp⟩, fun b o e nb nw => ⟨hk2 b o nw e, nb⟩⟩
    have k2 : Ok prog w B η₁ σ₁ h₂ := k1.keep (P := fun b => b ∈ wr) (fun b o e nw => hk2 b o nw e) (hns i h₁ xG) fun b hb => ⟨hf1 b (W.sub b hb), hwB b hb⟩
    have F2 : Fm B env ρ₁ η₁ h₂ := F1.stepP sp2 (hns i h₁ xG) hOw
    exact wpAny_execs_nil (hR .next η₁ h₂ t₂ (sp1.trans sp2 fun x hx => .inl (.inr hx)) k2 F2 trivial)

/-- a new address is none of ours -/
theorem new_off (k : Ok prog w B η σ h) (F : Fm B env ρ η h) : h.objs.size ∉ η ∧ ¬ Own env h.objs.size ∧ B.get? h.objs.size = none := by
  refine ⟨k.fresh, fun hb => ?_, ?_⟩
  · obtain ⟨o, ho, _⟩ := F.live _ hb
    exact Nat.lt_irrefl _ (Heap.lt_size ho)
  · cases q : B.get? h.objs.size with
    | none => rfl
    | some o => exact absurd (Heap.lt_size (k.base _ _ q).1) (Nat.lt_irrefl _)
end

end Mine

set_option maxRecDepth 100000
namespace Mine
open PySem PySem.Spec PyProof.Rows

section
variable {prog : Program} {w : World} {A : Around} {E : Value → Shared → Prop} {s : Shared} {B : Heap} {η η' : List Addr} {σ : Store} {env : Env} {ρ : Locals} {mg mb : Str → Option Value} {G : Glob} {Φ : Fns} {n : Nat} {h h' : Heap}

theorem own_ne_seq (F : Fm B env ρ η h) {a : Addr} {o : Obj} {items : Array Value} {m : Nat} (ho : h.get? a = some o) (hd : o.data = .seq items m) : ¬ Own env a := fun hb => F.noSeq a o hb ho items m hd

/-- the loop behind a new iterator -/
theorem push_loop (eo : EnvOk env) {tg : Expr} {body : List Stmt} (hb : SSs prog w B env Φ G n body) (hcb : chkSs G env.kindOf body = true) (hcx : chkT G env.kindOf tg = true) (ob : Obj) {fp : List Addr} {N : Nat} {P : Nat → Value → Prop} {St : Nat → Heap → Prop}
    (W : Walks prog w A s.heap.objs.size fp [s.heap.objs.size] N P St) (hlg : ∀ i (s' : Shared) v (Q' : Unit → Shared → Prop) (E' : Value → Shared → Prop), St i s'.heap → Q' () s' → wpAny (model prog w) A (letOwnedTupleGo tg (.ref s.heap.objs.size) v) Q' E' s') (hlive : ∀ i h, St i h → ∀ b ∈ fp, ∃ o, h.get? b = some o) (hns : ∀ i h, St i h → NoSeq (fun b => b ∈ [s.heap.objs.size]) h)
    {ds : List PV} (hN : ds.length = N) {f : Fl} {ρ' : Locals} {σ' : Store} (he : forL (bindT tg) (fun ρ σ => execSs Φ G body ρ σ) ds ρ σ = some (f, ρ', σ'))
    (R : Room n A) (k : Ok prog w B η σ s.heap) (F : Fm B env ρ η s.heap) (hst : St 0 (s.heap.push ob)) (hfp : ∀ b ∈ fp, b = s.heap.objs.size ∨ (b ∉ η ∧ ¬ Own env b))
    (hItem : ∀ i v d, P i v → ds[i]? = some d → Rep s.heap η v d) {RR : Result → Shared → Prop}
    (hR : ∀ fl η' h' tk, Step (Own env) η η' s.heap h' → Ok prog w B η' σ' h' → Fm B env ρ' η' h' → FlRep h' η' fl f → RR (.ok fl) { s with heap := h', toks := tk }) :
    codeAny (model prog w) A (.forLoop tg (.ref s.heap.objs.size) body [] env) RR { s with heap := s.heap.push ob } := by
  obtain ⟨n1, n2, n3⟩ := new_off k F
  have x1 : Ext s.heap (s.heap.push ob) := Ext.push _ _
  have xG : Step (Own env) η η s.heap (s.heap.push ob) := Step.ext x1
  refine forL_ok (s := { s with heap := s.heap.push ob }) eo hb hcb hcx W hlg hlive hns hN he R (k.ext x1) (F.step (Step.ext x1)) hst (fun b hb' => ?_) (fun b hb' => ?_) (fun i v d h1 h2 => (hItem i v d h1 h2).ext x1) fun fl η₂ h₂ t₂ s2 k2 F2 r2 => ?_
  · rcases hfp b hb' with q | q
    · subst q; exact ⟨n1, n2⟩
    · exact q
  · rw [List.mem_singleton.mp hb']; exact n3
  · refine hR fl η₂ h₂ t₂ (xG.trans s2 fun z hz => ?_) k2 F2 r2
    rcases hz with q | q
    · exact .inl q
    · right
      rw [List.mem_singleton.mp q]
      cases e : s.heap.get? s.heap.objs.size with
      | none => rfl
      | some o => exact absurd (Heap.lt_size e) (Nat.lt_irrefl _)

section
variable {x : Str} {p : Pos} {body : List Stmt} {f : Fl} {ρ' : Locals} {σ' : Store} {RR : Result → Shared → Prop} {ds : List PV} {v : Value}

theorem iter_lst (eo : EnvOk env) (hb : SSs prog w B env Φ G n body) (hcb : chkSs G env.kindOf body = true) (hcx : chkL env.kindOf x = true) (r : Rep s.heap η v (.lst ds)) (he : forL (bindT (.Name x p)) (fun ρ σ => execSs Φ G body ρ σ) ds ρ σ = some (f, ρ', σ'))
    (R : Room n A) (k : Ok prog w B η σ s.heap) (F : Fm B env ρ η s.heap)
    (hR : ∀ fl η' h' tk, Step (Own env) η η' s.heap h' → Ok prog w B η' σ' h' → Fm B env ρ' η' h' → FlRep h' η' fl f → RR (.ok fl) { s with heap := h', toks := tk }) :
    wpAny (model prog w) A (pyIter v) (fun it s₂ => codeAny (model prog w) A (.forLoop (.Name x p) it body [] env) RR s₂) E s := by
  cases r with
  | lst nm pl r =>
    rename_i a vs
    obtain ⟨m, ho⟩ := id pl
    have hne : a ≠ s.heap.objs.size := Nat.ne_of_lt (Heap.lt_size ho)
    refine wpAny_pyIter_list pl.isList ?_
    refine push_loop (tg := .Name x p) eo hb hcb hcx _ (Walks.list R.handled s.heap.objs.size a hne vs.toArray) (fun _ _ _ _ _ _ h => wpAny_pure h) ?_ ?_ (by simp [r.length]) he R k F ?_ ?_ ?_ hR
    · rintro i h ⟨⟨o1, e1, _⟩, o2, e2, _⟩ b hb
      rcases List.mem_cons.mp hb with rfl | hb
      · exact ⟨o1, e1⟩
      · rw [List.mem_singleton.mp hb]; exact ⟨o2, e2⟩
    · rintro i h ⟨⟨o1, e1, _, d1⟩, _⟩ b o hb e items m hd
      rw [List.mem_singleton.mp hb, e1] at e
      cases e; rw [d1] at hd; cases hd
    · exact ⟨⟨_, Heap.get?_push_size _ rfl, rfl, rfl⟩, pl.isList.push _⟩
    · intro b hb
      rcases List.mem_cons.mp hb with rfl | hb
      · exact .inl rfl
      · rw [List.mem_singleton.mp hb]; exact .inr ⟨nm, own_ne_seq F ho rfl⟩
    · intro i u d hu hd
      obtain ⟨d', e1, r1⟩ := r.getV (k := i) (v := u) (by simpa using hu)
      rw [hd] at e1; cases e1; exact r1

theorem iter_tup {tg : Expr} (eo : EnvOk env) (hb : SSs prog w B env Φ G n body) (hcb : chkSs G env.kindOf body = true) (hcx : chkT G env.kindOf tg = true) (r : Rep s.heap η v (.tup ds)) (he : forL (bindT tg) (fun ρ σ => execSs Φ G body ρ σ) ds ρ σ = some (f, ρ', σ'))
    (R : Room n A) (k : Ok prog w B η σ s.heap) (F : Fm B env ρ η s.heap)
    (hR : ∀ fl η' h' tk, Step (Own env) η η' s.heap h' → Ok prog w B η' σ' h' → Fm B env ρ' η' h' → FlRep h' η' fl f → RR (.ok fl) { s with heap := h', toks := tk }) :
    wpAny (model prog w) A (pyIter v) (fun it s₂ => codeAny (model prog w) A (.forLoop tg it body [] env) RR s₂) E s := by
  cases r with
  | tup nm pl r =>
    rename_i a vs
    obtain ⟨o, ho, hc, m, hd⟩ := id pl
    have hne : a ≠ s.heap.objs.size := Nat.ne_of_lt (Heap.lt_size ho)
    refine wpAny_pyIter_tuple pl ?_
    refine push_loop eo hb hcb hcx _ (Walks.tuple R.handled s.heap.objs.size a hne vs.toArray) (fun _ _ _ _ _ st h => letGo_tupleiter st.1 h) ?_ ?_ (by simp [r.length]) he R k F ?_ ?_ ?_ hR
    · rintro i h ⟨⟨o1, e1, _⟩, o2, e2, _⟩ b hb
      rcases List.mem_cons.mp hb with rfl | hb
      · exact ⟨o1, e1⟩
      · rw [List.mem_singleton.mp hb]; exact ⟨o2, e2⟩
    · rintro i h ⟨⟨o1, e1, _, d1⟩, _⟩ b o hb e items m hd
      rw [List.mem_singleton.mp hb, e1] at e
      cases e; rw [d1] at hd; cases hd
    · exact ⟨⟨_, Heap.get?_push_size _ rfl, rfl, rfl⟩, pl.at fun o e => Heap.get?_push_of_some _ e⟩
    · intro b hb
      rcases List.mem_cons.mp hb with rfl | hb
      · exact .inl rfl
      · rw [List.mem_singleton.mp hb]; exact .inr ⟨nm, own_ne_seq F ho hd⟩
    · intro i u d hu hd
      obtain ⟨d', e1, r1⟩ := r.getV (k := i) (v := u) (by simpa using hu)
      rw [hd] at e1; cases e1; exact r1

theorem iter_str {y : Str} (eo : EnvOk env) (hb : SSs prog w B env Φ G n body) (hcb : chkSs G env.kindOf body = true) (hcx : chkL env.kindOf x = true) (r : Rep s.heap η v (.str y)) (he : forL (bindT (.Name x p)) (fun ρ σ => execSs Φ G body ρ σ) (y.cps.toList.map fun c => .str ⟨#[c]⟩) ρ σ = some (f, ρ', σ'))
    (R : Room n A) (k : Ok prog w B η σ s.heap) (F : Fm B env ρ η s.heap)
    (hR : ∀ fl η' h' tk, Step (Own env) η η' s.heap h' → Ok prog w B η' σ' h' → Fm B env ρ' η' h' → FlRep h' η' fl f → RR (.ok fl) { s with heap := h', toks := tk }) :
    wpAny (model prog w) A (pyIter v) (fun it s₂ => codeAny (model prog w) A (.forLoop (.Name x p) it body [] env) RR s₂) E s := by
  cases r with
  | str y t =>
    have item : ∀ i u d, SignAt y i u → (y.cps.toList.map fun c => PV.str ⟨#[c]⟩)[i]? = some d → Rep s.heap η u d := by
      rintro i u d ⟨c, tk, hc, rfl⟩ hd
      rw [List.getElem?_map, Array.getElem?_toList, hc] at hd
      cases hd; exact .str _ _
    have live : ∀ (ty : String) (i : Nat) (h : Heap), h.IsStrIter s.heap.objs.size ty y t i → ∀ b ∈ [s.heap.objs.size], ∃ o, h.get? b = some o := by
      rintro ty i h ⟨o1, e1, _⟩ b hb
      rw [List.mem_singleton.mp hb]; exact ⟨o1, e1⟩
    have nosq : ∀ (ty : String) (i : Nat) (h : Heap), h.IsStrIter s.heap.objs.size ty y t i → NoSeq (fun b => b ∈ [s.heap.objs.size]) h := by
      rintro ty i h ⟨o1, e1, _, d1⟩ b o hb e items m hd
      rw [List.mem_singleton.mp hb, e1] at e
      cases e; rw [d1] at hd; cases hd
    have fps : ∀ b ∈ [s.heap.objs.size], b = s.heap.objs.size ∨ (b ∉ η ∧ ¬ Own env b) := fun b hb => .inl (List.mem_singleton.mp hb)
    cases ha : y.cps.all (· < 128)
    · refine wpAny_pyIter_wide ha ?_
      exact push_loop (tg := .Name x p) eo hb hcb hcx _ (Walks.strWide R.handled _ y t) (fun _ _ _ _ _ _ h => wpAny_pure h) (live _) (nosq _) (by simp) he R k F ⟨_, Heap.get?_push_size _ rfl, rfl, rfl⟩ fps item hR
    · refine wpAny_pyIter_ascii ha ?_
      exact push_loop (tg := .Name x p) eo hb hcb hcx _ (Walks.strAscii R.handled _ y t) (fun _ _ _ _ _ _ h => wpAny_pure h) (live _) (nosq _) (by simp) he R k F ⟨_, Heap.get?_push_size _ rfl, rfl, rfl⟩ fps item hR

theorem range_small {a b c : Int} (h : rangeOk a b c = true) : Builtin.Range.small a b c = true ∧ 0 ≤ Builtin.Range.rangeSize a b c := by
  simp only [rangeOk, Bool.and_eq_true, decide_eq_true_eq] at h
  obtain ⟨⟨⟨h1, h2⟩, h3⟩, h4⟩ := h
  have hz : 0 ≤ Builtin.Range.rangeSize a b c ∧ Builtin.Range.rangeSize a b c ≤ 2 ^ 62 := by
    unfold Builtin.Range.rangeSize
    rw [if_pos h3]
    split
    · have e1 : 0 ≤ (b - a - 1) / c := Int.ediv_nonneg (by omega) (by omega)
      have e2 : (b - a - 1) / c ≤ b - a - 1 := Int.ediv_le_self _ (by omega)
      omega
    · omega
  refine ⟨?_, hz.1⟩
  unfold Builtin.Range.small
  have f1 : Builtin.Range.rangeFitsLong a = true := by simp only [Builtin.Range.rangeFitsLong, Bool.and_eq_true, decide_eq_true_eq]; omega
  have f2 : Builtin.Range.rangeFitsLong b = true := by simp only [Builtin.Range.rangeFitsLong, Bool.and_eq_true, decide_eq_true_eq]; omega
  have f3 : Builtin.Range.rangeFitsLong c = true := by simp only [Builtin.Range.rangeFitsLong, Bool.and_eq_true, decide_eq_true_eq]; omega
  have f4 : Builtin.Range.rangeFitsLong (Builtin.Range.rangeSize a b c) = true := by simp only [Builtin.Range.rangeFitsLong, Bool.and_eq_true, decide_eq_true_eq]; omega
  have f5 : Builtin.Range.rangeFitsLong (b + (c - 1)) = true := by simp only [Builtin.Range.rangeFitsLong, Bool.and_eq_true, decide_eq_true_eq]; omega
  rw [f1, f2, f3, f4, if_pos h3, f5]
  simp

theorem iter_range {a b c : Int} {t u v : Tok} {r : Addr} (eo : EnvOk env) (hb : SSs prog w B env Φ G n body) (hcb : chkSs G env.kindOf body = true) (hcx : chkL env.kindOf x = true) (hr : IsRange s.heap r a b c t u v) (ok : rangeOk a b c = true)
    (he : forL (bindT (.Name x p)) (fun ρ σ => execSs Φ G body ρ σ) (rangeP a b c) ρ σ = some (f, ρ', σ'))
    (R : Room n A) (k : Ok prog w B η σ s.heap) (F : Fm B env ρ η s.heap)
    (hR : ∀ fl η' h' tk, Step (Own env) η η' s.heap h' → Ok prog w B η' σ' h' → Fm B env ρ' η' h' → FlRep h' η' fl f → RR (.ok fl) { s with heap := h', toks := tk }) :
    wpAny (model prog w) A (pyIter (.ref r)) (fun it s₂ => codeAny (model prog w) A (.forLoop (.Name x p) it body [] env) RR s₂) E s := by
  obtain ⟨hs, h0⟩ := range_small ok
  refine wpAny_pyIter_range hr hs ?_
  have W : Walks prog w A s.heap.objs.size [s.heap.objs.size] [s.heap.objs.size] (Builtin.Range.rangeSize a b c).toNat _ _ := Walks.range R.handled s.heap.objs.size a c _
  refine push_loop (tg := .Name x p) eo hb hcb hcx _ W (fun _ _ _ _ _ _ h => wpAny_pure h) ?_ ?_ (by simp [rangeP]) he R k F ?_ (fun b hb => .inl (List.mem_singleton.mp hb)) ?_ hR
  · intro i h hi b hb
    rw [List.mem_singleton.mp hb]; exact ⟨_, hi⟩
  · intro i h hi b o hb e items m hd
    rw [List.mem_singleton.mp hb, hi] at e
    cases e; cases hd
  · show IsRangeIter _ _ _ _ _
    have e1 : a + ((0 : Nat) : Int) * c = a := by simp
    have e2 : ((Builtin.Range.rangeSize a b c).toNat : Int) - ((0 : Nat) : Int) = Builtin.Range.rangeSize a b c := by rw [Int.toNat_of_nonneg h0]; simp
    rw [e1, e2]
    exact Heap.get?_push_size _ rfl
  · rintro i v d ⟨t', rfl⟩ hd
    have hi : i < (Builtin.Range.rangeSize a b c).toNat := by
      have := (List.getElem?_eq_some_iff.mp hd).1
      simpa [rangeP] using this
    simp only [rangeP, List.getElem?_map, List.getElem?_range hi, Option.map_some, Option.some.injEq] at hd
    subst hd
    exact .int _ _
end
end

end Mine

set_option maxRecDepth 100000
namespace Mine
open PySem PySem.Spec PyProof.Rows

section
variable {prog : Program} {w : World} {A : Around} {E : Value → Shared → Prop} {s : Shared} {B : Heap} {η η' : List Addr} {σ : Store} {env : Env} {ρ : Locals} {mg mb : Str → Option Value} {G : Glob} {Φ : Fns} {n : Nat} {h h' : Heap}
variable {x : Str} {p : Pos} {body : List Stmt} {f : Fl} {ρ' : Locals} {σ' : Store} {RR : Result → Shared → Prop} {ds : List PV} {v : Value}

/-- a loop over a list of the store -/
theorem iter_loc {l m₀ : Nat} (eo : EnvOk env) (hb : SSs prog w B env Φ G n body) (hcb : chkSs G env.kindOf body = true) (hcx : chkL env.kindOf x = true) (r : Rep s.heap η v (.loc l)) (hi : items? σ (.loc l) = some ds) (he : forLoc (bindT (.Name x p)) (fun ρ σ => execSs Φ G body ρ σ) l m₀ 0 ρ σ = some (f, ρ', σ'))
    (R : Room n A) (k : Ok prog w B η σ s.heap) (F : Fm B env ρ η s.heap)
    (hR : ∀ fl η' h' tk, Step (Own env) η η' s.heap h' → Ok prog w B η' σ' h' → Fm B env ρ' η' h' → FlRep h' η' fl f → RR (.ok fl) { s with heap := h', toks := tk }) :
    wpAny (model prog w) A (pyIter v) (fun it s₂ => codeAny (model prog w) A (.forLoop (.Name x p) it body [] env) RR s₂) E s := by
  cases r with
  | loc ha =>
    rename_i a
    have hl : ∃ vs : List Value, s.heap.PlainList a vs.toArray ∧ RepAll s.heap η vs ds := by
      simp only [items?] at hi
      split at hi
      · rename_i hs; cases hi; exact RepObj.lst k ha hs
      · cases hi
    obtain ⟨vs, pl, rl⟩ := hl
    obtain ⟨nI, nO, nB⟩ := new_off k F
    refine wpAny_pyIter_list pl.isList ?_
    have x1 : Ext s.heap (s.heap.push { cls := .type "list_iterator", data := .fields #[.ref a, .int 0 0] }) := Ext.push _ _
    have fresh : s.heap.get? s.heap.objs.size = none := by
      cases e : s.heap.get? s.heap.objs.size with
      | none => rfl
      | some o => exact absurd (Heap.lt_size e) (Nat.lt_irrefl _)
    have hIa : a ≠ s.heap.objs.size := by obtain ⟨_, ho⟩ := pl; exact Nat.ne_of_lt (Heap.lt_size ho)
    refine codeAny_forLoop (fun m s' => ∃ i η₁ h₁ t₁ ρ₁ σ₁, s' = { s with heap := h₁, toks := t₁ } ∧ h₁.IsListIter s.heap.objs.size a i ∧ Step (Own env) η η₁ s.heap h₁ ∧ Ok prog w B η₁ σ₁ h₁ ∧ Fm B env ρ₁ η₁ h₁ ∧ s.heap.objs.size ∉ η₁ ∧
      forLoc (bindT (.Name x p)) (fun ρ σ => execSs Φ G body ρ σ) l m i ρ₁ σ₁ = some (f, ρ', σ')) ?_ m₀
      ⟨0, η, _, s.toks, ρ, σ, rfl, ⟨_, Heap.get?_push_size _ rfl, rfl, rfl⟩, Step.ext x1, k.ext x1, F.step (Step.ext x1), nI, he⟩
    rintro m s' ⟨i, η₁, h₁, t₁, ρ₁, σ₁, rfl, hit, sp1, k1, F1, hI1, he1⟩
    cases m with
    | zero => exact nomatch (show (none : Option (Fl × Locals × Store)) = some _ from he1)
    | succ m =>
      simp only [forLoc] at he1
      split at he1
      · rename_i ds₁ hs₁
        obtain ⟨us, pl1, rl1⟩ := RepObj.lst k1 (sp1.getη ha) hs₁
        have nsI : NoSeq (fun b => b = s.heap.objs.size) h₁ := fun b o hb e items q hd => by
          obtain ⟨o1, e1, _, d1⟩ := id hit
          subst hb; rw [e1] at e; cases e; rw [d1] at hd; cases hd
        have after : ∀ h₂, Heap.ExtBut s.heap.objs.size h₁ h₂ → Step (Own env) η η₁ s.heap h₂ ∧ Ok prog w B η₁ σ₁ h₂ ∧ Fm B env ρ₁ η₁ h₂ ∧ Step (fun b => b = s.heap.objs.size) η₁ η₁ h₁ h₂ := fun h₂ hx => by
          have sp2 : Step (fun b => b = s.heap.objs.size) η₁ η₁ h₁ h₂ := Step.extBut hx
          refine ⟨sp1.trans sp2 fun z hz => .inr (hz ▸ fresh), k1.keep (P := fun b => b = s.heap.objs.size) (fun b o e nb => hx b o nb e) nsI fun b hb => ⟨hb ▸ hI1, hb ▸ nB⟩, F1.stepP sp2 nsI fun b hb q => nO (q ▸ hb), sp2⟩
        split at he1
        · rename_i hd
          cases he1
          refine wpAny_pyNext_list_end R.handled hit pl1.isList (by
            have hl := rl1.length
            have h2 := List.getElem?_eq_none_iff.mp hd
            simp; omega) fun h₂ hx => ?_
          obtain ⟨a1, a2, a3, _⟩ := after h₂ hx
          exact wpAny_execs_nil (hR .next η₁ h₂ t₁ a1 a2 a3 trivial)
        · rename_i d hd
          obtain ⟨u, hu, ru⟩ := rl1.get hd
          simp only [zX, yz] at he1
          refine wpAny_pyNext_list_item hit pl1.isList (x := u) (by simpa using hu) fun h₂ hit2 hsb => ?_
          obtain ⟨a1, a2, a3, a4⟩ := after h₂ hsb.extBut
          refine wpAny_assign_Name (store_ok eo a2 a3 hcx (ru.step a4 nsI) fun h₃ t₃ sp3 k3 F3 => ?_)
          have body_ok : ∀ {f₁ ρ₂ σ₂}, execSs Φ G body (upd ρ₁ x d) σ₁ = some (f₁, ρ₂, σ₂) → ∀ {E' : Value → Shared → Prop} {Q' : Flow → Shared → Prop},
              (∀ fl η₄ h₄ t₄, Step (Own env) η η₄ s.heap h₄ → Ok prog w B η₄ σ₂ h₄ → Fm B env ρ₂ η₄ h₄ → FlRep h₄ η₄ fl f₁ → h₄.IsListIter s.heap.objs.size a (i + 1) → s.heap.objs.size ∉ η₄ → Q' fl { s with heap := h₄, toks := t₄ }) →
              wpAny (model prog w) A (execs body env) Q' E' { s with heap := h₃, toks := t₃ } := fun {f₁ ρ₂ σ₂} e2 {E' Q'} hq =>
            hb _ _ _ ρ₂ σ₂ hcb e2 A { s with heap := h₃, toks := t₃ } η₁ E' Q' R k3 F3 fun fl η₄ h₄ t₄ sp4 k4 F4 r4 => by
              have sp34 : Step (Own env) η₁ η₄ h₂ h₄ := sp3.transS sp4
              obtain ⟨oI, eI, rI⟩ := hit2
              have kI := sp34.keep _ oI eI hI1 nO
              exact hq fl η₄ h₄ t₄ (a1.transS sp34) k4 F4 r4 ⟨oI, kI.1, rI⟩ kI.2
          split at he1
          · cases he1
          · rename_i ρ₂ σ₂ e2
            refine body_ok e2 fun fl η₄ h₄ t₄ sp4 k4 F4 r4 it4 nI4 => ?_
            cases fl with
            | next => exact ⟨m, Nat.lt_succ_self _, i + 1, η₄, h₄, t₄, ρ₂, σ₂, rfl, it4, sp4, k4, F4, nI4, he1⟩
            | _ => exact r4.elim
          · rename_i d' ρ₂ σ₂ e2
            cases he1
            refine body_ok e2 fun fl η₄ h₄ t₄ sp4 k4 F4 r4 it4 nI4 => ?_
            cases fl with
            | ret v' => exact hR (.ret v') η₄ h₄ t₄ sp4 k4 F4 r4
            | _ => exact r4.elim
      · cases he1

theorem SS.while {t : Expr} {pos : Pos} (ht : ET prog w B env Φ G n t) (hb : SSs prog w B env Φ G n body) : SS prog w B env Φ G n (.While t body [] pos) := by
  intro ρ σ f ρ' σ' hc hx A s η E Q R k F hQ
  simp only [ym, yO, xx, yn, yo, zL, x_for, x_while] at hx
  simp only [cs_expr, cs_ret, cs_if, cs_name, cs_tuple, cs_for, cs_while, Bool.and_eq_true] at hc
  refine wpAny_While (codeAny_whileLoop (fun m s' => ∃ η₁ h₁ t₁ ρ₁ σ₁, s' = { s with heap := h₁, toks := t₁ } ∧ Step (Own env) η η₁ s.heap h₁ ∧ Ok prog w B η₁ σ₁ h₁ ∧ Fm B env ρ₁ η₁ h₁ ∧
    whileL (fun ρ σ => evalT Φ G t ρ σ) (fun ρ σ => execSs Φ G body ρ σ) m ρ₁ σ₁ = some (f, ρ', σ')) ?_ whileMost ⟨η, s.heap, s.toks, ρ, σ, rfl, Step.refl, k, F, hx⟩)
  rintro m s' ⟨η₁, h₁, t₁, ρ₁, σ₁, rfl, sp1, k1, F1, he1⟩
  cases m with
  | zero => exact nomatch (show (none : Option (Fl × Locals × Store)) = some _ from he1)
  | succ m =>
    simp only [whileL] at he1
    split at he1
    · cases he1
    · rename_i σ₂ e1
      cases he1
      refine ht _ _ _ _ hc.1.1 e1 A { s with heap := h₁, toks := t₁ } η₁ _ _ R k1 F1 fun η₂ h₂ t₂ sp2 k2 => ?_
      exact wpAny_execs_nil (hQ .next η₂ h₂ t₂ (sp1.trans0 sp2) k2 (F1.step sp2) trivial)
    · rename_i σ₂ e1
      refine ht _ _ _ _ hc.1.1 e1 A { s with heap := h₁, toks := t₁ } η₁ _ _ R k1 F1 fun η₂ h₂ t₂ sp2 k2 => ?_
      have sp12 := sp1.trans0 sp2
      split at he1
      · cases he1
      · rename_i ρ₃ σ₃ e3
        refine hb _ _ _ _ _ hc.1.2 e3 A { s with heap := h₂, toks := t₂ } η₂ _ _ R k2 (F1.step sp2) fun fl η₄ h₄ t₄ sp4 k4 F4 r4 => ?_
        cases fl with
        | next => exact ⟨m, Nat.lt_succ_self _, η₄, h₄, t₄, ρ₃, σ₃, rfl, sp12.transS sp4, k4, F4, he1⟩
        | _ => exact r4.elim
      · rename_i d' ρ₃ σ₃ e3
        cases he1
        refine hb _ _ _ _ _ hc.1.2 e3 A { s with heap := h₂, toks := t₂ } η₂ _ _ R k2 (F1.step sp2) fun fl η₄ h₄ t₄ sp4 k4 F4 r4 => ?_
        cases fl with
        | ret v' => exact hQ (.ret v') η₄ h₄ t₄ (sp12.transS sp4) k4 F4 r4
        | _ => exact r4.elim

/-- a for over what an expression gives -/
theorem for_value {e : Expr} {pos : Pos} (eo : EnvOk env) (he : ES prog w B env Φ G n e) (hb : SSs prog w B env Φ G n body) (hc : chkS G env.kindOf (.For (.Name x p) e body [] pos) = true) (R : Room n A) (k : Ok prog w B η σ s.heap) (F : Fm B env ρ η s.heap) {Q : Flow → Shared → Prop}
    (hQ : ∀ fl η' h' tk, Step (Own env) η η' s.heap h' → Ok prog w B η' σ' h' → Fm B env ρ' η' h' → FlRep h' η' fl f → Q fl { s with heap := h', toks := tk })
    (hx : (match evalE Φ G e ρ σ with
      | some (.lst ds, σ₁) => forL (bindT (.Name x p)) (fun ρ σ => execSs Φ G body ρ σ) ds ρ σ₁
      | some (.tup ds, σ₁) => forL (bindT (.Name x p)) (fun ρ σ => execSs Φ G body ρ σ) ds ρ σ₁
      | some (.str y, σ₁) => forL (bindT (.Name x p)) (fun ρ σ => execSs Φ G body ρ σ) (y.cps.toList.map fun c => .str ⟨#[c]⟩) ρ σ₁
      | some (.loc l, σ₁) => match items? σ₁ (.loc l) with
        | some ds => forLoc (bindT (.Name x p)) (fun ρ σ => execSs Φ G body ρ σ) l (ds.length + 1) 0 ρ σ₁
        | none => none
      | _ => none) = some (f, ρ', σ')) : wpAny (model prog w) A (exec (.For (.Name x p) e body [] pos) env) Q E s := by
  simp only [cs_expr, cs_ret, cs_if, cs_name, cs_tuple, cs_for, cs_while, Bool.and_eq_true] at hc
  have fold : ∀ {r}, evalE Φ G e ρ σ = some r → ∀ z, foldedSetIterable e env z = pure z := fun {r} h z => by
    cases e <;> first | rfl | (exact nomatch (show (none : Option (PV × Store)) = some _ from h))
  split at hx
  · rename_i ds σ₁ e1
    refine wpAny_For (he ρ σ _ σ₁ hc.1.1.2 e1 A s η E _ R k F fun v η₁ H₁ t₁ s1 k1 r1 => ?_) (fold e1)
    exact iter_lst (s := { s with heap := H₁, toks := t₁ }) eo hb hc.1.2 hc.1.1.1 r1 hx R k1 (F.step s1) fun fl η₂ h₂ t₂ s2 k2 F2 r2 => hQ fl η₂ h₂ t₂ (s1.own.transS s2) k2 F2 r2
  · rename_i ds σ₁ e1
    refine wpAny_For (he ρ σ _ σ₁ hc.1.1.2 e1 A s η E _ R k F fun v η₁ H₁ t₁ s1 k1 r1 => ?_) (fold e1)
    exact iter_tup (s := { s with heap := H₁, toks := t₁ }) eo hb hc.1.2 hc.1.1.1 r1 hx R k1 (F.step s1) fun fl η₂ h₂ t₂ s2 k2 F2 r2 => hQ fl η₂ h₂ t₂ (s1.own.transS s2) k2 F2 r2
  · rename_i y σ₁ e1
    refine wpAny_For (he ρ σ _ σ₁ hc.1.1.2 e1 A s η E _ R k F fun v η₁ H₁ t₁ s1 k1 r1 => ?_) (fold e1)
    exact iter_str (s := { s with heap := H₁, toks := t₁ }) eo hb hc.1.2 hc.1.1.1 r1 hx R k1 (F.step s1) fun fl η₂ h₂ t₂ s2 k2 F2 r2 => hQ fl η₂ h₂ t₂ (s1.own.transS s2) k2 F2 r2
  · rename_i l σ₁ e1
    split at hx
    · rename_i ds hi
      refine wpAny_For (he ρ σ _ σ₁ hc.1.1.2 e1 A s η E _ R k F fun v η₁ H₁ t₁ s1 k1 r1 => ?_) (fold e1)
      exact iter_loc (s := { s with heap := H₁, toks := t₁ }) eo hb hc.1.2 hc.1.1.1 r1 hi hx R k1 (F.step s1) fun fl η₂ h₂ t₂ s2 k2 F2 r2 => hQ fl η₂ h₂ t₂ (s1.own.transS s2) k2 F2 r2
    · cases hx
  · cases hx
end

end Mine

set_option maxRecDepth 100000
namespace Mine
open PySem PySem.Spec PyProof.Rows

section
variable {prog : Program} {w : World} {A : Around} {E : Value → Shared → Prop} {s : Shared} {B : Heap} {η η' : List Addr} {σ : Store} {env : Env} {ρ : Locals} {mg mb : Str → Option Value} {G : Glob} {Φ : Fns} {n : Nat} {h h' : Heap}
variable {x : Str} {p : Pos} {body : List Stmt} {f : Fl} {ρ' : Locals} {σ' : Store} {RR : Result → Shared → Prop} {ds : List PV} {v : Value}

theorem for_range {args : List Expr} {q pf pos : Pos} {rn : Str} (C : Cx B mg mb G) (eo : EnvOk env) (ha : ESs prog w B env Φ G n args) (hb : SSs prog w B env Φ G n body) (hrn : rn = "range" ∧ G.isB rn = true)
    (hc : chkS G env.kindOf (.For (.Name x p) (.Call (.Name rn pf) args [] q) body [] pos) = true) (R : Room n A) (k : Ok prog w B η σ s.heap) (F : Fm B env ρ η s.heap) {Q : Flow → Shared → Prop}
    (hQ : ∀ fl η' h' tk, Step (Own env) η η' s.heap h' → Ok prog w B η' σ' h' → Fm B env ρ' η' h' → FlRep h' η' fl f → Q fl { s with heap := h', toks := tk })
    (hx : (match evalEs Φ G args ρ σ with
      | none => none
      | some (vs, σ₁) => match rangeArgs vs with
        | some ds => forL (bindT (.Name x p)) (fun ρ σ => execSs Φ G body ρ σ) ds ρ σ₁
        | none => none) = some (f, ρ', σ')) : wpAny (model prog w) A (exec (.For (.Name x p) (.Call (.Name rn pf) args [] q) body [] pos) env) Q E s := by
  simp only [cs_expr, cs_ret, cs_if, cs_name, cs_tuple, cs_for, cs_while, ck_name, ck_binop, ck_unop, ck_boolop, ck_cmp, ck_call, ck_meth, ck_slice, ck_list, ck_tuple, Bool.and_eq_true] at hc
  obtain ⟨rfl, hg⟩ := hrn
  have hG : G "range" = .builtin := by
    unfold Glob.isB at hg
    split at hg
    · assumption
    · cases hg
  split at hx
  · cases hx
  · rename_i vs σ₁ e1
    split at hx
    · rename_i ds hr
      refine wpAny_For ?_ (fun _ => rfl)
      refine wpAny_Call_Name_kw ?_
      show wpAny (model prog w) A (eval (.Name "range" pf) env) (fun f s₁ => wpAny (model prog w) A (callWith q f [] (backTo q (starEach args env)) []) _ E s₁) E s
      refine name_builtin C k eo hc.1.1.2.1 hG (v := .type "range") (by decide +kernel) ?_
      have hA := fun (Q : Args → Shared → Prop) => ha.args (A := A) (s := s) (E := E) (Q := Q) hc.1.1.2.2 e1 (pos := q) (f := .type "range") R k F
      refine PySem.callWith_type (hA (fun _ _ => True) fun _ _ _ _ _ _ _ => trivial).2.1 ((hA _ fun ws η₁ H₁ t₁ s1 k1 r1 => ?_).1)
      have go : ∀ (a b c : Int) (t u v : Tok) (tk : Nat), rangeOk a b c = true → ds = rangeP a b c →
          wpAny (model prog w) A (pyIter (.ref H₁.objs.size)) (fun it s₂ => codeAny (model prog w) A (.forLoop (.Name x p) it body [] env) (fun r s' => match r with | .ok f => Q f s' | .error e => cameBackBy (model prog w) A env E e s') s₂) E
            { s with heap := H₁.push { cls := .type "range", data := .fields #[.int a t, .int b u, .int c v] }, toks := tk } := fun a b c t u v tk ok hds => by
        subst hds
        have x2 : Ext H₁ (H₁.push { cls := .type "range", data := .fields #[.int a t, .int b u, .int c v] }) := Ext.push _ _
        refine iter_range (s := { s with heap := H₁.push { cls := .type "range", data := .fields #[.int a t, .int b u, .int c v] }, toks := tk }) eo hb hc.1.2 hc.1.1.1 (IsRange.new H₁ a b c t u v) ok hx R (k1.ext x2) ((F.step s1).step (Step.ext x2)) fun fl η₂ h₂ t₂ s2 k2 F2 r2 => ?_
        exact hQ fl η₂ h₂ t₂ ((s1.trans0 (Step.ext x2)).own.transS s2) k2 F2 r2
      unfold rangeArgs at hr
      split at hr
      · split at hr
        · rename_i ok
          cases hr
          cases r1 with | cons a r1 => cases r1; cases a with | int i t =>
            exact call_range_1 (go 0 _ 1 _ _ _ _ ok rfl)
        · cases hr
      · split at hr
        · rename_i ok
          cases hr
          cases r1 with | cons a r1 => cases r1 with | cons b r1 => cases r1; cases a with | int i t => cases b with | int j u =>
            exact call_range_2 (go _ _ 1 _ _ _ _ ok rfl)
        · cases hr
      · split at hr
        · rename_i ok
          cases hr
          cases r1 with | cons a r1 => cases r1 with | cons b r1 => cases r1 with | cons c r1 => cases r1; cases a with | int i t => cases b with | int j u => cases c with | int l v =>
            have hok := ok
            simp only [rangeOk, Bool.and_eq_true, decide_eq_true_eq] at hok
            exact call_range_3 (by omega) (go _ _ _ _ _ _ _ ok rfl) (.inl (PyProof.noPylong_small (by omega)))
        · cases hr
      · cases hr
    · cases hx

theorem SS.for {e : Expr} {pos : Pos} (C : Cx B mg mb G) (eo : EnvOk env) (he : ES prog w B env Φ G n e) (ha : ∀ f q args r, e = .Call (.Name f q) args [] r → ESs prog w B env Φ G n args) (hb : SSs prog w B env Φ G n body) : SS prog w B env Φ G n (.For (.Name x p) e body [] pos) := by
  intro ρ σ f ρ' σ' hc hx A s η E Q R k F hQ
  simp only [ym, yO, xx, yn, yo, zL, x_for, x_while] at hx
  cases hr : rangeOf G e with
  | none => rw [hr] at hx; exact for_value eo he hb hc R k F hQ hx
  | some args =>
    rw [hr] at hx
    unfold rangeOf at hr
    split at hr
    · split at hr
      · rename_i hrn
        cases hr
        exact for_range C eo (ha _ _ _ _ rfl) hb hrn hc R k F hQ hx
      · cases hr
    · cases hr

theorem SS.forT {e : Expr} {ts : List Expr} {kk : Nat} {q pos : Pos} (eo : EnvOk env) (he : ES prog w B env Φ G n e) (hb : SSs prog w B env Φ G n body) : SS prog w B env Φ G n (.For (.Tuple ts kk q) e body [] pos) := by
  intro ρ σ f ρ' σ' hc hx A s η E Q R k F hQ
  rw [x_forT] at hx
  rw [cs_forT] at hc
  simp only [Bool.and_eq_true] at hc
  have fold : ∀ {r}, evalE Φ G e ρ σ = some r → ∀ z, foldedSetIterable e env z = pure z := fun {r} h z => by
    cases e <;> first | rfl | (exact nomatch (show (none : Option (PV × Store)) = some _ from h))
  split at hx
  · rename_i ds σ₁ e1
    refine wpAny_For (he ρ σ _ σ₁ hc.1.1.2 e1 A s η E _ R k F fun v η₁ H₁ t₁ s1 k1 r1 => ?_) (fold e1)
    exact iter_tup (s := { s with heap := H₁, toks := t₁ }) eo hb hc.1.2 hc.1.1.1 r1 hx R k1 (F.step s1) fun fl η₂ h₂ t₂ s2 k2 F2 r2 => hQ fl η₂ h₂ t₂ (s1.own.transS s2) k2 F2 r2
  · cases hx

theorem SS.none {st : Stmt} (h : ∀ ρ σ, execS Φ G st ρ σ = none) : SS prog w B env Φ G n st := by
  intro ρ σ f ρ' σ' hc he; rw [h] at he; cases he
theorem SS.no {st : Stmt} (h : chkS G env.kindOf st = false) : SS prog w B env Φ G n st := by
  intro ρ σ f ρ' σ' hc he; rw [h] at hc; cases hc

mutual
theorem soundS (D : Gnd prog w B mg mb G Φ n env) : ∀ st : Stmt, SS prog w B env Φ G n st
  | .Expr e p => SS.expr D.eo (soundE D e)
  | .Return (some e) p => SS.ret (soundE D e)
  | .Return none p => SS.none fun ρ σ => rfl
  | .If t b o p => SS.ite (soundT D t) (soundSs D b) (soundSs D o)
  | .Assign ts e p => by
    have he := soundE D e
    match ts with
    | [.Name x q] => exact SS.assignName D.eo he fun y r _ => soundE D y
    | [.Tuple es kk q] => exact SS.assignTuple D.eo he
    | [] => exact SS.no rfl
    | a :: b :: c => exact SS.no (by cases a <;> rfl)
    | [t] =>
      cases t with
      | Name x q => exact SS.assignName D.eo he fun y r _ => soundE D y
      | Tuple es kk q => exact SS.assignTuple D.eo he
      | Subscript a b q => exact SS.assignSub (soundE D a) (soundE D b) he
      | _ => exact SS.no rfl
  | .For t e b o p => by
    have hb := soundSs D b
    cases t with
    | Name x q =>
      cases o with
      | nil => exact SS.for D.C D.eo (soundE D e) (fun f q args r _ => ESs.of_all _ (soundAll D args)) hb
      | cons => exact SS.none fun ρ σ => rfl
    | Tuple ts kk q =>
      cases o with
      | nil => exact SS.forT D.eo (soundE D e) hb
      | cons => exact SS.none fun ρ σ => rfl
    | _ => exact SS.no rfl
  | .While t b o p => by
    have hb := soundSs D b
    cases o with
    | nil => exact SS.while (soundT D t) hb
    | cons => exact SS.none fun ρ σ => rfl
  | .Raise .. => SS.none fun ρ σ => rfl
  | .FunctionDef .. => SS.no rfl
  | .AsyncFunctionDef .. => SS.no rfl
  | .ClassDef .. => SS.no rfl
  | .Delete .. => SS.no rfl
  | .TypeAlias .. => SS.no rfl
  | .AugAssign .. => SS.no rfl
  | .AnnAssign .. => SS.no rfl
  | .AsyncFor .. => SS.no rfl
  | .With .. => SS.no rfl
  | .AsyncWith .. => SS.no rfl
  | .Match .. => SS.no rfl
  | .Try .. => SS.no rfl
  | .TryStar .. => SS.no rfl
  | .Assert .. => SS.no rfl
  | .Import .. => SS.no rfl
  | .ImportFrom .. => SS.no rfl
  | .Global .. => SS.no rfl
  | .Nonlocal .. => SS.no rfl
  | .Pass .. => SS.no rfl
  | .Break .. => SS.no rfl
  | .Continue .. => SS.no rfl
theorem soundSs (D : Gnd prog w B mg mb G Φ n env) : ∀ sts : List Stmt, SSs prog w B env Φ G n sts
  | [] => SSs.nil
  | st :: rest => SSs.cons (soundS D st) (soundSs D rest)
end

/-! calls -/
noncomputable def bindP (names : List Str) (vs : List PV) : Locals := fun y => (names.zip vs).reverse.lookup y

theorem bindP_rep {names : List Str} {vs : List PV} {ws : List Value} (r : RepAll h η ws vs) (y : Str) (d : PV) (e : bindP names vs y = some d) : ∃ v, (names.zip ws).reverse.lookup y = some v ∧ Rep h η v d ∧ y ∈ names := by
  have key : ∀ (l : List (Str × PV)) (l' : List (Str × Value)), l.length = l'.length → (∀ (i : Nat) (a : Str × PV) (b : Str × Value), l[i]? = some a → l'[i]? = some b → a.1 = b.1 ∧ Rep h η b.2 a.2) → l.lookup y = some d → ∃ v, l'.lookup y = some v ∧ Rep h η v d ∧ y ∈ l.map (·.1) := by
    intro l
    induction l with
    | nil => intro l' _ _ e; cases e
    | cons a l ih =>
      intro l' hl hr e
      cases l' with
      | nil => cases hl
      | cons b l' =>
        obtain ⟨h1, h2⟩ := hr 0 a b rfl rfl
        obtain ⟨a1, a2⟩ := a
        obtain ⟨b1, b2⟩ := b
        simp only at h1 h2
        subst h1
        rw [List.lookup_cons] at e ⊢
        split at e
        · rename_i q
          cases e
          exact ⟨b2, rfl, h2, by simp [beq_iff_eq.mp q]⟩
        · rename_i q
          obtain ⟨v, e1, e2, e3⟩ := ih l' (by simpa using hl) (fun i u v hu hv => hr (i + 1) u v hu hv) e
          exact ⟨v, e1, e2, by simp [e3]⟩
  have hlen := r.length
  obtain ⟨v, e1, e2, e3⟩ := key _ (names.zip ws).reverse (by simp [List.length_zip, hlen]) (fun i a b ha hb => by
    have hl1 : (names.zip vs).length = (names.zip ws).length := by simp [List.length_zip, hlen]
    have hi : i < (names.zip vs).length := by have := (List.getElem?_eq_some_iff.mp ha).1; simpa using this
    rw [List.getElem?_reverse hi] at ha
    rw [List.getElem?_reverse (by omega), ← hl1] at hb
    generalize (names.zip vs).length - 1 - i = j at ha hb
    rw [List.getElem?_zip_eq_some] at ha hb
    obtain ⟨u, hu, ru⟩ := r.get ha.2
    rw [hb.2] at hu
    cases hu
    have : a.1 = b.1 := by have h1 := ha.1.symm.trans hb.1; exact Option.some.inj h1
    exact ⟨this, ru⟩) e
  refine ⟨v, e1, e2, ?_⟩
  obtain ⟨⟨a, b⟩, hm, rfl⟩ := List.mem_map.mp e3
  exact (List.of_mem_zip (List.mem_reverse.mp hm)).1

theorem Room.mono {m : Nat} (R : Room n A) (hm : m ≤ n) : Room m A := ⟨R.handled, by have := R.depth; omega, by have := R.units; omega⟩
theorem Room.deeper (R : Room (n + 1) A) (env : Env) : Room n (A.deeper env) := ⟨R.handled, by have h := R.depth; show A.depth + 1 + n < _; omega, by have h := R.units; show A.units + 3 + 3 * n + 100 < _; omega⟩

/-- one more function -/
theorem FnsOk.add (C : Cx B mg mb G) (Fn : FnsOk prog w B mg Φ n) {fn name : Str} {params : Arguments} {body : List Stmt} {scope : Scope} {pm code doc : Value} {a : Addr} {o : Obj} (names : List Str) (g : List PV → Store → Option (PV × Store))
    (hm : mg fn = some (.ref a)) (ho : B.get? a = some o) (hd : o.data = .func (Calls.docDef name params body scope pm code doc)) (hcd : B.CodeRec code name)
    (hbind : ∀ ws : List Value, ws.length = names.length → bindArgs (Calls.docDef name params body scope pm code doc) ⟨ws, []⟩ = pure (names.zip ws))
    (hnames : (names.all fun y => decide (scope.names.lookup y = some .local)) = true) (hchk : chkSs G (fun y => scope.names.lookup y) body = true) (hcell : ∀ y ∈ scope.names, y.2 ≠ .cell)
    (hco : scope.isCoroutine = false) (hgen : scope.isGenerator = false) (hk : scope.kind = .function)
    (hg : ∀ vs σ d σ', g vs σ = some (d, σ') → vs.length = names.length ∧ ∃ fl ρ', execSs Φ G body (bindP names vs) σ = some (fl, ρ', σ') ∧ d = (match fl with | .ret v => v | .next => PV.none)) :
    FnsOk prog w B mg (fun y vs σ => if y = fn then g vs σ else Φ y vs σ) (n + 1) := by
  intro y vs σ d σ' hy
  simp only at hy
  split at hy
  · rename_i hyf
    subst hyf
    refine ⟨a, o, _, hm, ho, hd, ?_⟩
    intro A s η E Q ws R k r hQ
    obtain ⟨hlen, fl0, ρ', hx, hd0⟩ := hg vs σ d σ' hy
    subst hd0
    have hlw : ws.length = names.length := by rw [r.length, hlen]
    have ext := k.extB
    refine wpAny_call ?_
    refine codeAny_call_def (fd := Calls.docDef name params body scope pm code doc) (body := body) (binds := names.zip ws) (by have := R.depth; omega) (ext _ _ ho) hd (C.nolimit.keeps ext) (hcd.keeps ext) rfl (BindsTo.of_eq (hbind ws hlw)) hcell (fun z hz => ?_) (fun h₀ hns hk₀ => ?_) hco hgen hk
    · have h1 := (List.of_mem_zip hz).1
      have := List.all_eq_true.mp hnames z.1 h1
      exact of_decide_eq_true this
    · have fresh : s.heap.get? s.heap.objs.size = none := by
        cases e : s.heap.get? s.heap.objs.size with
        | none => rfl
        | some o => exact absurd (Heap.lt_size e) (Nat.lt_irrefl _)
      have nB : B.get? s.heap.objs.size = none := by
        cases e : B.get? s.heap.objs.size with
        | none => rfl
        | some o => exact absurd (Heap.lt_size (k.base _ _ e).1) (Nat.lt_irrefl _)
      have xF : Step (fun _ => False) η η s.heap h₀ := Step.ext hk₀
      have k0 := k.ext hk₀
      have own : ∀ b, Own (callEnv (Calls.docDef name params body scope pm code doc) s.heap.objs.size a) b → b = s.heap.objs.size := by
        rintro b (hb | ⟨z, hz⟩)
        · exact hb
        · cases hz
      have F0 : Fm B (callEnv (Calls.docDef name params body scope pm code doc) s.heap.objs.size a) (bindP names vs) η h₀ := by
        refine ⟨⟨_, hns, fun z d' hz hr => ?_⟩, fun z d' hz hr => ?_, fun z hz => ?_, fun z d' hr => ?_, fun b hb => ?_, fun b hb => ?_, fun z c hz => (by cases hz), fun z y c hz => (by cases hz)⟩
        · obtain ⟨v, e1, e2, _⟩ := bindP_rep (r.ext hk₀) z d' hr
          exact ⟨v, e1, e2⟩
        · obtain ⟨v, e1, e2, e3⟩ := bindP_rep (r.ext hk₀) z d' hr
          have h1 := List.all_eq_true.mp hnames z e3
          have h2 : scope.names.lookup z = some .cell := hz
          simp [h2] at h1
        · have h2 : scope.names.lookup z = some .cell := hz
          exact absurd rfl (hcell (z, .cell) (by
            have := List.lookup_eq_some_iff.mp h2
            obtain ⟨l1, l2, e, _⟩ := this
            rw [e]; simp))
        · obtain ⟨v, e1, e2, e3⟩ := bindP_rep (r.ext hk₀) z d' hr
          have h1 := List.all_eq_true.mp hnames z e3
          exact .inl (of_decide_eq_true h1)
        · rw [own b hb]; exact ⟨k.fresh, nB⟩
        · rw [own b hb]
          obtain ⟨ob, es, ep, e1, e2, _⟩ := hns
          exact ⟨ob, e1, fun items m q => by rw [e2] at q; cases q⟩
      have D : Gnd prog w B mg mb G Φ n (callEnv (Calls.docDef name params body scope pm code doc) s.heap.objs.size a) := ⟨C, Fn, ⟨hk, rfl, rfl⟩⟩
      refine soundSs D body _ _ _ ρ' σ' hchk hx (A.deeper (callEnv (Calls.docDef name params body scope pm code doc) s.heap.objs.size a)) { s with heap := h₀, toks := s.toks + (names.zip ws).length } η _ _ (R.deeper _) k0 F0 fun fl η₁ h₁ t₁ s1 k1 F1 r1 => ?_
      have sp := xF.trans s1 fun z hz => .inr (by rw [own z hz]; exact fresh)
      cases fl with
      | ret v => cases fl0 with | ret d => exact hQ v η₁ h₁ t₁ sp k1 r1 | next => exact r1.elim
      | next => cases fl0 with | ret d => exact r1.elim | next => exact hQ .none η₁ h₁ t₁ sp k1 .none
      | _ => cases fl0 <;> exact r1.elim
  · obtain ⟨a', o', fd, m1, m2, m3, hc⟩ := Fn y vs σ d σ' hy
    exact ⟨a', o', fd, m1, m2, m3, fun A s η E Q ws R => hc A s η E Q ws (R.mono (by omega))⟩

theorem FnsOk.nil : FnsOk prog w B mg (fun _ _ _ => none) 0 := by
  intro y vs σ d σ' hy; cases hy
end

end Mine

set_option maxRecDepth 100000
namespace Mine
open PySem PySem.Spec PyProof.Rows

/-- the def of a name, as the text writes it -/
noncomputable def asDef : Stmt → Option DefRec
  | .FunctionDef name args body _ _ _ scope _ _ pos => some ⟨name, args, body, scope, pos⟩
  | _ => none
noncomputable def dOf (p : Program) (f : String) : DefRec := ((p.main.body.filterMap asDef).find? (fun d => d.name == Str.ofString f)).getD ⟨Str.empty, ⟨[], [], none, [], [], none, []⟩, [], ⟨.module, [], false, false, []⟩, ⟨0, 0, 0, 0⟩⟩

theorem za {a b : String} : Str.ofString a = Str.ofString b ↔ a = b := by
  constructor
  · intro h
    rw [Str.ofString_eq_toList, Str.ofString_eq_toList] at h
    injection h with h
    have h1 : a.toList.map Char.toNat = b.toList.map Char.toNat := by simpa using congrArg Array.toList h
    have h2 : a.toList = b.toList := by
      refine (List.map_inj_right fun x y hxy => ?_).mp h1
      exact Char.toNat_inj.mp hxy
    exact String.toList_inj.mp h2
  · rintro rfl; rfl
end Mine

set_option maxRecDepth 100000
namespace Mine
open PySem PySem.Spec PyProof.Rows

/-- a function, interpreted over those before it -/
noncomputable def interpF (Φ : Fns) (G : Glob) (d : DefRec) (vs : List PV) (σ : Store) : Option (PV × Store) :=
  if vs.length = (d.params.args.map (·.arg)).length then
    match execSs Φ G d.body (bindP (d.params.args.map (·.arg)) vs) σ with
    | some (.ret v, _, σ') => some (v, σ')
    | some (.next, _, σ') => some (.none, σ')
    | none => none
  else none

/-- the table of the text's functions, the last one first -/
noncomputable def Phi (G : Glob) (p : Program) : List String → Fns
  | [] => fun _ _ _ => none
  | f :: fs => fun y vs σ => if y = Str.ofString f then interpF (Phi G p fs) G (dOf p f) vs σ else Phi G p fs y vs σ

noncomputable def chkF (G : Glob) (d : DefRec) : Bool :=
  ((d.params.args.map (·.arg)).all fun y => decide (d.scope.names.lookup y = some .local)) && chkSs G (fun y => d.scope.names.lookup y) d.body && (d.scope.names.all fun y => decide (y.2 ≠ .cell)) &&
  !d.scope.isCoroutine && !d.scope.isGenerator && decide (d.scope.kind = .function)

/-- what is asked of each function of the text -/
structure Stat (q p : Program) (G : Glob) (f : String) : Prop where
  recd : (recsOf q).find? (fun e => e.name == Str.ofString f) = some (dOf p f)
  chk : chkF G (dOf p f) = true
  bind : ∀ (ws : List Value) (pm code doc : Value), ws.length = ((dOf p f).params.args.map (·.arg)).length →
    bindArgs (Calls.docDef (dOf p f).name (dOf p f).params (dOf p f).body (dOf p f).scope pm code doc) ⟨ws, []⟩ = pure (((dOf p f).params.args.map (·.arg)).zip ws)

section
variable {prog : Program} {w : World} {B : Heap} {mg mb : Str → Option Value} {G : Glob} {p q : Program} {loose : List Str} {mean : ExcName → Option Value}

theorem phi_ok (C : Cx B mg mb G) (T : Top q loose mean mg mb B) : ∀ (fs : List String), (∀ f ∈ fs, Stat q p G f) → FnsOk prog w B mg (Phi G p fs) fs.length
  | [], _ => FnsOk.nil
  | f :: fs, h => by
    have ih := phi_ok C T fs fun x hx => h x (.tail _ hx)
    have S := h f (.head _)
    have hmem := List.mem_of_find?_eq_some S.recd
    have hname : (dOf p f).name = Str.ofString f := by
      have := List.find?_some S.recd
      simpa using this
    obtain ⟨a, o, pm, code, doc, m1, m2, m3, m4⟩ := T.fn _ hmem
    have hc := S.chk
    simp only [chkF, Bool.and_eq_true, Bool.not_eq_true', decide_eq_true_eq] at hc
    obtain ⟨⟨⟨⟨⟨c1, c2⟩, c3⟩, c4⟩, c5⟩, c6⟩ := hc
    rw [hname] at m1
    refine FnsOk.add C ih ((dOf p f).params.args.map (·.arg)) (interpF (Phi G p fs) G (dOf p f)) m1 m2 m3 m4 (fun ws hw => S.bind ws pm code doc hw) c1 c2 (fun y hy => ?_) c4 c5 c6 fun vs σ d σ' hg => ?_
    · have := List.all_eq_true.mp c3 y hy
      exact of_decide_eq_true this
    · unfold interpF at hg
      split at hg
      · rename_i hl
        refine ⟨hl, ?_⟩
        split at hg
        · rename_i v ρ' σ'' e
          cases hg
          exact ⟨_, ρ', e, rfl⟩
        · rename_i ρ' σ'' e
          cases hg
          exact ⟨_, ρ', e, rfl⟩
        · cases hg
      · cases hg
end

/-! the binding of arguments, by their number -/
section
variable {p : Program} {f : String}
theorem bind1 (hn : ((dOf p f).params.args.map (·.arg)).length = 1) (h : ∀ (a : Value) (pm code doc : Value), bindArgs (Calls.docDef (dOf p f).name (dOf p f).params (dOf p f).body (dOf p f).scope pm code doc) ⟨[a], []⟩ = pure (((dOf p f).params.args.map (·.arg)).zip [a])) :
    ∀ (ws : List Value) (pm code doc : Value), ws.length = ((dOf p f).params.args.map (·.arg)).length → bindArgs (Calls.docDef (dOf p f).name (dOf p f).params (dOf p f).body (dOf p f).scope pm code doc) ⟨ws, []⟩ = pure (((dOf p f).params.args.map (·.arg)).zip ws) := by
  intro ws pm code doc hw
  rw [hn] at hw
  match ws, hw with
  | [a], _ => exact h a pm code doc
theorem bind2 (hn : ((dOf p f).params.args.map (·.arg)).length = 2) (h : ∀ (a b : Value) (pm code doc : Value), bindArgs (Calls.docDef (dOf p f).name (dOf p f).params (dOf p f).body (dOf p f).scope pm code doc) ⟨[a, b], []⟩ = pure (((dOf p f).params.args.map (·.arg)).zip [a, b])) :
    ∀ (ws : List Value) (pm code doc : Value), ws.length = ((dOf p f).params.args.map (·.arg)).length → bindArgs (Calls.docDef (dOf p f).name (dOf p f).params (dOf p f).body (dOf p f).scope pm code doc) ⟨ws, []⟩ = pure (((dOf p f).params.args.map (·.arg)).zip ws) := by
  intro ws pm code doc hw
  rw [hn] at hw
  match ws, hw with
  | [a, b], _ => exact h a b pm code doc
theorem bind3 (hn : ((dOf p f).params.args.map (·.arg)).length = 3) (h : ∀ (a b c : Value) (pm code doc : Value), bindArgs (Calls.docDef (dOf p f).name (dOf p f).params (dOf p f).body (dOf p f).scope pm code doc) ⟨[a, b, c], []⟩ = pure (((dOf p f).params.args.map (·.arg)).zip [a, b, c])) :
    ∀ (ws : List Value) (pm code doc : Value), ws.length = ((dOf p f).params.args.map (·.arg)).length → bindArgs (Calls.docDef (dOf p f).name (dOf p f).params (dOf p f).body (dOf p f).scope pm code doc) ⟨ws, []⟩ = pure (((dOf p f).params.args.map (·.arg)).zip ws) := by
  intro ws pm code doc hw
  rw [hn] at hw
  match ws, hw with
  | [a, b, c], _ => exact h a b c pm code doc
end

/-! names that are bound -/
noncomputable def emp : Locals := fun _ => none
theorem lookup_snoc {α β : Type} [BEq α] [LawfulBEq α] [DecidableEq α] (l : List (α × β)) (x y : α) (v : β) : (l ++ [(x, v)]).reverse.lookup y = if y = x then some v else l.reverse.lookup y := by
  rw [List.reverse_append]
  show List.lookup y ((x, v) :: l.reverse) = _
  rw [List.lookup_cons]
  by_cases h : y = x
  · subst h; simp
  · rw [beq_eq_false_iff_ne.mpr h, if_neg h]
theorem bindP1 (x : Str) (a : PV) : bindP [x] [a] = upd emp x a := funext fun y => lookup_snoc [] x y a
theorem bindP2 (x y : Str) (a b : PV) : bindP [x, y] [a, b] = upd (upd emp x a) y b := by
  rw [← bindP1]; exact funext fun z => lookup_snoc [(x, a)] y z b
theorem bindP3 (x y z : Str) (a b c : PV) : bindP [x, y, z] [a, b, c] = upd (upd (upd emp x a) y b) z c := by
  rw [← bindP2]; exact funext fun u => lookup_snoc [(x, a), (y, b)] z u c
theorem zR (ρ : Locals) (a b : String) (d : PV) : upd ρ (Str.ofString a) d (Str.ofString b) = if b = a then some d else ρ (Str.ofString b) := by
  unfold upd
  simp only [za]
theorem zS (b : Str) : emp b = none := rfl

theorem phi_at {G : Glob} {p : Program} (pre : List String) (f : String) (fs : List String) (h : pre.all (fun g => !(f == g)) = true) : Phi G p (pre ++ f :: fs) (Str.ofString f) = interpF (Phi G p fs) G (dOf p f) := by
  induction pre with
  | nil => exact funext fun vs => funext fun σ => if_pos rfl
  | cons g pre ih =>
    rw [List.all_cons, Bool.and_eq_true, Bool.not_eq_true'] at h
    exact funext fun vs => funext fun σ => (if_neg fun q => beq_eq_false_iff_ne.mp h.1 (za.mp q)).trans (congrFun (congrFun (ih h.2) vs) σ)

end Mine

set_option maxRecDepth 100000
namespace Mine
open PySem PySem.Spec PyProof.Rows PySem.W

theorem ints_rep {h : Heap} {vs : List Value} {ns : List Int} (hI : IntsAre vs ns) : RepAll h [] vs (ns.map PV.int) := by
  induction hI with
  | nil => exact .nil
  | cons n t _ ih => exact .cons (.int n t) ih

theorem room_caller {n : Nat} (hn : n ≤ 30) : Room n callerA := ⟨rfl, by
  have h1 : callerA.depth + 30 < recursionLimit := by decide
  omega, by
  have h1 : callerA.units + 3 * 30 + 100 < cLine := by decide
  omega⟩

theorem run_law {prog : Program} {w : World} {s : Shared} {mg mb : Str → Option Value} {G : Glob} {Φ : Fns} {n : Nat} (C : Cx s.heap mg mb G) (Fn : FnsOk prog w s.heap mg Φ n) (hn : n ≤ 30) {law : Str} {ns : List Int} {fa a : Addr} {vs : List Value} {σ' : Store} {xs : List WData} {P : Params}
    (hΦ : Φ law [.lst (ns.map .int)] [] = some (.bool true, σ')) (hmg : mg law = some (.ref fa)) (hL : s.heap.IsList a vs.toArray) (hW : Well P s.heap (.ref a) (.list xs)) (hI : IntsAre vs ns) {Q E : Value → Shared → Prop}
    (hQ : ∀ h' tk, Ext s.heap h' → Q (.bool true) { s with heap := h', toks := tk }) : wpAny (model prog w) callerA (call (.ref fa) [.ref a]) Q E s := by
  obtain ⟨a', o, fd, m1, m2, m3, hc⟩ := Fn law _ _ _ _ hΦ
  rw [hmg] at m1
  cases m1
  have hp : s.heap.PlainList a vs.toArray := by
    cases hW with
    | list e _ =>
      obtain ⟨o, ho, _, k, hd⟩ := hL
      rw [e] at ho
      cases ho
      cases hd
      exact ⟨_, e⟩
  have k : Ok prog w s.heap [] [] s.heap := by
    refine ⟨fun b o e => ⟨e, by simp⟩, .nil, rfl, ?_, (fun a ha => by cases ha), (fun i a o e => by simp at e)⟩
    obtain ⟨mc, ⟨o, es, ep, e, _⟩, _⟩ := C.nolimit
    exact ⟨o, e⟩
  refine hc callerA s [] E Q [.ref a] (room_caller hn) k (.cons (.lst (by simp) hp (ints_rep hI)) .nil) fun v η' h' tk st k' r => ?_
  cases r
  exact hQ h' tk fun b o e => (k'.base b o e).1

theorem law_good {c : ClaimW} {cl : Str → Option Addr} {mean : ExcName → Option Value} {args : List WData} {s₁ : Shared} {h' : Heap} {tk : Nat} (hg : s₁.gens = #[]) (hn : ∀ cls, c.raises args cls = false) (hp : c.post args (.bool true) args = true) (x : Ext s₁.heap h') :
    GoodWG c cl mean args s₁ (.ok (.ret (.bool true))) { s₁ with heap := h', toks := tk } :=
  GoodW.toG ⟨.inl ⟨.bool true, .bool true, [], rfl, hn, .bool true, hp, fun _ => ⟨.nil, fun a ha => nomatch ha⟩⟩, x, rfl, hg⟩

end Mine

set_option maxRecDepth 100000
namespace Mine
open PySem PySem.Spec PyProof.Rows

/-! loops by an invariant -/
section
variable {bind : PV → Locals → Option Locals} {run : Run} {ρ : Locals} {σ : Store}
theorem forL_inv (I : Nat → Locals → Store → Prop) (R : PV → Locals → Store → Prop) : ∀ (ds : List PV) (k : Nat) (ρ : Locals) (σ : Store), I k ρ σ →
    (∀ i d ρ σ, ds[i]? = some d → I (k + i) ρ σ → ∃ ρ₁ f ρ₂ σ₂, bind d ρ = some ρ₁ ∧ run ρ₁ σ = some (f, ρ₂, σ₂) ∧ ((f = .next ∧ I (k + i + 1) ρ₂ σ₂) ∨ ∃ v, f = .ret v ∧ R v ρ₂ σ₂)) →
    ∃ f ρ' σ', forL bind run ds ρ σ = some (f, ρ', σ') ∧ ((f = .next ∧ I (k + ds.length) ρ' σ') ∨ ∃ v, f = .ret v ∧ R v ρ' σ')
  | [], k, ρ, σ, h0, _ => ⟨.next, ρ, σ, rfl, .inl ⟨rfl, h0⟩⟩
  | d :: ds, k, ρ, σ, h0, step => by
    obtain ⟨ρ₁, f, ρ₂, σ₂, e1, e2, hf⟩ := step 0 d ρ σ rfl h0
    rcases hf with ⟨rfl, hI⟩ | ⟨v, rfl, hR⟩
    · obtain ⟨f, ρ', σ', e3, h3⟩ := forL_inv I R ds (k + 1) ρ₂ σ₂ hI fun i d ρ σ hd hi => by
        have := step (i + 1) d ρ σ hd (by rw [show k + (i + 1) = k + 1 + i by omega]; exact hi)
        rw [show k + (i + 1) + 1 = k + 1 + i + 1 by omega] at this
        exact this
      refine ⟨f, ρ', σ', ?_, ?_⟩
      · simp only [forL, e1, e2]; exact e3
      · rw [List.length_cons, show k + (ds.length + 1) = k + 1 + ds.length by omega]; exact h3
    · exact ⟨.ret v, ρ₂, σ₂, by simp only [forL, e1, e2], .inr ⟨v, rfl, hR⟩⟩

theorem forLoc_inv (l : Nat) (ds : List PV) (I : Nat → Locals → Store → Prop) (R : PV → Locals → Store → Prop) (hs : ∀ i ρ σ, I i ρ σ → σ[l]? = some (.list ds))
    (step : ∀ i d ρ σ, ds[i]? = some d → I i ρ σ → ∃ ρ₁ f ρ₂ σ₂, bind d ρ = some ρ₁ ∧ run ρ₁ σ = some (f, ρ₂, σ₂) ∧ ((f = .next ∧ I (i + 1) ρ₂ σ₂) ∨ ∃ v, f = .ret v ∧ R v ρ₂ σ₂)) :
    ∀ (m k : Nat) (ρ : Locals) (σ : Store), m + k = ds.length → I k ρ σ →
    ∃ f ρ' σ', forLoc bind run l (m + 1) k ρ σ = some (f, ρ', σ') ∧ ((f = .next ∧ I ds.length ρ' σ') ∨ ∃ v, f = .ret v ∧ R v ρ' σ')
  | 0, k, ρ, σ, hm, h0 => by
    have hk : ds[k]? = none := List.getElem?_eq_none (by omega)
    refine ⟨.next, ρ, σ, ?_, .inl ⟨rfl, by rw [← hm]; simpa using h0⟩⟩
    simp only [forLoc, hs k ρ σ h0, hk]
  | m + 1, k, ρ, σ, hm, h0 => by
    have hk : ds[k]? = some (ds[k]'(by omega)) := List.getElem?_eq_getElem (by omega)
    obtain ⟨ρ₁, f, ρ₂, σ₂, e1, e2, hf⟩ := step k _ ρ σ hk h0
    rcases hf with ⟨rfl, hI⟩ | ⟨v, rfl, hR⟩
    · obtain ⟨f, ρ', σ', e3, h3⟩ := forLoc_inv l ds I R hs step m (k + 1) ρ₂ σ₂ (by omega) hI
      refine ⟨f, ρ', σ', ?_, h3⟩
      rw [forLoc, hs k ρ σ h0]; simp only [hk, e1, e2]; exact e3
    · refine ⟨.ret v, ρ₂, σ₂, ?_, .inr ⟨v, rfl, hR⟩⟩
      rw [forLoc, hs k ρ σ h0]; simp only [hk, e1, e2]
end

/-! how a stretch ends: it goes on with K, or returns with R -/
noncomputable def Out (r : Option (Fl × Locals × Store)) (K : Locals → Store → Prop) (R : PV → Store → Prop) : Prop :=
  (∃ ρ' σ', r = some (.next, ρ', σ') ∧ K ρ' σ') ∨ ∃ v ρ' σ', r = some (.ret v, ρ', σ') ∧ R v σ'
noncomputable def No : Locals → Store → Prop := fun _ _ => False
noncomputable def NoR : PV → Store → Prop := fun _ _ => False
section
variable {Φ : Fns} {G : Glob} {st : Stmt} {rest : List Stmt} {ρ ρ₁ ρ₂ : Locals} {σ σ₁ σ₂ : Store} {v : PV} {K K' : Locals → Store → Prop} {R R' : PV → Store → Prop}
theorem out_nil (h : K ρ σ) : Out (execSs Φ G [] ρ σ) K R := .inl ⟨ρ, σ, rfl, h⟩
theorem out_cons (h : Out (execS Φ G st ρ σ) (fun ρ₁ σ₁ => Out (execSs Φ G rest ρ₁ σ₁) K R) R) : Out (execSs Φ G (st :: rest) ρ σ) K R := by
  rcases h with ⟨ρ', σ', e, h⟩ | ⟨v, ρ', σ', e, h⟩
  · have : execSs Φ G (st :: rest) ρ σ = execSs Φ G rest ρ' σ' := by rw [zQ, e]
    rw [this]; exact h
  · exact .inr ⟨v, ρ', σ', by rw [zQ, e], h⟩
theorem out_next (e : execS Φ G st ρ σ = some (.next, ρ₁, σ₁)) (h : Out (execSs Φ G rest ρ₁ σ₁) K R) : Out (execSs Φ G (st :: rest) ρ σ) K R := out_cons (.inl ⟨ρ₁, σ₁, e, h⟩)
theorem out_ret (e : execS Φ G st ρ σ = some (.ret v, ρ₁, σ₁)) (h : R v σ₁) : Out (execSs Φ G (st :: rest) ρ σ) K R := out_cons (.inr ⟨v, ρ₁, σ₁, e, h⟩)
theorem out_if {t : Expr} {b o : List Stmt} {pos : Pos} {c : Bool} (e : evalT Φ G t ρ σ = some (c, σ₁)) (h1 : c = true → Out (execSs Φ G b ρ σ₁) K R) (h2 : c = false → Out (execSs Φ G o ρ σ₁) K R) : Out (execS Φ G (.If t b o pos) ρ σ) K R := by
  have : execS Φ G (.If t b o pos) ρ σ = if c then execSs Φ G b ρ σ₁ else execSs Φ G o ρ σ₁ := by rw [xx, e]
  rw [this]
  cases c
  · exact h2 rfl
  · exact h1 rfl
theorem out_mono {r : Option (Fl × Locals × Store)} (h : Out r K R) (hK : ∀ ρ σ, K ρ σ → K' ρ σ) (hR : ∀ v σ, R v σ → R' v σ) : Out r K' R' := by
  rcases h with ⟨ρ', σ', e, h⟩ | ⟨v, ρ', σ', e, h⟩
  · exact .inl ⟨ρ', σ', e, hK _ _ h⟩
  · exact .inr ⟨v, ρ', σ', e, hR _ _ h⟩
theorem out_run {d : DefRec} {vs : List PV} (hl : vs.length = d.params.args.length) (h : Out (execSs Φ G d.body (bindP (d.params.args.map (·.arg)) vs) σ) No R) : ∃ v σ', interpF Φ G d vs σ = some (v, σ') ∧ R v σ' := by
  rcases h with ⟨ρ', σ', e, h⟩ | ⟨v, ρ', σ', e, h⟩
  · exact h.elim
  · refine ⟨v, σ', ?_, h⟩
    unfold interpF
    rw [if_pos (by simpa using hl), e]
theorem run_eq {d : DefRec} {vs : List PV} (hl : vs.length = d.params.args.length) (h : Out (execSs Φ G d.body (bindP (d.params.args.map (·.arg)) vs) σ) No (fun u τ => u = v ∧ τ = σ₁)) : interpF Φ G d vs σ = some (v, σ₁) := by
  obtain ⟨u, τ, e, rfl, rfl⟩ := out_run hl h
  exact e
theorem out_for {t e : Expr} {body : List Stmt} {pos : Pos} {ds : List PV} (he : execS Φ G (.For t e body [] pos) ρ σ = forL (bindT t) (fun ρ σ => execSs Φ G body ρ σ) ds ρ σ₁) (I : Nat → Locals → Store → Prop) (h0 : I 0 ρ σ₁)
    (step : ∀ i d ρ σ, ds[i]? = some d → I i ρ σ → ∃ ρ₁, bindT t d ρ = some ρ₁ ∧ Out (execSs Φ G body ρ₁ σ) (I (i + 1)) R) : Out (execS Φ G (.For t e body [] pos) ρ σ) (I ds.length) R := by
  rw [he]
  obtain ⟨f, ρ', σ', e1, h1⟩ := forL_inv (bind := bindT t) (run := fun ρ σ => execSs Φ G body ρ σ) I (fun v _ σ => R v σ) ds 0 ρ σ₁ h0 fun i d ρ σ hd hi => by
    rw [Nat.zero_add] at hi ⊢
    obtain ⟨ρ₁, e1, h1⟩ := step i d ρ σ hd hi
    rcases h1 with ⟨ρ', σ', e, h⟩ | ⟨v, ρ', σ', e, h⟩
    · exact ⟨ρ₁, .next, ρ', σ', e1, e, .inl ⟨rfl, h⟩⟩
    · exact ⟨ρ₁, .ret v, ρ', σ', e1, e, .inr ⟨v, rfl, h⟩⟩
  rw [Nat.zero_add] at h1
  rcases h1 with ⟨rfl, h⟩ | ⟨v, rfl, h⟩
  · exact .inl ⟨ρ', σ', e1, h⟩
  · exact .inr ⟨v, ρ', σ', e1, h⟩
theorem out_forLoc {t e : Expr} {body : List Stmt} {pos : Pos} {ds : List PV} {l : Nat} (he : execS Φ G (.For t e body [] pos) ρ σ = forLoc (bindT t) (fun ρ σ => execSs Φ G body ρ σ) l (ds.length + 1) 0 ρ σ₁) (I : Nat → Locals → Store → Prop) (hs : ∀ i ρ σ, I i ρ σ → σ[l]? = some (.list ds)) (h0 : I 0 ρ σ₁)
    (step : ∀ i d ρ σ, ds[i]? = some d → I i ρ σ → ∃ ρ₁, bindT t d ρ = some ρ₁ ∧ Out (execSs Φ G body ρ₁ σ) (I (i + 1)) R) : Out (execS Φ G (.For t e body [] pos) ρ σ) (I ds.length) R := by
  rw [he]
  obtain ⟨f, ρ', σ', e1, h1⟩ := forLoc_inv (bind := bindT t) (run := fun ρ σ => execSs Φ G body ρ σ) l ds I (fun v _ σ => R v σ) hs (fun i d ρ σ hd hi => by
    obtain ⟨ρ₁, e1, h1⟩ := step i d ρ σ hd hi
    rcases h1 with ⟨ρ', σ', e, h⟩ | ⟨v, ρ', σ', e, h⟩
    · exact ⟨ρ₁, .next, ρ', σ', e1, e, .inl ⟨rfl, h⟩⟩
    · exact ⟨ρ₁, .ret v, ρ', σ', e1, e, .inr ⟨v, rfl, h⟩⟩) ds.length 0 ρ σ₁ rfl h0
  rcases h1 with ⟨rfl, h⟩ | ⟨v, rfl, h⟩
  · exact .inl ⟨ρ', σ', e1, h⟩
  · exact .inr ⟨v, ρ', σ', e1, h⟩
theorem for_lst {x : Str} {q : Pos} {e : Expr} {body : List Stmt} {pos : Pos} {ds : List PV} (hr : rangeOf G e = none) (he : evalE Φ G e ρ σ = some (.lst ds, σ₁)) : execS Φ G (.For (.Name x q) e body [] pos) ρ σ = forL (bindT (.Name x q)) (fun ρ σ => execSs Φ G body ρ σ) ds ρ σ₁ := by
  rw [x_for, hr, he]
theorem for_tupT {ts : List Expr} {kk : Nat} {q : Pos} {e : Expr} {body : List Stmt} {pos : Pos} {ds : List PV} (he : evalE Φ G e ρ σ = some (.tup ds, σ₁)) : execS Φ G (.For (.Tuple ts kk q) e body [] pos) ρ σ = forL (bindT (.Tuple ts kk q)) (fun ρ σ => execSs Φ G body ρ σ) ds ρ σ₁ := by
  rw [x_forT, he]
theorem for_str {x : Str} {q : Pos} {e : Expr} {body : List Stmt} {pos : Pos} {y : Str} (hr : rangeOf G e = none) (he : evalE Φ G e ρ σ = some (.str y, σ₁)) : execS Φ G (.For (.Name x q) e body [] pos) ρ σ = forL (bindT (.Name x q)) (fun ρ σ => execSs Φ G body ρ σ) (y.cps.toList.map fun c => .str ⟨#[c]⟩) ρ σ₁ := by
  rw [x_for, hr, he]
theorem for_loc {x : Str} {q : Pos} {e : Expr} {body : List Stmt} {pos : Pos} {l : Nat} {ds : List PV} (hr : rangeOf G e = none) (he : evalE Φ G e ρ σ = some (.loc l, σ₁)) (hi : σ₁[l]? = some (.list ds)) : execS Φ G (.For (.Name x q) e body [] pos) ρ σ = forLoc (bindT (.Name x q)) (fun ρ σ => execSs Φ G body ρ σ) l (ds.length + 1) 0 ρ σ₁ := by
  rw [x_for, hr, he]
  show (match (match σ₁[l]? with | some (.list ds) => some ds | _ => none) with | some ds => _ | none => none) = _
  rw [hi]
theorem for_rng {x : Str} {q : Pos} {e : Expr} {body : List Stmt} {pos : Pos} {args : List Expr} {vs ds : List PV} (hr : rangeOf G e = some args) (he : evalEs Φ G args ρ σ = some (vs, σ₁)) (hd : rangeArgs vs = some ds) : execS Φ G (.For (.Name x q) e body [] pos) ρ σ = forL (bindT (.Name x q)) (fun ρ σ => execSs Φ G body ρ σ) ds ρ σ₁ := by
  rw [x_for, hr]
  show (match evalEs Φ G args ρ σ with | none => none | some (vs, σ₁) => _) = _
  rw [he]
  show (match rangeArgs vs with | some ds => _ | none => none) = _
  rw [hd]
end

/-! little facts -/
theorem sz : sizeLine = 16777216 := rfl
theorem yB : (0 ≤ sizeLine) = True := eq_true (by decide)
theorem yC : (1 ≤ sizeLine) = True := eq_true (by decide)
theorem yD : (2 ≤ sizeLine) = True := eq_true (by decide)
theorem yE : (3 ≤ sizeLine) = True := eq_true (by decide)
theorem yF : (4 ≤ sizeLine) = True := eq_true (by decide)
theorem yG : (5 ≤ sizeLine) = True := eq_true (by decide)
theorem idxP_of {i : Int} {n : Nat} (h0 : 0 ≤ i) (h1 : i < n) (hn : n ≤ sizeLine) : idxP i n = some i.toNat := by
  unfold idxP
  have e := sz
  rw [if_pos ⟨h0, h1, by omega⟩]
theorem idxP_small {i : Int} {n : Nat} (h0 : 0 ≤ i) (h1 : i < n) (hn : i < 16777216) : idxP i n = some i.toNat := by
  unfold idxP
  rw [if_pos ⟨h0, h1, by omega⟩]
theorem rangeP_len (b : Int) : (rangeP 0 b 1).length = b.toNat := by
  simp only [rangeP, List.length_map, List.length_range, Builtin.Range.rangeSize]
  have : (1 : Int) > 0 := by decide
  rw [if_pos this]
  split <;> omega
theorem rangeP_get {b : Int} {i : Nat} {d : PV} (h : (rangeP 0 b 1)[i]? = some d) : d = .int i ∧ (i : Int) < b := by
  have hi := (List.getElem?_eq_some_iff.mp h).1
  rw [rangeP_len] at hi
  have hi' : i < (Builtin.Range.rangeSize 0 b 1).toNat := by
    have := rangeP_len b
    simp only [rangeP, List.length_map, List.length_range] at this
    omega
  simp only [rangeP, List.getElem?_map, List.getElem?_range hi', Option.map_some, Option.some.injEq] at h
  subst h
  exact ⟨by simp, by omega⟩
theorem range1 {b : Int} (h : b < 1000000) (h0 : -1000000 < b) : rangeArgs [.int b] = some (rangeP 0 b 1) := by
  have : rangeOk 0 b 1 = true := by
    simp only [rangeOk, Bool.and_eq_true, decide_eq_true_eq]; omega
  exact if_pos this

theorem xp {G : Glob} {args : List Expr} {p q : Pos} : rangeOf G (.Call (.Name (Str.ofString "range") p) args [] q) = if G.isB (Str.ofString "range") = true then some args else none := by
  show (if Str.ofString "range" = Str.ofString "range" ∧ G.isB (Str.ofString "range") = true then some args else none) = _
  simp only [true_and]

/-! and, or -/
section
variable {Φ : Fns} {G : Glob} {e e' : Expr} {es : List Expr} {ρ : Locals} {σ : Store} {pos : Pos}
theorem zh : evalTs Φ G .And [] ρ σ = some (true, σ) := rfl
theorem zt : evalTs Φ G .Or [] ρ σ = some (false, σ) := rfl
theorem yP : evalTs Φ G .And (e :: es) ρ σ = match evalT Φ G e ρ σ with
    | none => none
    | some (b, σ₁) => if b = true then evalTs Φ G .And es ρ σ₁ else some (false, σ₁) := by
  rw [ets_cons]
  generalize evalT Φ G e ρ σ = r
  rcases r with _ | ⟨b, s⟩
  · rfl
  · cases b <;> rfl
theorem xy : evalTs Φ G .Or (e :: es) ρ σ = match evalT Φ G e ρ σ with
    | none => none
    | some (b, σ₁) => if b = true then some (true, σ₁) else evalTs Φ G .Or es ρ σ₁ := by
  rw [ets_cons]
  generalize evalT Φ G e ρ σ = r
  rcases r with _ | ⟨b, s⟩
  · rfl
  · cases b <;> rfl
theorem yQ {op : BoolOp} : evalB Φ G op [e] ρ σ = evalE Φ G e ρ σ := rfl
theorem yR : evalB Φ G .And (e :: e' :: es) ρ σ = match evalE Φ G e ρ σ with
    | some (.bool b, σ₁) => if b = true then evalB Φ G .And (e' :: es) ρ σ₁ else some (.bool false, σ₁)
    | _ => none := by
  rw [eb_cons]
  generalize evalE Φ G e ρ σ = r
  rcases r with _ | ⟨d, s⟩
  · rfl
  · cases d with
    | bool b => cases b <;> rfl
    | _ => rfl
theorem zu {α : Type} {p : Prop} [Decidable p] {x y : α} {s : Store} : (if p then some (x, s) else some (y, s)) = some ((if p then x else y), s) := by split <;> rfl
theorem yS {p : Prop} [Decidable p] {x y : Bool} : (if p then PV.bool x else PV.bool y) = PV.bool (if p then x else y) := by split <;> rfl
end

/-! what an operation gives -/
section
variable {σ : Store} {a b : Int} {x y : Str} {ds es : List PV} {i : Nat} {d e : PV} {c c' : Bool}
theorem yT : binP .Add (.int a) (.int b) = some (.int (a + b)) := rfl
theorem yU : binP .Sub (.int a) (.int b) = some (.int (a - b)) := rfl
theorem yV (h : a.natAbs < 2 ^ 62 ∨ b.natAbs < 2 ^ 62) : binP .Mult (.int a) (.int b) = some (.int (a * b)) := if_pos h
theorem yW (h : b ≠ 0) : binP .Mod (.int a) (.int b) = some (.int (a.fmod b)) := if_pos h
theorem yX (h : b ≠ 0 ∧ b.natAbs < 1073741824) : binP .FloorDiv (.int a) (.int b) = some (.int (a.fdiv b)) := if_pos h
theorem yY (h : x.length + y.length ≤ sizeLine) : binP .Add (.str x) (.str y) = some (.str (x ++ y)) := if_pos h
theorem xA : cmpP σ .Lt (.int a) (.int b) = some (.bool (decide (a < b))) := rfl
theorem xB : cmpP σ .LtE (.int a) (.int b) = some (.bool (decide (a ≤ b))) := rfl
theorem xC : cmpP σ .Gt (.int a) (.int b) = some (.bool (decide (b < a))) := rfl
theorem xD : cmpP σ .GtE (.int a) (.int b) = some (.bool (decide (b ≤ a))) := rfl
theorem yZ : cmpP σ .Eq (.int a) (.int b) = some (.bool (a == b)) := rfl
theorem y0 : cmpP σ .NotEq (.int a) (.int b) = some (.bool (!(a == b))) := rfl
theorem y5 : cmpP σ .Eq (.str x) (.str y) = some (.bool (x == y)) := rfl
theorem y6 : cmpP σ .Eq (.bool c) (.bool c') = some (.bool (c == c')) := rfl
theorem y7 : cmpP σ .NotEq (.bool c) (.bool c') = some (.bool (!(c == c'))) := rfl
theorem y8 : cmpP σ .NotIn (.str y) (.str x) = some (.bool (!(!(Builtin.Str.occurrences x y 0 x.length 1).isEmpty))) := rfl
theorem yw (h : x.length ≤ sizeLine) : callB (Str.ofString "len") [.str x] σ = some (.int x.length) :=
  (by kernel_rfl : callB (Str.ofString "len") [.str x] σ = if x.length ≤ sizeLine then some (.int x.length) else none).trans (if_pos h)
theorem yx (h : ds.length ≤ sizeLine) : callB (Str.ofString "len") [.lst ds] σ = some (.int ds.length) :=
  (by kernel_rfl : callB (Str.ofString "len") [.lst ds] σ = if ds.length ≤ sizeLine then some (.int ds.length) else none).trans (if_pos h)
theorem items_loc (hs : σ[i]? = some (.list ds)) : items? σ (.loc i) = some ds := by
  show (match σ[i]? with | some (.list ds) => some ds | _ => none) = _
  rw [hs]
theorem yy (hs : σ[i]? = some (.list ds)) (h : ds.length ≤ sizeLine) : callB (Str.ofString "len") [.loc i] σ = some (.int ds.length) := by
  have e : callB (Str.ofString "len") [.loc i] σ = (items? σ (.loc i)).bind fun ds => if ds.length ≤ sizeLine then some (.int ds.length) else none := by
    cases q : items? σ (.loc i) with
    | none => exact (by kernel_rfl : callB (Str.ofString "len") [.loc i] σ = (match items? σ (.loc i) with | some ds => if ds.length ≤ sizeLine then some (.int ds.length) else none | none => none)).trans (by rw [q]; rfl)
    | some es => exact (by kernel_rfl : callB (Str.ofString "len") [.loc i] σ = (match items? σ (.loc i) with | some ds => if ds.length ≤ sizeLine then some (.int ds.length) else none | none => none)).trans (by rw [q]; rfl)
  rw [e, items_loc hs]
  exact if_pos h
theorem y9 : callB (Str.ofString "max") [.int a, .int b] σ = some (.int (if b > a then b else a)) := by kernel_rfl
theorem xc : callB (Str.ofString "min") [.int a, .int b] σ = some (.int (if b < a then b else a)) := by kernel_rfl
theorem xd : callB (Str.ofString "int") [.bool c] σ = some (.int (if c then 1 else 0)) := by kernel_rfl
theorem zT (h : ds.length ≤ sizeLine) : callB (Str.ofString "list") [.lst ds] σ = some (.lst ds) :=
  (by kernel_rfl : callB (Str.ofString "list") [.lst ds] σ = if ds.length ≤ sizeLine then some (.lst ds) else none).trans (if_pos h)
theorem zU (hs : σ[i]? = some (.list ds)) (h : ds.length ≤ sizeLine) : callB (Str.ofString "list") [.loc i] σ = some (.lst ds) := by
  have e : callB (Str.ofString "list") [.loc i] σ = (match items? σ (.loc i) with
      | some ds => if ds.length ≤ sizeLine then some (.lst ds) else none
      | none => match keys? σ (.loc i) with
        | some ks => if ks.length ≤ sizeLine then some (.lst (ks.map fun k => .tup (k.map .int))) else none
        | none => none) := by kernel_rfl
  rw [e, items_loc hs]
  exact if_pos h
theorem xe {T : String} : callB (Str.ofString "isinstance") [d, .ty T] σ = (isiP σ d T).map .bool := by kernel_rfl
theorem zV : isiP σ (.bool c) "bool" = some true := by kernel_rfl
theorem zW : isiP σ (.int a) "bool" = some false := by kernel_rfl
theorem xf : isiP σ (.int a) "int" = some true := by kernel_rfl
theorem xg : isiP σ (.str x) "str" = some true := by kernel_rfl
theorem xh : isiP σ (.lst ds) "list" = some true := by kernel_rfl
theorem xi (h0 : 0 ≤ a) (h1 : a < ds.length) (h2 : ds.length ≤ sizeLine) : subP σ (.lst ds) (.int a) = ds[a.toNat]? := by
  show (match idxP a ds.length with | some j => ds[j]? | none => none) = _
  rw [idxP_of h0 h1 h2]
theorem xj (hs : σ[i]? = some (.list ds)) (h0 : 0 ≤ a) (h1 : a < ds.length) (h2 : ds.length ≤ sizeLine) : subP σ (.loc i) (.int a) = ds[a.toNat]? := by
  show (match σ[i]? with | some (.list ds) => (match idxP a ds.length with | some j => ds[j]? | none => none) | _ => none) = _
  rw [hs]
  show (match idxP a ds.length with | some j => ds[j]? | none => none) = _
  rw [idxP_of h0 h1 h2]
theorem xk (h0 : 0 ≤ a) (h1 : a < x.length) (h2 : x.length ≤ sizeLine) : subP σ (.str x) (.int a) = (x.cps[a.toNat]?).map fun c => .str ⟨#[c]⟩ := by
  show (match idxP a x.length with | some j => (x.cps[j]?).map fun c => PV.str ⟨#[c]⟩ | none => none) = _
  rw [idxP_of h0 h1 h2]
theorem xF {x0 : PV} {r : List PV} : subP σ (.tup (x0 :: r)) (.int 0) = some x0 := by
  show (match idxP _ (List.length _) with | some j => _ | none => none) = _
  rw [idxP_small (by decide) (by simp only [List.length_cons]; omega) (by decide)]
  rfl
theorem xG {x0 x1 : PV} {r : List PV} : subP σ (.tup (x0 :: x1 :: r)) (.int 1) = some x1 := by
  show (match idxP _ (List.length _) with | some j => _ | none => none) = _
  rw [idxP_small (by decide) (by simp only [List.length_cons]; omega) (by decide)]
  rfl
theorem xH {x0 x1 x2 : PV} {r : List PV} : subP σ (.tup (x0 :: x1 :: x2 :: r)) (.int 2) = some x2 := by
  show (match idxP _ (List.length _) with | some j => _ | none => none) = _
  rw [idxP_small (by decide) (by simp only [List.length_cons]; omega) (by decide)]
  rfl
theorem xI {x0 x1 x2 x3 : PV} {r : List PV} : subP σ (.tup (x0 :: x1 :: x2 :: x3 :: r)) (.int 3) = some x3 := by
  show (match idxP _ (List.length _) with | some j => _ | none => none) = _
  rw [idxP_small (by decide) (by simp only [List.length_cons]; omega) (by decide)]
  rfl
theorem xJ {x0 : PV} {r : List PV} : subP σ (.lst (x0 :: r)) (.int 0) = some x0 := by
  show (match idxP _ (List.length _) with | some j => _ | none => none) = _
  rw [idxP_small (by decide) (by simp only [List.length_cons]; omega) (by decide)]
  rfl
theorem xK {x0 x1 : PV} {r : List PV} : subP σ (.lst (x0 :: x1 :: r)) (.int 1) = some x1 := by
  show (match idxP _ (List.length _) with | some j => _ | none => none) = _
  rw [idxP_small (by decide) (by simp only [List.length_cons]; omega) (by decide)]
  rfl
theorem xL {x0 x1 x2 : PV} {r : List PV} : subP σ (.lst (x0 :: x1 :: x2 :: r)) (.int 2) = some x2 := by
  show (match idxP _ (List.length _) with | some j => _ | none => none) = _
  rw [idxP_small (by decide) (by simp only [List.length_cons]; omega) (by decide)]
  rfl
theorem xM {x0 x1 x2 x3 : PV} {r : List PV} : subP σ (.lst (x0 :: x1 :: x2 :: x3 :: r)) (.int 3) = some x3 := by
  show (match idxP _ (List.length _) with | some j => _ | none => none) = _
  rw [idxP_small (by decide) (by simp only [List.length_cons]; omega) (by decide)]
  rfl
theorem xl (hs : σ[i]? = some (.list ds)) (h : ds.length ≤ sizeLine) : methP true (Str.ofString "append") (.loc i) [d] σ = some (.none, σ.set i (.list (ds ++ [d]))) := by
  have e : methP true (Str.ofString "append") (.loc i) [d] σ = (match σ[i]? with
        | some (.list ds) => if ds.length ≤ sizeLine then some (.none, σ.set i (.list (ds ++ [d]))) else none
        | _ => none) := by kernel_rfl
  rw [e, hs]
  exact if_pos h
theorem xm (hs : σ[i]? = some (.list ds)) : recvT σ (.loc i) = some true := by
  show (match σ[i]? with | some (.list _) => some true | some (.dict _) => some false | none => none) = _
  rw [hs]
theorem xn : recvT σ (.lst ds) = some true := rfl
theorem xo {lo hi : Int} (h : 0 ≤ lo ∧ lo ≤ hi ∧ ds.length ≤ sizeLine) : sliceP (.lst ds) (.int lo) (.int hi) = some (.lst ((ds.take hi.toNat).drop lo.toNat)) := by
  exact if_pos h
end

theorem get_append_new {α : Type} (l : List α) (x : α) : (l ++ [x])[l.length]? = some x := by simp
theorem set_append_new {α : Type} (l : List α) (x y : α) : (l ++ [x]).set l.length y = l ++ [y] := by
  rw [List.set_append_right _ _ (Nat.le_refl _)]; simp
theorem get2_0 {α : Type} (l : List α) (x y : α) : (l ++ [x, y])[l.length]? = some x := by simp
theorem get2_1 {α : Type} (l : List α) (x y : α) : (l ++ [x, y])[l.length + 1]? = some y := by
  rw [List.getElem?_append_right (Nat.le_succ _)]; simp
theorem set2_1 {α : Type} (l : List α) (x y z : α) : (l ++ [x, y]).set (l.length + 1) z = l ++ [x, z] := by
  rw [List.set_append_right _ _ (Nat.le_succ _)]; simp
theorem sub_dot {σ : Store} (b : Bool) : subP σ (.str (Str.ofString ".#")) (.int (if b then 1 else 0)) = some (.str ⟨#[if b then 35 else 46]⟩) := by
  cases b
  · show subP σ (.str (Str.ofString ".#")) (.int 0) = some (.str ⟨#[46]⟩)
    unfold subP idxP
    kernel_rfl
  · show subP σ (.str (Str.ofString ".#")) (.int 1) = some (.str ⟨#[35]⟩)
    unfold subP idxP
    kernel_rfl
theorem get_append_old {α : Type} {l : List α} {i : Nat} {x : α} (h : l[i]? = some x) (r : List α) : (l ++ r)[i]? = some x := by
  rw [List.getElem?_append_left (List.getElem?_eq_some_iff.mp h).1]; exact h
end Mine

set_option maxRecDepth 100000
namespace Mine
open PySem PySem.Spec PyProof.Rows PySem.Challenge

abbrev pw := pw_uf040012_04
noncomputable def fnNames : List String := ["law", "_law_parts", "_law_sum", "_law_points", "_law_around", "_law_on", "_law_floor", "_law_sizes", "_law_drawn", "_law_is_in", "_law_boxes", "_law_whole", "_law_mixed", "_law_cell_at", "holes", "parts", "bunches", "spread", "cells", "wide", "cell", "checked"]
noncomputable def biNames : List String := ["isinstance", "list", "len", "str", "range", "max", "min", "int", "bool"]
noncomputable def besideV : PV := .tup [.tup [.int (-1), .int 0], .tup [.int 0, .int (-1)], .tup [.int 0, .int 1], .tup [.int 1, .int 0]]
noncomputable def roundV : PV := .tup [.tup [.int (-1), .int (-1)], .tup [.int (-1), .int 0], .tup [.int (-1), .int 1], .tup [.int 0, .int (-1)], .tup [.int 0, .int 1], .tup [.int 1, .int (-1)], .tup [.int 1, .int 0], .tup [.int 1, .int 1]]
noncomputable def Gl : Glob := fun x =>
  if fnNames.any (fun f => x == Str.ofString f) then .fn
  else if biNames.any (fun f => x == Str.ofString f) then .builtin
  else if x == Str.ofString "MOST" then .val (.int 30)
  else if x == Str.ofString "SIGNS" then .val (.str "#.")
  else if x == Str.ofString "BESIDE" then .val besideV
  else if x == Str.ofString "ROUND" then .val roundV
  else .no
theorem zb : Gl (Str.ofString "isinstance") = .builtin := by kernel_rfl
theorem yK : Gl (Str.ofString "list") = .builtin := by kernel_rfl
theorem xr : Gl (Str.ofString "len") = .builtin := by kernel_rfl
theorem xv : Gl (Str.ofString "str") = .builtin := by kernel_rfl
theorem z9 : Gl (Str.ofString "range") = .builtin := by kernel_rfl
theorem xt : Gl (Str.ofString "max") = .builtin := by kernel_rfl
theorem xu : Gl (Str.ofString "min") = .builtin := by kernel_rfl
theorem xq : Gl (Str.ofString "int") = .builtin := by kernel_rfl
theorem yI : Gl (Str.ofString "bool") = .builtin := by kernel_rfl
theorem yH : Gl (Str.ofString "MOST") = .val (.int 30) := by kernel_rfl
theorem zw : Gl (Str.ofString "BESIDE") = .val besideV := by kernel_rfl
theorem zZ : Gl (Str.ofString "ROUND") = .val roundV := by kernel_rfl
theorem z0 : Gl (Str.ofString "SIGNS") = .val (.str (Str.ofString "#.")) := by kernel_rfl
theorem z8 : Gl (Str.ofString "_law_parts") = .fn := by kernel_rfl
theorem xw : Gl (Str.ofString "_law_sum") = .fn := by kernel_rfl
theorem zz : Gl (Str.ofString "_law_points") = .fn := by kernel_rfl
theorem zx : Gl (Str.ofString "_law_around") = .fn := by kernel_rfl
theorem xE : Gl (Str.ofString "_law_on") = .fn := by kernel_rfl
theorem z4 : Gl (Str.ofString "_law_floor") = .fn := by kernel_rfl
theorem ya : Gl (Str.ofString "_law_sizes") = .fn := by kernel_rfl
theorem z3 : Gl (Str.ofString "_law_drawn") = .fn := by kernel_rfl
theorem z6 : Gl (Str.ofString "_law_is_in") = .fn := by kernel_rfl
theorem z1 : Gl (Str.ofString "_law_boxes") = .fn := by kernel_rfl
theorem yb : Gl (Str.ofString "_law_whole") = .fn := by kernel_rfl
theorem z7 : Gl (Str.ofString "_law_mixed") = .fn := by kernel_rfl
theorem zj : Gl (Str.ofString "_law_cell_at") = .fn := by kernel_rfl
theorem z5 : Gl (Str.ofString "holes") = .fn := by kernel_rfl
theorem zy : Gl (Str.ofString "parts") = .fn := by kernel_rfl
theorem zi : Gl (Str.ofString "bunches") = .fn := by kernel_rfl
theorem zA : Gl (Str.ofString "spread") = .fn := by kernel_rfl
theorem z2 : Gl (Str.ofString "cells") = .fn := by kernel_rfl
theorem yL : Gl (Str.ofString "wide") = .fn := by kernel_rfl
theorem yJ : Gl (Str.ofString "cell") = .fn := by kernel_rfl
theorem zk : Gl (Str.ofString "checked") = .fn := by kernel_rfl

end Mine

set_option maxRecDepth 100000
namespace Mine
open PySem PySem.Spec PyProof.Rows PySem.Challenge

noncomputable def cellAt (ns : List Int) (k : Int) : Int := if k < ns.length then ns.getD k.toNat 0 else 0
noncomputable def mixc : List Int := [48271, 69621, 16807, 39373]
noncomputable def mixed (c k : Int) : Int := ((c + 1) * mixc.getD k.toNat 0).fmod 2147483647
section
variable {Φ : Fns} {σ : Store}
theorem cell_at_run {ns : List Int} {k : Int} (hk : 0 ≤ k) (hl : ns.length ≤ 63) : interpF Φ Gl (dOf pw "_law_cell_at") [.lst (ns.map .int), .int k] σ = some (.int (cellAt ns k), σ) := by
  have hs := sz
  have h1 : (ns.map PV.int).length ≤ sizeLine := by rw [List.length_map]; omega
  refine run_eq (by kernel_rfl) ?_
  change Out (execSs Φ Gl (_ :: _) (bindP [_, _] _) σ) _ _
  rw [bindP2]
  by_cases hlt : k < ns.length
  · have ht : k.toNat < ns.length := by omega
    have hi : k < (ns.map PV.int).length := by rw [List.length_map]; exact hlt
    apply out_ret
    · (simp (disch := first | assumption | decide | omega) only [zB, yc, zC, yM, yd, zl, yN, ye, yf, zD, zE, zm, zn, zF, yg, zo, zG, yh, zH, yi, zI, yj, zc, zJ, zK, yk, yl, zd, ym, yO, xx, yn, yo, zL, yp, zM, zp, zq, ze, zN, yq, zO, yr, zr, zf, zP, yt, zg, yu, zQ, zh, zt, yP, xy, yQ, yR, zu, yS, decide_eq_true_eq, beq_iff_eq, zR, zS, za, String.reduceEq, ↓reduceIte, yv, Glob.val?, xz, yT, yU, yV, yW, yX, yY, xA, xB, xC, xD, yZ, y0, y5, y6, y7, y8, yw, yx, yy, y9, xc, xd, zT, zU, xe, zV, zW, xf, xg, xh, xF, xG, xH, xI, xJ, xK, xL, xM, xi, xj, xk, xl, xm, xn, xo, xp, Glob.isB, and_self, and_true, true_and, zX, yz, yA, zY, Option.map_some, List.length_cons, List.length_nil, Nat.reduceAdd, Nat.zero_add, yB, yC, yD, yE, yF, yG, zb, yK, xr, xv, z9, xt, xu, xq, yI, yH, z0, zw, zZ, z8, xw, zz, zx, xE, z4, ya, z3, z6, z1, yb, z7, zj, z5, zy, zi, zA, z2, yL, yJ, zk, List.length_map, decide_eq_true hlt, List.getElem?_map, List.getElem?_eq_getElem ht]) <;> rfl
    · simp only [cellAt, List.getD, List.getElem?_eq_getElem ht, Option.getD_some, hlt, if_true, and_self]
  · apply out_next
    · (simp (disch := first | assumption | decide | omega) only [zB, yc, zC, yM, yd, zl, yN, ye, yf, zD, zE, zm, zn, zF, yg, zo, zG, yh, zH, yi, zI, yj, zc, zJ, zK, yk, yl, zd, ym, yO, xx, yn, yo, zL, yp, zM, zp, zq, ze, zN, yq, zO, yr, zr, zf, zP, yt, zg, yu, zQ, zh, zt, yP, xy, yQ, yR, zu, yS, decide_eq_true_eq, beq_iff_eq, zR, zS, za, String.reduceEq, ↓reduceIte, yv, Glob.val?, xz, yT, yU, yV, yW, yX, yY, xA, xB, xC, xD, yZ, y0, y5, y6, y7, y8, yw, yx, yy, y9, xc, xd, zT, zU, xe, zV, zW, xf, xg, xh, xF, xG, xH, xI, xJ, xK, xL, xM, xi, xj, xk, xl, xm, xn, xo, xp, Glob.isB, and_self, and_true, true_and, zX, yz, yA, zY, Option.map_some, List.length_cons, List.length_nil, Nat.reduceAdd, Nat.zero_add, yB, yC, yD, yE, yF, yG, zb, yK, xr, xv, z9, xt, xu, xq, yI, yH, z0, zw, zZ, z8, xw, zz, zx, xE, z4, ya, z3, z6, z1, yb, z7, zj, z5, zy, zi, zA, z2, yL, yJ, zk, List.length_map, decide_eq_false hlt]) <;> rfl
    apply out_ret
    · (simp (disch := first | assumption | decide | omega) only [zB, yc, zC, yM, yd, zl, yN, ye, yf, zD, zE, zm, zn, zF, yg, zo, zG, yh, zH, yi, zI, yj, zc, zJ, zK, yk, yl, zd, ym, yO, xx, yn, yo, zL, yp, zM, zp, zq, ze, zN, yq, zO, yr, zr, zf, zP, yt, zg, yu, zQ, zh, zt, yP, xy, yQ, yR, zu, yS, decide_eq_true_eq, beq_iff_eq, zR, zS, za, String.reduceEq, ↓reduceIte, yv, Glob.val?, xz, yT, yU, yV, yW, yX, yY, xA, xB, xC, xD, yZ, y0, y5, y6, y7, y8, yw, yx, yy, y9, xc, xd, zT, zU, xe, zV, zW, xf, xg, xh, xF, xG, xH, xI, xJ, xK, xL, xM, xi, xj, xk, xl, xm, xn, xo, xp, Glob.isB, and_self, and_true, true_and, zX, yz, yA, zY, Option.map_some, List.length_cons, List.length_nil, Nat.reduceAdd, Nat.zero_add, yB, yC, yD, yE, yF, yG, zb, yK, xr, xv, z9, xt, xu, xq, yI, yH, z0, zw, zZ, z8, xw, zz, zx, xE, z4, ya, z3, z6, z1, yb, z7, zj, z5, zy, zi, zA, z2, yL, yJ, zk]) <;> rfl
    · simp only [cellAt, hlt, if_false, and_self]

theorem mg0 : ([PV.int 48271, PV.int 69621, PV.int 16807, PV.int 39373] : List PV)[Int.toNat 0]? = some (.int 48271) := rfl
theorem mg1 : ([PV.int 48271, PV.int 69621, PV.int 16807, PV.int 39373] : List PV)[Int.toNat 1]? = some (.int 69621) := rfl
theorem mg2 : ([PV.int 48271, PV.int 69621, PV.int 16807, PV.int 39373] : List PV)[Int.toNat 2]? = some (.int 16807) := rfl
theorem mg3 : ([PV.int 48271, PV.int 69621, PV.int 16807, PV.int 39373] : List PV)[Int.toNat 3]? = some (.int 39373) := rfl
theorem mixed_run {c k : Int} (h0 : 0 ≤ k) (h4 : k < 4) : interpF Φ Gl (dOf pw "_law_mixed") [.int c, .int k] σ = some (.int (mixed c k), σ) := by
  have hs := sz
  refine run_eq (by kernel_rfl) ?_
  change Out (execSs Φ Gl (_ :: _) (bindP [_, _] _) σ) _ _
  rw [bindP2]
  have hk : k = 0 ∨ k = 1 ∨ k = 2 ∨ k = 3 := by omega
  rcases hk with rfl | rfl | rfl | rfl <;> (apply out_ret; ((simp (disch := first | assumption | decide | omega) only [zB, yc, zC, yM, yd, zl, yN, ye, yf, zD, zE, zm, zn, zF, yg, zo, zG, yh, zH, yi, zI, yj, zc, zJ, zK, yk, yl, zd, ym, yO, xx, yn, yo, zL, yp, zM, zp, zq, ze, zN, yq, zO, yr, zr, zf, zP, yt, zg, yu, zQ, zh, zt, yP, xy, yQ, yR, zu, yS, decide_eq_true_eq, beq_iff_eq, zR, zS, za, String.reduceEq, ↓reduceIte, yv, Glob.val?, xz, yT, yU, yV, yW, yX, yY, xA, xB, xC, xD, yZ, y0, y5, y6, y7, y8, yw, yx, yy, y9, xc, xd, zT, zU, xe, zV, zW, xf, xg, xh, xF, xG, xH, xI, xJ, xK, xL, xM, xi, xj, xk, xl, xm, xn, xo, xp, Glob.isB, and_self, and_true, true_and, zX, yz, yA, zY, Option.map_some, List.length_cons, List.length_nil, Nat.reduceAdd, Nat.zero_add, yB, yC, yD, yE, yF, yG, zb, yK, xr, xv, z9, xt, xu, xq, yI, yH, z0, zw, zZ, z8, xw, zz, zx, xE, z4, ya, z3, z6, z1, yb, z7, zj, z5, zy, zi, zA, z2, yL, yJ, zk, mg0, mg1, mg2, mg3]) <;> rfl); simp [mixed, mixc])

/-! boxes -/
noncomputable def tup4 (b : Int × Int × Int × Int) : PV := .tup [.int b.1, .int b.2.1, .int b.2.2.1, .int b.2.2.2]

section
variable (hmix : ∀ (c k : Int) (σ : Store), 0 ≤ k → k < 4 → Φ (Str.ofString "_law_mixed") [.int c, .int k] σ = some (.int (mixed c k), σ))
include hmix
theorem boxes_run {ns : List Int} {high wide : Int} (hl : ns.length ≤ 63) : ∃ bs : List (Int × Int × Int × Int), interpF Φ Gl (dOf pw "_law_boxes") [.lst (ns.map .int), .int high, .int wide] σ = some (.loc σ.length, σ ++ [.list (bs.map tup4)]) := by
  have hs := sz
  have h1 : (ns.map PV.int).length ≤ sizeLine := by rw [List.length_map]; omega
  suffices h : Out (execSs Φ Gl (dOf pw "_law_boxes").body (bindP ((dOf pw "_law_boxes").params.args.map (·.arg)) [.lst (ns.map .int), .int high, .int wide]) σ) No (fun u τ => u = .loc σ.length ∧ ∃ bs : List (Int × Int × Int × Int), τ = σ ++ [.list (bs.map tup4)]) by
    obtain ⟨v, τ, e, rfl, bs, rfl⟩ := out_run (by kernel_rfl) h
    exact ⟨bs, e⟩
  change Out (execSs Φ Gl (_ :: _ :: _) (bindP [_, _, _] _) σ) _ _
  rw [bindP3]
  apply out_next
  · (simp (disch := first | assumption | decide | omega) only [zB, yc, zC, yM, yd, zl, yN, ye, yf, zD, zE, zm, zn, zF, yg, zo, zG, yh, zH, yi, zI, yj, zc, zJ, zK, yk, yl, zd, ym, yO, xx, yn, yo, zL, yp, zM, zp, zq, ze, zN, yq, zO, yr, zr, zf, zP, yt, zg, yu, zQ, zh, zt, yP, xy, yQ, yR, zu, yS, decide_eq_true_eq, beq_iff_eq, zR, zS, za, String.reduceEq, ↓reduceIte, yv, Glob.val?, xz, yT, yU, yV, yW, yX, yY, xA, xB, xC, xD, yZ, y0, y5, y6, y7, y8, yw, yx, yy, y9, xc, xd, zT, zU, xe, zV, zW, xf, xg, xh, xF, xG, xH, xI, xJ, xK, xL, xM, xi, xj, xk, xl, xm, xn, xo, xp, Glob.isB, and_self, and_true, true_and, zX, yz, yA, zY, Option.map_some, List.length_cons, List.length_nil, Nat.reduceAdd, Nat.zero_add, yB, yC, yD, yE, yF, yG, zb, yK, xr, xv, z9, xt, xu, xq, yI, yH, z0, zw, zZ, z8, xw, zz, zx, xE, z4, ya, z3, z6, z1, yb, z7, zj, z5, zy, zi, zA, z2, yL, yJ, zk]) <;> rfl
  refine out_cons (out_mono (out_for (R := fun u τ => u = .loc σ.length ∧ ∃ bs : List (Int × Int × Int × Int), τ = σ ++ [.list (bs.map tup4)]) (for_lst (ds := ((ns.map PV.int).take 10).drop 2) (σ₁ := σ ++ [.list []]) rfl ?_)
    (fun i ρ τ => i ≤ 63 ∧ ρ (Str.ofString "_law_found") = some (.loc σ.length) ∧ ρ (Str.ofString "_law_high") = some (.int high) ∧ ρ (Str.ofString "_law_wide") = some (.int wide) ∧ ∃ bs : List (Int × Int × Int × Int), bs.length = i ∧ τ = σ ++ [.list (bs.map tup4)]) ?_ ?_) ?_ fun _ _ h => h)
  · (simp (disch := first | assumption | decide | omega) only [zB, yc, zC, yM, yd, zl, yN, ye, yf, zD, zE, zm, zn, zF, yg, zo, zG, yh, zH, yi, zI, yj, zc, zJ, zK, yk, yl, zd, ym, yO, xx, yn, yo, zL, yp, zM, zp, zq, ze, zN, yq, zO, yr, zr, zf, zP, yt, zg, yu, zQ, zh, zt, yP, xy, yQ, yR, zu, yS, decide_eq_true_eq, beq_iff_eq, zR, zS, za, String.reduceEq, ↓reduceIte, yv, Glob.val?, xz, yT, yU, yV, yW, yX, yY, xA, xB, xC, xD, yZ, y0, y5, y6, y7, y8, yw, yx, yy, y9, xc, xd, zT, zU, xe, zV, zW, xf, xg, xh, xF, xG, xH, xI, xJ, xK, xL, xM, xi, xj, xk, xl, xm, xn, xo, xp, Glob.isB, and_self, and_true, true_and, zX, yz, yA, zY, Option.map_some, List.length_cons, List.length_nil, Nat.reduceAdd, Nat.zero_add, yB, yC, yD, yE, yF, yG, zb, yK, xr, xv, z9, xt, xu, xq, yI, yH, z0, zw, zZ, z8, xw, zz, zx, xE, z4, ya, z3, z6, z1, yb, z7, zj, z5, zy, zi, zA, z2, yL, yJ, zk]) <;> rfl
  · simp (disch := first | assumption | decide | omega) only [zB, yc, zC, yM, yd, zl, yN, ye, yf, zD, zE, zm, zn, zF, yg, zo, zG, yh, zH, yi, zI, yj, zc, zJ, zK, yk, yl, zd, ym, yO, xx, yn, yo, zL, yp, zM, zp, zq, ze, zN, yq, zO, yr, zr, zf, zP, yt, zg, yu, zQ, zh, zt, yP, xy, yQ, yR, zu, yS, decide_eq_true_eq, beq_iff_eq, zR, zS, za, String.reduceEq, ↓reduceIte, yv, Glob.val?, xz, yT, yU, yV, yW, yX, yY, xA, xB, xC, xD, yZ, y0, y5, y6, y7, y8, yw, yx, yy, y9, xc, xd, zT, zU, xe, zV, zW, xf, xg, xh, xF, xG, xH, xI, xJ, xK, xL, xM, xi, xj, xk, xl, xm, xn, xo, xp, Glob.isB, and_self, and_true, true_and, zX, yz, yA, zY, Option.map_some, List.length_cons, List.length_nil, Nat.reduceAdd, Nat.zero_add, yB, yC, yD, yE, yF, yG, zb, yK, xr, xv, z9, xt, xu, xq, yI, yH, z0, zw, zZ, z8, xw, zz, zx, xE, z4, ya, z3, z6, z1, yb, z7, zj, z5, zy, zi, zA, z2, yL, yJ, zk]
    exact ⟨by omega, [], rfl, rfl⟩
  · rintro i d ρ τ hd ⟨hi, hf, hh, hw, bs, hbs, rfl⟩
    have hd' : ∃ c, d = .int c ∧ i < 8 := by
      have hm := List.mem_of_mem_take (List.mem_of_mem_drop (List.mem_of_getElem? hd))
      obtain ⟨c, _, rfl⟩ := List.mem_map.mp hm
      have := (List.getElem?_eq_some_iff.mp hd).1
      simp only [List.length_drop, List.length_take, List.length_map] at this
      exact ⟨c, rfl, by omega⟩
    obtain ⟨c, rfl, hi8⟩ := hd'
    refine ⟨_, rfl, ?_⟩
    have g0 : (σ ++ [PO.list (bs.map tup4)])[σ.length]? = some (.list (bs.map tup4)) := get_append_new _ _
    have lb : (bs.map tup4).length ≤ sizeLine := by rw [List.length_map]; omega
    have n1 : (if high > 1 then high else 1) ≠ 0 := by split <;> omega
    have n2 : (if wide > 1 then wide else 1) ≠ 0 := by split <;> omega
    have n3 : (if high.fdiv 2 > 4 then high.fdiv 2 else 4) ≠ 0 := by split <;> omega
    have n4 : (if wide.fdiv 2 > 4 then wide.fdiv 2 else 4) ≠ 0 := by split <;> omega
    have m0 := fun τ => hmix c 0 τ (by decide) (by decide)
    have m1 := fun τ => hmix c 1 τ (by decide) (by decide)
    have m2 := fun τ => hmix c 2 τ (by decide) (by decide)
    have m3 := fun τ => hmix c 3 τ (by decide) (by decide)
    apply out_next
    · (simp (disch := first | assumption | decide | omega) only [zB, yc, zC, yM, yd, zl, yN, ye, yf, zD, zE, zm, zn, zF, yg, zo, zG, yh, zH, yi, zI, yj, zc, zJ, zK, yk, yl, zd, ym, yO, xx, yn, yo, zL, yp, zM, zp, zq, ze, zN, yq, zO, yr, zr, zf, zP, yt, zg, yu, zQ, zh, zt, yP, xy, yQ, yR, zu, yS, decide_eq_true_eq, beq_iff_eq, zR, zS, za, String.reduceEq, ↓reduceIte, yv, Glob.val?, xz, yT, yU, yV, yW, yX, yY, xA, xB, xC, xD, yZ, y0, y5, y6, y7, y8, yw, yx, yy, y9, xc, xd, zT, zU, xe, zV, zW, xf, xg, xh, xF, xG, xH, xI, xJ, xK, xL, xM, xi, xj, xk, xl, xm, xn, xo, xp, Glob.isB, and_self, and_true, true_and, zX, yz, yA, zY, Option.map_some, List.length_cons, List.length_nil, Nat.reduceAdd, Nat.zero_add, yB, yC, yD, yE, yF, yG, zb, yK, xr, xv, z9, xt, xu, xq, yI, yH, z0, zw, zZ, z8, xw, zz, zx, xE, z4, ya, z3, z6, z1, yb, z7, zj, z5, zy, zi, zA, z2, yL, yJ, zk, m0, hh]) <;> rfl
    apply out_next
    · (simp (disch := first | assumption | decide | omega) only [zB, yc, zC, yM, yd, zl, yN, ye, yf, zD, zE, zm, zn, zF, yg, zo, zG, yh, zH, yi, zI, yj, zc, zJ, zK, yk, yl, zd, ym, yO, xx, yn, yo, zL, yp, zM, zp, zq, ze, zN, yq, zO, yr, zr, zf, zP, yt, zg, yu, zQ, zh, zt, yP, xy, yQ, yR, zu, yS, decide_eq_true_eq, beq_iff_eq, zR, zS, za, String.reduceEq, ↓reduceIte, yv, Glob.val?, xz, yT, yU, yV, yW, yX, yY, xA, xB, xC, xD, yZ, y0, y5, y6, y7, y8, yw, yx, yy, y9, xc, xd, zT, zU, xe, zV, zW, xf, xg, xh, xF, xG, xH, xI, xJ, xK, xL, xM, xi, xj, xk, xl, xm, xn, xo, xp, Glob.isB, and_self, and_true, true_and, zX, yz, yA, zY, Option.map_some, List.length_cons, List.length_nil, Nat.reduceAdd, Nat.zero_add, yB, yC, yD, yE, yF, yG, zb, yK, xr, xv, z9, xt, xu, xq, yI, yH, z0, zw, zZ, z8, xw, zz, zx, xE, z4, ya, z3, z6, z1, yb, z7, zj, z5, zy, zi, zA, z2, yL, yJ, zk, m1, hw]) <;> rfl
    apply out_next
    · (simp (disch := first | assumption | decide | omega) only [zB, yc, zC, yM, yd, zl, yN, ye, yf, zD, zE, zm, zn, zF, yg, zo, zG, yh, zH, yi, zI, yj, zc, zJ, zK, yk, yl, zd, ym, yO, xx, yn, yo, zL, yp, zM, zp, zq, ze, zN, yq, zO, yr, zr, zf, zP, yt, zg, yu, zQ, zh, zt, yP, xy, yQ, yR, zu, yS, decide_eq_true_eq, beq_iff_eq, zR, zS, za, String.reduceEq, ↓reduceIte, yv, Glob.val?, xz, yT, yU, yV, yW, yX, yY, xA, xB, xC, xD, yZ, y0, y5, y6, y7, y8, yw, yx, yy, y9, xc, xd, zT, zU, xe, zV, zW, xf, xg, xh, xF, xG, xH, xI, xJ, xK, xL, xM, xi, xj, xk, xl, xm, xn, xo, xp, Glob.isB, and_self, and_true, true_and, zX, yz, yA, zY, Option.map_some, List.length_cons, List.length_nil, Nat.reduceAdd, Nat.zero_add, yB, yC, yD, yE, yF, yG, zb, yK, xr, xv, z9, xt, xu, xq, yI, yH, z0, zw, zZ, z8, xw, zz, zx, xE, z4, ya, z3, z6, z1, yb, z7, zj, z5, zy, zi, zA, z2, yL, yJ, zk, m2, hh]) <;> rfl
    apply out_next
    · (simp (disch := first | assumption | decide | omega) only [zB, yc, zC, yM, yd, zl, yN, ye, yf, zD, zE, zm, zn, zF, yg, zo, zG, yh, zH, yi, zI, yj, zc, zJ, zK, yk, yl, zd, ym, yO, xx, yn, yo, zL, yp, zM, zp, zq, ze, zN, yq, zO, yr, zr, zf, zP, yt, zg, yu, zQ, zh, zt, yP, xy, yQ, yR, zu, yS, decide_eq_true_eq, beq_iff_eq, zR, zS, za, String.reduceEq, ↓reduceIte, yv, Glob.val?, xz, yT, yU, yV, yW, yX, yY, xA, xB, xC, xD, yZ, y0, y5, y6, y7, y8, yw, yx, yy, y9, xc, xd, zT, zU, xe, zV, zW, xf, xg, xh, xF, xG, xH, xI, xJ, xK, xL, xM, xi, xj, xk, xl, xm, xn, xo, xp, Glob.isB, and_self, and_true, true_and, zX, yz, yA, zY, Option.map_some, List.length_cons, List.length_nil, Nat.reduceAdd, Nat.zero_add, yB, yC, yD, yE, yF, yG, zb, yK, xr, xv, z9, xt, xu, xq, yI, yH, z0, zw, zZ, z8, xw, zz, zx, xE, z4, ya, z3, z6, z1, yb, z7, zj, z5, zy, zi, zA, z2, yL, yJ, zk, m3, hw]) <;> rfl
    apply out_next
    · (simp (disch := first | assumption | decide | omega) only [zB, yc, zC, yM, yd, zl, yN, ye, yf, zD, zE, zm, zn, zF, yg, zo, zG, yh, zH, yi, zI, yj, zc, zJ, zK, yk, yl, zd, ym, yO, xx, yn, yo, zL, yp, zM, zp, zq, ze, zN, yq, zO, yr, zr, zf, zP, yt, zg, yu, zQ, zh, zt, yP, xy, yQ, yR, zu, yS, decide_eq_true_eq, beq_iff_eq, zR, zS, za, String.reduceEq, ↓reduceIte, yv, Glob.val?, xz, yT, yU, yV, yW, yX, yY, xA, xB, xC, xD, yZ, y0, y5, y6, y7, y8, yw, yx, yy, y9, xc, xd, zT, zU, xe, zV, zW, xf, xg, xh, xF, xG, xH, xI, xJ, xK, xL, xM, xi, xj, xk, xl, xm, xn, xo, xp, Glob.isB, and_self, and_true, true_and, zX, yz, yA, zY, Option.map_some, List.length_cons, List.length_nil, Nat.reduceAdd, Nat.zero_add, yB, yC, yD, yE, yF, yG, zb, yK, xr, xv, z9, xt, xu, xq, yI, yH, z0, zw, zZ, z8, xw, zz, zx, xE, z4, ya, z3, z6, z1, yb, z7, zj, z5, zy, zi, zA, z2, yL, yJ, zk, hf]) <;> rfl
    refine out_nil ?_
    simp (disch := first | assumption | decide | omega) only [zB, yc, zC, yM, yd, zl, yN, ye, yf, zD, zE, zm, zn, zF, yg, zo, zG, yh, zH, yi, zI, yj, zc, zJ, zK, yk, yl, zd, ym, yO, xx, yn, yo, zL, yp, zM, zp, zq, ze, zN, yq, zO, yr, zr, zf, zP, yt, zg, yu, zQ, zh, zt, yP, xy, yQ, yR, zu, yS, decide_eq_true_eq, beq_iff_eq, zR, zS, za, String.reduceEq, ↓reduceIte, yv, Glob.val?, xz, yT, yU, yV, yW, yX, yY, xA, xB, xC, xD, yZ, y0, y5, y6, y7, y8, yw, yx, yy, y9, xc, xd, zT, zU, xe, zV, zW, xf, xg, xh, xF, xG, xH, xI, xJ, xK, xL, xM, xi, xj, xk, xl, xm, xn, xo, xp, Glob.isB, and_self, and_true, true_and, zX, yz, yA, zY, Option.map_some, List.length_cons, List.length_nil, Nat.reduceAdd, Nat.zero_add, yB, yC, yD, yE, yF, yG, zb, yK, xr, xv, z9, xt, xu, xq, yI, yH, z0, zw, zZ, z8, xw, zz, zx, xE, z4, ya, z3, z6, z1, yb, z7, zj, z5, zy, zi, zA, z2, yL, yJ, zk, hf, hh, hw]
    rw [set_append_new]
    exact ⟨by omega, bs ++ [((mixed c 0).fmod (if high > 1 then high else 1), (mixed c 1).fmod (if wide > 1 then wide else 1), (mixed c 0).fmod (if high > 1 then high else 1) + (1 + (mixed c 2).fmod (if high.fdiv 2 > 4 then high.fdiv 2 else 4)), (mixed c 1).fmod (if wide > 1 then wide else 1) + (1 + (mixed c 3).fmod (if wide.fdiv 2 > 4 then wide.fdiv 2 else 4)))], by simp [hbs], by simp [tup4]⟩
  · rintro ρ τ ⟨hi, hf, hh, hw, bs, hbs, rfl⟩
    apply out_ret
    · (simp (disch := first | assumption | decide | omega) only [zB, yc, zC, yM, yd, zl, yN, ye, yf, zD, zE, zm, zn, zF, yg, zo, zG, yh, zH, yi, zI, yj, zc, zJ, zK, yk, yl, zd, ym, yO, xx, yn, yo, zL, yp, zM, zp, zq, ze, zN, yq, zO, yr, zr, zf, zP, yt, zg, yu, zQ, zh, zt, yP, xy, yQ, yR, zu, yS, decide_eq_true_eq, beq_iff_eq, zR, zS, za, String.reduceEq, ↓reduceIte, yv, Glob.val?, xz, yT, yU, yV, yW, yX, yY, xA, xB, xC, xD, yZ, y0, y5, y6, y7, y8, yw, yx, yy, y9, xc, xd, zT, zU, xe, zV, zW, xf, xg, xh, xF, xG, xH, xI, xJ, xK, xL, xM, xi, xj, xk, xl, xm, xn, xo, xp, Glob.isB, and_self, and_true, true_and, zX, yz, yA, zY, Option.map_some, List.length_cons, List.length_nil, Nat.reduceAdd, Nat.zero_add, yB, yC, yD, yE, yF, yG, zb, yK, xr, xv, z9, xt, xu, xq, yI, yH, z0, zw, zZ, z8, xw, zz, zx, xE, z4, ya, z3, z6, z1, yb, z7, zj, z5, zy, zi, zA, z2, yL, yJ, zk, hf]) <;> rfl
    · exact ⟨rfl, bs, rfl⟩
end
end
end Mine

set_option maxRecDepth 100000
namespace Mine
open PySem PySem.Spec PyProof.Rows PySem.Challenge

theorem fdiv_bounds {h : Int} (h1 : 1 ≤ h) (h2 : h ≤ 256) : 1 ≤ (256 : Int).fdiv h ∧ (256 : Int).fdiv h ≤ 256 ∧ (9 ≤ h → (256 : Int).fdiv h ≤ 30) := by
  rw [Int.fdiv_eq_ediv_of_nonneg _ (by omega)]
  refine ⟨Int.le_ediv_of_mul_le (by omega) (by omega), Int.ediv_le_self _ (by omega), fun h9 => ?_⟩
  have := Int.ediv_lt_of_lt_mul (a := 256) (b := 31) (c := h) (by omega) (by omega)
  omega

section
variable {Φ : Fns} {σ : Store}
theorem is_in_run {bs : List (Int × Int × Int × Int)} {i : Nat} {r c : Int} (hσ : σ[i]? = some (.list (bs.map tup4))) : ∃ b, interpF Φ Gl (dOf pw "_law_is_in") [.loc i, .int r, .int c] σ = some (.bool b, σ) := by
  have hs := sz
  suffices h : Out (execSs Φ Gl (dOf pw "_law_is_in").body (bindP ((dOf pw "_law_is_in").params.args.map (·.arg)) [.loc i, .int r, .int c]) σ) No (fun u τ => (∃ b, u = .bool b) ∧ τ = σ) by
    obtain ⟨v, τ, e, ⟨b, rfl⟩, rfl⟩ := out_run (by kernel_rfl) h
    exact ⟨b, e⟩
  change Out (execSs Φ Gl (_ :: _ :: _) (bindP [_, _, _] _) σ) _ _
  rw [bindP3]
  refine out_cons (out_mono (out_forLoc (R := fun u τ => (∃ b, u = .bool b) ∧ τ = σ) (for_loc (l := i) (ds := bs.map tup4) (σ₁ := σ) rfl ?_ hσ)
    (fun k ρ τ => τ = σ ∧ ρ (Str.ofString "_law_row") = some (.int r) ∧ ρ (Str.ofString "_law_column") = some (.int c)) (fun k ρ τ h => h.1 ▸ hσ) ?_ ?_) ?_ fun _ _ h => h)
  · simp (disch := first | assumption | decide | omega) only [zB, yc, zC, yM, yd, zl, yN, ye, yf, zD, zE, zm, zn, zF, yg, zo, zG, yh, zH, yi, zI, yj, zc, zJ, zK, yk, yl, zd, ym, yO, xx, yn, yo, zL, yp, zM, zp, zq, ze, zN, yq, zO, yr, zr, zf, zP, yt, zg, yu, zQ, zh, zt, yP, xy, yQ, yR, zu, yS, decide_eq_true_eq, beq_iff_eq, zR, zS, za, String.reduceEq, ↓reduceIte, yv, Glob.val?, xz, yT, yU, yV, yW, yX, yY, xA, xB, xC, xD, yZ, y0, y5, y6, y7, y8, yw, yx, yy, y9, xc, xd, zT, zU, xe, zV, zW, xf, xg, xh, xF, xG, xH, xI, xJ, xK, xL, xM, xi, xj, xk, xl, xm, xn, xo, xp, Glob.isB, and_self, and_true, true_and, zX, yz, yA, zY, Option.map_some, List.length_cons, List.length_nil, Nat.reduceAdd, Nat.zero_add, yB, yC, yD, yE, yF, yG, zb, yK, xr, xv, z9, xt, xu, xq, yI, yH, z0, zw, zZ, z8, xw, zz, zx, xE, z4, ya, z3, z6, z1, yb, z7, zj, z5, zy, zi, zA, z2, yL, yJ, zk]
  · simp (disch := first | assumption | decide | omega) only [zB, yc, zC, yM, yd, zl, yN, ye, yf, zD, zE, zm, zn, zF, yg, zo, zG, yh, zH, yi, zI, yj, zc, zJ, zK, yk, yl, zd, ym, yO, xx, yn, yo, zL, yp, zM, zp, zq, ze, zN, yq, zO, yr, zr, zf, zP, yt, zg, yu, zQ, zh, zt, yP, xy, yQ, yR, zu, yS, decide_eq_true_eq, beq_iff_eq, zR, zS, za, String.reduceEq, ↓reduceIte, yv, Glob.val?, xz, yT, yU, yV, yW, yX, yY, xA, xB, xC, xD, yZ, y0, y5, y6, y7, y8, yw, yx, yy, y9, xc, xd, zT, zU, xe, zV, zW, xf, xg, xh, xF, xG, xH, xI, xJ, xK, xL, xM, xi, xj, xk, xl, xm, xn, xo, xp, Glob.isB, and_self, and_true, true_and, zX, yz, yA, zY, Option.map_some, List.length_cons, List.length_nil, Nat.reduceAdd, Nat.zero_add, yB, yC, yD, yE, yF, yG, zb, yK, xr, xv, z9, xt, xu, xq, yI, yH, z0, zw, zZ, z8, xw, zz, zx, xE, z4, ya, z3, z6, z1, yb, z7, zj, z5, zy, zi, zA, z2, yL, yJ, zk]
  · rintro k d ρ τ hd ⟨rfl, hr, hc⟩
    obtain ⟨⟨b1, b2, b3, b4⟩, _, rfl⟩ := List.mem_map.mp (List.mem_of_getElem? hd)
    refine ⟨_, rfl, ?_⟩
    refine out_cons (out_if (c := if b1 ≤ r then if r < b3 then if b2 ≤ c then if c < b4 then true else false else false else false else false) (σ₁ := τ) ?_ (fun _ => ?_) fun _ => ?_)
    · simp (disch := first | assumption | decide | omega) only [zB, yc, zC, yM, yd, zl, yN, ye, yf, zD, zE, zm, zn, zF, yg, zo, zG, yh, zH, yi, zI, yj, zc, zJ, zK, yk, yl, zd, ym, yO, xx, yn, yo, zL, yp, zM, zp, zq, ze, zN, yq, zO, yr, zr, zf, zP, yt, zg, yu, zQ, zh, zt, yP, xy, yQ, yR, zu, yS, decide_eq_true_eq, beq_iff_eq, zR, zS, za, String.reduceEq, ↓reduceIte, yv, Glob.val?, xz, yT, yU, yV, yW, yX, yY, xA, xB, xC, xD, yZ, y0, y5, y6, y7, y8, yw, yx, yy, y9, xc, xd, zT, zU, xe, zV, zW, xf, xg, xh, xF, xG, xH, xI, xJ, xK, xL, xM, xi, xj, xk, xl, xm, xn, xo, xp, Glob.isB, and_self, and_true, true_and, zX, yz, yA, zY, Option.map_some, List.length_cons, List.length_nil, Nat.reduceAdd, Nat.zero_add, yB, yC, yD, yE, yF, yG, zb, yK, xr, xv, z9, xt, xu, xq, yI, yH, z0, zw, zZ, z8, xw, zz, zx, xE, z4, ya, z3, z6, z1, yb, z7, zj, z5, zy, zi, zA, z2, yL, yJ, zk, hr, hc, tup4]
    · apply out_ret
      · (simp (disch := first | assumption | decide | omega) only [zB, yc, zC, yM, yd, zl, yN, ye, yf, zD, zE, zm, zn, zF, yg, zo, zG, yh, zH, yi, zI, yj, zc, zJ, zK, yk, yl, zd, ym, yO, xx, yn, yo, zL, yp, zM, zp, zq, ze, zN, yq, zO, yr, zr, zf, zP, yt, zg, yu, zQ, zh, zt, yP, xy, yQ, yR, zu, yS, decide_eq_true_eq, beq_iff_eq, zR, zS, za, String.reduceEq, ↓reduceIte, yv, Glob.val?, xz, yT, yU, yV, yW, yX, yY, xA, xB, xC, xD, yZ, y0, y5, y6, y7, y8, yw, yx, yy, y9, xc, xd, zT, zU, xe, zV, zW, xf, xg, xh, xF, xG, xH, xI, xJ, xK, xL, xM, xi, xj, xk, xl, xm, xn, xo, xp, Glob.isB, and_self, and_true, true_and, zX, yz, yA, zY, Option.map_some, List.length_cons, List.length_nil, Nat.reduceAdd, Nat.zero_add, yB, yC, yD, yE, yF, yG, zb, yK, xr, xv, z9, xt, xu, xq, yI, yH, z0, zw, zZ, z8, xw, zz, zx, xE, z4, ya, z3, z6, z1, yb, z7, zj, z5, zy, zi, zA, z2, yL, yJ, zk]) <;> rfl
      · exact ⟨⟨true, rfl⟩, rfl⟩
    · refine out_nil (out_nil ?_)
      simp (disch := first | assumption | decide | omega) only [zB, yc, zC, yM, yd, zl, yN, ye, yf, zD, zE, zm, zn, zF, yg, zo, zG, yh, zH, yi, zI, yj, zc, zJ, zK, yk, yl, zd, ym, yO, xx, yn, yo, zL, yp, zM, zp, zq, ze, zN, yq, zO, yr, zr, zf, zP, yt, zg, yu, zQ, zh, zt, yP, xy, yQ, yR, zu, yS, decide_eq_true_eq, beq_iff_eq, zR, zS, za, String.reduceEq, ↓reduceIte, yv, Glob.val?, xz, yT, yU, yV, yW, yX, yY, xA, xB, xC, xD, yZ, y0, y5, y6, y7, y8, yw, yx, yy, y9, xc, xd, zT, zU, xe, zV, zW, xf, xg, xh, xF, xG, xH, xI, xJ, xK, xL, xM, xi, xj, xk, xl, xm, xn, xo, xp, Glob.isB, and_self, and_true, true_and, zX, yz, yA, zY, Option.map_some, List.length_cons, List.length_nil, Nat.reduceAdd, Nat.zero_add, yB, yC, yD, yE, yF, yG, zb, yK, xr, xv, z9, xt, xu, xq, yI, yH, z0, zw, zZ, z8, xw, zz, zx, xE, z4, ya, z3, z6, z1, yb, z7, zj, z5, zy, zi, zA, z2, yL, yJ, zk, hr, hc]
  · rintro ρ τ ⟨rfl, hr, hc⟩
    apply out_ret
    · (simp (disch := first | assumption | decide | omega) only [zB, yc, zC, yM, yd, zl, yN, ye, yf, zD, zE, zm, zn, zF, yg, zo, zG, yh, zH, yi, zI, yj, zc, zJ, zK, yk, yl, zd, ym, yO, xx, yn, yo, zL, yp, zM, zp, zq, ze, zN, yq, zO, yr, zr, zf, zP, yt, zg, yu, zQ, zh, zt, yP, xy, yQ, yR, zu, yS, decide_eq_true_eq, beq_iff_eq, zR, zS, za, String.reduceEq, ↓reduceIte, yv, Glob.val?, xz, yT, yU, yV, yW, yX, yY, xA, xB, xC, xD, yZ, y0, y5, y6, y7, y8, yw, yx, yy, y9, xc, xd, zT, zU, xe, zV, zW, xf, xg, xh, xF, xG, xH, xI, xJ, xK, xL, xM, xi, xj, xk, xl, xm, xn, xo, xp, Glob.isB, and_self, and_true, true_and, zX, yz, yA, zY, Option.map_some, List.length_cons, List.length_nil, Nat.reduceAdd, Nat.zero_add, yB, yC, yD, yE, yF, yG, zb, yK, xr, xv, z9, xt, xu, xq, yI, yH, z0, zw, zZ, z8, xw, zz, zx, xE, z4, ya, z3, z6, z1, yb, z7, zj, z5, zy, zi, zA, z2, yL, yJ, zk]) <;> rfl
    · exact ⟨⟨false, rfl⟩, rfl⟩

section
variable (hcell : ∀ (ns : List Int) (k : Int) (σ : Store), 0 ≤ k → ns.length ≤ 63 → Φ (Str.ofString "_law_cell_at") [.lst (ns.map .int), .int k] σ = some (.int (cellAt ns k), σ))
variable (hmix : ∀ (c k : Int) (σ : Store), 0 ≤ k → k < 4 → Φ (Str.ofString "_law_mixed") [.int c, .int k] σ = some (.int (mixed c k), σ))
include hcell hmix
theorem drawn_run {ns : List Int} {r c : Int} (hl : ns.length ≤ 63) (hr : 0 ≤ r) : ∃ b, interpF Φ Gl (dOf pw "_law_drawn") [.lst (ns.map .int), .int r, .int c] σ = some (.bool b, σ) := by
  have hs := sz
  refine ⟨decide ((mixed (cellAt ns (2 + r) + 7919 * c + 131 * r) (c.fmod 4)).fmod 8 < 3 + (mixed (cellAt ns 1) 1).fmod 5), run_eq (by kernel_rfl) ?_⟩
  change Out (execSs Φ Gl (_ :: _ :: _) (bindP [_, _, _] _) σ) _ _
  rw [bindP3]
  have e1 := fun τ => hcell ns (2 + r) τ (by omega) hl
  have e2 := fun τ => hcell ns 1 τ (by omega) hl
  have f0 : 0 ≤ c.fmod 4 := Int.fmod_nonneg_of_pos _ (by decide)
  have f1 : c.fmod 4 < 4 := Int.fmod_lt_of_pos _ (by decide)
  have m1 := fun x τ => hmix x (c.fmod 4) τ f0 f1
  have m2 := fun x τ => hmix x 1 τ (by decide) (by decide)
  apply out_next
  · (simp (disch := first | assumption | decide | omega) only [zB, yc, zC, yM, yd, zl, yN, ye, yf, zD, zE, zm, zn, zF, yg, zo, zG, yh, zH, yi, zI, yj, zc, zJ, zK, yk, yl, zd, ym, yO, xx, yn, yo, zL, yp, zM, zp, zq, ze, zN, yq, zO, yr, zr, zf, zP, yt, zg, yu, zQ, zh, zt, yP, xy, yQ, yR, zu, yS, decide_eq_true_eq, beq_iff_eq, zR, zS, za, String.reduceEq, ↓reduceIte, yv, Glob.val?, xz, yT, yU, yV, yW, yX, yY, xA, xB, xC, xD, yZ, y0, y5, y6, y7, y8, yw, yx, yy, y9, xc, xd, zT, zU, xe, zV, zW, xf, xg, xh, xF, xG, xH, xI, xJ, xK, xL, xM, xi, xj, xk, xl, xm, xn, xo, xp, Glob.isB, and_self, and_true, true_and, zX, yz, yA, zY, Option.map_some, List.length_cons, List.length_nil, Nat.reduceAdd, Nat.zero_add, yB, yC, yD, yE, yF, yG, zb, yK, xr, xv, z9, xt, xu, xq, yI, yH, z0, zw, zZ, z8, xw, zz, zx, xE, z4, ya, z3, z6, z1, yb, z7, zj, z5, zy, zi, zA, z2, yL, yJ, zk, e1]) <;> rfl
  apply out_ret
  · (simp (disch := first | assumption | decide | omega) only [zB, yc, zC, yM, yd, zl, yN, ye, yf, zD, zE, zm, zn, zF, yg, zo, zG, yh, zH, yi, zI, yj, zc, zJ, zK, yk, yl, zd, ym, yO, xx, yn, yo, zL, yp, zM, zp, zq, ze, zN, yq, zO, yr, zr, zf, zP, yt, zg, yu, zQ, zh, zt, yP, xy, yQ, yR, zu, yS, decide_eq_true_eq, beq_iff_eq, zR, zS, za, String.reduceEq, ↓reduceIte, yv, Glob.val?, xz, yT, yU, yV, yW, yX, yY, xA, xB, xC, xD, yZ, y0, y5, y6, y7, y8, yw, yx, yy, y9, xc, xd, zT, zU, xe, zV, zW, xf, xg, xh, xF, xG, xH, xI, xJ, xK, xL, xM, xi, xj, xk, xl, xm, xn, xo, xp, Glob.isB, and_self, and_true, true_and, zX, yz, yA, zY, Option.map_some, List.length_cons, List.length_nil, Nat.reduceAdd, Nat.zero_add, yB, yC, yD, yE, yF, yG, zb, yK, xr, xv, z9, xt, xu, xq, yI, yH, z0, zw, zZ, z8, xw, zz, zx, xE, z4, ya, z3, z6, z1, yb, z7, zj, z5, zy, zi, zA, z2, yL, yJ, zk, e2, m1, m2]) <;> rfl
  · exact ⟨rfl, rfl⟩

theorem sizes_run {ns : List Int} (hl : ns.length ≤ 63) : ∃ h w : Int, 0 ≤ h ∧ h ≤ 30 ∧ 0 ≤ w ∧ w ≤ 30 ∧ interpF Φ Gl (dOf pw "_law_sizes") [.lst (ns.map .int), .int 30] σ = some (.tup [.int h, .int w], σ) := by
  have hs := sz
  suffices hh : Out (execSs Φ Gl (dOf pw "_law_sizes").body (bindP ((dOf pw "_law_sizes").params.args.map (·.arg)) [.lst (ns.map .int), .int 30]) σ) No (fun u τ => (∃ h w : Int, 0 ≤ h ∧ h ≤ 30 ∧ 0 ≤ w ∧ w ≤ 30 ∧ u = .tup [.int h, .int w]) ∧ τ = σ) by
    obtain ⟨v, τ, e, ⟨h, w, h1, h2, h3, h4, rfl⟩, rfl⟩ := out_run (by kernel_rfl) hh
    exact ⟨h, w, h1, h2, h3, h4, e⟩
  change Out (execSs Φ Gl (_ :: _ :: _) (bindP [_, _] _) σ) _ _
  rw [bindP2]
  have e1 := fun τ => hcell ns 0 τ (by omega) hl
  have m0 := fun x τ => hmix x 0 τ (by decide) (by decide)
  have m1 := fun x τ => hmix x 1 τ (by decide) (by decide)
  have m2 := fun x τ => hmix x 2 τ (by decide) (by decide)
  have m3 := fun x τ => hmix x 3 τ (by decide) (by decide)
  generalize hx : cellAt ns 0 = x at e1
  apply out_next
  · (simp (disch := first | assumption | decide | omega) only [zB, yc, zC, yM, yd, zl, yN, ye, yf, zD, zE, zm, zn, zF, yg, zo, zG, yh, zH, yi, zI, yj, zc, zJ, zK, yk, yl, zd, ym, yO, xx, yn, yo, zL, yp, zM, zp, zq, ze, zN, yq, zO, yr, zr, zf, zP, yt, zg, yu, zQ, zh, zt, yP, xy, yQ, yR, zu, yS, decide_eq_true_eq, beq_iff_eq, zR, zS, za, String.reduceEq, ↓reduceIte, yv, Glob.val?, xz, yT, yU, yV, yW, yX, yY, xA, xB, xC, xD, yZ, y0, y5, y6, y7, y8, yw, yx, yy, y9, xc, xd, zT, zU, xe, zV, zW, xf, xg, xh, xF, xG, xH, xI, xJ, xK, xL, xM, xi, xj, xk, xl, xm, xn, xo, xp, Glob.isB, and_self, and_true, true_and, zX, yz, yA, zY, Option.map_some, List.length_cons, List.length_nil, Nat.reduceAdd, Nat.zero_add, yB, yC, yD, yE, yF, yG, zb, yK, xr, xv, z9, xt, xu, xq, yI, yH, z0, zw, zZ, z8, xw, zz, zx, xE, z4, ya, z3, z6, z1, yb, z7, zj, z5, zy, zi, zA, z2, yL, yJ, zk, e1]) <;> rfl
  refine out_cons (out_if (c := if (mixed x 2).fmod 8 = 1 then true else false) (σ₁ := σ) ?_ (fun _ => ?_) fun _ => ?_)
  · (simp (disch := first | assumption | decide | omega) only [zB, yc, zC, yM, yd, zl, yN, ye, yf, zD, zE, zm, zn, zF, yg, zo, zG, yh, zH, yi, zI, yj, zc, zJ, zK, yk, yl, zd, ym, yO, xx, yn, yo, zL, yp, zM, zp, zq, ze, zN, yq, zO, yr, zr, zf, zP, yt, zg, yu, zQ, zh, zt, yP, xy, yQ, yR, zu, yS, decide_eq_true_eq, beq_iff_eq, zR, zS, za, String.reduceEq, ↓reduceIte, yv, Glob.val?, xz, yT, yU, yV, yW, yX, yY, xA, xB, xC, xD, yZ, y0, y5, y6, y7, y8, yw, yx, yy, y9, xc, xd, zT, zU, xe, zV, zW, xf, xg, xh, xF, xG, xH, xI, xJ, xK, xL, xM, xi, xj, xk, xl, xm, xn, xo, xp, Glob.isB, and_self, and_true, true_and, zX, yz, yA, zY, Option.map_some, List.length_cons, List.length_nil, Nat.reduceAdd, Nat.zero_add, yB, yC, yD, yE, yF, yG, zb, yK, xr, xv, z9, xt, xu, xq, yI, yH, z0, zw, zZ, z8, xw, zz, zx, xE, z4, ya, z3, z6, z1, yb, z7, zj, z5, zy, zi, zA, z2, yL, yJ, zk, m2]) <;> rfl
  · apply out_next
    · (simp (disch := first | assumption | decide | omega) only [zB, yc, zC, yM, yd, zl, yN, ye, yf, zD, zE, zm, zn, zF, yg, zo, zG, yh, zH, yi, zI, yj, zc, zJ, zK, yk, yl, zd, ym, yO, xx, yn, yo, zL, yp, zM, zp, zq, ze, zN, yq, zO, yr, zr, zf, zP, yt, zg, yu, zQ, zh, zt, yP, xy, yQ, yR, zu, yS, decide_eq_true_eq, beq_iff_eq, zR, zS, za, String.reduceEq, ↓reduceIte, yv, Glob.val?, xz, yT, yU, yV, yW, yX, yY, xA, xB, xC, xD, yZ, y0, y5, y6, y7, y8, yw, yx, yy, y9, xc, xd, zT, zU, xe, zV, zW, xf, xg, xh, xF, xG, xH, xI, xJ, xK, xL, xM, xi, xj, xk, xl, xm, xn, xo, xp, Glob.isB, and_self, and_true, true_and, zX, yz, yA, zY, Option.map_some, List.length_cons, List.length_nil, Nat.reduceAdd, Nat.zero_add, yB, yC, yD, yE, yF, yG, zb, yK, xr, xv, z9, xt, xu, xq, yI, yH, z0, zw, zZ, z8, xw, zz, zx, xE, z4, ya, z3, z6, z1, yb, z7, zj, z5, zy, zi, zA, z2, yL, yJ, zk, m3]) <;> rfl
    apply out_next
    · (simp (disch := first | assumption | decide | omega) only [zB, yc, zC, yM, yd, zl, yN, ye, yf, zD, zE, zm, zn, zF, yg, zo, zG, yh, zH, yi, zI, yj, zc, zJ, zK, yk, yl, zd, ym, yO, xx, yn, yo, zL, yp, zM, zp, zq, ze, zN, yq, zO, yr, zr, zf, zP, yt, zg, yu, zQ, zh, zt, yP, xy, yQ, yR, zu, yS, decide_eq_true_eq, beq_iff_eq, zR, zS, za, String.reduceEq, ↓reduceIte, yv, Glob.val?, xz, yT, yU, yV, yW, yX, yY, xA, xB, xC, xD, yZ, y0, y5, y6, y7, y8, yw, yx, yy, y9, xc, xd, zT, zU, xe, zV, zW, xf, xg, xh, xF, xG, xH, xI, xJ, xK, xL, xM, xi, xj, xk, xl, xm, xn, xo, xp, Glob.isB, and_self, and_true, true_and, zX, yz, yA, zY, Option.map_some, List.length_cons, List.length_nil, Nat.reduceAdd, Nat.zero_add, yB, yC, yD, yE, yF, yG, zb, yK, xr, xv, z9, xt, xu, xq, yI, yH, z0, zw, zZ, z8, xw, zz, zx, xE, z4, ya, z3, z6, z1, yb, z7, zj, z5, zy, zi, zA, z2, yL, yJ, zk, m1]) <;> rfl
    have a0 : 0 ≤ (mixed x 3).fmod 30 := Int.fmod_nonneg_of_pos _ (by decide)
    have a1 : (mixed x 3).fmod 30 < 30 := Int.fmod_lt_of_pos _ (by decide)
    have b0 : 0 ≤ (mixed x 1).fmod 30 := Int.fmod_nonneg_of_pos _ (by decide)
    have b1 : (mixed x 1).fmod 30 < 30 := Int.fmod_lt_of_pos _ (by decide)
    generalize hH : 1 + (mixed x 3).fmod 30 = H
    generalize hW : 1 + (mixed x 1).fmod 30 = W
    have hm : H.natAbs < 2 ^ 62 ∨ W.natAbs < 2 ^ 62 := .inl (by omega)
    refine out_cons (out_mono (K := fun ρ τ => τ = σ ∧ ∃ W' : Int, 1 ≤ W' ∧ W' ≤ 30 ∧ ρ (Str.ofString "_law_high") = some (.int H) ∧ ρ (Str.ofString "_law_wide") = some (.int W'))
      (out_if (c := if H * W > 256 then if x.fmod 2 = 1 then true else false else false) (σ₁ := σ) ?_ (fun hc => ?_) fun _ => ?_) ?_ fun _ _ h => h)
    · (simp (disch := first | assumption | decide | omega) only [zB, yc, zC, yM, yd, zl, yN, ye, yf, zD, zE, zm, zn, zF, yg, zo, zG, yh, zH, yi, zI, yj, zc, zJ, zK, yk, yl, zd, ym, yO, xx, yn, yo, zL, yp, zM, zp, zq, ze, zN, yq, zO, yr, zr, zf, zP, yt, zg, yu, zQ, zh, zt, yP, xy, yQ, yR, zu, yS, decide_eq_true_eq, beq_iff_eq, zR, zS, za, String.reduceEq, ↓reduceIte, yv, Glob.val?, xz, yT, yU, yV, yW, yX, yY, xA, xB, xC, xD, yZ, y0, y5, y6, y7, y8, yw, yx, yy, y9, xc, xd, zT, zU, xe, zV, zW, xf, xg, xh, xF, xG, xH, xI, xJ, xK, xL, xM, xi, xj, xk, xl, xm, xn, xo, xp, Glob.isB, and_self, and_true, true_and, zX, yz, yA, zY, Option.map_some, List.length_cons, List.length_nil, Nat.reduceAdd, Nat.zero_add, yB, yC, yD, yE, yF, yG, zb, yK, xr, xv, z9, xt, xu, xq, yI, yH, z0, zw, zZ, z8, xw, zz, zx, xE, z4, ya, z3, z6, z1, yb, z7, zj, z5, zy, zi, zA, z2, yL, yJ, zk]) <;> rfl
    · have hc1 : H * W > 256 := by
        by_cases q : H * W > 256
        · exact q
        · rw [if_neg q] at hc; cases hc
      have hp : H * W ≤ H * 30 := Int.mul_le_mul_of_nonneg_left (by omega) (by omega)
      have hd : H ≠ 0 ∧ H.natAbs < 1073741824 := ⟨by omega, by omega⟩
      obtain ⟨d1, _, d3⟩ := fdiv_bounds (h := H) (by omega) (by omega)
      apply out_next
      · (simp (disch := first | assumption | decide | omega) only [zB, yc, zC, yM, yd, zl, yN, ye, yf, zD, zE, zm, zn, zF, yg, zo, zG, yh, zH, yi, zI, yj, zc, zJ, zK, yk, yl, zd, ym, yO, xx, yn, yo, zL, yp, zM, zp, zq, ze, zN, yq, zO, yr, zr, zf, zP, yt, zg, yu, zQ, zh, zt, yP, xy, yQ, yR, zu, yS, decide_eq_true_eq, beq_iff_eq, zR, zS, za, String.reduceEq, ↓reduceIte, yv, Glob.val?, xz, yT, yU, yV, yW, yX, yY, xA, xB, xC, xD, yZ, y0, y5, y6, y7, y8, yw, yx, yy, y9, xc, xd, zT, zU, xe, zV, zW, xf, xg, xh, xF, xG, xH, xI, xJ, xK, xL, xM, xi, xj, xk, xl, xm, xn, xo, xp, Glob.isB, and_self, and_true, true_and, zX, yz, yA, zY, Option.map_some, List.length_cons, List.length_nil, Nat.reduceAdd, Nat.zero_add, yB, yC, yD, yE, yF, yG, zb, yK, xr, xv, z9, xt, xu, xq, yI, yH, z0, zw, zZ, z8, xw, zz, zx, xE, z4, ya, z3, z6, z1, yb, z7, zj, z5, zy, zi, zA, z2, yL, yJ, zk]) <;> rfl
      refine out_nil ⟨rfl, (256 : Int).fdiv H, d1, d3 (by omega), ?_, ?_⟩
      · simp (disch := first | assumption | decide | omega) only [zB, yc, zC, yM, yd, zl, yN, ye, yf, zD, zE, zm, zn, zF, yg, zo, zG, yh, zH, yi, zI, yj, zc, zJ, zK, yk, yl, zd, ym, yO, xx, yn, yo, zL, yp, zM, zp, zq, ze, zN, yq, zO, yr, zr, zf, zP, yt, zg, yu, zQ, zh, zt, yP, xy, yQ, yR, zu, yS, decide_eq_true_eq, beq_iff_eq, zR, zS, za, String.reduceEq, ↓reduceIte, yv, Glob.val?, xz, yT, yU, yV, yW, yX, yY, xA, xB, xC, xD, yZ, y0, y5, y6, y7, y8, yw, yx, yy, y9, xc, xd, zT, zU, xe, zV, zW, xf, xg, xh, xF, xG, xH, xI, xJ, xK, xL, xM, xi, xj, xk, xl, xm, xn, xo, xp, Glob.isB, and_self, and_true, true_and, zX, yz, yA, zY, Option.map_some, List.length_cons, List.length_nil, Nat.reduceAdd, Nat.zero_add, yB, yC, yD, yE, yF, yG, zb, yK, xr, xv, z9, xt, xu, xq, yI, yH, z0, zw, zZ, z8, xw, zz, zx, xE, z4, ya, z3, z6, z1, yb, z7, zj, z5, zy, zi, zA, z2, yL, yJ, zk]
      · simp (disch := first | assumption | decide | omega) only [zB, yc, zC, yM, yd, zl, yN, ye, yf, zD, zE, zm, zn, zF, yg, zo, zG, yh, zH, yi, zI, yj, zc, zJ, zK, yk, yl, zd, ym, yO, xx, yn, yo, zL, yp, zM, zp, zq, ze, zN, yq, zO, yr, zr, zf, zP, yt, zg, yu, zQ, zh, zt, yP, xy, yQ, yR, zu, yS, decide_eq_true_eq, beq_iff_eq, zR, zS, za, String.reduceEq, ↓reduceIte, yv, Glob.val?, xz, yT, yU, yV, yW, yX, yY, xA, xB, xC, xD, yZ, y0, y5, y6, y7, y8, yw, yx, yy, y9, xc, xd, zT, zU, xe, zV, zW, xf, xg, xh, xF, xG, xH, xI, xJ, xK, xL, xM, xi, xj, xk, xl, xm, xn, xo, xp, Glob.isB, and_self, and_true, true_and, zX, yz, yA, zY, Option.map_some, List.length_cons, List.length_nil, Nat.reduceAdd, Nat.zero_add, yB, yC, yD, yE, yF, yG, zb, yK, xr, xv, z9, xt, xu, xq, yI, yH, z0, zw, zZ, z8, xw, zz, zx, xE, z4, ya, z3, z6, z1, yb, z7, zj, z5, zy, zi, zA, z2, yL, yJ, zk]
    · refine out_nil ⟨rfl, W, by omega, by omega, ?_, ?_⟩
      · simp (disch := first | assumption | decide | omega) only [zB, yc, zC, yM, yd, zl, yN, ye, yf, zD, zE, zm, zn, zF, yg, zo, zG, yh, zH, yi, zI, yj, zc, zJ, zK, yk, yl, zd, ym, yO, xx, yn, yo, zL, yp, zM, zp, zq, ze, zN, yq, zO, yr, zr, zf, zP, yt, zg, yu, zQ, zh, zt, yP, xy, yQ, yR, zu, yS, decide_eq_true_eq, beq_iff_eq, zR, zS, za, String.reduceEq, ↓reduceIte, yv, Glob.val?, xz, yT, yU, yV, yW, yX, yY, xA, xB, xC, xD, yZ, y0, y5, y6, y7, y8, yw, yx, yy, y9, xc, xd, zT, zU, xe, zV, zW, xf, xg, xh, xF, xG, xH, xI, xJ, xK, xL, xM, xi, xj, xk, xl, xm, xn, xo, xp, Glob.isB, and_self, and_true, true_and, zX, yz, yA, zY, Option.map_some, List.length_cons, List.length_nil, Nat.reduceAdd, Nat.zero_add, yB, yC, yD, yE, yF, yG, zb, yK, xr, xv, z9, xt, xu, xq, yI, yH, z0, zw, zZ, z8, xw, zz, zx, xE, z4, ya, z3, z6, z1, yb, z7, zj, z5, zy, zi, zA, z2, yL, yJ, zk]
      · simp (disch := first | assumption | decide | omega) only [zB, yc, zC, yM, yd, zl, yN, ye, yf, zD, zE, zm, zn, zF, yg, zo, zG, yh, zH, yi, zI, yj, zc, zJ, zK, yk, yl, zd, ym, yO, xx, yn, yo, zL, yp, zM, zp, zq, ze, zN, yq, zO, yr, zr, zf, zP, yt, zg, yu, zQ, zh, zt, yP, xy, yQ, yR, zu, yS, decide_eq_true_eq, beq_iff_eq, zR, zS, za, String.reduceEq, ↓reduceIte, yv, Glob.val?, xz, yT, yU, yV, yW, yX, yY, xA, xB, xC, xD, yZ, y0, y5, y6, y7, y8, yw, yx, yy, y9, xc, xd, zT, zU, xe, zV, zW, xf, xg, xh, xF, xG, xH, xI, xJ, xK, xL, xM, xi, xj, xk, xl, xm, xn, xo, xp, Glob.isB, and_self, and_true, true_and, zX, yz, yA, zY, Option.map_some, List.length_cons, List.length_nil, Nat.reduceAdd, Nat.zero_add, yB, yC, yD, yE, yF, yG, zb, yK, xr, xv, z9, xt, xu, xq, yI, yH, z0, zw, zZ, z8, xw, zz, zx, xE, z4, ya, z3, z6, z1, yb, z7, zj, z5, zy, zi, zA, z2, yL, yJ, zk]
    · rintro ρ τ ⟨rfl, W', w1, w2, r1, r2⟩
      have hd : W' ≠ 0 ∧ W'.natAbs < 1073741824 := ⟨by omega, by omega⟩
      obtain ⟨d1, d2, _⟩ := fdiv_bounds w1 (by omega)
      apply out_ret
      · (simp (disch := first | assumption | decide | omega) only [zB, yc, zC, yM, yd, zl, yN, ye, yf, zD, zE, zm, zn, zF, yg, zo, zG, yh, zH, yi, zI, yj, zc, zJ, zK, yk, yl, zd, ym, yO, xx, yn, yo, zL, yp, zM, zp, zq, ze, zN, yq, zO, yr, zr, zf, zP, yt, zg, yu, zQ, zh, zt, yP, xy, yQ, yR, zu, yS, decide_eq_true_eq, beq_iff_eq, zR, zS, za, String.reduceEq, ↓reduceIte, yv, Glob.val?, xz, yT, yU, yV, yW, yX, yY, xA, xB, xC, xD, yZ, y0, y5, y6, y7, y8, yw, yx, yy, y9, xc, xd, zT, zU, xe, zV, zW, xf, xg, xh, xF, xG, xH, xI, xJ, xK, xL, xM, xi, xj, xk, xl, xm, xn, xo, xp, Glob.isB, and_self, and_true, true_and, zX, yz, yA, zY, Option.map_some, List.length_cons, List.length_nil, Nat.reduceAdd, Nat.zero_add, yB, yC, yD, yE, yF, yG, zb, yK, xr, xv, z9, xt, xu, xq, yI, yH, z0, zw, zZ, z8, xw, zz, zx, xE, z4, ya, z3, z6, z1, yb, z7, zj, z5, zy, zi, zA, z2, yL, yJ, zk, r1, r2]) <;> rfl
      · refine ⟨⟨_, W', ?_, ?_, by omega, w2, rfl⟩, rfl⟩ <;> (split <;> omega)
  · refine out_nil ?_
    apply out_ret
    · (simp (disch := first | assumption | decide | omega) only [zB, yc, zC, yM, yd, zl, yN, ye, yf, zD, zE, zm, zn, zF, yg, zo, zG, yh, zH, yi, zI, yj, zc, zJ, zK, yk, yl, zd, ym, yO, xx, yn, yo, zL, yp, zM, zp, zq, ze, zN, yq, zO, yr, zr, zf, zP, yt, zg, yu, zQ, zh, zt, yP, xy, yQ, yR, zu, yS, decide_eq_true_eq, beq_iff_eq, zR, zS, za, String.reduceEq, ↓reduceIte, yv, Glob.val?, xz, yT, yU, yV, yW, yX, yY, xA, xB, xC, xD, yZ, y0, y5, y6, y7, y8, yw, yx, yy, y9, xc, xd, zT, zU, xe, zV, zW, xf, xg, xh, xF, xG, xH, xI, xJ, xK, xL, xM, xi, xj, xk, xl, xm, xn, xo, xp, Glob.isB, and_self, and_true, true_and, zX, yz, yA, zY, Option.map_some, List.length_cons, List.length_nil, Nat.reduceAdd, Nat.zero_add, yB, yC, yD, yE, yF, yG, zb, yK, xr, xv, z9, xt, xu, xq, yI, yH, z0, zw, zZ, z8, xw, zz, zx, xE, z4, ya, z3, z6, z1, yb, z7, zj, z5, zy, zi, zA, z2, yL, yJ, zk, m0, m1]) <;> rfl
    · exact ⟨⟨_, _, Int.fmod_nonneg_of_pos _ (by decide), Int.le_of_lt (Int.lt_trans (Int.fmod_lt_of_pos _ (by decide)) (by decide)), Int.fmod_nonneg_of_pos _ (by decide), Int.le_of_lt (Int.lt_trans (Int.fmod_lt_of_pos _ (by decide)) (by decide)), rfl⟩, rfl⟩
end
end
end Mine

set_option maxRecDepth 100000
namespace Mine
open PySem PySem.Spec PyProof.Rows PySem.Challenge

/-- a row of w signs -/
noncomputable def Row (w : Nat) (r : Str) : Prop := r.length = w ∧ ∀ c ∈ r.cps.toList, c = 35 ∨ c = 46
noncomputable def Good (rows : List Str) : Prop := rows.length ≤ 30 ∧ ∃ w, w ≤ 30 ∧ ∀ r ∈ rows, Row w r

theorem row_snoc {j : Nat} {x : Str} (h : Row j x) (b : Bool) : Row (j + 1) (x ++ ⟨#[if b then 35 else 46]⟩) := by
  constructor
  · show (x.cps ++ #[if b then 35 else 46]).size = j + 1
    have := h.1
    simp only [Array.size_append, List.size_toArray, List.length_cons, List.length_nil]
    show x.cps.size + 1 = j + 1
    rw [show x.cps.size = j from this]
  · intro c hc
    have hc' : c ∈ (x.cps ++ #[if b then 35 else 46]).toList := hc
    rw [Array.toList_append, List.mem_append] at hc'
    rcases hc' with q | q
    · exact h.2 c q
    · simp at q
      cases b <;> simp_all

section
variable {Φ : Fns} {σ : Store}
variable (hcell : ∀ (ns : List Int) (k : Int) (σ : Store), 0 ≤ k → ns.length ≤ 63 → Φ (Str.ofString "_law_cell_at") [.lst (ns.map .int), .int k] σ = some (.int (cellAt ns k), σ))
variable (hmix : ∀ (c k : Int) (σ : Store), 0 ≤ k → k < 4 → Φ (Str.ofString "_law_mixed") [.int c, .int k] σ = some (.int (mixed c k), σ))
variable (hboxes : ∀ (ns : List Int) (high wide : Int) (σ : Store), ns.length ≤ 63 → ∃ bs : List (Int × Int × Int × Int), Φ (Str.ofString "_law_boxes") [.lst (ns.map .int), .int high, .int wide] σ = some (.loc σ.length, σ ++ [.list (bs.map tup4)]))
variable (hisin : ∀ (bs : List (Int × Int × Int × Int)) (i : Nat) (r c : Int) (σ : Store), σ[i]? = some (.list (bs.map tup4)) → ∃ b, Φ (Str.ofString "_law_is_in") [.loc i, .int r, .int c] σ = some (.bool b, σ))
variable (hdrawn : ∀ (ns : List Int) (r c : Int) (σ : Store), ns.length ≤ 63 → 0 ≤ r → ∃ b, Φ (Str.ofString "_law_drawn") [.lst (ns.map .int), .int r, .int c] σ = some (.bool b, σ))
variable (hsizes : ∀ (ns : List Int) (σ : Store), ns.length ≤ 63 → ∃ h w : Int, 0 ≤ h ∧ h ≤ 30 ∧ 0 ≤ w ∧ w ≤ 30 ∧ Φ (Str.ofString "_law_sizes") [.lst (ns.map .int), .int 30] σ = some (.tup [.int h, .int w], σ))
include hcell hmix hboxes hisin hdrawn hsizes
set_option maxHeartbeats 1000000 in
theorem floor_run {ns : List Int} (hl : ns.length ≤ 63) : ∃ (bs : List (Int × Int × Int × Int)) (rows : List Str), interpF Φ Gl (dOf pw "_law_floor") [.lst (ns.map .int), .int 30] σ = some (.loc (σ.length + 1), σ ++ [.list (bs.map tup4), .list (rows.map .str)]) ∧ Good rows := by
  have hs := sz
  suffices hh : Out (execSs Φ Gl (dOf pw "_law_floor").body (bindP ((dOf pw "_law_floor").params.args.map (·.arg)) [.lst (ns.map .int), .int 30]) σ) No (fun u τ => u = .loc (σ.length + 1) ∧ ∃ (bs : List (Int × Int × Int × Int)) (rows : List Str), τ = σ ++ [.list (bs.map tup4), .list (rows.map .str)] ∧ Good rows) by
    obtain ⟨v, τ, e, rfl, bs, rows, rfl, hg⟩ := out_run (by kernel_rfl) hh
    exact ⟨bs, rows, e, hg⟩
  change Out (execSs Φ Gl (_ :: _ :: _) (bindP [_, _] _) σ) _ _
  rw [bindP2]
  obtain ⟨h, w, h0, h30, w0, w30, e1⟩ := hsizes ns σ hl
  obtain ⟨bs, e2⟩ := hboxes ns h w σ hl
  have e3 := fun τ => hcell ns 1 τ (by omega) hl
  have m0 := fun x τ => hmix x 0 τ (by decide) (by decide)
  apply out_next
  · (simp (disch := first | assumption | decide | omega) only [zB, yc, zC, yM, yd, zl, yN, ye, yf, zD, zE, zm, zn, zF, yg, zo, zG, yh, zH, yi, zI, yj, zc, zJ, zK, yk, yl, zd, ym, yO, xx, yn, yo, zL, yp, zM, zp, zq, ze, zN, yq, zO, yr, zr, zf, zP, yt, zg, yu, zQ, zh, zt, yP, xy, yQ, yR, zu, yS, decide_eq_true_eq, beq_iff_eq, zR, zS, za, String.reduceEq, ↓reduceIte, yv, Glob.val?, xz, yT, yU, yV, yW, yX, yY, xA, xB, xC, xD, yZ, y0, y5, y6, y7, y8, yw, yx, yy, y9, xc, xd, zT, zU, xe, zV, zW, xf, xg, xh, xF, xG, xH, xI, xJ, xK, xL, xM, xi, xj, xk, xl, xm, xn, xo, xp, Glob.isB, and_self, and_true, true_and, zX, yz, yA, zY, Option.map_some, List.length_cons, List.length_nil, Nat.reduceAdd, Nat.zero_add, yB, yC, yD, yE, yF, yG, zb, yK, xr, xv, z9, xt, xu, xq, yI, yH, z0, zw, zZ, z8, xw, zz, zx, xE, z4, ya, z3, z6, z1, yb, z7, zj, z5, zy, zi, zA, z2, yL, yJ, zk, e1]) <;> rfl
  apply out_next
  · (simp (disch := first | assumption | decide | omega) only [zB, yc, zC, yM, yd, zl, yN, ye, yf, zD, zE, zm, zn, zF, yg, zo, zG, yh, zH, yi, zI, yj, zc, zJ, zK, yk, yl, zd, ym, yO, xx, yn, yo, zL, yp, zM, zp, zq, ze, zN, yq, zO, yr, zr, zf, zP, yt, zg, yu, zQ, zh, zt, yP, xy, yQ, yR, zu, yS, decide_eq_true_eq, beq_iff_eq, zR, zS, za, String.reduceEq, ↓reduceIte, yv, Glob.val?, xz, yT, yU, yV, yW, yX, yY, xA, xB, xC, xD, yZ, y0, y5, y6, y7, y8, yw, yx, yy, y9, xc, xd, zT, zU, xe, zV, zW, xf, xg, xh, xF, xG, xH, xI, xJ, xK, xL, xM, xi, xj, xk, xl, xm, xn, xo, xp, Glob.isB, and_self, and_true, true_and, zX, yz, yA, zY, Option.map_some, List.length_cons, List.length_nil, Nat.reduceAdd, Nat.zero_add, yB, yC, yD, yE, yF, yG, zb, yK, xr, xv, z9, xt, xu, xq, yI, yH, z0, zw, zZ, z8, xw, zz, zx, xE, z4, ya, z3, z6, z1, yb, z7, zj, z5, zy, zi, zA, z2, yL, yJ, zk, e3, m0]) <;> rfl
  apply out_next
  · (simp (disch := first | assumption | decide | omega) only [zB, yc, zC, yM, yd, zl, yN, ye, yf, zD, zE, zm, zn, zF, yg, zo, zG, yh, zH, yi, zI, yj, zc, zJ, zK, yk, yl, zd, ym, yO, xx, yn, yo, zL, yp, zM, zp, zq, ze, zN, yq, zO, yr, zr, zf, zP, yt, zg, yu, zQ, zh, zt, yP, xy, yQ, yR, zu, yS, decide_eq_true_eq, beq_iff_eq, zR, zS, za, String.reduceEq, ↓reduceIte, yv, Glob.val?, xz, yT, yU, yV, yW, yX, yY, xA, xB, xC, xD, yZ, y0, y5, y6, y7, y8, yw, yx, yy, y9, xc, xd, zT, zU, xe, zV, zW, xf, xg, xh, xF, xG, xH, xI, xJ, xK, xL, xM, xi, xj, xk, xl, xm, xn, xo, xp, Glob.isB, and_self, and_true, true_and, zX, yz, yA, zY, Option.map_some, List.length_cons, List.length_nil, Nat.reduceAdd, Nat.zero_add, yB, yC, yD, yE, yF, yG, zb, yK, xr, xv, z9, xt, xu, xq, yI, yH, z0, zw, zZ, z8, xw, zz, zx, xE, z4, ya, z3, z6, z1, yb, z7, zj, z5, zy, zi, zA, z2, yL, yJ, zk, e2]) <;> rfl
  apply out_next
  · (simp (disch := first | assumption | decide | omega) only [zB, yc, zC, yM, yd, zl, yN, ye, yf, zD, zE, zm, zn, zF, yg, zo, zG, yh, zH, yi, zI, yj, zc, zJ, zK, yk, yl, zd, ym, yO, xx, yn, yo, zL, yp, zM, zp, zq, ze, zN, yq, zO, yr, zr, zf, zP, yt, zg, yu, zQ, zh, zt, yP, xy, yQ, yR, zu, yS, decide_eq_true_eq, beq_iff_eq, zR, zS, za, String.reduceEq, ↓reduceIte, yv, Glob.val?, xz, yT, yU, yV, yW, yX, yY, xA, xB, xC, xD, yZ, y0, y5, y6, y7, y8, yw, yx, yy, y9, xc, xd, zT, zU, xe, zV, zW, xf, xg, xh, xF, xG, xH, xI, xJ, xK, xL, xM, xi, xj, xk, xl, xm, xn, xo, xp, Glob.isB, and_self, and_true, true_and, zX, yz, yA, zY, Option.map_some, List.length_cons, List.length_nil, Nat.reduceAdd, Nat.zero_add, yB, yC, yD, yE, yF, yG, zb, yK, xr, xv, z9, xt, xu, xq, yI, yH, z0, zw, zZ, z8, xw, zz, zx, xE, z4, ya, z3, z6, z1, yb, z7, zj, z5, zy, zi, zA, z2, yL, yJ, zk]) <;> rfl
  rw [show (σ ++ [PO.list (bs.map tup4)]).length = σ.length + 1 by simp, List.append_assoc]
  generalize hkd : (mixed (cellAt ns 1) 0).fmod 4 = kd
  have E0 : ∀ (P : Locals → Prop), True := fun _ => trivial
  let E : Locals → Prop := fun ρ => ρ (Str.ofString "_law_script") = some (.lst (ns.map .int)) ∧ ρ (Str.ofString "_law_wide") = some (.int w) ∧ ρ (Str.ofString "_law_kind") = some (.int kd) ∧ ρ (Str.ofString "_law_boxes_here") = some (.loc σ.length) ∧ ρ (Str.ofString "_law_rows") = some (.loc (σ.length + 1))
  refine out_cons (out_mono (out_for (R := fun u τ => u = .loc (σ.length + 1) ∧ ∃ (bs : List (Int × Int × Int × Int)) (rows : List Str), τ = σ ++ [.list (bs.map tup4), .list (rows.map .str)] ∧ Good rows)
    (for_rng (ds := rangeP 0 h 1) (vs := [.int h]) (σ₁ := σ ++ ([.list (bs.map tup4)] ++ [.list []])) (by (simp (disch := first | assumption | decide | omega) only [zB, yc, zC, yM, yd, zl, yN, ye, yf, zD, zE, zm, zn, zF, yg, zo, zG, yh, zH, yi, zI, yj, zc, zJ, zK, yk, yl, zd, ym, yO, xx, yn, yo, zL, yp, zM, zp, zq, ze, zN, yq, zO, yr, zr, zf, zP, yt, zg, yu, zQ, zh, zt, yP, xy, yQ, yR, zu, yS, decide_eq_true_eq, beq_iff_eq, zR, zS, za, String.reduceEq, ↓reduceIte, yv, Glob.val?, xz, yT, yU, yV, yW, yX, yY, xA, xB, xC, xD, yZ, y0, y5, y6, y7, y8, yw, yx, yy, y9, xc, xd, zT, zU, xe, zV, zW, xf, xg, xh, xF, xG, xH, xI, xJ, xK, xL, xM, xi, xj, xk, xl, xm, xn, xo, xp, Glob.isB, and_self, and_true, true_and, zX, yz, yA, zY, Option.map_some, List.length_cons, List.length_nil, Nat.reduceAdd, Nat.zero_add, yB, yC, yD, yE, yF, yG, zb, yK, xr, xv, z9, xt, xu, xq, yI, yH, z0, zw, zZ, z8, xw, zz, zx, xE, z4, ya, z3, z6, z1, yb, z7, zj, z5, zy, zi, zA, z2, yL, yJ, zk]) <;> rfl) ?_ (range1 (by omega) (by omega)))
    (fun i ρ τ => E ρ ∧ ∃ rows : List Str, rows.length = i ∧ (∀ r ∈ rows, Row w.toNat r) ∧ τ = σ ++ [.list (bs.map tup4), .list (rows.map .str)]) ?_ ?_) ?_ fun _ _ h => h)
  · (simp (disch := first | assumption | decide | omega) only [zB, yc, zC, yM, yd, zl, yN, ye, yf, zD, zE, zm, zn, zF, yg, zo, zG, yh, zH, yi, zI, yj, zc, zJ, zK, yk, yl, zd, ym, yO, xx, yn, yo, zL, yp, zM, zp, zq, ze, zN, yq, zO, yr, zr, zf, zP, yt, zg, yu, zQ, zh, zt, yP, xy, yQ, yR, zu, yS, decide_eq_true_eq, beq_iff_eq, zR, zS, za, String.reduceEq, ↓reduceIte, yv, Glob.val?, xz, yT, yU, yV, yW, yX, yY, xA, xB, xC, xD, yZ, y0, y5, y6, y7, y8, yw, yx, yy, y9, xc, xd, zT, zU, xe, zV, zW, xf, xg, xh, xF, xG, xH, xI, xJ, xK, xL, xM, xi, xj, xk, xl, xm, xn, xo, xp, Glob.isB, and_self, and_true, true_and, zX, yz, yA, zY, Option.map_some, List.length_cons, List.length_nil, Nat.reduceAdd, Nat.zero_add, yB, yC, yD, yE, yF, yG, zb, yK, xr, xv, z9, xt, xu, xq, yI, yH, z0, zw, zZ, z8, xw, zz, zx, xE, z4, ya, z3, z6, z1, yb, z7, zj, z5, zy, zi, zA, z2, yL, yJ, zk]) <;> rfl
  · refine ⟨?_, [], rfl, (fun _ h => by cases h), rfl⟩
    simp (disch := first | assumption | decide | omega) only [zB, yc, zC, yM, yd, zl, yN, ye, yf, zD, zE, zm, zn, zF, yg, zo, zG, yh, zH, yi, zI, yj, zc, zJ, zK, yk, yl, zd, ym, yO, xx, yn, yo, zL, yp, zM, zp, zq, ze, zN, yq, zO, yr, zr, zf, zP, yt, zg, yu, zQ, zh, zt, yP, xy, yQ, yR, zu, yS, decide_eq_true_eq, beq_iff_eq, zR, zS, za, String.reduceEq, ↓reduceIte, yv, Glob.val?, xz, yT, yU, yV, yW, yX, yY, xA, xB, xC, xD, yZ, y0, y5, y6, y7, y8, yw, yx, yy, y9, xc, xd, zT, zU, xe, zV, zW, xf, xg, xh, xF, xG, xH, xI, xJ, xK, xL, xM, xi, xj, xk, xl, xm, xn, xo, xp, Glob.isB, and_self, and_true, true_and, zX, yz, yA, zY, Option.map_some, List.length_cons, List.length_nil, Nat.reduceAdd, Nat.zero_add, yB, yC, yD, yE, yF, yG, zb, yK, xr, xv, z9, xt, xu, xq, yI, yH, z0, zw, zZ, z8, xw, zz, zx, xE, z4, ya, z3, z6, z1, yb, z7, zj, z5, zy, zi, zA, z2, yL, yJ, zk, E]
  · rintro i d ρ τ hd ⟨⟨r1, r2, r3, r4, r5⟩, rows, hlen, hrows, rfl⟩
    obtain ⟨rfl, hi⟩ := rangeP_get hd
    refine ⟨_, rfl, ?_⟩
    have g0 : (σ ++ [PO.list (bs.map tup4), .list (rows.map .str)])[σ.length]? = some (.list (bs.map tup4)) := get2_0 _ _ _
    have g1 : (σ ++ [PO.list (bs.map tup4), .list (rows.map .str)])[σ.length + 1]? = some (.list (rows.map .str)) := get2_1 _ _ _
    generalize hτ : σ ++ [PO.list (bs.map tup4), .list (rows.map .str)] = τ at g0 g1
    apply out_next
    · (simp (disch := first | assumption | decide | omega) only [zB, yc, zC, yM, yd, zl, yN, ye, yf, zD, zE, zm, zn, zF, yg, zo, zG, yh, zH, yi, zI, yj, zc, zJ, zK, yk, yl, zd, ym, yO, xx, yn, yo, zL, yp, zM, zp, zq, ze, zN, yq, zO, yr, zr, zf, zP, yt, zg, yu, zQ, zh, zt, yP, xy, yQ, yR, zu, yS, decide_eq_true_eq, beq_iff_eq, zR, zS, za, String.reduceEq, ↓reduceIte, yv, Glob.val?, xz, yT, yU, yV, yW, yX, yY, xA, xB, xC, xD, yZ, y0, y5, y6, y7, y8, yw, yx, yy, y9, xc, xd, zT, zU, xe, zV, zW, xf, xg, xh, xF, xG, xH, xI, xJ, xK, xL, xM, xi, xj, xk, xl, xm, xn, xo, xp, Glob.isB, and_self, and_true, true_and, zX, yz, yA, zY, Option.map_some, List.length_cons, List.length_nil, Nat.reduceAdd, Nat.zero_add, yB, yC, yD, yE, yF, yG, zb, yK, xr, xv, z9, xt, xu, xq, yI, yH, z0, zw, zZ, z8, xw, zz, zx, xE, z4, ya, z3, z6, z1, yb, z7, zj, z5, zy, zi, zA, z2, yL, yJ, zk]) <;> rfl
    -- the inner loop
    refine out_cons (out_mono (out_for (R := fun u τ => u = .loc (σ.length + 1) ∧ ∃ (bs : List (Int × Int × Int × Int)) (rows : List Str), τ = σ ++ [.list (bs.map tup4), .list (rows.map .str)] ∧ Good rows)
      (for_rng (ds := rangeP 0 w 1) (vs := [.int w]) (σ₁ := τ) (by (simp (disch := first | assumption | decide | omega) only [zB, yc, zC, yM, yd, zl, yN, ye, yf, zD, zE, zm, zn, zF, yg, zo, zG, yh, zH, yi, zI, yj, zc, zJ, zK, yk, yl, zd, ym, yO, xx, yn, yo, zL, yp, zM, zp, zq, ze, zN, yq, zO, yr, zr, zf, zP, yt, zg, yu, zQ, zh, zt, yP, xy, yQ, yR, zu, yS, decide_eq_true_eq, beq_iff_eq, zR, zS, za, String.reduceEq, ↓reduceIte, yv, Glob.val?, xz, yT, yU, yV, yW, yX, yY, xA, xB, xC, xD, yZ, y0, y5, y6, y7, y8, yw, yx, yy, y9, xc, xd, zT, zU, xe, zV, zW, xf, xg, xh, xF, xG, xH, xI, xJ, xK, xL, xM, xi, xj, xk, xl, xm, xn, xo, xp, Glob.isB, and_self, and_true, true_and, zX, yz, yA, zY, Option.map_some, List.length_cons, List.length_nil, Nat.reduceAdd, Nat.zero_add, yB, yC, yD, yE, yF, yG, zb, yK, xr, xv, z9, xt, xu, xq, yI, yH, z0, zw, zZ, z8, xw, zz, zx, xE, z4, ya, z3, z6, z1, yb, z7, zj, z5, zy, zi, zA, z2, yL, yJ, zk]) <;> rfl) ?_ (range1 (by omega) (by omega)))
      (fun j ρ τ' => τ' = τ ∧ E ρ ∧ ρ (Str.ofString "_law_row") = some (.int i) ∧ ∃ x, ρ (Str.ofString "_law_signs") = some (.str x) ∧ Row j x) ?_ ?_) ?_ fun _ _ h => h)
    · (simp (disch := first | assumption | decide | omega) only [zB, yc, zC, yM, yd, zl, yN, ye, yf, zD, zE, zm, zn, zF, yg, zo, zG, yh, zH, yi, zI, yj, zc, zJ, zK, yk, yl, zd, ym, yO, xx, yn, yo, zL, yp, zM, zp, zq, ze, zN, yq, zO, yr, zr, zf, zP, yt, zg, yu, zQ, zh, zt, yP, xy, yQ, yR, zu, yS, decide_eq_true_eq, beq_iff_eq, zR, zS, za, String.reduceEq, ↓reduceIte, yv, Glob.val?, xz, yT, yU, yV, yW, yX, yY, xA, xB, xC, xD, yZ, y0, y5, y6, y7, y8, yw, yx, yy, y9, xc, xd, zT, zU, xe, zV, zW, xf, xg, xh, xF, xG, xH, xI, xJ, xK, xL, xM, xi, xj, xk, xl, xm, xn, xo, xp, Glob.isB, and_self, and_true, true_and, zX, yz, yA, zY, Option.map_some, List.length_cons, List.length_nil, Nat.reduceAdd, Nat.zero_add, yB, yC, yD, yE, yF, yG, zb, yK, xr, xv, z9, xt, xu, xq, yI, yH, z0, zw, zZ, z8, xw, zz, zx, xE, z4, ya, z3, z6, z1, yb, z7, zj, z5, zy, zi, zA, z2, yL, yJ, zk, r2]) <;> rfl
    · refine ⟨rfl, ?_, ?_, Str.ofString "", ?_, ?_⟩
      · simp (disch := first | assumption | decide | omega) only [zB, yc, zC, yM, yd, zl, yN, ye, yf, zD, zE, zm, zn, zF, yg, zo, zG, yh, zH, yi, zI, yj, zc, zJ, zK, yk, yl, zd, ym, yO, xx, yn, yo, zL, yp, zM, zp, zq, ze, zN, yq, zO, yr, zr, zf, zP, yt, zg, yu, zQ, zh, zt, yP, xy, yQ, yR, zu, yS, decide_eq_true_eq, beq_iff_eq, zR, zS, za, String.reduceEq, ↓reduceIte, yv, Glob.val?, xz, yT, yU, yV, yW, yX, yY, xA, xB, xC, xD, yZ, y0, y5, y6, y7, y8, yw, yx, yy, y9, xc, xd, zT, zU, xe, zV, zW, xf, xg, xh, xF, xG, xH, xI, xJ, xK, xL, xM, xi, xj, xk, xl, xm, xn, xo, xp, Glob.isB, and_self, and_true, true_and, zX, yz, yA, zY, Option.map_some, List.length_cons, List.length_nil, Nat.reduceAdd, Nat.zero_add, yB, yC, yD, yE, yF, yG, zb, yK, xr, xv, z9, xt, xu, xq, yI, yH, z0, zw, zZ, z8, xw, zz, zx, xE, z4, ya, z3, z6, z1, yb, z7, zj, z5, zy, zi, zA, z2, yL, yJ, zk, E, r1, r2, r3, r4, r5]
      · simp (disch := first | assumption | decide | omega) only [zB, yc, zC, yM, yd, zl, yN, ye, yf, zD, zE, zm, zn, zF, yg, zo, zG, yh, zH, yi, zI, yj, zc, zJ, zK, yk, yl, zd, ym, yO, xx, yn, yo, zL, yp, zM, zp, zq, ze, zN, yq, zO, yr, zr, zf, zP, yt, zg, yu, zQ, zh, zt, yP, xy, yQ, yR, zu, yS, decide_eq_true_eq, beq_iff_eq, zR, zS, za, String.reduceEq, ↓reduceIte, yv, Glob.val?, xz, yT, yU, yV, yW, yX, yY, xA, xB, xC, xD, yZ, y0, y5, y6, y7, y8, yw, yx, yy, y9, xc, xd, zT, zU, xe, zV, zW, xf, xg, xh, xF, xG, xH, xI, xJ, xK, xL, xM, xi, xj, xk, xl, xm, xn, xo, xp, Glob.isB, and_self, and_true, true_and, zX, yz, yA, zY, Option.map_some, List.length_cons, List.length_nil, Nat.reduceAdd, Nat.zero_add, yB, yC, yD, yE, yF, yG, zb, yK, xr, xv, z9, xt, xu, xq, yI, yH, z0, zw, zZ, z8, xw, zz, zx, xE, z4, ya, z3, z6, z1, yb, z7, zj, z5, zy, zi, zA, z2, yL, yJ, zk]
      · simp (disch := first | assumption | decide | omega) only [zB, yc, zC, yM, yd, zl, yN, ye, yf, zD, zE, zm, zn, zF, yg, zo, zG, yh, zH, yi, zI, yj, zc, zJ, zK, yk, yl, zd, ym, yO, xx, yn, yo, zL, yp, zM, zp, zq, ze, zN, yq, zO, yr, zr, zf, zP, yt, zg, yu, zQ, zh, zt, yP, xy, yQ, yR, zu, yS, decide_eq_true_eq, beq_iff_eq, zR, zS, za, String.reduceEq, ↓reduceIte, yv, Glob.val?, xz, yT, yU, yV, yW, yX, yY, xA, xB, xC, xD, yZ, y0, y5, y6, y7, y8, yw, yx, yy, y9, xc, xd, zT, zU, xe, zV, zW, xf, xg, xh, xF, xG, xH, xI, xJ, xK, xL, xM, xi, xj, xk, xl, xm, xn, xo, xp, Glob.isB, and_self, and_true, true_and, zX, yz, yA, zY, Option.map_some, List.length_cons, List.length_nil, Nat.reduceAdd, Nat.zero_add, yB, yC, yD, yE, yF, yG, zb, yK, xr, xv, z9, xt, xu, xq, yI, yH, z0, zw, zZ, z8, xw, zz, zx, xE, z4, ya, z3, z6, z1, yb, z7, zj, z5, zy, zi, zA, z2, yL, yJ, zk]
      · exact ⟨by decide +kernel, fun c hc => by simp [show (Str.ofString "").cps = #[] by decide +kernel] at hc⟩
    · rintro j d ρ τ' hd ⟨rfl, ⟨r1, r2, r3, r4, r5⟩, r6, x, hx, hrow⟩
      obtain ⟨rfl, hj⟩ := rangeP_get hd
      refine ⟨_, rfl, ?_⟩
      obtain ⟨b1, d1⟩ := hdrawn ns i j τ' hl (by omega)
      obtain ⟨b2, d2⟩ := hdrawn ns ((i : Int).fdiv 2) ((j : Int).fdiv 2) τ' hl (by rw [Int.fdiv_eq_ediv_of_nonneg _ (by decide)]; omega)
      obtain ⟨b3, d3⟩ := hisin bs σ.length i j τ' g0
      apply out_next
      · (simp (disch := first | assumption | decide | omega) only [zB, yc, zC, yM, yd, zl, yN, ye, yf, zD, zE, zm, zn, zF, yg, zo, zG, yh, zH, yi, zI, yj, zc, zJ, zK, yk, yl, zd, ym, yO, xx, yn, yo, zL, yp, zM, zp, zq, ze, zN, yq, zO, yr, zr, zf, zP, yt, zg, yu, zQ, zh, zt, yP, xy, yQ, yR, zu, yS, decide_eq_true_eq, beq_iff_eq, zR, zS, za, String.reduceEq, ↓reduceIte, yv, Glob.val?, xz, yT, yU, yV, yW, yX, yY, xA, xB, xC, xD, yZ, y0, y5, y6, y7, y8, yw, yx, yy, y9, xc, xd, zT, zU, xe, zV, zW, xf, xg, xh, xF, xG, xH, xI, xJ, xK, xL, xM, xi, xj, xk, xl, xm, xn, xo, xp, Glob.isB, and_self, and_true, true_and, zX, yz, yA, zY, Option.map_some, List.length_cons, List.length_nil, Nat.reduceAdd, Nat.zero_add, yB, yC, yD, yE, yF, yG, zb, yK, xr, xv, z9, xt, xu, xq, yI, yH, z0, zw, zZ, z8, xw, zz, zx, xE, z4, ya, z3, z6, z1, yb, z7, zj, z5, zy, zi, zA, z2, yL, yJ, zk, r1, r6, d1]) <;> rfl
      refine out_cons (out_mono (K := fun ρ τ => τ = τ' ∧ E ρ ∧ ρ (Str.ofString "_law_row") = some (.int i) ∧ ρ (Str.ofString "_law_column") = some (.int j) ∧ ρ (Str.ofString "_law_signs") = some (.str x) ∧ ∃ b, ρ (Str.ofString "_law_on_here") = some (.bool b))
        (out_if (c := kd == 3) (σ₁ := τ') ?_ (fun _ => ?_) fun _ => ?_) ?_ fun _ _ h => h)
      · (simp (disch := first | assumption | decide | omega) only [zB, yc, zC, yM, yd, zl, yN, ye, yf, zD, zE, zm, zn, zF, yg, zo, zG, yh, zH, yi, zI, yj, zc, zJ, zK, yk, yl, zd, ym, yO, xx, yn, yo, zL, yp, zM, zp, zq, ze, zN, yq, zO, yr, zr, zf, zP, yt, zg, yu, zQ, zh, zt, yP, xy, yQ, yR, zu, yS, decide_eq_true_eq, beq_iff_eq, zR, zS, za, String.reduceEq, ↓reduceIte, yv, Glob.val?, xz, yT, yU, yV, yW, yX, yY, xA, xB, xC, xD, yZ, y0, y5, y6, y7, y8, yw, yx, yy, y9, xc, xd, zT, zU, xe, zV, zW, xf, xg, xh, xF, xG, xH, xI, xJ, xK, xL, xM, xi, xj, xk, xl, xm, xn, xo, xp, Glob.isB, and_self, and_true, true_and, zX, yz, yA, zY, Option.map_some, List.length_cons, List.length_nil, Nat.reduceAdd, Nat.zero_add, yB, yC, yD, yE, yF, yG, zb, yK, xr, xv, z9, xt, xu, xq, yI, yH, z0, zw, zZ, z8, xw, zz, zx, xE, z4, ya, z3, z6, z1, yb, z7, zj, z5, zy, zi, zA, z2, yL, yJ, zk, r3]) <;> rfl
      · apply out_next
        · (simp (disch := first | assumption | decide | omega) only [zB, yc, zC, yM, yd, zl, yN, ye, yf, zD, zE, zm, zn, zF, yg, zo, zG, yh, zH, yi, zI, yj, zc, zJ, zK, yk, yl, zd, ym, yO, xx, yn, yo, zL, yp, zM, zp, zq, ze, zN, yq, zO, yr, zr, zf, zP, yt, zg, yu, zQ, zh, zt, yP, xy, yQ, yR, zu, yS, decide_eq_true_eq, beq_iff_eq, zR, zS, za, String.reduceEq, ↓reduceIte, yv, Glob.val?, xz, yT, yU, yV, yW, yX, yY, xA, xB, xC, xD, yZ, y0, y5, y6, y7, y8, yw, yx, yy, y9, xc, xd, zT, zU, xe, zV, zW, xf, xg, xh, xF, xG, xH, xI, xJ, xK, xL, xM, xi, xj, xk, xl, xm, xn, xo, xp, Glob.isB, and_self, and_true, true_and, zX, yz, yA, zY, Option.map_some, List.length_cons, List.length_nil, Nat.reduceAdd, Nat.zero_add, yB, yC, yD, yE, yF, yG, zb, yK, xr, xv, z9, xt, xu, xq, yI, yH, z0, zw, zZ, z8, xw, zz, zx, xE, z4, ya, z3, z6, z1, yb, z7, zj, z5, zy, zi, zA, z2, yL, yJ, zk, r1, r6, d2]) <;> rfl
        refine out_nil ⟨rfl, ?_, ?_, ?_, ?_, b2, ?_⟩
        · simp (disch := first | assumption | decide | omega) only [zB, yc, zC, yM, yd, zl, yN, ye, yf, zD, zE, zm, zn, zF, yg, zo, zG, yh, zH, yi, zI, yj, zc, zJ, zK, yk, yl, zd, ym, yO, xx, yn, yo, zL, yp, zM, zp, zq, ze, zN, yq, zO, yr, zr, zf, zP, yt, zg, yu, zQ, zh, zt, yP, xy, yQ, yR, zu, yS, decide_eq_true_eq, beq_iff_eq, zR, zS, za, String.reduceEq, ↓reduceIte, yv, Glob.val?, xz, yT, yU, yV, yW, yX, yY, xA, xB, xC, xD, yZ, y0, y5, y6, y7, y8, yw, yx, yy, y9, xc, xd, zT, zU, xe, zV, zW, xf, xg, xh, xF, xG, xH, xI, xJ, xK, xL, xM, xi, xj, xk, xl, xm, xn, xo, xp, Glob.isB, and_self, and_true, true_and, zX, yz, yA, zY, Option.map_some, List.length_cons, List.length_nil, Nat.reduceAdd, Nat.zero_add, yB, yC, yD, yE, yF, yG, zb, yK, xr, xv, z9, xt, xu, xq, yI, yH, z0, zw, zZ, z8, xw, zz, zx, xE, z4, ya, z3, z6, z1, yb, z7, zj, z5, zy, zi, zA, z2, yL, yJ, zk, E, r1, r2, r3, r4, r5]
        · simp (disch := first | assumption | decide | omega) only [zB, yc, zC, yM, yd, zl, yN, ye, yf, zD, zE, zm, zn, zF, yg, zo, zG, yh, zH, yi, zI, yj, zc, zJ, zK, yk, yl, zd, ym, yO, xx, yn, yo, zL, yp, zM, zp, zq, ze, zN, yq, zO, yr, zr, zf, zP, yt, zg, yu, zQ, zh, zt, yP, xy, yQ, yR, zu, yS, decide_eq_true_eq, beq_iff_eq, zR, zS, za, String.reduceEq, ↓reduceIte, yv, Glob.val?, xz, yT, yU, yV, yW, yX, yY, xA, xB, xC, xD, yZ, y0, y5, y6, y7, y8, yw, yx, yy, y9, xc, xd, zT, zU, xe, zV, zW, xf, xg, xh, xF, xG, xH, xI, xJ, xK, xL, xM, xi, xj, xk, xl, xm, xn, xo, xp, Glob.isB, and_self, and_true, true_and, zX, yz, yA, zY, Option.map_some, List.length_cons, List.length_nil, Nat.reduceAdd, Nat.zero_add, yB, yC, yD, yE, yF, yG, zb, yK, xr, xv, z9, xt, xu, xq, yI, yH, z0, zw, zZ, z8, xw, zz, zx, xE, z4, ya, z3, z6, z1, yb, z7, zj, z5, zy, zi, zA, z2, yL, yJ, zk, r6]
        · simp (disch := first | assumption | decide | omega) only [zB, yc, zC, yM, yd, zl, yN, ye, yf, zD, zE, zm, zn, zF, yg, zo, zG, yh, zH, yi, zI, yj, zc, zJ, zK, yk, yl, zd, ym, yO, xx, yn, yo, zL, yp, zM, zp, zq, ze, zN, yq, zO, yr, zr, zf, zP, yt, zg, yu, zQ, zh, zt, yP, xy, yQ, yR, zu, yS, decide_eq_true_eq, beq_iff_eq, zR, zS, za, String.reduceEq, ↓reduceIte, yv, Glob.val?, xz, yT, yU, yV, yW, yX, yY, xA, xB, xC, xD, yZ, y0, y5, y6, y7, y8, yw, yx, yy, y9, xc, xd, zT, zU, xe, zV, zW, xf, xg, xh, xF, xG, xH, xI, xJ, xK, xL, xM, xi, xj, xk, xl, xm, xn, xo, xp, Glob.isB, and_self, and_true, true_and, zX, yz, yA, zY, Option.map_some, List.length_cons, List.length_nil, Nat.reduceAdd, Nat.zero_add, yB, yC, yD, yE, yF, yG, zb, yK, xr, xv, z9, xt, xu, xq, yI, yH, z0, zw, zZ, z8, xw, zz, zx, xE, z4, ya, z3, z6, z1, yb, z7, zj, z5, zy, zi, zA, z2, yL, yJ, zk]
        · simp (disch := first | assumption | decide | omega) only [zB, yc, zC, yM, yd, zl, yN, ye, yf, zD, zE, zm, zn, zF, yg, zo, zG, yh, zH, yi, zI, yj, zc, zJ, zK, yk, yl, zd, ym, yO, xx, yn, yo, zL, yp, zM, zp, zq, ze, zN, yq, zO, yr, zr, zf, zP, yt, zg, yu, zQ, zh, zt, yP, xy, yQ, yR, zu, yS, decide_eq_true_eq, beq_iff_eq, zR, zS, za, String.reduceEq, ↓reduceIte, yv, Glob.val?, xz, yT, yU, yV, yW, yX, yY, xA, xB, xC, xD, yZ, y0, y5, y6, y7, y8, yw, yx, yy, y9, xc, xd, zT, zU, xe, zV, zW, xf, xg, xh, xF, xG, xH, xI, xJ, xK, xL, xM, xi, xj, xk, xl, xm, xn, xo, xp, Glob.isB, and_self, and_true, true_and, zX, yz, yA, zY, Option.map_some, List.length_cons, List.length_nil, Nat.reduceAdd, Nat.zero_add, yB, yC, yD, yE, yF, yG, zb, yK, xr, xv, z9, xt, xu, xq, yI, yH, z0, zw, zZ, z8, xw, zz, zx, xE, z4, ya, z3, z6, z1, yb, z7, zj, z5, zy, zi, zA, z2, yL, yJ, zk, hx]
        · simp (disch := first | assumption | decide | omega) only [zB, yc, zC, yM, yd, zl, yN, ye, yf, zD, zE, zm, zn, zF, yg, zo, zG, yh, zH, yi, zI, yj, zc, zJ, zK, yk, yl, zd, ym, yO, xx, yn, yo, zL, yp, zM, zp, zq, ze, zN, yq, zO, yr, zr, zf, zP, yt, zg, yu, zQ, zh, zt, yP, xy, yQ, yR, zu, yS, decide_eq_true_eq, beq_iff_eq, zR, zS, za, String.reduceEq, ↓reduceIte, yv, Glob.val?, xz, yT, yU, yV, yW, yX, yY, xA, xB, xC, xD, yZ, y0, y5, y6, y7, y8, yw, yx, yy, y9, xc, xd, zT, zU, xe, zV, zW, xf, xg, xh, xF, xG, xH, xI, xJ, xK, xL, xM, xi, xj, xk, xl, xm, xn, xo, xp, Glob.isB, and_self, and_true, true_and, zX, yz, yA, zY, Option.map_some, List.length_cons, List.length_nil, Nat.reduceAdd, Nat.zero_add, yB, yC, yD, yE, yF, yG, zb, yK, xr, xv, z9, xt, xu, xq, yI, yH, z0, zw, zZ, z8, xw, zz, zx, xE, z4, ya, z3, z6, z1, yb, z7, zj, z5, zy, zi, zA, z2, yL, yJ, zk]
      · refine out_nil ⟨rfl, ?_, ?_, ?_, ?_, b1, ?_⟩
        · simp (disch := first | assumption | decide | omega) only [zB, yc, zC, yM, yd, zl, yN, ye, yf, zD, zE, zm, zn, zF, yg, zo, zG, yh, zH, yi, zI, yj, zc, zJ, zK, yk, yl, zd, ym, yO, xx, yn, yo, zL, yp, zM, zp, zq, ze, zN, yq, zO, yr, zr, zf, zP, yt, zg, yu, zQ, zh, zt, yP, xy, yQ, yR, zu, yS, decide_eq_true_eq, beq_iff_eq, zR, zS, za, String.reduceEq, ↓reduceIte, yv, Glob.val?, xz, yT, yU, yV, yW, yX, yY, xA, xB, xC, xD, yZ, y0, y5, y6, y7, y8, yw, yx, yy, y9, xc, xd, zT, zU, xe, zV, zW, xf, xg, xh, xF, xG, xH, xI, xJ, xK, xL, xM, xi, xj, xk, xl, xm, xn, xo, xp, Glob.isB, and_self, and_true, true_and, zX, yz, yA, zY, Option.map_some, List.length_cons, List.length_nil, Nat.reduceAdd, Nat.zero_add, yB, yC, yD, yE, yF, yG, zb, yK, xr, xv, z9, xt, xu, xq, yI, yH, z0, zw, zZ, z8, xw, zz, zx, xE, z4, ya, z3, z6, z1, yb, z7, zj, z5, zy, zi, zA, z2, yL, yJ, zk, E, r1, r2, r3, r4, r5]
        · simp (disch := first | assumption | decide | omega) only [zB, yc, zC, yM, yd, zl, yN, ye, yf, zD, zE, zm, zn, zF, yg, zo, zG, yh, zH, yi, zI, yj, zc, zJ, zK, yk, yl, zd, ym, yO, xx, yn, yo, zL, yp, zM, zp, zq, ze, zN, yq, zO, yr, zr, zf, zP, yt, zg, yu, zQ, zh, zt, yP, xy, yQ, yR, zu, yS, decide_eq_true_eq, beq_iff_eq, zR, zS, za, String.reduceEq, ↓reduceIte, yv, Glob.val?, xz, yT, yU, yV, yW, yX, yY, xA, xB, xC, xD, yZ, y0, y5, y6, y7, y8, yw, yx, yy, y9, xc, xd, zT, zU, xe, zV, zW, xf, xg, xh, xF, xG, xH, xI, xJ, xK, xL, xM, xi, xj, xk, xl, xm, xn, xo, xp, Glob.isB, and_self, and_true, true_and, zX, yz, yA, zY, Option.map_some, List.length_cons, List.length_nil, Nat.reduceAdd, Nat.zero_add, yB, yC, yD, yE, yF, yG, zb, yK, xr, xv, z9, xt, xu, xq, yI, yH, z0, zw, zZ, z8, xw, zz, zx, xE, z4, ya, z3, z6, z1, yb, z7, zj, z5, zy, zi, zA, z2, yL, yJ, zk, r6]
        · simp (disch := first | assumption | decide | omega) only [zB, yc, zC, yM, yd, zl, yN, ye, yf, zD, zE, zm, zn, zF, yg, zo, zG, yh, zH, yi, zI, yj, zc, zJ, zK, yk, yl, zd, ym, yO, xx, yn, yo, zL, yp, zM, zp, zq, ze, zN, yq, zO, yr, zr, zf, zP, yt, zg, yu, zQ, zh, zt, yP, xy, yQ, yR, zu, yS, decide_eq_true_eq, beq_iff_eq, zR, zS, za, String.reduceEq, ↓reduceIte, yv, Glob.val?, xz, yT, yU, yV, yW, yX, yY, xA, xB, xC, xD, yZ, y0, y5, y6, y7, y8, yw, yx, yy, y9, xc, xd, zT, zU, xe, zV, zW, xf, xg, xh, xF, xG, xH, xI, xJ, xK, xL, xM, xi, xj, xk, xl, xm, xn, xo, xp, Glob.isB, and_self, and_true, true_and, zX, yz, yA, zY, Option.map_some, List.length_cons, List.length_nil, Nat.reduceAdd, Nat.zero_add, yB, yC, yD, yE, yF, yG, zb, yK, xr, xv, z9, xt, xu, xq, yI, yH, z0, zw, zZ, z8, xw, zz, zx, xE, z4, ya, z3, z6, z1, yb, z7, zj, z5, zy, zi, zA, z2, yL, yJ, zk]
        · simp (disch := first | assumption | decide | omega) only [zB, yc, zC, yM, yd, zl, yN, ye, yf, zD, zE, zm, zn, zF, yg, zo, zG, yh, zH, yi, zI, yj, zc, zJ, zK, yk, yl, zd, ym, yO, xx, yn, yo, zL, yp, zM, zp, zq, ze, zN, yq, zO, yr, zr, zf, zP, yt, zg, yu, zQ, zh, zt, yP, xy, yQ, yR, zu, yS, decide_eq_true_eq, beq_iff_eq, zR, zS, za, String.reduceEq, ↓reduceIte, yv, Glob.val?, xz, yT, yU, yV, yW, yX, yY, xA, xB, xC, xD, yZ, y0, y5, y6, y7, y8, yw, yx, yy, y9, xc, xd, zT, zU, xe, zV, zW, xf, xg, xh, xF, xG, xH, xI, xJ, xK, xL, xM, xi, xj, xk, xl, xm, xn, xo, xp, Glob.isB, and_self, and_true, true_and, zX, yz, yA, zY, Option.map_some, List.length_cons, List.length_nil, Nat.reduceAdd, Nat.zero_add, yB, yC, yD, yE, yF, yG, zb, yK, xr, xv, z9, xt, xu, xq, yI, yH, z0, zw, zZ, z8, xw, zz, zx, xE, z4, ya, z3, z6, z1, yb, z7, zj, z5, zy, zi, zA, z2, yL, yJ, zk, hx]
        · simp (disch := first | assumption | decide | omega) only [zB, yc, zC, yM, yd, zl, yN, ye, yf, zD, zE, zm, zn, zF, yg, zo, zG, yh, zH, yi, zI, yj, zc, zJ, zK, yk, yl, zd, ym, yO, xx, yn, yo, zL, yp, zM, zp, zq, ze, zN, yq, zO, yr, zr, zf, zP, yt, zg, yu, zQ, zh, zt, yP, xy, yQ, yR, zu, yS, decide_eq_true_eq, beq_iff_eq, zR, zS, za, String.reduceEq, ↓reduceIte, yv, Glob.val?, xz, yT, yU, yV, yW, yX, yY, xA, xB, xC, xD, yZ, y0, y5, y6, y7, y8, yw, yx, yy, y9, xc, xd, zT, zU, xe, zV, zW, xf, xg, xh, xF, xG, xH, xI, xJ, xK, xL, xM, xi, xj, xk, xl, xm, xn, xo, xp, Glob.isB, and_self, and_true, true_and, zX, yz, yA, zY, Option.map_some, List.length_cons, List.length_nil, Nat.reduceAdd, Nat.zero_add, yB, yC, yD, yE, yF, yG, zb, yK, xr, xv, z9, xt, xu, xq, yI, yH, z0, zw, zZ, z8, xw, zz, zx, xE, z4, ya, z3, z6, z1, yb, z7, zj, z5, zy, zi, zA, z2, yL, yJ, zk]
      rintro ρ τ ⟨rfl, ⟨r1, r2, r3, r4, r5⟩, r6, r7, hx, b, r8⟩
      refine out_cons (out_mono (K := fun ρ τ' => τ' = τ ∧ E ρ ∧ ρ (Str.ofString "_law_row") = some (.int i) ∧ ρ (Str.ofString "_law_signs") = some (.str x) ∧ ∃ b, ρ (Str.ofString "_law_on_here") = some (.bool b))
        (out_if (c := if kd = 1 then true else if kd = 2 then true else false) (σ₁ := τ) ?_ (fun _ => ?_) fun _ => ?_) ?_ fun _ _ h => h)
      · (simp (disch := first | assumption | decide | omega) only [zB, yc, zC, yM, yd, zl, yN, ye, yf, zD, zE, zm, zn, zF, yg, zo, zG, yh, zH, yi, zI, yj, zc, zJ, zK, yk, yl, zd, ym, yO, xx, yn, yo, zL, yp, zM, zp, zq, ze, zN, yq, zO, yr, zr, zf, zP, yt, zg, yu, zQ, zh, zt, yP, xy, yQ, yR, zu, yS, decide_eq_true_eq, beq_iff_eq, zR, zS, za, String.reduceEq, ↓reduceIte, yv, Glob.val?, xz, yT, yU, yV, yW, yX, yY, xA, xB, xC, xD, yZ, y0, y5, y6, y7, y8, yw, yx, yy, y9, xc, xd, zT, zU, xe, zV, zW, xf, xg, xh, xF, xG, xH, xI, xJ, xK, xL, xM, xi, xj, xk, xl, xm, xn, xo, xp, Glob.isB, and_self, and_true, true_and, zX, yz, yA, zY, Option.map_some, List.length_cons, List.length_nil, Nat.reduceAdd, Nat.zero_add, yB, yC, yD, yE, yF, yG, zb, yK, xr, xv, z9, xt, xu, xq, yI, yH, z0, zw, zZ, z8, xw, zz, zx, xE, z4, ya, z3, z6, z1, yb, z7, zj, z5, zy, zi, zA, z2, yL, yJ, zk, r3]) <;> rfl
      · apply out_next
        · (simp (disch := first | assumption | decide | omega) only [zB, yc, zC, yM, yd, zl, yN, ye, yf, zD, zE, zm, zn, zF, yg, zo, zG, yh, zH, yi, zI, yj, zc, zJ, zK, yk, yl, zd, ym, yO, xx, yn, yo, zL, yp, zM, zp, zq, ze, zN, yq, zO, yr, zr, zf, zP, yt, zg, yu, zQ, zh, zt, yP, xy, yQ, yR, zu, yS, decide_eq_true_eq, beq_iff_eq, zR, zS, za, String.reduceEq, ↓reduceIte, yv, Glob.val?, xz, yT, yU, yV, yW, yX, yY, xA, xB, xC, xD, yZ, y0, y5, y6, y7, y8, yw, yx, yy, y9, xc, xd, zT, zU, xe, zV, zW, xf, xg, xh, xF, xG, xH, xI, xJ, xK, xL, xM, xi, xj, xk, xl, xm, xn, xo, xp, Glob.isB, and_self, and_true, true_and, zX, yz, yA, zY, Option.map_some, List.length_cons, List.length_nil, Nat.reduceAdd, Nat.zero_add, yB, yC, yD, yE, yF, yG, zb, yK, xr, xv, z9, xt, xu, xq, yI, yH, z0, zw, zZ, z8, xw, zz, zx, xE, z4, ya, z3, z6, z1, yb, z7, zj, z5, zy, zi, zA, z2, yL, yJ, zk, r3, r4, r6, r7, d3]) <;> rfl
        refine out_nil ⟨rfl, ?_, ?_, ?_, (b3 == (kd == 1)), ?_⟩
        · simp (disch := first | assumption | decide | omega) only [zB, yc, zC, yM, yd, zl, yN, ye, yf, zD, zE, zm, zn, zF, yg, zo, zG, yh, zH, yi, zI, yj, zc, zJ, zK, yk, yl, zd, ym, yO, xx, yn, yo, zL, yp, zM, zp, zq, ze, zN, yq, zO, yr, zr, zf, zP, yt, zg, yu, zQ, zh, zt, yP, xy, yQ, yR, zu, yS, decide_eq_true_eq, beq_iff_eq, zR, zS, za, String.reduceEq, ↓reduceIte, yv, Glob.val?, xz, yT, yU, yV, yW, yX, yY, xA, xB, xC, xD, yZ, y0, y5, y6, y7, y8, yw, yx, yy, y9, xc, xd, zT, zU, xe, zV, zW, xf, xg, xh, xF, xG, xH, xI, xJ, xK, xL, xM, xi, xj, xk, xl, xm, xn, xo, xp, Glob.isB, and_self, and_true, true_and, zX, yz, yA, zY, Option.map_some, List.length_cons, List.length_nil, Nat.reduceAdd, Nat.zero_add, yB, yC, yD, yE, yF, yG, zb, yK, xr, xv, z9, xt, xu, xq, yI, yH, z0, zw, zZ, z8, xw, zz, zx, xE, z4, ya, z3, z6, z1, yb, z7, zj, z5, zy, zi, zA, z2, yL, yJ, zk, E, r1, r2, r3, r4, r5]
        · simp (disch := first | assumption | decide | omega) only [zB, yc, zC, yM, yd, zl, yN, ye, yf, zD, zE, zm, zn, zF, yg, zo, zG, yh, zH, yi, zI, yj, zc, zJ, zK, yk, yl, zd, ym, yO, xx, yn, yo, zL, yp, zM, zp, zq, ze, zN, yq, zO, yr, zr, zf, zP, yt, zg, yu, zQ, zh, zt, yP, xy, yQ, yR, zu, yS, decide_eq_true_eq, beq_iff_eq, zR, zS, za, String.reduceEq, ↓reduceIte, yv, Glob.val?, xz, yT, yU, yV, yW, yX, yY, xA, xB, xC, xD, yZ, y0, y5, y6, y7, y8, yw, yx, yy, y9, xc, xd, zT, zU, xe, zV, zW, xf, xg, xh, xF, xG, xH, xI, xJ, xK, xL, xM, xi, xj, xk, xl, xm, xn, xo, xp, Glob.isB, and_self, and_true, true_and, zX, yz, yA, zY, Option.map_some, List.length_cons, List.length_nil, Nat.reduceAdd, Nat.zero_add, yB, yC, yD, yE, yF, yG, zb, yK, xr, xv, z9, xt, xu, xq, yI, yH, z0, zw, zZ, z8, xw, zz, zx, xE, z4, ya, z3, z6, z1, yb, z7, zj, z5, zy, zi, zA, z2, yL, yJ, zk, r6]
        · simp (disch := first | assumption | decide | omega) only [zB, yc, zC, yM, yd, zl, yN, ye, yf, zD, zE, zm, zn, zF, yg, zo, zG, yh, zH, yi, zI, yj, zc, zJ, zK, yk, yl, zd, ym, yO, xx, yn, yo, zL, yp, zM, zp, zq, ze, zN, yq, zO, yr, zr, zf, zP, yt, zg, yu, zQ, zh, zt, yP, xy, yQ, yR, zu, yS, decide_eq_true_eq, beq_iff_eq, zR, zS, za, String.reduceEq, ↓reduceIte, yv, Glob.val?, xz, yT, yU, yV, yW, yX, yY, xA, xB, xC, xD, yZ, y0, y5, y6, y7, y8, yw, yx, yy, y9, xc, xd, zT, zU, xe, zV, zW, xf, xg, xh, xF, xG, xH, xI, xJ, xK, xL, xM, xi, xj, xk, xl, xm, xn, xo, xp, Glob.isB, and_self, and_true, true_and, zX, yz, yA, zY, Option.map_some, List.length_cons, List.length_nil, Nat.reduceAdd, Nat.zero_add, yB, yC, yD, yE, yF, yG, zb, yK, xr, xv, z9, xt, xu, xq, yI, yH, z0, zw, zZ, z8, xw, zz, zx, xE, z4, ya, z3, z6, z1, yb, z7, zj, z5, zy, zi, zA, z2, yL, yJ, zk, hx]
        · simp (disch := first | assumption | decide | omega) only [zB, yc, zC, yM, yd, zl, yN, ye, yf, zD, zE, zm, zn, zF, yg, zo, zG, yh, zH, yi, zI, yj, zc, zJ, zK, yk, yl, zd, ym, yO, xx, yn, yo, zL, yp, zM, zp, zq, ze, zN, yq, zO, yr, zr, zf, zP, yt, zg, yu, zQ, zh, zt, yP, xy, yQ, yR, zu, yS, decide_eq_true_eq, beq_iff_eq, zR, zS, za, String.reduceEq, ↓reduceIte, yv, Glob.val?, xz, yT, yU, yV, yW, yX, yY, xA, xB, xC, xD, yZ, y0, y5, y6, y7, y8, yw, yx, yy, y9, xc, xd, zT, zU, xe, zV, zW, xf, xg, xh, xF, xG, xH, xI, xJ, xK, xL, xM, xi, xj, xk, xl, xm, xn, xo, xp, Glob.isB, and_self, and_true, true_and, zX, yz, yA, zY, Option.map_some, List.length_cons, List.length_nil, Nat.reduceAdd, Nat.zero_add, yB, yC, yD, yE, yF, yG, zb, yK, xr, xv, z9, xt, xu, xq, yI, yH, z0, zw, zZ, z8, xw, zz, zx, xE, z4, ya, z3, z6, z1, yb, z7, zj, z5, zy, zi, zA, z2, yL, yJ, zk]
      · exact out_nil ⟨rfl, ⟨r1, r2, r3, r4, r5⟩, r6, hx, b, r8⟩
      rintro ρ τ' ⟨rfl, ⟨r1, r2, r3, r4, r5⟩, r6, hx, b, r8⟩
      have hxl : x.length + (⟨#[if b then 35 else 46]⟩ : Str).length ≤ sizeLine := by
        have := hrow.1
        show x.length + 1 ≤ sizeLine
        omega
      apply out_next
      · (simp (disch := first | assumption | decide | omega) only [zB, yc, zC, yM, yd, zl, yN, ye, yf, zD, zE, zm, zn, zF, yg, zo, zG, yh, zH, yi, zI, yj, zc, zJ, zK, yk, yl, zd, ym, yO, xx, yn, yo, zL, yp, zM, zp, zq, ze, zN, yq, zO, yr, zr, zf, zP, yt, zg, yu, zQ, zh, zt, yP, xy, yQ, yR, zu, yS, decide_eq_true_eq, beq_iff_eq, zR, zS, za, String.reduceEq, ↓reduceIte, yv, Glob.val?, xz, yT, yU, yV, yW, yX, yY, xA, xB, xC, xD, yZ, y0, y5, y6, y7, y8, yw, yx, yy, y9, xc, xd, zT, zU, xe, zV, zW, xf, xg, xh, xF, xG, xH, xI, xJ, xK, xL, xM, xi, xj, xk, xl, xm, xn, xo, xp, Glob.isB, and_self, and_true, true_and, zX, yz, yA, zY, Option.map_some, List.length_cons, List.length_nil, Nat.reduceAdd, Nat.zero_add, yB, yC, yD, yE, yF, yG, zb, yK, xr, xv, z9, xt, xu, xq, yI, yH, z0, zw, zZ, z8, xw, zz, zx, xE, z4, ya, z3, z6, z1, yb, z7, zj, z5, zy, zi, zA, z2, yL, yJ, zk, hx, r8, sub_dot]) <;> rfl
      refine out_nil ⟨rfl, ?_, ?_, _, ?_, row_snoc hrow b⟩
      · simp (disch := first | assumption | decide | omega) only [zB, yc, zC, yM, yd, zl, yN, ye, yf, zD, zE, zm, zn, zF, yg, zo, zG, yh, zH, yi, zI, yj, zc, zJ, zK, yk, yl, zd, ym, yO, xx, yn, yo, zL, yp, zM, zp, zq, ze, zN, yq, zO, yr, zr, zf, zP, yt, zg, yu, zQ, zh, zt, yP, xy, yQ, yR, zu, yS, decide_eq_true_eq, beq_iff_eq, zR, zS, za, String.reduceEq, ↓reduceIte, yv, Glob.val?, xz, yT, yU, yV, yW, yX, yY, xA, xB, xC, xD, yZ, y0, y5, y6, y7, y8, yw, yx, yy, y9, xc, xd, zT, zU, xe, zV, zW, xf, xg, xh, xF, xG, xH, xI, xJ, xK, xL, xM, xi, xj, xk, xl, xm, xn, xo, xp, Glob.isB, and_self, and_true, true_and, zX, yz, yA, zY, Option.map_some, List.length_cons, List.length_nil, Nat.reduceAdd, Nat.zero_add, yB, yC, yD, yE, yF, yG, zb, yK, xr, xv, z9, xt, xu, xq, yI, yH, z0, zw, zZ, z8, xw, zz, zx, xE, z4, ya, z3, z6, z1, yb, z7, zj, z5, zy, zi, zA, z2, yL, yJ, zk, E, r1, r2, r3, r4, r5]
      · simp (disch := first | assumption | decide | omega) only [zB, yc, zC, yM, yd, zl, yN, ye, yf, zD, zE, zm, zn, zF, yg, zo, zG, yh, zH, yi, zI, yj, zc, zJ, zK, yk, yl, zd, ym, yO, xx, yn, yo, zL, yp, zM, zp, zq, ze, zN, yq, zO, yr, zr, zf, zP, yt, zg, yu, zQ, zh, zt, yP, xy, yQ, yR, zu, yS, decide_eq_true_eq, beq_iff_eq, zR, zS, za, String.reduceEq, ↓reduceIte, yv, Glob.val?, xz, yT, yU, yV, yW, yX, yY, xA, xB, xC, xD, yZ, y0, y5, y6, y7, y8, yw, yx, yy, y9, xc, xd, zT, zU, xe, zV, zW, xf, xg, xh, xF, xG, xH, xI, xJ, xK, xL, xM, xi, xj, xk, xl, xm, xn, xo, xp, Glob.isB, and_self, and_true, true_and, zX, yz, yA, zY, Option.map_some, List.length_cons, List.length_nil, Nat.reduceAdd, Nat.zero_add, yB, yC, yD, yE, yF, yG, zb, yK, xr, xv, z9, xt, xu, xq, yI, yH, z0, zw, zZ, z8, xw, zz, zx, xE, z4, ya, z3, z6, z1, yb, z7, zj, z5, zy, zi, zA, z2, yL, yJ, zk, r6]
      · simp (disch := first | assumption | decide | omega) only [zB, yc, zC, yM, yd, zl, yN, ye, yf, zD, zE, zm, zn, zF, yg, zo, zG, yh, zH, yi, zI, yj, zc, zJ, zK, yk, yl, zd, ym, yO, xx, yn, yo, zL, yp, zM, zp, zq, ze, zN, yq, zO, yr, zr, zf, zP, yt, zg, yu, zQ, zh, zt, yP, xy, yQ, yR, zu, yS, decide_eq_true_eq, beq_iff_eq, zR, zS, za, String.reduceEq, ↓reduceIte, yv, Glob.val?, xz, yT, yU, yV, yW, yX, yY, xA, xB, xC, xD, yZ, y0, y5, y6, y7, y8, yw, yx, yy, y9, xc, xd, zT, zU, xe, zV, zW, xf, xg, xh, xF, xG, xH, xI, xJ, xK, xL, xM, xi, xj, xk, xl, xm, xn, xo, xp, Glob.isB, and_self, and_true, true_and, zX, yz, yA, zY, Option.map_some, List.length_cons, List.length_nil, Nat.reduceAdd, Nat.zero_add, yB, yC, yD, yE, yF, yG, zb, yK, xr, xv, z9, xt, xu, xq, yI, yH, z0, zw, zZ, z8, xw, zz, zx, xE, z4, ya, z3, z6, z1, yb, z7, zj, z5, zy, zi, zA, z2, yL, yJ, zk]
    · rintro ρ τ' ⟨rfl, ⟨r1, r2, r3, r4, r5⟩, r6, x, hx, hrow⟩
      rw [rangeP_len] at hrow
      have hle : (rows.map PV.str).length ≤ sizeLine := by rw [List.length_map]; omega
      apply out_next
      · (simp (disch := first | assumption | decide | omega) only [zB, yc, zC, yM, yd, zl, yN, ye, yf, zD, zE, zm, zn, zF, yg, zo, zG, yh, zH, yi, zI, yj, zc, zJ, zK, yk, yl, zd, ym, yO, xx, yn, yo, zL, yp, zM, zp, zq, ze, zN, yq, zO, yr, zr, zf, zP, yt, zg, yu, zQ, zh, zt, yP, xy, yQ, yR, zu, yS, decide_eq_true_eq, beq_iff_eq, zR, zS, za, String.reduceEq, ↓reduceIte, yv, Glob.val?, xz, yT, yU, yV, yW, yX, yY, xA, xB, xC, xD, yZ, y0, y5, y6, y7, y8, yw, yx, yy, y9, xc, xd, zT, zU, xe, zV, zW, xf, xg, xh, xF, xG, xH, xI, xJ, xK, xL, xM, xi, xj, xk, xl, xm, xn, xo, xp, Glob.isB, and_self, and_true, true_and, zX, yz, yA, zY, Option.map_some, List.length_cons, List.length_nil, Nat.reduceAdd, Nat.zero_add, yB, yC, yD, yE, yF, yG, zb, yK, xr, xv, z9, xt, xu, xq, yI, yH, z0, zw, zZ, z8, xw, zz, zx, xE, z4, ya, z3, z6, z1, yb, z7, zj, z5, zy, zi, zA, z2, yL, yJ, zk, r5, hx]) <;> rfl
      refine out_nil ⟨⟨r1, r2, r3, r4, r5⟩, rows ++ [x], by simp [hlen], ?_, ?_⟩
      · intro r hr
        rcases List.mem_append.mp hr with q | q
        · exact hrows r q
        · rw [List.mem_singleton.mp q]; exact hrow
      · rw [← hτ, set2_1]; simp
  · rintro ρ τ ⟨⟨r1, r2, r3, r4, r5⟩, rows, hlen, hrows, rfl⟩
    rw [rangeP_len] at hlen
    apply out_ret
    · (simp (disch := first | assumption | decide | omega) only [zB, yc, zC, yM, yd, zl, yN, ye, yf, zD, zE, zm, zn, zF, yg, zo, zG, yh, zH, yi, zI, yj, zc, zJ, zK, yk, yl, zd, ym, yO, xx, yn, yo, zL, yp, zM, zp, zq, ze, zN, yq, zO, yr, zr, zf, zP, yt, zg, yu, zQ, zh, zt, yP, xy, yQ, yR, zu, yS, decide_eq_true_eq, beq_iff_eq, zR, zS, za, String.reduceEq, ↓reduceIte, yv, Glob.val?, xz, yT, yU, yV, yW, yX, yY, xA, xB, xC, xD, yZ, y0, y5, y6, y7, y8, yw, yx, yy, y9, xc, xd, zT, zU, xe, zV, zW, xf, xg, xh, xF, xG, xH, xI, xJ, xK, xL, xM, xi, xj, xk, xl, xm, xn, xo, xp, Glob.isB, and_self, and_true, true_and, zX, yz, yA, zY, Option.map_some, List.length_cons, List.length_nil, Nat.reduceAdd, Nat.zero_add, yB, yC, yD, yE, yF, yG, zb, yK, xr, xv, z9, xt, xu, xq, yI, yH, z0, zw, zZ, z8, xw, zz, zx, xE, z4, ya, z3, z6, z1, yb, z7, zj, z5, zy, zi, zA, z2, yL, yJ, zk, r5]) <;> rfl
    · exact ⟨rfl, bs, rows, rfl, by omega, w.toNat, by omega, hrows⟩
end
end Mine

set_option maxRecDepth 100000
namespace Mine
open PySem PySem.Spec PyProof.Rows PySem.Challenge

/-! rows compared -/
theorem dats_strs : ∀ rows : List Str, datsOf (rows.map PV.str) = some (rows.map PyData.str)
  | [] => rfl
  | r :: rs => by rw [List.map_cons, datsOf, dats_strs rs]; rfl
theorem lay_strs {w : Nat} : ∀ rows : List Str, (∀ r ∈ rows, Row w r) → PyData.canLayAll0 (rows.map PyData.str) = true ∧ PyData.depthAll (rows.map PyData.str) ≤ 1
  | [], _ => ⟨rfl, Nat.zero_le _⟩
  | r :: rs, h => by
    obtain ⟨a, b⟩ := lay_strs rs fun x hx => h x (.tail _ hx)
    have hr := h r (.head _)
    constructor
    · rw [List.map_cons, PyData.canLayAll0, a, Bool.and_true]
      show PyData.strOk r = true
      unfold PyData.strOk
      rw [← Array.all_toList, List.all_eq_true]
      intro c hc
      rcases hr.2 c hc with rfl | rfl <;> decide
    · rw [List.map_cons, PyData.depthAll]
      have : (PyData.str r).depth ≤ 1 := by simp [PyData.depth]
      omega
theorem shaped_strs {rows : List Str} {w : Nat} (h : ∀ r ∈ rows, Row w r) : shapedP (.list (rows.map PyData.str)) = true := by
  obtain ⟨a, b⟩ := lay_strs rows h
  unfold shapedP
  rw [Bool.and_eq_true]
  refine ⟨a, decide_eq_true ?_⟩
  have : (PyData.list (rows.map PyData.str)).depth = PyData.depthAll (rows.map PyData.str) + 1 := by simp [PyData.depth]
  omega
theorem eqv_strs : ∀ rows : List Str, PyData.eqvAll (rows.map PyData.str) (rows.map PyData.str) = true
  | [] => rfl
  | r :: rs => by rw [List.map_cons, PyData.eqvAll, eqv_strs rs, Bool.and_true]; show (r == r) = true; simp
/-! is there floor at a place -/
noncomputable def onB (rows : List Str) (r c : Int) : Bool :=
  if 0 ≤ r ∧ r < rows.length then
    (if 0 ≤ c ∧ c < (rows.getD r.toNat ⟨#[]⟩).length then (rows.getD r.toNat ⟨#[]⟩).cps.getD c.toNat 0 == 35 else false)
  else false

theorem occ_ok {c : Nat} (h : c = 35 ∨ c = 46) : (Builtin.Str.occurrences (Str.ofString "#.") ⟨#[c]⟩ 0 (Str.ofString "#.").length 1).isEmpty = false := by
  rcases h with rfl | rfl <;> decide +kernel
theorem str_hash (c : Nat) : ((⟨#[c]⟩ : Str) == Str.ofString "#") = (c == 35) := by
  have e : Str.ofString "#" = ⟨#[35]⟩ := by decide +kernel
  rw [e]
  by_cases h : c = 35
  · subst h; rfl
  · rw [beq_eq_false_iff_ne.mpr h]
    refine beq_eq_false_iff_ne.mpr fun q => h ?_
    injection q with q
    have := congrArg Array.toList q
    simpa using this

section
variable {Φ : Fns} {σ : Store}
theorem checked_run {rows : List Str} (hg : Good rows) : interpF Φ Gl (dOf pw "checked") [.lst (rows.map .str)] σ = some (.lst (rows.map .str), σ) := by
  have hs := sz
  obtain ⟨h30, w, w30, hrow⟩ := hg
  refine run_eq (by kernel_rfl) ?_
  change Out (execSs Φ Gl (_ :: _ :: _) (bindP [_] _) σ) _ _
  rw [bindP1]
  have hl : (rows.map PV.str).length ≤ sizeLine := by rw [List.length_map]; omega
  have d1 : decide ((30 : Int) < (rows.length : Int)) = false := decide_eq_false (by omega)
  apply out_next
  · (simp (disch := first | assumption | decide | omega) only [zB, yc, zC, yM, yd, zl, yN, ye, yf, zD, zE, zm, zn, zF, yg, zo, zG, yh, zH, yi, zI, yj, zc, zJ, zK, yk, yl, zd, ym, yO, xx, yn, yo, zL, yp, zM, zp, zq, ze, zN, yq, zO, yr, zr, zf, zP, yt, zg, yu, zQ, zh, zt, yP, xy, yQ, yR, zu, yS, decide_eq_true_eq, beq_iff_eq, zR, zS, za, String.reduceEq, ↓reduceIte, yv, Glob.val?, xz, yT, yU, yV, yW, yX, yY, xA, xB, xC, xD, yZ, y0, y5, y6, y7, y8, yw, yx, yy, y9, xc, xd, zT, zU, xe, zV, zW, xf, xg, xh, xF, xG, xH, xI, xJ, xK, xL, xM, xi, xj, xk, xl, xm, xn, xo, xp, Glob.isB, and_self, and_true, true_and, zX, yz, yA, zY, Option.map_some, List.length_cons, List.length_nil, Nat.reduceAdd, Nat.zero_add, yB, yC, yD, yE, yF, yG, zb, yK, xr, xv, z9, xt, xu, xq, yI, yH, z0, zw, zZ, z8, xw, zz, zx, xE, z4, ya, z3, z6, z1, yb, z7, zj, z5, zy, zi, zA, z2, yL, yJ, zk, List.length_map, d1, Bool.not_true, Bool.false_eq_true]) <;> rfl
  refine out_cons (out_mono (out_for (R := fun u τ => u = .lst (rows.map .str) ∧ τ = σ) (for_lst (ds := rows.map .str) (σ₁ := σ) rfl ?_)
    (fun i ρ τ => τ = σ ∧ ρ (Str.ofString "rows") = some (.lst (rows.map .str)) ∧ ρ (Str.ofString "str") = none ∧ ρ (Str.ofString "MOST") = none ∧ ρ (Str.ofString "SIGNS") = none) ?_ ?_) ?_ fun _ _ h => h)
  · (simp (disch := first | assumption | decide | omega) only [zB, yc, zC, yM, yd, zl, yN, ye, yf, zD, zE, zm, zn, zF, yg, zo, zG, yh, zH, yi, zI, yj, zc, zJ, zK, yk, yl, zd, ym, yO, xx, yn, yo, zL, yp, zM, zp, zq, ze, zN, yq, zO, yr, zr, zf, zP, yt, zg, yu, zQ, zh, zt, yP, xy, yQ, yR, zu, yS, decide_eq_true_eq, beq_iff_eq, zR, zS, za, String.reduceEq, ↓reduceIte, yv, Glob.val?, xz, yT, yU, yV, yW, yX, yY, xA, xB, xC, xD, yZ, y0, y5, y6, y7, y8, yw, yx, yy, y9, xc, xd, zT, zU, xe, zV, zW, xf, xg, xh, xF, xG, xH, xI, xJ, xK, xL, xM, xi, xj, xk, xl, xm, xn, xo, xp, Glob.isB, and_self, and_true, true_and, zX, yz, yA, zY, Option.map_some, List.length_cons, List.length_nil, Nat.reduceAdd, Nat.zero_add, yB, yC, yD, yE, yF, yG, zb, yK, xr, xv, z9, xt, xu, xq, yI, yH, z0, zw, zZ, z8, xw, zz, zx, xE, z4, ya, z3, z6, z1, yb, z7, zj, z5, zy, zi, zA, z2, yL, yJ, zk]) <;> rfl
  · simp (disch := first | assumption | decide | omega) only [zB, yc, zC, yM, yd, zl, yN, ye, yf, zD, zE, zm, zn, zF, yg, zo, zG, yh, zH, yi, zI, yj, zc, zJ, zK, yk, yl, zd, ym, yO, xx, yn, yo, zL, yp, zM, zp, zq, ze, zN, yq, zO, yr, zr, zf, zP, yt, zg, yu, zQ, zh, zt, yP, xy, yQ, yR, zu, yS, decide_eq_true_eq, beq_iff_eq, zR, zS, za, String.reduceEq, ↓reduceIte, yv, Glob.val?, xz, yT, yU, yV, yW, yX, yY, xA, xB, xC, xD, yZ, y0, y5, y6, y7, y8, yw, yx, yy, y9, xc, xd, zT, zU, xe, zV, zW, xf, xg, xh, xF, xG, xH, xI, xJ, xK, xL, xM, xi, xj, xk, xl, xm, xn, xo, xp, Glob.isB, and_self, and_true, true_and, zX, yz, yA, zY, Option.map_some, List.length_cons, List.length_nil, Nat.reduceAdd, Nat.zero_add, yB, yC, yD, yE, yF, yG, zb, yK, xr, xv, z9, xt, xu, xq, yI, yH, z0, zw, zZ, z8, xw, zz, zx, xE, z4, ya, z3, z6, z1, yb, z7, zj, z5, zy, zi, zA, z2, yL, yJ, zk]
  · rintro i d ρ τ hd ⟨rfl, r1, n1, n2, n3⟩
    obtain ⟨x, hx, rfl⟩ := List.mem_map.mp (List.mem_of_getElem? hd)
    obtain ⟨hxl, hxc⟩ := hrow x hx
    cases rows with
    | nil => cases hx
    | cons r0 rs =>
      have h0 := (hrow r0 (.head _)).1
      refine ⟨_, rfl, ?_⟩
      rw [List.map_cons] at r1
      have lx : x.length ≤ sizeLine := by omega
      have l0 : r0.length ≤ sizeLine := by omega
      apply out_next
      · (simp (disch := first | assumption | decide | omega) only [zB, yc, zC, yM, yd, zl, yN, ye, yf, zD, zE, zm, zn, zF, yg, zo, zG, yh, zH, yi, zI, yj, zc, zJ, zK, yk, yl, zd, ym, yO, xx, yn, yo, zL, yp, zM, zp, zq, ze, zN, yq, zO, yr, zr, zf, zP, yt, zg, yu, zQ, zh, zt, yP, xy, yQ, yR, zu, yS, decide_eq_true_eq, beq_iff_eq, zR, zS, za, String.reduceEq, ↓reduceIte, yv, Glob.val?, xz, yT, yU, yV, yW, yX, yY, xA, xB, xC, xD, yZ, y0, y5, y6, y7, y8, yw, yx, yy, y9, xc, xd, zT, zU, xe, zV, zW, xf, xg, xh, xF, xG, xH, xI, xJ, xK, xL, xM, xi, xj, xk, xl, xm, xn, xo, xp, Glob.isB, and_self, and_true, true_and, zX, yz, yA, zY, Option.map_some, List.length_cons, List.length_nil, Nat.reduceAdd, Nat.zero_add, yB, yC, yD, yE, yF, yG, zb, yK, xr, xv, z9, xt, xu, xq, yI, yH, z0, zw, zZ, z8, xw, zz, zx, xE, z4, ya, z3, z6, z1, yb, z7, zj, z5, zy, zi, zA, z2, yL, yJ, zk, n1, Bool.not_true, Bool.false_eq_true]) <;> rfl
      have d2 : decide ((30 : Int) < (x.length : Int)) = false := decide_eq_false (by omega)
      have d3 : ((x.length : Int) == (r0.length : Int)) = true := by rw [hxl, h0]; simp
      apply out_next
      · (simp (disch := first | assumption | decide | omega) only [zB, yc, zC, yM, yd, zl, yN, ye, yf, zD, zE, zm, zn, zF, yg, zo, zG, yh, zH, yi, zI, yj, zc, zJ, zK, yk, yl, zd, ym, yO, xx, yn, yo, zL, yp, zM, zp, zq, ze, zN, yq, zO, yr, zr, zf, zP, yt, zg, yu, zQ, zh, zt, yP, xy, yQ, yR, zu, yS, decide_eq_true_eq, beq_iff_eq, zR, zS, za, String.reduceEq, ↓reduceIte, yv, Glob.val?, xz, yT, yU, yV, yW, yX, yY, xA, xB, xC, xD, yZ, y0, y5, y6, y7, y8, yw, yx, yy, y9, xc, xd, zT, zU, xe, zV, zW, xf, xg, xh, xF, xG, xH, xI, xJ, xK, xL, xM, xi, xj, xk, xl, xm, xn, xo, xp, Glob.isB, and_self, and_true, true_and, zX, yz, yA, zY, Option.map_some, List.length_cons, List.length_nil, Nat.reduceAdd, Nat.zero_add, yB, yC, yD, yE, yF, yG, zb, yK, xr, xv, z9, xt, xu, xq, yI, yH, z0, zw, zZ, z8, xw, zz, zx, xE, z4, ya, z3, z6, z1, yb, z7, zj, z5, zy, zi, zA, z2, yL, yJ, zk, r1, n2, d2, d3, Bool.not_true, Bool.false_eq_true]) <;> rfl
      refine out_cons (out_mono (out_for (R := fun u τ' => u = .lst (List.map PV.str (r0 :: rs)) ∧ τ' = τ) (for_str (y := x) (σ₁ := τ) rfl ?_)
        (fun j ρ τ' => τ' = τ ∧ ρ (Str.ofString "rows") = some (.lst (List.map PV.str (r0 :: rs))) ∧ ρ (Str.ofString "str") = none ∧ ρ (Str.ofString "MOST") = none ∧ ρ (Str.ofString "SIGNS") = none) ?_ ?_) ?_ fun _ _ h => h)
      · (simp (disch := first | assumption | decide | omega) only [zB, yc, zC, yM, yd, zl, yN, ye, yf, zD, zE, zm, zn, zF, yg, zo, zG, yh, zH, yi, zI, yj, zc, zJ, zK, yk, yl, zd, ym, yO, xx, yn, yo, zL, yp, zM, zp, zq, ze, zN, yq, zO, yr, zr, zf, zP, yt, zg, yu, zQ, zh, zt, yP, xy, yQ, yR, zu, yS, decide_eq_true_eq, beq_iff_eq, zR, zS, za, String.reduceEq, ↓reduceIte, yv, Glob.val?, xz, yT, yU, yV, yW, yX, yY, xA, xB, xC, xD, yZ, y0, y5, y6, y7, y8, yw, yx, yy, y9, xc, xd, zT, zU, xe, zV, zW, xf, xg, xh, xF, xG, xH, xI, xJ, xK, xL, xM, xi, xj, xk, xl, xm, xn, xo, xp, Glob.isB, and_self, and_true, true_and, zX, yz, yA, zY, Option.map_some, List.length_cons, List.length_nil, Nat.reduceAdd, Nat.zero_add, yB, yC, yD, yE, yF, yG, zb, yK, xr, xv, z9, xt, xu, xq, yI, yH, z0, zw, zZ, z8, xw, zz, zx, xE, z4, ya, z3, z6, z1, yb, z7, zj, z5, zy, zi, zA, z2, yL, yJ, zk]) <;> rfl
      · simp (disch := first | assumption | decide | omega) only [zB, yc, zC, yM, yd, zl, yN, ye, yf, zD, zE, zm, zn, zF, yg, zo, zG, yh, zH, yi, zI, yj, zc, zJ, zK, yk, yl, zd, ym, yO, xx, yn, yo, zL, yp, zM, zp, zq, ze, zN, yq, zO, yr, zr, zf, zP, yt, zg, yu, zQ, zh, zt, yP, xy, yQ, yR, zu, yS, decide_eq_true_eq, beq_iff_eq, zR, zS, za, String.reduceEq, ↓reduceIte, yv, Glob.val?, xz, yT, yU, yV, yW, yX, yY, xA, xB, xC, xD, yZ, y0, y5, y6, y7, y8, yw, yx, yy, y9, xc, xd, zT, zU, xe, zV, zW, xf, xg, xh, xF, xG, xH, xI, xJ, xK, xL, xM, xi, xj, xk, xl, xm, xn, xo, xp, Glob.isB, and_self, and_true, true_and, zX, yz, yA, zY, Option.map_some, List.length_cons, List.length_nil, Nat.reduceAdd, Nat.zero_add, yB, yC, yD, yE, yF, yG, zb, yK, xr, xv, z9, xt, xu, xq, yI, yH, z0, zw, zZ, z8, xw, zz, zx, xE, z4, ya, z3, z6, z1, yb, z7, zj, z5, zy, zi, zA, z2, yL, yJ, zk, r1, n1, n2, n3, List.map_cons]
      · rintro j d ρ τ' hd ⟨rfl, r2, n1, n2, n3⟩
        obtain ⟨c, hc, rfl⟩ := List.mem_map.mp (List.mem_of_getElem? hd)
        refine ⟨_, rfl, ?_⟩
        have oc := occ_ok (hxc c hc)
        apply out_next
        · (simp (disch := first | assumption | decide | omega) only [zB, yc, zC, yM, yd, zl, yN, ye, yf, zD, zE, zm, zn, zF, yg, zo, zG, yh, zH, yi, zI, yj, zc, zJ, zK, yk, yl, zd, ym, yO, xx, yn, yo, zL, yp, zM, zp, zq, ze, zN, yq, zO, yr, zr, zf, zP, yt, zg, yu, zQ, zh, zt, yP, xy, yQ, yR, zu, yS, decide_eq_true_eq, beq_iff_eq, zR, zS, za, String.reduceEq, ↓reduceIte, yv, Glob.val?, xz, yT, yU, yV, yW, yX, yY, xA, xB, xC, xD, yZ, y0, y5, y6, y7, y8, yw, yx, yy, y9, xc, xd, zT, zU, xe, zV, zW, xf, xg, xh, xF, xG, xH, xI, xJ, xK, xL, xM, xi, xj, xk, xl, xm, xn, xo, xp, Glob.isB, and_self, and_true, true_and, zX, yz, yA, zY, Option.map_some, List.length_cons, List.length_nil, Nat.reduceAdd, Nat.zero_add, yB, yC, yD, yE, yF, yG, zb, yK, xr, xv, z9, xt, xu, xq, yI, yH, z0, zw, zZ, z8, xw, zz, zx, xE, z4, ya, z3, z6, z1, yb, z7, zj, z5, zy, zi, zA, z2, yL, yJ, zk, n3, oc, Bool.not_true, Bool.not_false, Bool.false_eq_true]) <;> rfl
        refine out_nil ?_
        simp (disch := first | assumption | decide | omega) only [zB, yc, zC, yM, yd, zl, yN, ye, yf, zD, zE, zm, zn, zF, yg, zo, zG, yh, zH, yi, zI, yj, zc, zJ, zK, yk, yl, zd, ym, yO, xx, yn, yo, zL, yp, zM, zp, zq, ze, zN, yq, zO, yr, zr, zf, zP, yt, zg, yu, zQ, zh, zt, yP, xy, yQ, yR, zu, yS, decide_eq_true_eq, beq_iff_eq, zR, zS, za, String.reduceEq, ↓reduceIte, yv, Glob.val?, xz, yT, yU, yV, yW, yX, yY, xA, xB, xC, xD, yZ, y0, y5, y6, y7, y8, yw, yx, yy, y9, xc, xd, zT, zU, xe, zV, zW, xf, xg, xh, xF, xG, xH, xI, xJ, xK, xL, xM, xi, xj, xk, xl, xm, xn, xo, xp, Glob.isB, and_self, and_true, true_and, zX, yz, yA, zY, Option.map_some, List.length_cons, List.length_nil, Nat.reduceAdd, Nat.zero_add, yB, yC, yD, yE, yF, yG, zb, yK, xr, xv, z9, xt, xu, xq, yI, yH, z0, zw, zZ, z8, xw, zz, zx, xE, z4, ya, z3, z6, z1, yb, z7, zj, z5, zy, zi, zA, z2, yL, yJ, zk, r2, n1, n2, n3]
      · rintro ρ τ' ⟨rfl, r2, n⟩
        exact out_nil ⟨rfl, r2, n⟩
  · rintro ρ τ ⟨rfl, r1, _⟩
    apply out_ret
    · (simp (disch := first | assumption | decide | omega) only [zB, yc, zC, yM, yd, zl, yN, ye, yf, zD, zE, zm, zn, zF, yg, zo, zG, yh, zH, yi, zI, yj, zc, zJ, zK, yk, yl, zd, ym, yO, xx, yn, yo, zL, yp, zM, zp, zq, ze, zN, yq, zO, yr, zr, zf, zP, yt, zg, yu, zQ, zh, zt, yP, xy, yQ, yR, zu, yS, decide_eq_true_eq, beq_iff_eq, zR, zS, za, String.reduceEq, ↓reduceIte, yv, Glob.val?, xz, yT, yU, yV, yW, yX, yY, xA, xB, xC, xD, yZ, y0, y5, y6, y7, y8, yw, yx, yy, y9, xc, xd, zT, zU, xe, zV, zW, xf, xg, xh, xF, xG, xH, xI, xJ, xK, xL, xM, xi, xj, xk, xl, xm, xn, xo, xp, Glob.isB, and_self, and_true, true_and, zX, yz, yA, zY, Option.map_some, List.length_cons, List.length_nil, Nat.reduceAdd, Nat.zero_add, yB, yC, yD, yE, yF, yG, zb, yK, xr, xv, z9, xt, xu, xq, yI, yH, z0, zw, zZ, z8, xw, zz, zx, xE, z4, ya, z3, z6, z1, yb, z7, zj, z5, zy, zi, zA, z2, yL, yJ, zk, r1]) <;> rfl
    · exact ⟨rfl, rfl⟩

theorem cell_run {rows : List Str} {r c : Int} (hg : Good rows) : interpF Φ Gl (dOf pw "cell") [.lst (rows.map .str), .int r, .int c] σ = some (.bool (onB rows r c), σ) := by
  have hs := sz
  obtain ⟨h30, w, w30, hrow⟩ := hg
  refine run_eq (by kernel_rfl) ?_
  change Out (execSs Φ Gl (_ :: _ :: _) (bindP [_, _, _] _) σ) _ _
  rw [bindP3]
  have hl : (rows.map PV.str).length ≤ sizeLine := by rw [List.length_map]; omega
  by_cases a1 : r < 0
  · apply out_ret
    · (simp (disch := first | assumption | decide | omega) only [zB, yc, zC, yM, yd, zl, yN, ye, yf, zD, zE, zm, zn, zF, yg, zo, zG, yh, zH, yi, zI, yj, zc, zJ, zK, yk, yl, zd, ym, yO, xx, yn, yo, zL, yp, zM, zp, zq, ze, zN, yq, zO, yr, zr, zf, zP, yt, zg, yu, zQ, zh, zt, yP, xy, yQ, yR, zu, yS, decide_eq_true_eq, beq_iff_eq, zR, zS, za, String.reduceEq, ↓reduceIte, yv, Glob.val?, xz, yT, yU, yV, yW, yX, yY, xA, xB, xC, xD, yZ, y0, y5, y6, y7, y8, yw, yx, yy, y9, xc, xd, zT, zU, xe, zV, zW, xf, xg, xh, xF, xG, xH, xI, xJ, xK, xL, xM, xi, xj, xk, xl, xm, xn, xo, xp, Glob.isB, and_self, and_true, true_and, zX, yz, yA, zY, Option.map_some, List.length_cons, List.length_nil, Nat.reduceAdd, Nat.zero_add, yB, yC, yD, yE, yF, yG, zb, yK, xr, xv, z9, xt, xu, xq, yI, yH, z0, zw, zZ, z8, xw, zz, zx, xE, z4, ya, z3, z6, z1, yb, z7, zj, z5, zy, zi, zA, z2, yL, yJ, zk, a1]) <;> rfl
    · refine ⟨?_, rfl⟩
      unfold onB; rw [if_neg (by omega)]
  by_cases a2 : (rows.length : Int) ≤ r
  · apply out_ret
    · (simp (disch := first | assumption | decide | omega) only [zB, yc, zC, yM, yd, zl, yN, ye, yf, zD, zE, zm, zn, zF, yg, zo, zG, yh, zH, yi, zI, yj, zc, zJ, zK, yk, yl, zd, ym, yO, xx, yn, yo, zL, yp, zM, zp, zq, ze, zN, yq, zO, yr, zr, zf, zP, yt, zg, yu, zQ, zh, zt, yP, xy, yQ, yR, zu, yS, decide_eq_true_eq, beq_iff_eq, zR, zS, za, String.reduceEq, ↓reduceIte, yv, Glob.val?, xz, yT, yU, yV, yW, yX, yY, xA, xB, xC, xD, yZ, y0, y5, y6, y7, y8, yw, yx, yy, y9, xc, xd, zT, zU, xe, zV, zW, xf, xg, xh, xF, xG, xH, xI, xJ, xK, xL, xM, xi, xj, xk, xl, xm, xn, xo, xp, Glob.isB, and_self, and_true, true_and, zX, yz, yA, zY, Option.map_some, List.length_cons, List.length_nil, Nat.reduceAdd, Nat.zero_add, yB, yC, yD, yE, yF, yG, zb, yK, xr, xv, z9, xt, xu, xq, yI, yH, z0, zw, zZ, z8, xw, zz, zx, xE, z4, ya, z3, z6, z1, yb, z7, zj, z5, zy, zi, zA, z2, yL, yJ, zk, a1, a2, List.length_map]) <;> rfl
    · refine ⟨?_, rfl⟩
      unfold onB; rw [if_neg (by omega)]
  have hr0 : 0 ≤ r := by omega
  have hr1 : r < (rows.map PV.str).length := by rw [List.length_map]; omega
  have ht : r.toNat < rows.length := by omega
  have gx : (rows.map PV.str)[r.toNat]? = some (.str (rows[r.toNat]'ht)) := by rw [List.getElem?_map, List.getElem?_eq_getElem ht]; rfl
  have gd : rows.getD r.toNat ⟨#[]⟩ = rows[r.toNat]'ht := by simp [List.getD, List.getElem?_eq_getElem ht]
  have hx := (hrow _ (List.getElem_mem ht)).1
  have ob : onB rows r c = if 0 ≤ c ∧ c < (rows[r.toNat]'ht).length then (rows[r.toNat]'ht).cps.getD c.toNat 0 == 35 else false := by
    unfold onB; rw [if_pos ⟨hr0, by omega⟩, gd]
  generalize rows[r.toNat]'ht = x at *
  have lx : x.length ≤ sizeLine := by omega
  by_cases a3 : c < 0
  · apply out_ret
    · (simp (disch := first | assumption | decide | omega) only [zB, yc, zC, yM, yd, zl, yN, ye, yf, zD, zE, zm, zn, zF, yg, zo, zG, yh, zH, yi, zI, yj, zc, zJ, zK, yk, yl, zd, ym, yO, xx, yn, yo, zL, yp, zM, zp, zq, ze, zN, yq, zO, yr, zr, zf, zP, yt, zg, yu, zQ, zh, zt, yP, xy, yQ, yR, zu, yS, decide_eq_true_eq, beq_iff_eq, zR, zS, za, String.reduceEq, ↓reduceIte, yv, Glob.val?, xz, yT, yU, yV, yW, yX, yY, xA, xB, xC, xD, yZ, y0, y5, y6, y7, y8, yw, yx, yy, y9, xc, xd, zT, zU, xe, zV, zW, xf, xg, xh, xF, xG, xH, xI, xJ, xK, xL, xM, xi, xj, xk, xl, xm, xn, xo, xp, Glob.isB, and_self, and_true, true_and, zX, yz, yA, zY, Option.map_some, List.length_cons, List.length_nil, Nat.reduceAdd, Nat.zero_add, yB, yC, yD, yE, yF, yG, zb, yK, xr, xv, z9, xt, xu, xq, yI, yH, z0, zw, zZ, z8, xw, zz, zx, xE, z4, ya, z3, z6, z1, yb, z7, zj, z5, zy, zi, zA, z2, yL, yJ, zk, a1, a2, a3, List.length_map]) <;> rfl
    · refine ⟨?_, rfl⟩
      rw [ob, if_neg (by omega)]
  by_cases a4 : (x.length : Int) ≤ c
  · apply out_ret
    · (simp (disch := first | assumption | decide | omega) only [zB, yc, zC, yM, yd, zl, yN, ye, yf, zD, zE, zm, zn, zF, yg, zo, zG, yh, zH, yi, zI, yj, zc, zJ, zK, yk, yl, zd, ym, yO, xx, yn, yo, zL, yp, zM, zp, zq, ze, zN, yq, zO, yr, zr, zf, zP, yt, zg, yu, zQ, zh, zt, yP, xy, yQ, yR, zu, yS, decide_eq_true_eq, beq_iff_eq, zR, zS, za, String.reduceEq, ↓reduceIte, yv, Glob.val?, xz, yT, yU, yV, yW, yX, yY, xA, xB, xC, xD, yZ, y0, y5, y6, y7, y8, yw, yx, yy, y9, xc, xd, zT, zU, xe, zV, zW, xf, xg, xh, xF, xG, xH, xI, xJ, xK, xL, xM, xi, xj, xk, xl, xm, xn, xo, xp, Glob.isB, and_self, and_true, true_and, zX, yz, yA, zY, Option.map_some, List.length_cons, List.length_nil, Nat.reduceAdd, Nat.zero_add, yB, yC, yD, yE, yF, yG, zb, yK, xr, xv, z9, xt, xu, xq, yI, yH, z0, zw, zZ, z8, xw, zz, zx, xE, z4, ya, z3, z6, z1, yb, z7, zj, z5, zy, zi, zA, z2, yL, yJ, zk, a1, a2, a3, a4, List.length_map, gx]) <;> rfl
    · refine ⟨?_, rfl⟩
      rw [ob, if_neg (by omega)]
  have hc0 : 0 ≤ c := by omega
  have hc1 : c < x.length := by omega
  have hct : c.toNat < x.cps.size := by show c.toNat < x.length; omega
  apply out_next
  · (simp (disch := first | assumption | decide | omega) only [zB, yc, zC, yM, yd, zl, yN, ye, yf, zD, zE, zm, zn, zF, yg, zo, zG, yh, zH, yi, zI, yj, zc, zJ, zK, yk, yl, zd, ym, yO, xx, yn, yo, zL, yp, zM, zp, zq, ze, zN, yq, zO, yr, zr, zf, zP, yt, zg, yu, zQ, zh, zt, yP, xy, yQ, yR, zu, yS, decide_eq_true_eq, beq_iff_eq, zR, zS, za, String.reduceEq, ↓reduceIte, yv, Glob.val?, xz, yT, yU, yV, yW, yX, yY, xA, xB, xC, xD, yZ, y0, y5, y6, y7, y8, yw, yx, yy, y9, xc, xd, zT, zU, xe, zV, zW, xf, xg, xh, xF, xG, xH, xI, xJ, xK, xL, xM, xi, xj, xk, xl, xm, xn, xo, xp, Glob.isB, and_self, and_true, true_and, zX, yz, yA, zY, Option.map_some, List.length_cons, List.length_nil, Nat.reduceAdd, Nat.zero_add, yB, yC, yD, yE, yF, yG, zb, yK, xr, xv, z9, xt, xu, xq, yI, yH, z0, zw, zZ, z8, xw, zz, zx, xE, z4, ya, z3, z6, z1, yb, z7, zj, z5, zy, zi, zA, z2, yL, yJ, zk, a1, a2, a3, a4, List.length_map, gx]) <;> rfl
  apply out_ret
  · (simp (disch := first | assumption | decide | omega) only [zB, yc, zC, yM, yd, zl, yN, ye, yf, zD, zE, zm, zn, zF, yg, zo, zG, yh, zH, yi, zI, yj, zc, zJ, zK, yk, yl, zd, ym, yO, xx, yn, yo, zL, yp, zM, zp, zq, ze, zN, yq, zO, yr, zr, zf, zP, yt, zg, yu, zQ, zh, zt, yP, xy, yQ, yR, zu, yS, decide_eq_true_eq, beq_iff_eq, zR, zS, za, String.reduceEq, ↓reduceIte, yv, Glob.val?, xz, yT, yU, yV, yW, yX, yY, xA, xB, xC, xD, yZ, y0, y5, y6, y7, y8, yw, yx, yy, y9, xc, xd, zT, zU, xe, zV, zW, xf, xg, xh, xF, xG, xH, xI, xJ, xK, xL, xM, xi, xj, xk, xl, xm, xn, xo, xp, Glob.isB, and_self, and_true, true_and, zX, yz, yA, zY, Option.map_some, List.length_cons, List.length_nil, Nat.reduceAdd, Nat.zero_add, yB, yC, yD, yE, yF, yG, zb, yK, xr, xv, z9, xt, xu, xq, yI, yH, z0, zw, zZ, z8, xw, zz, zx, xE, z4, ya, z3, z6, z1, yb, z7, zj, z5, zy, zi, zA, z2, yL, yJ, zk, gx, Array.getElem?_eq_getElem hct, str_hash]) <;> rfl
  · refine ⟨?_, rfl⟩
    rw [ob, if_pos ⟨hc0, hc1⟩]
    simp [hct]

theorem on_run {rows : List Str} {i : Nat} {r c : Int} (hg : Good rows) (hσ : σ[i]? = some (.list (rows.map .str))) : interpF Φ Gl (dOf pw "_law_on") [.loc i, .int r, .int c] σ = some (.bool (onB rows r c), σ) := by
  have hs := sz
  obtain ⟨h30, w, w30, hrow⟩ := hg
  refine run_eq (by kernel_rfl) ?_
  change Out (execSs Φ Gl (_ :: _) (bindP [_, _, _] _) σ) _ _
  rw [bindP3]
  have hl : (rows.map PV.str).length ≤ sizeLine := by rw [List.length_map]; omega
  by_cases a1 : 0 ≤ r
  case neg =>
    apply out_ret
    · (simp (disch := first | assumption | decide | omega) only [zB, yc, zC, yM, yd, zl, yN, ye, yf, zD, zE, zm, zn, zF, yg, zo, zG, yh, zH, yi, zI, yj, zc, zJ, zK, yk, yl, zd, ym, yO, xx, yn, yo, zL, yp, zM, zp, zq, ze, zN, yq, zO, yr, zr, zf, zP, yt, zg, yu, zQ, zh, zt, yP, xy, yQ, yR, zu, yS, decide_eq_true_eq, beq_iff_eq, zR, zS, za, String.reduceEq, ↓reduceIte, yv, Glob.val?, xz, yT, yU, yV, yW, yX, yY, xA, xB, xC, xD, yZ, y0, y5, y6, y7, y8, yw, yx, yy, y9, xc, xd, zT, zU, xe, zV, zW, xf, xg, xh, xF, xG, xH, xI, xJ, xK, xL, xM, xi, xj, xk, xl, xm, xn, xo, xp, Glob.isB, and_self, and_true, true_and, zX, yz, yA, zY, Option.map_some, List.length_cons, List.length_nil, Nat.reduceAdd, Nat.zero_add, yB, yC, yD, yE, yF, yG, zb, yK, xr, xv, z9, xt, xu, xq, yI, yH, z0, zw, zZ, z8, xw, zz, zx, xE, z4, ya, z3, z6, z1, yb, z7, zj, z5, zy, zi, zA, z2, yL, yJ, zk, a1]) <;> rfl
    · refine ⟨?_, rfl⟩
      unfold onB; rw [if_neg (by omega)]
  by_cases a2 : r < (rows.length : Int)
  case neg =>
    apply out_ret
    · (simp (disch := first | assumption | decide | omega) only [zB, yc, zC, yM, yd, zl, yN, ye, yf, zD, zE, zm, zn, zF, yg, zo, zG, yh, zH, yi, zI, yj, zc, zJ, zK, yk, yl, zd, ym, yO, xx, yn, yo, zL, yp, zM, zp, zq, ze, zN, yq, zO, yr, zr, zf, zP, yt, zg, yu, zQ, zh, zt, yP, xy, yQ, yR, zu, yS, decide_eq_true_eq, beq_iff_eq, zR, zS, za, String.reduceEq, ↓reduceIte, yv, Glob.val?, xz, yT, yU, yV, yW, yX, yY, xA, xB, xC, xD, yZ, y0, y5, y6, y7, y8, yw, yx, yy, y9, xc, xd, zT, zU, xe, zV, zW, xf, xg, xh, xF, xG, xH, xI, xJ, xK, xL, xM, xi, xj, xk, xl, xm, xn, xo, xp, Glob.isB, and_self, and_true, true_and, zX, yz, yA, zY, Option.map_some, List.length_cons, List.length_nil, Nat.reduceAdd, Nat.zero_add, yB, yC, yD, yE, yF, yG, zb, yK, xr, xv, z9, xt, xu, xq, yI, yH, z0, zw, zZ, z8, xw, zz, zx, xE, z4, ya, z3, z6, z1, yb, z7, zj, z5, zy, zi, zA, z2, yL, yJ, zk, a1, a2, List.length_map, yy hσ hl]) <;> rfl
    · refine ⟨?_, rfl⟩
      unfold onB; rw [if_neg (by omega)]
  have hr1 : r < (rows.map PV.str).length := by rw [List.length_map]; omega
  have ht : r.toNat < rows.length := by omega
  have gx : (rows.map PV.str)[r.toNat]? = some (.str (rows[r.toNat]'ht)) := by rw [List.getElem?_map, List.getElem?_eq_getElem ht]; rfl
  have gd : rows.getD r.toNat ⟨#[]⟩ = rows[r.toNat]'ht := by simp [List.getD, List.getElem?_eq_getElem ht]
  have hx := (hrow _ (List.getElem_mem ht)).1
  have ob : onB rows r c = if 0 ≤ c ∧ c < (rows[r.toNat]'ht).length then (rows[r.toNat]'ht).cps.getD c.toNat 0 == 35 else false := by
    unfold onB; rw [if_pos ⟨a1, by omega⟩, gd]
  generalize rows[r.toNat]'ht = x at *
  have lx : x.length ≤ sizeLine := by omega
  have kl := yy hσ hl
  have sl := xj hσ a1 hr1 hl
  by_cases a3 : 0 ≤ c
  case neg =>
    apply out_ret
    · (simp (disch := first | assumption | decide | omega) only [zB, yc, zC, yM, yd, zl, yN, ye, yf, zD, zE, zm, zn, zF, yg, zo, zG, yh, zH, yi, zI, yj, zc, zJ, zK, yk, yl, zd, ym, yO, xx, yn, yo, zL, yp, zM, zp, zq, ze, zN, yq, zO, yr, zr, zf, zP, yt, zg, yu, zQ, zh, zt, yP, xy, yQ, yR, zu, yS, decide_eq_true_eq, beq_iff_eq, zR, zS, za, String.reduceEq, ↓reduceIte, yv, Glob.val?, xz, yT, yU, yV, yW, yX, yY, xA, xB, xC, xD, yZ, y0, y5, y6, y7, y8, yw, yx, yy, y9, xc, xd, zT, zU, xe, zV, zW, xf, xg, xh, xF, xG, xH, xI, xJ, xK, xL, xM, xi, xj, xk, xl, xm, xn, xo, xp, Glob.isB, and_self, and_true, true_and, zX, yz, yA, zY, Option.map_some, List.length_cons, List.length_nil, Nat.reduceAdd, Nat.zero_add, yB, yC, yD, yE, yF, yG, zb, yK, xr, xv, z9, xt, xu, xq, yI, yH, z0, zw, zZ, z8, xw, zz, zx, xE, z4, ya, z3, z6, z1, yb, z7, zj, z5, zy, zi, zA, z2, yL, yJ, zk, a1, a2, a3, List.length_map, kl]) <;> rfl
    · refine ⟨?_, rfl⟩
      rw [ob, if_neg (by omega)]
  by_cases a4 : c < (x.length : Int)
  case neg =>
    apply out_ret
    · (simp (disch := first | assumption | decide | omega) only [zB, yc, zC, yM, yd, zl, yN, ye, yf, zD, zE, zm, zn, zF, yg, zo, zG, yh, zH, yi, zI, yj, zc, zJ, zK, yk, yl, zd, ym, yO, xx, yn, yo, zL, yp, zM, zp, zq, ze, zN, yq, zO, yr, zr, zf, zP, yt, zg, yu, zQ, zh, zt, yP, xy, yQ, yR, zu, yS, decide_eq_true_eq, beq_iff_eq, zR, zS, za, String.reduceEq, ↓reduceIte, yv, Glob.val?, xz, yT, yU, yV, yW, yX, yY, xA, xB, xC, xD, yZ, y0, y5, y6, y7, y8, yw, yx, yy, y9, xc, xd, zT, zU, xe, zV, zW, xf, xg, xh, xF, xG, xH, xI, xJ, xK, xL, xM, xi, xj, xk, xl, xm, xn, xo, xp, Glob.isB, and_self, and_true, true_and, zX, yz, yA, zY, Option.map_some, List.length_cons, List.length_nil, Nat.reduceAdd, Nat.zero_add, yB, yC, yD, yE, yF, yG, zb, yK, xr, xv, z9, xt, xu, xq, yI, yH, z0, zw, zZ, z8, xw, zz, zx, xE, z4, ya, z3, z6, z1, yb, z7, zj, z5, zy, zi, zA, z2, yL, yJ, zk, a1, a2, a3, a4, List.length_map, gx, kl, sl]) <;> rfl
    · refine ⟨?_, rfl⟩
      rw [ob, if_neg (by omega)]
  have hct : c.toNat < x.cps.size := by show c.toNat < x.length; omega
  apply out_ret
  · (simp (disch := first | assumption | decide | omega) only [zB, yc, zC, yM, yd, zl, yN, ye, yf, zD, zE, zm, zn, zF, yg, zo, zG, yh, zH, yi, zI, yj, zc, zJ, zK, yk, yl, zd, ym, yO, xx, yn, yo, zL, yp, zM, zp, zq, ze, zN, yq, zO, yr, zr, zf, zP, yt, zg, yu, zQ, zh, zt, yP, xy, yQ, yR, zu, yS, decide_eq_true_eq, beq_iff_eq, zR, zS, za, String.reduceEq, ↓reduceIte, yv, Glob.val?, xz, yT, yU, yV, yW, yX, yY, xA, xB, xC, xD, yZ, y0, y5, y6, y7, y8, yw, yx, yy, y9, xc, xd, zT, zU, xe, zV, zW, xf, xg, xh, xF, xG, xH, xI, xJ, xK, xL, xM, xi, xj, xk, xl, xm, xn, xo, xp, Glob.isB, and_self, and_true, true_and, zX, yz, yA, zY, Option.map_some, List.length_cons, List.length_nil, Nat.reduceAdd, Nat.zero_add, yB, yC, yD, yE, yF, yG, zb, yK, xr, xv, z9, xt, xu, xq, yI, yH, z0, zw, zZ, z8, xw, zz, zx, xE, z4, ya, z3, z6, z1, yb, z7, zj, z5, zy, zi, zA, z2, yL, yJ, zk, a1, a2, a3, a4, List.length_map, gx, kl, sl, Array.getElem?_eq_getElem hct, str_hash]) <;> rfl
  · refine ⟨?_, rfl⟩
    rw [ob, if_pos ⟨a3, a4⟩]
    simp [hct]
end
end Mine

set_option maxRecDepth 100000
namespace Mine
open PySem PySem.Spec PyProof.Rows PySem.Challenge

/-! points -/
noncomputable def tup2 (p : Int × Int) : PV := .tup [.int p.1, .int p.2]
noncomputable def rowPts (f : Int → Int → Bool) (r m : Nat) : List (Int × Int) := ((List.range m).filter fun (c : Nat) => f (r : Int) (c : Int)).map fun (c : Nat) => ((r : Int), (c : Int))
noncomputable def allPts (f : Int → Int → Bool) (n m : Nat) : List (Int × Int) := (List.range n).flatMap fun r => rowPts f r m
theorem rowPts_succ (f : Int → Int → Bool) (r m : Nat) : rowPts f r (m + 1) = rowPts f r m ++ (if f r m then [((r : Int), (m : Int))] else []) := by
  simp only [rowPts, List.range_succ, List.filter_append, List.map_append]
  by_cases h : f r m = true <;> simp [h]
theorem allPts_succ (f : Int → Int → Bool) (n m : Nat) : allPts f (n + 1) m = allPts f n m ++ rowPts f n m := by
  simp [allPts, List.range_succ]
theorem rowPts_len (f : Int → Int → Bool) (r m : Nat) : (rowPts f r m).length ≤ m := by
  simp only [rowPts, List.length_map]
  exact Nat.le_trans (List.length_filter_le _ _) (by simp)
theorem allPts_len (f : Int → Int → Bool) (m : Nat) : ∀ n, (allPts f n m).length ≤ n * m
  | 0 => by simp [allPts]
  | n + 1 => by
    have := allPts_len f m n
    have := rowPts_len f n m
    rw [allPts_succ, List.length_append, Nat.succ_mul]; omega
noncomputable def wideOf : List Str → Nat
  | [] => 0
  | r :: _ => r.length
noncomputable def aroundN (rows : List Str) (r c : Int) : Int := (([onB rows (r - 1) (c - 1), onB rows (r - 1) c, onB rows r (c - 1), onB rows r c].count true : Nat) : Int)
noncomputable def ptsOf (rows : List Str) (many : Int) : List (Int × Int) := allPts (fun r c => aroundN rows r c == many) (rows.length + 1) (wideOf rows + 1)
theorem wideOf_le {rows : List Str} (hg : Good rows) : wideOf rows ≤ 30 := by
  obtain ⟨h30, w, w30, hrow⟩ := hg
  cases rows with
  | nil => exact Nat.zero_le _
  | cons r rs => have := (hrow r (.head _)).1; show r.length ≤ 30; omega
theorem ptsOf_len {rows : List Str} (hg : Good rows) (many : Int) : (ptsOf rows many).length ≤ 961 := by
  have h1 := wideOf_le hg
  have h2 := hg.1
  refine Nat.le_trans (allPts_len _ _ _) (Nat.le_trans (Nat.mul_le_mul (show _ ≤ 31 by omega) (show _ ≤ 31 by omega)) (by decide))
theorem sum4 (a b c d : Bool) : (0 : Int) + (if a then 1 else 0) + (if b then 1 else 0) + (if c then 1 else 0) + (if d then 1 else 0) = (([a, b, c, d].count true : Nat) : Int) := by
  cases a <;> cases b <;> cases c <;> cases d <;> rfl
theorem c_eqnil {σ : Store} {rows : List Str} {w : Nat} (h : ∀ r ∈ rows, Row w r) : cmpP σ .Eq (.lst (rows.map .str)) (.lst []) = some (.bool rows.isEmpty) := by
  have e : eqP σ (.lst (rows.map .str)) (.lst []) = some rows.isEmpty := by
    show (match datP σ (.lst (rows.map .str)), datP σ (.lst []) with | some x, some y => if shapedP x && shapedP y then some (PyData.eqv x y) else none | _, _ => none) = _
    rw [show datP σ (.lst (rows.map .str)) = (datsOf (rows.map .str)).map .list from rfl, dats_strs]
    show (if shapedP (.list (rows.map PyData.str)) && shapedP (.list []) then _ else none) = _
    rw [shaped_strs h, show shapedP (.list []) = true from rfl]
    cases rows <;> rfl
  show (eqP σ _ _).map PV.bool = _
  rw [e]; rfl
section
variable {Φ : Fns} {σ : Store}
theorem wide_run {rows : List Str} (hg : Good rows) : interpF Φ Gl (dOf pw "wide") [.lst (rows.map .str)] σ = some (.int (wideOf rows), σ) := by
  have hs := sz
  have hg' := hg
  obtain ⟨h30, w, w30, hrow⟩ := hg
  refine run_eq (by kernel_rfl) ?_
  change Out (execSs Φ Gl (_ :: _ :: _) (bindP [_] _) σ) _ _
  rw [bindP1]
  have ce := c_eqnil (σ := σ) hrow
  cases rows with
  | nil =>
    apply out_ret
    · (simp (disch := first | assumption | decide | omega) only [zB, yc, zC, yM, yd, zl, yN, ye, yf, zD, zE, zm, zn, zF, yg, zo, zG, yh, zH, yi, zI, yj, zc, zJ, zK, yk, yl, zd, ym, yO, xx, yn, yo, zL, yp, zM, zp, zq, ze, zN, yq, zO, yr, zr, zf, zP, yt, zg, yu, zQ, zh, zt, yP, xy, yQ, yR, zu, yS, decide_eq_true_eq, beq_iff_eq, zR, zS, za, String.reduceEq, ↓reduceIte, yv, Glob.val?, xz, yT, yU, yV, yW, yX, yY, xA, xB, xC, xD, yZ, y0, y5, y6, y7, y8, yw, yx, yy, y9, xc, xd, zT, zU, xe, zV, zW, xf, xg, xh, xF, xG, xH, xI, xJ, xK, xL, xM, xi, xj, xk, xl, xm, xn, xo, xp, Glob.isB, and_self, and_true, true_and, zX, yz, yA, zY, Option.map_some, List.length_cons, List.length_nil, Nat.reduceAdd, Nat.zero_add, yB, yC, yD, yE, yF, yG, zb, yK, xr, xv, z9, xt, xu, xq, yI, yH, z0, zw, zZ, z8, xw, zz, zx, xE, z4, ya, z3, z6, z1, yb, z7, zj, z5, zy, zi, zA, z2, yL, yJ, zk, ce, List.map_nil, List.isEmpty_nil]) <;> rfl
    · exact ⟨rfl, rfl⟩
  | cons r rs =>
    have lr : r.length ≤ sizeLine := by have := wideOf_le hg'; simp only [wideOf] at this; omega
    rw [List.map_cons] at *
    apply out_next
    · (simp (disch := first | assumption | decide | omega) only [zB, yc, zC, yM, yd, zl, yN, ye, yf, zD, zE, zm, zn, zF, yg, zo, zG, yh, zH, yi, zI, yj, zc, zJ, zK, yk, yl, zd, ym, yO, xx, yn, yo, zL, yp, zM, zp, zq, ze, zN, yq, zO, yr, zr, zf, zP, yt, zg, yu, zQ, zh, zt, yP, xy, yQ, yR, zu, yS, decide_eq_true_eq, beq_iff_eq, zR, zS, za, String.reduceEq, ↓reduceIte, yv, Glob.val?, xz, yT, yU, yV, yW, yX, yY, xA, xB, xC, xD, yZ, y0, y5, y6, y7, y8, yw, yx, yy, y9, xc, xd, zT, zU, xe, zV, zW, xf, xg, xh, xF, xG, xH, xI, xJ, xK, xL, xM, xi, xj, xk, xl, xm, xn, xo, xp, Glob.isB, and_self, and_true, true_and, zX, yz, yA, zY, Option.map_some, List.length_cons, List.length_nil, Nat.reduceAdd, Nat.zero_add, yB, yC, yD, yE, yF, yG, zb, yK, xr, xv, z9, xt, xu, xq, yI, yH, z0, zw, zZ, z8, xw, zz, zx, xE, z4, ya, z3, z6, z1, yb, z7, zj, z5, zy, zi, zA, z2, yL, yJ, zk, ce, List.isEmpty_cons, Bool.false_eq_true]) <;> rfl
    apply out_ret
    · (simp (disch := first | assumption | decide | omega) only [zB, yc, zC, yM, yd, zl, yN, ye, yf, zD, zE, zm, zn, zF, yg, zo, zG, yh, zH, yi, zI, yj, zc, zJ, zK, yk, yl, zd, ym, yO, xx, yn, yo, zL, yp, zM, zp, zq, ze, zN, yq, zO, yr, zr, zf, zP, yt, zg, yu, zQ, zh, zt, yP, xy, yQ, yR, zu, yS, decide_eq_true_eq, beq_iff_eq, zR, zS, za, String.reduceEq, ↓reduceIte, yv, Glob.val?, xz, yT, yU, yV, yW, yX, yY, xA, xB, xC, xD, yZ, y0, y5, y6, y7, y8, yw, yx, yy, y9, xc, xd, zT, zU, xe, zV, zW, xf, xg, xh, xF, xG, xH, xI, xJ, xK, xL, xM, xi, xj, xk, xl, xm, xn, xo, xp, Glob.isB, and_self, and_true, true_and, zX, yz, yA, zY, Option.map_some, List.length_cons, List.length_nil, Nat.reduceAdd, Nat.zero_add, yB, yC, yD, yE, yF, yG, zb, yK, xr, xv, z9, xt, xu, xq, yI, yH, z0, zw, zZ, z8, xw, zz, zx, xE, z4, ya, z3, z6, z1, yb, z7, zj, z5, zy, zi, zA, z2, yL, yJ, zk]) <;> rfl
    · exact ⟨rfl, rfl⟩

theorem whole_run {i : Int} : interpF Φ Gl (dOf pw "_law_whole") [.int i] σ = some (.bool true, σ) := by
  refine run_eq (by kernel_rfl) ?_
  change Out (execSs Φ Gl (_ :: _) (bindP [_] _) σ) _ _
  rw [bindP1]
  apply out_ret
  · (simp (disch := first | assumption | decide | omega) only [zB, yc, zC, yM, yd, zl, yN, ye, yf, zD, zE, zm, zn, zF, yg, zo, zG, yh, zH, yi, zI, yj, zc, zJ, zK, yk, yl, zd, ym, yO, xx, yn, yo, zL, yp, zM, zp, zq, ze, zN, yq, zO, yr, zr, zf, zP, yt, zg, yu, zQ, zh, zt, yP, xy, yQ, yR, zu, yS, decide_eq_true_eq, beq_iff_eq, zR, zS, za, String.reduceEq, ↓reduceIte, yv, Glob.val?, xz, yT, yU, yV, yW, yX, yY, xA, xB, xC, xD, yZ, y0, y5, y6, y7, y8, yw, yx, yy, y9, xc, xd, zT, zU, xe, zV, zW, xf, xg, xh, xF, xG, xH, xI, xJ, xK, xL, xM, xi, xj, xk, xl, xm, xn, xo, xp, Glob.isB, and_self, and_true, true_and, zX, yz, yA, zY, Option.map_some, List.length_cons, List.length_nil, Nat.reduceAdd, Nat.zero_add, yB, yC, yD, yE, yF, yG, zb, yK, xr, xv, z9, xt, xu, xq, yI, yH, z0, zw, zZ, z8, xw, zz, zx, xE, z4, ya, z3, z6, z1, yb, z7, zj, z5, zy, zi, zA, z2, yL, yJ, zk, Bool.not_false]) <;> rfl
  · exact ⟨rfl, rfl⟩

section
variable (hon : ∀ (rows : List Str) (i : Nat) (r c : Int) (σ : Store), Good rows → σ[i]? = some (.list (rows.map .str)) → Φ (Str.ofString "_law_on") [.loc i, .int r, .int c] σ = some (.bool (onB rows r c), σ))
include hon
theorem law_around_run {rows : List Str} {i : Nat} {r c : Int} (hg : Good rows) (hσ : σ[i]? = some (.list (rows.map .str))) : interpF Φ Gl (dOf pw "_law_around") [.loc i, .int r, .int c] σ = some (.int (aroundN rows r c), σ) := by
  have hs := sz
  refine run_eq (by kernel_rfl) ?_
  change Out (execSs Φ Gl (_ :: _ :: _ :: _) (bindP [_, _, _] _) σ) _ _
  rw [bindP3]
  have e := fun r c => hon rows i r c σ hg hσ
  apply out_next
  · (simp (disch := first | assumption | decide | omega) only [zB, yc, zC, yM, yd, zl, yN, ye, yf, zD, zE, zm, zn, zF, yg, zo, zG, yh, zH, yi, zI, yj, zc, zJ, zK, yk, yl, zd, ym, yO, xx, yn, yo, zL, yp, zM, zp, zq, ze, zN, yq, zO, yr, zr, zf, zP, yt, zg, yu, zQ, zh, zt, yP, xy, yQ, yR, zu, yS, decide_eq_true_eq, beq_iff_eq, zR, zS, za, String.reduceEq, ↓reduceIte, yv, Glob.val?, xz, yT, yU, yV, yW, yX, yY, xA, xB, xC, xD, yZ, y0, y5, y6, y7, y8, yw, yx, yy, y9, xc, xd, zT, zU, xe, zV, zW, xf, xg, xh, xF, xG, xH, xI, xJ, xK, xL, xM, xi, xj, xk, xl, xm, xn, xo, xp, Glob.isB, and_self, and_true, true_and, zX, yz, yA, zY, Option.map_some, List.length_cons, List.length_nil, Nat.reduceAdd, Nat.zero_add, yB, yC, yD, yE, yF, yG, zb, yK, xr, xv, z9, xt, xu, xq, yI, yH, z0, zw, zZ, z8, xw, zz, zx, xE, z4, ya, z3, z6, z1, yb, z7, zj, z5, zy, zi, zA, z2, yL, yJ, zk]) <;> rfl
  let ps : List (Int × Int) := [(r - 1, c - 1), (r - 1, c), (r, c - 1), (r, c)]
  let acc : Nat → Int := fun k => ((ps.take k).map fun p => if onB rows p.1 p.2 then (1 : Int) else 0).foldl (· + ·) 0
  refine out_cons (out_mono (out_for (R := fun u τ => u = .int (aroundN rows r c) ∧ τ = σ)
    (for_lst (ds := ps.map fun p => .tup [.int p.1, .int p.2]) (σ₁ := σ) rfl ?_)
    (fun k ρ τ => τ = σ ∧ ρ (Str.ofString "_law_rows") = some (.loc i) ∧ ρ (Str.ofString "_law_found") = some (.int (acc k))) ?_ ?_) ?_ fun _ _ h => h)
  · (simp (disch := first | assumption | decide | omega) only [zB, yc, zC, yM, yd, zl, yN, ye, yf, zD, zE, zm, zn, zF, yg, zo, zG, yh, zH, yi, zI, yj, zc, zJ, zK, yk, yl, zd, ym, yO, xx, yn, yo, zL, yp, zM, zp, zq, ze, zN, yq, zO, yr, zr, zf, zP, yt, zg, yu, zQ, zh, zt, yP, xy, yQ, yR, zu, yS, decide_eq_true_eq, beq_iff_eq, zR, zS, za, String.reduceEq, ↓reduceIte, yv, Glob.val?, xz, yT, yU, yV, yW, yX, yY, xA, xB, xC, xD, yZ, y0, y5, y6, y7, y8, yw, yx, yy, y9, xc, xd, zT, zU, xe, zV, zW, xf, xg, xh, xF, xG, xH, xI, xJ, xK, xL, xM, xi, xj, xk, xl, xm, xn, xo, xp, Glob.isB, and_self, and_true, true_and, zX, yz, yA, zY, Option.map_some, List.length_cons, List.length_nil, Nat.reduceAdd, Nat.zero_add, yB, yC, yD, yE, yF, yG, zb, yK, xr, xv, z9, xt, xu, xq, yI, yH, z0, zw, zZ, z8, xw, zz, zx, xE, z4, ya, z3, z6, z1, yb, z7, zj, z5, zy, zi, zA, z2, yL, yJ, zk]) <;> rfl
  · refine ⟨rfl, ?_, ?_⟩
    · simp (disch := first | assumption | decide | omega) only [zB, yc, zC, yM, yd, zl, yN, ye, yf, zD, zE, zm, zn, zF, yg, zo, zG, yh, zH, yi, zI, yj, zc, zJ, zK, yk, yl, zd, ym, yO, xx, yn, yo, zL, yp, zM, zp, zq, ze, zN, yq, zO, yr, zr, zf, zP, yt, zg, yu, zQ, zh, zt, yP, xy, yQ, yR, zu, yS, decide_eq_true_eq, beq_iff_eq, zR, zS, za, String.reduceEq, ↓reduceIte, yv, Glob.val?, xz, yT, yU, yV, yW, yX, yY, xA, xB, xC, xD, yZ, y0, y5, y6, y7, y8, yw, yx, yy, y9, xc, xd, zT, zU, xe, zV, zW, xf, xg, xh, xF, xG, xH, xI, xJ, xK, xL, xM, xi, xj, xk, xl, xm, xn, xo, xp, Glob.isB, and_self, and_true, true_and, zX, yz, yA, zY, Option.map_some, List.length_cons, List.length_nil, Nat.reduceAdd, Nat.zero_add, yB, yC, yD, yE, yF, yG, zb, yK, xr, xv, z9, xt, xu, xq, yI, yH, z0, zw, zZ, z8, xw, zz, zx, xE, z4, ya, z3, z6, z1, yb, z7, zj, z5, zy, zi, zA, z2, yL, yJ, zk]
    · simp (disch := first | assumption | decide | omega) only [zB, yc, zC, yM, yd, zl, yN, ye, yf, zD, zE, zm, zn, zF, yg, zo, zG, yh, zH, yi, zI, yj, zc, zJ, zK, yk, yl, zd, ym, yO, xx, yn, yo, zL, yp, zM, zp, zq, ze, zN, yq, zO, yr, zr, zf, zP, yt, zg, yu, zQ, zh, zt, yP, xy, yQ, yR, zu, yS, decide_eq_true_eq, beq_iff_eq, zR, zS, za, String.reduceEq, ↓reduceIte, yv, Glob.val?, xz, yT, yU, yV, yW, yX, yY, xA, xB, xC, xD, yZ, y0, y5, y6, y7, y8, yw, yx, yy, y9, xc, xd, zT, zU, xe, zV, zW, xf, xg, xh, xF, xG, xH, xI, xJ, xK, xL, xM, xi, xj, xk, xl, xm, xn, xo, xp, Glob.isB, and_self, and_true, true_and, zX, yz, yA, zY, Option.map_some, List.length_cons, List.length_nil, Nat.reduceAdd, Nat.zero_add, yB, yC, yD, yE, yF, yG, zb, yK, xr, xv, z9, xt, xu, xq, yI, yH, z0, zw, zZ, z8, xw, zz, zx, xE, z4, ya, z3, z6, z1, yb, z7, zj, z5, zy, zi, zA, z2, yL, yJ, zk]; rfl
  · rintro k d ρ τ hd ⟨rfl, r1, r2⟩
    rw [List.getElem?_map] at hd
    obtain ⟨p, hp, rfl⟩ := Option.map_eq_some_iff.mp hd
    refine ⟨_, rfl, ?_⟩
    apply out_next
    · (simp (disch := first | assumption | decide | omega) only [zB, yc, zC, yM, yd, zl, yN, ye, yf, zD, zE, zm, zn, zF, yg, zo, zG, yh, zH, yi, zI, yj, zc, zJ, zK, yk, yl, zd, ym, yO, xx, yn, yo, zL, yp, zM, zp, zq, ze, zN, yq, zO, yr, zr, zf, zP, yt, zg, yu, zQ, zh, zt, yP, xy, yQ, yR, zu, yS, decide_eq_true_eq, beq_iff_eq, zR, zS, za, String.reduceEq, ↓reduceIte, yv, Glob.val?, xz, yT, yU, yV, yW, yX, yY, xA, xB, xC, xD, yZ, y0, y5, y6, y7, y8, yw, yx, yy, y9, xc, xd, zT, zU, xe, zV, zW, xf, xg, xh, xF, xG, xH, xI, xJ, xK, xL, xM, xi, xj, xk, xl, xm, xn, xo, xp, Glob.isB, and_self, and_true, true_and, zX, yz, yA, zY, Option.map_some, List.length_cons, List.length_nil, Nat.reduceAdd, Nat.zero_add, yB, yC, yD, yE, yF, yG, zb, yK, xr, xv, z9, xt, xu, xq, yI, yH, z0, zw, zZ, z8, xw, zz, zx, xE, z4, ya, z3, z6, z1, yb, z7, zj, z5, zy, zi, zA, z2, yL, yJ, zk, r1, r2, e]) <;> rfl
    refine out_nil ⟨rfl, ?_, ?_⟩
    · simp (disch := first | assumption | decide | omega) only [zB, yc, zC, yM, yd, zl, yN, ye, yf, zD, zE, zm, zn, zF, yg, zo, zG, yh, zH, yi, zI, yj, zc, zJ, zK, yk, yl, zd, ym, yO, xx, yn, yo, zL, yp, zM, zp, zq, ze, zN, yq, zO, yr, zr, zf, zP, yt, zg, yu, zQ, zh, zt, yP, xy, yQ, yR, zu, yS, decide_eq_true_eq, beq_iff_eq, zR, zS, za, String.reduceEq, ↓reduceIte, yv, Glob.val?, xz, yT, yU, yV, yW, yX, yY, xA, xB, xC, xD, yZ, y0, y5, y6, y7, y8, yw, yx, yy, y9, xc, xd, zT, zU, xe, zV, zW, xf, xg, xh, xF, xG, xH, xI, xJ, xK, xL, xM, xi, xj, xk, xl, xm, xn, xo, xp, Glob.isB, and_self, and_true, true_and, zX, yz, yA, zY, Option.map_some, List.length_cons, List.length_nil, Nat.reduceAdd, Nat.zero_add, yB, yC, yD, yE, yF, yG, zb, yK, xr, xv, z9, xt, xu, xq, yI, yH, z0, zw, zZ, z8, xw, zz, zx, xE, z4, ya, z3, z6, z1, yb, z7, zj, z5, zy, zi, zA, z2, yL, yJ, zk, r1]
    · have : ps.take (k + 1) = ps.take k ++ [p] := by rw [List.take_add_one, hp]; rfl
      simp (disch := first | assumption | decide | omega) only [zB, yc, zC, yM, yd, zl, yN, ye, yf, zD, zE, zm, zn, zF, yg, zo, zG, yh, zH, yi, zI, yj, zc, zJ, zK, yk, yl, zd, ym, yO, xx, yn, yo, zL, yp, zM, zp, zq, ze, zN, yq, zO, yr, zr, zf, zP, yt, zg, yu, zQ, zh, zt, yP, xy, yQ, yR, zu, yS, decide_eq_true_eq, beq_iff_eq, zR, zS, za, String.reduceEq, ↓reduceIte, yv, Glob.val?, xz, yT, yU, yV, yW, yX, yY, xA, xB, xC, xD, yZ, y0, y5, y6, y7, y8, yw, yx, yy, y9, xc, xd, zT, zU, xe, zV, zW, xf, xg, xh, xF, xG, xH, xI, xJ, xK, xL, xM, xi, xj, xk, xl, xm, xn, xo, xp, Glob.isB, and_self, and_true, true_and, zX, yz, yA, zY, Option.map_some, List.length_cons, List.length_nil, Nat.reduceAdd, Nat.zero_add, yB, yC, yD, yE, yF, yG, zb, yK, xr, xv, z9, xt, xu, xq, yI, yH, z0, zw, zZ, z8, xw, zz, zx, xE, z4, ya, z3, z6, z1, yb, z7, zj, z5, zy, zi, zA, z2, yL, yJ, zk]
      show some (PV.int _) = some (PV.int (((ps.take (k + 1)).map _).foldl _ 0))
      rw [this, List.map_append, List.foldl_append]; rfl
  · rintro ρ τ ⟨rfl, r1, r2⟩
    apply out_ret
    · (simp (disch := first | assumption | decide | omega) only [zB, yc, zC, yM, yd, zl, yN, ye, yf, zD, zE, zm, zn, zF, yg, zo, zG, yh, zH, yi, zI, yj, zc, zJ, zK, yk, yl, zd, ym, yO, xx, yn, yo, zL, yp, zM, zp, zq, ze, zN, yq, zO, yr, zr, zf, zP, yt, zg, yu, zQ, zh, zt, yP, xy, yQ, yR, zu, yS, decide_eq_true_eq, beq_iff_eq, zR, zS, za, String.reduceEq, ↓reduceIte, yv, Glob.val?, xz, yT, yU, yV, yW, yX, yY, xA, xB, xC, xD, yZ, y0, y5, y6, y7, y8, yw, yx, yy, y9, xc, xd, zT, zU, xe, zV, zW, xf, xg, xh, xF, xG, xH, xI, xJ, xK, xL, xM, xi, xj, xk, xl, xm, xn, xo, xp, Glob.isB, and_self, and_true, true_and, zX, yz, yA, zY, Option.map_some, List.length_cons, List.length_nil, Nat.reduceAdd, Nat.zero_add, yB, yC, yD, yE, yF, yG, zb, yK, xr, xv, z9, xt, xu, xq, yI, yH, z0, zw, zZ, z8, xw, zz, zx, xE, z4, ya, z3, z6, z1, yb, z7, zj, z5, zy, zi, zA, z2, yL, yJ, zk, r2]) <;> rfl
    · refine ⟨?_, rfl⟩
      show PV.int _ = _
      exact congrArg PV.int (sum4 _ _ _ _)
end

section
variable (haro : ∀ (rows : List Str) (i : Nat) (r c : Int) (σ : Store), Good rows → σ[i]? = some (.list (rows.map .str)) → Φ (Str.ofString "_law_around") [.loc i, .int r, .int c] σ = some (.int (aroundN rows r c), σ))
include haro
theorem points_run {rows : List Str} {l : Nat} {many : Int} (hg : Good rows) (hσ : σ[l]? = some (.list (rows.map .str))) : interpF Φ Gl (dOf pw "_law_points") [.loc l, .int many] σ = some (.loc σ.length, σ ++ [.list ((ptsOf rows many).map tup2)]) := by
  have hs := sz
  have hw := wideOf_le hg
  have h30 := hg.1
  refine run_eq (by kernel_rfl) ?_
  change Out (execSs Φ Gl (_ :: _ :: _) (bindP [_, _] _) σ) _ _
  rw [bindP2]
  have e3 := fun r c τ hτ => haro rows l r c τ hg hτ
  have hl : (rows.map PV.str).length ≤ sizeLine := by rw [List.length_map]; omega
  have gl := fun ds => get_append_old hσ [PO.list ds]
  apply out_next
  · (simp (disch := first | assumption | decide | omega) only [zB, yc, zC, yM, yd, zl, yN, ye, yf, zD, zE, zm, zn, zF, yg, zo, zG, yh, zH, yi, zI, yj, zc, zJ, zK, yk, yl, zd, ym, yO, xx, yn, yo, zL, yp, zM, zp, zq, ze, zN, yq, zO, yr, zr, zf, zP, yt, zg, yu, zQ, zh, zt, yP, xy, yQ, yR, zu, yS, decide_eq_true_eq, beq_iff_eq, zR, zS, za, String.reduceEq, ↓reduceIte, yv, Glob.val?, xz, yT, yU, yV, yW, yX, yY, xA, xB, xC, xD, yZ, y0, y5, y6, y7, y8, yw, yx, yy, y9, xc, xd, zT, zU, xe, zV, zW, xf, xg, xh, xF, xG, xH, xI, xJ, xK, xL, xM, xi, xj, xk, xl, xm, xn, xo, xp, Glob.isB, and_self, and_true, true_and, zX, yz, yA, zY, Option.map_some, List.length_cons, List.length_nil, Nat.reduceAdd, Nat.zero_add, yB, yC, yD, yE, yF, yG, zb, yK, xr, xv, z9, xt, xu, xq, yI, yH, z0, zw, zZ, z8, xw, zz, zx, xE, z4, ya, z3, z6, z1, yb, z7, zj, z5, zy, zi, zA, z2, yL, yJ, zk]) <;> rfl
  let R : PV → Store → Prop := fun u τ => u = .loc σ.length ∧ τ = σ ++ [.list ((ptsOf rows many).map tup2)]
  let f : Int → Int → Bool := fun r c => aroundN rows r c == many
  let E : Locals → Prop := fun ρ => ρ (Str.ofString "_law_rows") = some (.loc l) ∧ ρ (Str.ofString "_law_many") = some (.int many) ∧ ρ (Str.ofString "_law_found") = some (.loc σ.length)
  have kl0 := yy (gl []) hl
  refine out_cons (out_mono (out_for (R := R)
    (for_rng (ds := rangeP 0 ((rows.length : Int) + 1) 1) (vs := [.int ((rows.length : Int) + 1)]) (σ₁ := σ ++ [.list []]) (by (simp (disch := first | assumption | decide | omega) only [zB, yc, zC, yM, yd, zl, yN, ye, yf, zD, zE, zm, zn, zF, yg, zo, zG, yh, zH, yi, zI, yj, zc, zJ, zK, yk, yl, zd, ym, yO, xx, yn, yo, zL, yp, zM, zp, zq, ze, zN, yq, zO, yr, zr, zf, zP, yt, zg, yu, zQ, zh, zt, yP, xy, yQ, yR, zu, yS, decide_eq_true_eq, beq_iff_eq, zR, zS, za, String.reduceEq, ↓reduceIte, yv, Glob.val?, xz, yT, yU, yV, yW, yX, yY, xA, xB, xC, xD, yZ, y0, y5, y6, y7, y8, yw, yx, yy, y9, xc, xd, zT, zU, xe, zV, zW, xf, xg, xh, xF, xG, xH, xI, xJ, xK, xL, xM, xi, xj, xk, xl, xm, xn, xo, xp, Glob.isB, and_self, and_true, true_and, zX, yz, yA, zY, Option.map_some, List.length_cons, List.length_nil, Nat.reduceAdd, Nat.zero_add, yB, yC, yD, yE, yF, yG, zb, yK, xr, xv, z9, xt, xu, xq, yI, yH, z0, zw, zZ, z8, xw, zz, zx, xE, z4, ya, z3, z6, z1, yb, z7, zj, z5, zy, zi, zA, z2, yL, yJ, zk]) <;> rfl) ?_ (range1 (by omega) (by omega)))
    (fun i ρ τ => E ρ ∧ τ = σ ++ [.list ((allPts f i (wideOf rows + 1)).map tup2)]) ?_ ?_) ?_ fun _ _ h => h)
  · (simp (disch := first | assumption | decide | omega) only [zB, yc, zC, yM, yd, zl, yN, ye, yf, zD, zE, zm, zn, zF, yg, zo, zG, yh, zH, yi, zI, yj, zc, zJ, zK, yk, yl, zd, ym, yO, xx, yn, yo, zL, yp, zM, zp, zq, ze, zN, yq, zO, yr, zr, zf, zP, yt, zg, yu, zQ, zh, zt, yP, xy, yQ, yR, zu, yS, decide_eq_true_eq, beq_iff_eq, zR, zS, za, String.reduceEq, ↓reduceIte, yv, Glob.val?, xz, yT, yU, yV, yW, yX, yY, xA, xB, xC, xD, yZ, y0, y5, y6, y7, y8, yw, yx, yy, y9, xc, xd, zT, zU, xe, zV, zW, xf, xg, xh, xF, xG, xH, xI, xJ, xK, xL, xM, xi, xj, xk, xl, xm, xn, xo, xp, Glob.isB, and_self, and_true, true_and, zX, yz, yA, zY, Option.map_some, List.length_cons, List.length_nil, Nat.reduceAdd, Nat.zero_add, yB, yC, yD, yE, yF, yG, zb, yK, xr, xv, z9, xt, xu, xq, yI, yH, z0, zw, zZ, z8, xw, zz, zx, xE, z4, ya, z3, z6, z1, yb, z7, zj, z5, zy, zi, zA, z2, yL, yJ, zk, kl0, List.length_map]) <;> rfl
  · refine ⟨?_, rfl⟩
    simp (disch := first | assumption | decide | omega) only [zB, yc, zC, yM, yd, zl, yN, ye, yf, zD, zE, zm, zn, zF, yg, zo, zG, yh, zH, yi, zI, yj, zc, zJ, zK, yk, yl, zd, ym, yO, xx, yn, yo, zL, yp, zM, zp, zq, ze, zN, yq, zO, yr, zr, zf, zP, yt, zg, yu, zQ, zh, zt, yP, xy, yQ, yR, zu, yS, decide_eq_true_eq, beq_iff_eq, zR, zS, za, String.reduceEq, ↓reduceIte, yv, Glob.val?, xz, yT, yU, yV, yW, yX, yY, xA, xB, xC, xD, yZ, y0, y5, y6, y7, y8, yw, yx, yy, y9, xc, xd, zT, zU, xe, zV, zW, xf, xg, xh, xF, xG, xH, xI, xJ, xK, xL, xM, xi, xj, xk, xl, xm, xn, xo, xp, Glob.isB, and_self, and_true, true_and, zX, yz, yA, zY, Option.map_some, List.length_cons, List.length_nil, Nat.reduceAdd, Nat.zero_add, yB, yC, yD, yE, yF, yG, zb, yK, xr, xv, z9, xt, xu, xq, yI, yH, z0, zw, zZ, z8, xw, zz, zx, xE, z4, ya, z3, z6, z1, yb, z7, zj, z5, zy, zi, zA, z2, yL, yJ, zk, E]
  · rintro i d ρ τ hd ⟨⟨r1, r2, r3⟩, rfl⟩
    obtain ⟨rfl, hi⟩ := rangeP_get hd
    refine ⟨_, rfl, ?_⟩
    have g1 := gl ((allPts f i (wideOf rows + 1)).map tup2)
    have kl1 := yy g1 hl
    generalize hτ : σ ++ [PO.list ((allPts f i (wideOf rows + 1)).map tup2)] = τ at g1 kl1
    apply out_next
    · (simp (disch := first | assumption | decide | omega) only [zB, yc, zC, yM, yd, zl, yN, ye, yf, zD, zE, zm, zn, zF, yg, zo, zG, yh, zH, yi, zI, yj, zc, zJ, zK, yk, yl, zd, ym, yO, xx, yn, yo, zL, yp, zM, zp, zq, ze, zN, yq, zO, yr, zr, zf, zP, yt, zg, yu, zQ, zh, zt, yP, xy, yQ, yR, zu, yS, decide_eq_true_eq, beq_iff_eq, zR, zS, za, String.reduceEq, ↓reduceIte, yv, Glob.val?, xz, yT, yU, yV, yW, yX, yY, xA, xB, xC, xD, yZ, y0, y5, y6, y7, y8, yw, yx, yy, y9, xc, xd, zT, zU, xe, zV, zW, xf, xg, xh, xF, xG, xH, xI, xJ, xK, xL, xM, xi, xj, xk, xl, xm, xn, xo, xp, Glob.isB, and_self, and_true, true_and, zX, yz, yA, zY, Option.map_some, List.length_cons, List.length_nil, Nat.reduceAdd, Nat.zero_add, yB, yC, yD, yE, yF, yG, zb, yK, xr, xv, z9, xt, xu, xq, yI, yH, z0, zw, zZ, z8, xw, zz, zx, xE, z4, ya, z3, z6, z1, yb, z7, zj, z5, zy, zi, zA, z2, yL, yJ, zk]) <;> rfl
    refine out_cons (out_mono (K := fun ρ τ' => τ' = τ ∧ E ρ ∧ ρ (Str.ofString "_law_row") = some (.int i) ∧ ρ (Str.ofString "_law_wide") = some (.int (wideOf rows)))
      (out_if (c := decide ((0 : Int) < (rows.length : Int))) (σ₁ := τ) ?_ (fun hc => ?_) fun hc => ?_) ?_ fun _ _ h => h)
    · (simp (disch := first | assumption | decide | omega) only [zB, yc, zC, yM, yd, zl, yN, ye, yf, zD, zE, zm, zn, zF, yg, zo, zG, yh, zH, yi, zI, yj, zc, zJ, zK, yk, yl, zd, ym, yO, xx, yn, yo, zL, yp, zM, zp, zq, ze, zN, yq, zO, yr, zr, zf, zP, yt, zg, yu, zQ, zh, zt, yP, xy, yQ, yR, zu, yS, decide_eq_true_eq, beq_iff_eq, zR, zS, za, String.reduceEq, ↓reduceIte, yv, Glob.val?, xz, yT, yU, yV, yW, yX, yY, xA, xB, xC, xD, yZ, y0, y5, y6, y7, y8, yw, yx, yy, y9, xc, xd, zT, zU, xe, zV, zW, xf, xg, xh, xF, xG, xH, xI, xJ, xK, xL, xM, xi, xj, xk, xl, xm, xn, xo, xp, Glob.isB, and_self, and_true, true_and, zX, yz, yA, zY, Option.map_some, List.length_cons, List.length_nil, Nat.reduceAdd, Nat.zero_add, yB, yC, yD, yE, yF, yG, zb, yK, xr, xv, z9, xt, xu, xq, yI, yH, z0, zw, zZ, z8, xw, zz, zx, xE, z4, ya, z3, z6, z1, yb, z7, zj, z5, zy, zi, zA, z2, yL, yJ, zk, r1, kl1, List.length_map]) <;> rfl
    · cases rows with
      | nil => simp at hc
      | cons r0 rs =>
        have l0 : r0.length ≤ sizeLine := by simp only [wideOf] at hw; omega
        have sl : subP τ (.loc l) (.int 0) = some (.str r0) := by
          rw [xj g1 (by decide) (by simp only [List.length_map, List.length_cons]; omega) hl]; rfl
        apply out_next
        · (simp (disch := first | assumption | decide | omega) only [zB, yc, zC, yM, yd, zl, yN, ye, yf, zD, zE, zm, zn, zF, yg, zo, zG, yh, zH, yi, zI, yj, zc, zJ, zK, yk, yl, zd, ym, yO, xx, yn, yo, zL, yp, zM, zp, zq, ze, zN, yq, zO, yr, zr, zf, zP, yt, zg, yu, zQ, zh, zt, yP, xy, yQ, yR, zu, yS, decide_eq_true_eq, beq_iff_eq, zR, zS, za, String.reduceEq, ↓reduceIte, yv, Glob.val?, xz, yT, yU, yV, yW, yX, yY, xA, xB, xC, xD, yZ, y0, y5, y6, y7, y8, yw, yx, yy, y9, xc, xd, zT, zU, xe, zV, zW, xf, xg, xh, xF, xG, xH, xI, xJ, xK, xL, xM, xi, xj, xk, xl, xm, xn, xo, xp, Glob.isB, and_self, and_true, true_and, zX, yz, yA, zY, Option.map_some, List.length_cons, List.length_nil, Nat.reduceAdd, Nat.zero_add, yB, yC, yD, yE, yF, yG, zb, yK, xr, xv, z9, xt, xu, xq, yI, yH, z0, zw, zZ, z8, xw, zz, zx, xE, z4, ya, z3, z6, z1, yb, z7, zj, z5, zy, zi, zA, z2, yL, yJ, zk, r1, sl]) <;> rfl
        refine out_nil ⟨rfl, ?_, ?_, ?_⟩
        · simp (disch := first | assumption | decide | omega) only [zB, yc, zC, yM, yd, zl, yN, ye, yf, zD, zE, zm, zn, zF, yg, zo, zG, yh, zH, yi, zI, yj, zc, zJ, zK, yk, yl, zd, ym, yO, xx, yn, yo, zL, yp, zM, zp, zq, ze, zN, yq, zO, yr, zr, zf, zP, yt, zg, yu, zQ, zh, zt, yP, xy, yQ, yR, zu, yS, decide_eq_true_eq, beq_iff_eq, zR, zS, za, String.reduceEq, ↓reduceIte, yv, Glob.val?, xz, yT, yU, yV, yW, yX, yY, xA, xB, xC, xD, yZ, y0, y5, y6, y7, y8, yw, yx, yy, y9, xc, xd, zT, zU, xe, zV, zW, xf, xg, xh, xF, xG, xH, xI, xJ, xK, xL, xM, xi, xj, xk, xl, xm, xn, xo, xp, Glob.isB, and_self, and_true, true_and, zX, yz, yA, zY, Option.map_some, List.length_cons, List.length_nil, Nat.reduceAdd, Nat.zero_add, yB, yC, yD, yE, yF, yG, zb, yK, xr, xv, z9, xt, xu, xq, yI, yH, z0, zw, zZ, z8, xw, zz, zx, xE, z4, ya, z3, z6, z1, yb, z7, zj, z5, zy, zi, zA, z2, yL, yJ, zk, E, r1, r2, r3]
        · simp (disch := first | assumption | decide | omega) only [zB, yc, zC, yM, yd, zl, yN, ye, yf, zD, zE, zm, zn, zF, yg, zo, zG, yh, zH, yi, zI, yj, zc, zJ, zK, yk, yl, zd, ym, yO, xx, yn, yo, zL, yp, zM, zp, zq, ze, zN, yq, zO, yr, zr, zf, zP, yt, zg, yu, zQ, zh, zt, yP, xy, yQ, yR, zu, yS, decide_eq_true_eq, beq_iff_eq, zR, zS, za, String.reduceEq, ↓reduceIte, yv, Glob.val?, xz, yT, yU, yV, yW, yX, yY, xA, xB, xC, xD, yZ, y0, y5, y6, y7, y8, yw, yx, yy, y9, xc, xd, zT, zU, xe, zV, zW, xf, xg, xh, xF, xG, xH, xI, xJ, xK, xL, xM, xi, xj, xk, xl, xm, xn, xo, xp, Glob.isB, and_self, and_true, true_and, zX, yz, yA, zY, Option.map_some, List.length_cons, List.length_nil, Nat.reduceAdd, Nat.zero_add, yB, yC, yD, yE, yF, yG, zb, yK, xr, xv, z9, xt, xu, xq, yI, yH, z0, zw, zZ, z8, xw, zz, zx, xE, z4, ya, z3, z6, z1, yb, z7, zj, z5, zy, zi, zA, z2, yL, yJ, zk]
        · simp (disch := first | assumption | decide | omega) only [zB, yc, zC, yM, yd, zl, yN, ye, yf, zD, zE, zm, zn, zF, yg, zo, zG, yh, zH, yi, zI, yj, zc, zJ, zK, yk, yl, zd, ym, yO, xx, yn, yo, zL, yp, zM, zp, zq, ze, zN, yq, zO, yr, zr, zf, zP, yt, zg, yu, zQ, zh, zt, yP, xy, yQ, yR, zu, yS, decide_eq_true_eq, beq_iff_eq, zR, zS, za, String.reduceEq, ↓reduceIte, yv, Glob.val?, xz, yT, yU, yV, yW, yX, yY, xA, xB, xC, xD, yZ, y0, y5, y6, y7, y8, yw, yx, yy, y9, xc, xd, zT, zU, xe, zV, zW, xf, xg, xh, xF, xG, xH, xI, xJ, xK, xL, xM, xi, xj, xk, xl, xm, xn, xo, xp, Glob.isB, and_self, and_true, true_and, zX, yz, yA, zY, Option.map_some, List.length_cons, List.length_nil, Nat.reduceAdd, Nat.zero_add, yB, yC, yD, yE, yF, yG, zb, yK, xr, xv, z9, xt, xu, xq, yI, yH, z0, zw, zZ, z8, xw, zz, zx, xE, z4, ya, z3, z6, z1, yb, z7, zj, z5, zy, zi, zA, z2, yL, yJ, zk]; rfl
    · have : rows = [] := by
        have := of_decide_eq_false hc
        exact List.eq_nil_of_length_eq_zero (by omega)
      subst this
      refine out_nil ⟨rfl, ?_, ?_, ?_⟩
      · simp (disch := first | assumption | decide | omega) only [zB, yc, zC, yM, yd, zl, yN, ye, yf, zD, zE, zm, zn, zF, yg, zo, zG, yh, zH, yi, zI, yj, zc, zJ, zK, yk, yl, zd, ym, yO, xx, yn, yo, zL, yp, zM, zp, zq, ze, zN, yq, zO, yr, zr, zf, zP, yt, zg, yu, zQ, zh, zt, yP, xy, yQ, yR, zu, yS, decide_eq_true_eq, beq_iff_eq, zR, zS, za, String.reduceEq, ↓reduceIte, yv, Glob.val?, xz, yT, yU, yV, yW, yX, yY, xA, xB, xC, xD, yZ, y0, y5, y6, y7, y8, yw, yx, yy, y9, xc, xd, zT, zU, xe, zV, zW, xf, xg, xh, xF, xG, xH, xI, xJ, xK, xL, xM, xi, xj, xk, xl, xm, xn, xo, xp, Glob.isB, and_self, and_true, true_and, zX, yz, yA, zY, Option.map_some, List.length_cons, List.length_nil, Nat.reduceAdd, Nat.zero_add, yB, yC, yD, yE, yF, yG, zb, yK, xr, xv, z9, xt, xu, xq, yI, yH, z0, zw, zZ, z8, xw, zz, zx, xE, z4, ya, z3, z6, z1, yb, z7, zj, z5, zy, zi, zA, z2, yL, yJ, zk, E, r1, r2, r3]
      · simp (disch := first | assumption | decide | omega) only [zB, yc, zC, yM, yd, zl, yN, ye, yf, zD, zE, zm, zn, zF, yg, zo, zG, yh, zH, yi, zI, yj, zc, zJ, zK, yk, yl, zd, ym, yO, xx, yn, yo, zL, yp, zM, zp, zq, ze, zN, yq, zO, yr, zr, zf, zP, yt, zg, yu, zQ, zh, zt, yP, xy, yQ, yR, zu, yS, decide_eq_true_eq, beq_iff_eq, zR, zS, za, String.reduceEq, ↓reduceIte, yv, Glob.val?, xz, yT, yU, yV, yW, yX, yY, xA, xB, xC, xD, yZ, y0, y5, y6, y7, y8, yw, yx, yy, y9, xc, xd, zT, zU, xe, zV, zW, xf, xg, xh, xF, xG, xH, xI, xJ, xK, xL, xM, xi, xj, xk, xl, xm, xn, xo, xp, Glob.isB, and_self, and_true, true_and, zX, yz, yA, zY, Option.map_some, List.length_cons, List.length_nil, Nat.reduceAdd, Nat.zero_add, yB, yC, yD, yE, yF, yG, zb, yK, xr, xv, z9, xt, xu, xq, yI, yH, z0, zw, zZ, z8, xw, zz, zx, xE, z4, ya, z3, z6, z1, yb, z7, zj, z5, zy, zi, zA, z2, yL, yJ, zk]
      · simp (disch := first | assumption | decide | omega) only [zB, yc, zC, yM, yd, zl, yN, ye, yf, zD, zE, zm, zn, zF, yg, zo, zG, yh, zH, yi, zI, yj, zc, zJ, zK, yk, yl, zd, ym, yO, xx, yn, yo, zL, yp, zM, zp, zq, ze, zN, yq, zO, yr, zr, zf, zP, yt, zg, yu, zQ, zh, zt, yP, xy, yQ, yR, zu, yS, decide_eq_true_eq, beq_iff_eq, zR, zS, za, String.reduceEq, ↓reduceIte, yv, Glob.val?, xz, yT, yU, yV, yW, yX, yY, xA, xB, xC, xD, yZ, y0, y5, y6, y7, y8, yw, yx, yy, y9, xc, xd, zT, zU, xe, zV, zW, xf, xg, xh, xF, xG, xH, xI, xJ, xK, xL, xM, xi, xj, xk, xl, xm, xn, xo, xp, Glob.isB, and_self, and_true, true_and, zX, yz, yA, zY, Option.map_some, List.length_cons, List.length_nil, Nat.reduceAdd, Nat.zero_add, yB, yC, yD, yE, yF, yG, zb, yK, xr, xv, z9, xt, xu, xq, yI, yH, z0, zw, zZ, z8, xw, zz, zx, xE, z4, ya, z3, z6, z1, yb, z7, zj, z5, zy, zi, zA, z2, yL, yJ, zk]; rfl
    rintro ρ τ' ⟨rfl, ⟨r1, r2, r3⟩, r4, r5⟩
    refine out_cons (out_mono (out_for (R := R)
      (for_rng (ds := rangeP 0 ((wideOf rows : Int) + 1) 1) (vs := [.int ((wideOf rows : Int) + 1)]) (σ₁ := τ') (by (simp (disch := first | assumption | decide | omega) only [zB, yc, zC, yM, yd, zl, yN, ye, yf, zD, zE, zm, zn, zF, yg, zo, zG, yh, zH, yi, zI, yj, zc, zJ, zK, yk, yl, zd, ym, yO, xx, yn, yo, zL, yp, zM, zp, zq, ze, zN, yq, zO, yr, zr, zf, zP, yt, zg, yu, zQ, zh, zt, yP, xy, yQ, yR, zu, yS, decide_eq_true_eq, beq_iff_eq, zR, zS, za, String.reduceEq, ↓reduceIte, yv, Glob.val?, xz, yT, yU, yV, yW, yX, yY, xA, xB, xC, xD, yZ, y0, y5, y6, y7, y8, yw, yx, yy, y9, xc, xd, zT, zU, xe, zV, zW, xf, xg, xh, xF, xG, xH, xI, xJ, xK, xL, xM, xi, xj, xk, xl, xm, xn, xo, xp, Glob.isB, and_self, and_true, true_and, zX, yz, yA, zY, Option.map_some, List.length_cons, List.length_nil, Nat.reduceAdd, Nat.zero_add, yB, yC, yD, yE, yF, yG, zb, yK, xr, xv, z9, xt, xu, xq, yI, yH, z0, zw, zZ, z8, xw, zz, zx, xE, z4, ya, z3, z6, z1, yb, z7, zj, z5, zy, zi, zA, z2, yL, yJ, zk]) <;> rfl) ?_ (range1 (by omega) (by omega)))
      (fun j ρ τ => E ρ ∧ ρ (Str.ofString "_law_row") = some (.int i) ∧ τ = σ ++ [.list ((allPts f i (wideOf rows + 1) ++ rowPts f i j).map tup2)]) ?_ ?_) ?_ fun _ _ h => h)
    · (simp (disch := first | assumption | decide | omega) only [zB, yc, zC, yM, yd, zl, yN, ye, yf, zD, zE, zm, zn, zF, yg, zo, zG, yh, zH, yi, zI, yj, zc, zJ, zK, yk, yl, zd, ym, yO, xx, yn, yo, zL, yp, zM, zp, zq, ze, zN, yq, zO, yr, zr, zf, zP, yt, zg, yu, zQ, zh, zt, yP, xy, yQ, yR, zu, yS, decide_eq_true_eq, beq_iff_eq, zR, zS, za, String.reduceEq, ↓reduceIte, yv, Glob.val?, xz, yT, yU, yV, yW, yX, yY, xA, xB, xC, xD, yZ, y0, y5, y6, y7, y8, yw, yx, yy, y9, xc, xd, zT, zU, xe, zV, zW, xf, xg, xh, xF, xG, xH, xI, xJ, xK, xL, xM, xi, xj, xk, xl, xm, xn, xo, xp, Glob.isB, and_self, and_true, true_and, zX, yz, yA, zY, Option.map_some, List.length_cons, List.length_nil, Nat.reduceAdd, Nat.zero_add, yB, yC, yD, yE, yF, yG, zb, yK, xr, xv, z9, xt, xu, xq, yI, yH, z0, zw, zZ, z8, xw, zz, zx, xE, z4, ya, z3, z6, z1, yb, z7, zj, z5, zy, zi, zA, z2, yL, yJ, zk, r5]) <;> rfl
    · refine ⟨?_, ?_, ?_⟩
      · simp (disch := first | assumption | decide | omega) only [zB, yc, zC, yM, yd, zl, yN, ye, yf, zD, zE, zm, zn, zF, yg, zo, zG, yh, zH, yi, zI, yj, zc, zJ, zK, yk, yl, zd, ym, yO, xx, yn, yo, zL, yp, zM, zp, zq, ze, zN, yq, zO, yr, zr, zf, zP, yt, zg, yu, zQ, zh, zt, yP, xy, yQ, yR, zu, yS, decide_eq_true_eq, beq_iff_eq, zR, zS, za, String.reduceEq, ↓reduceIte, yv, Glob.val?, xz, yT, yU, yV, yW, yX, yY, xA, xB, xC, xD, yZ, y0, y5, y6, y7, y8, yw, yx, yy, y9, xc, xd, zT, zU, xe, zV, zW, xf, xg, xh, xF, xG, xH, xI, xJ, xK, xL, xM, xi, xj, xk, xl, xm, xn, xo, xp, Glob.isB, and_self, and_true, true_and, zX, yz, yA, zY, Option.map_some, List.length_cons, List.length_nil, Nat.reduceAdd, Nat.zero_add, yB, yC, yD, yE, yF, yG, zb, yK, xr, xv, z9, xt, xu, xq, yI, yH, z0, zw, zZ, z8, xw, zz, zx, xE, z4, ya, z3, z6, z1, yb, z7, zj, z5, zy, zi, zA, z2, yL, yJ, zk, E, r1, r2, r3]
      · simp (disch := first | assumption | decide | omega) only [zB, yc, zC, yM, yd, zl, yN, ye, yf, zD, zE, zm, zn, zF, yg, zo, zG, yh, zH, yi, zI, yj, zc, zJ, zK, yk, yl, zd, ym, yO, xx, yn, yo, zL, yp, zM, zp, zq, ze, zN, yq, zO, yr, zr, zf, zP, yt, zg, yu, zQ, zh, zt, yP, xy, yQ, yR, zu, yS, decide_eq_true_eq, beq_iff_eq, zR, zS, za, String.reduceEq, ↓reduceIte, yv, Glob.val?, xz, yT, yU, yV, yW, yX, yY, xA, xB, xC, xD, yZ, y0, y5, y6, y7, y8, yw, yx, yy, y9, xc, xd, zT, zU, xe, zV, zW, xf, xg, xh, xF, xG, xH, xI, xJ, xK, xL, xM, xi, xj, xk, xl, xm, xn, xo, xp, Glob.isB, and_self, and_true, true_and, zX, yz, yA, zY, Option.map_some, List.length_cons, List.length_nil, Nat.reduceAdd, Nat.zero_add, yB, yC, yD, yE, yF, yG, zb, yK, xr, xv, z9, xt, xu, xq, yI, yH, z0, zw, zZ, z8, xw, zz, zx, xE, z4, ya, z3, z6, z1, yb, z7, zj, z5, zy, zi, zA, z2, yL, yJ, zk, r4]
      · rw [← hτ]; show _ = σ ++ [PO.list ((_ ++ []).map tup2)]; rw [List.append_nil]
    · rintro j d ρ τ hd ⟨⟨r1, r2, r3⟩, r4, rfl⟩
      obtain ⟨rfl, hj⟩ := rangeP_get hd
      refine ⟨_, rfl, ?_⟩
      have hln : ((allPts f i (wideOf rows + 1) ++ rowPts f i j).map tup2).length ≤ sizeLine := by
        have h1 := allPts_len f (wideOf rows + 1) i
        have h2 := rowPts_len f i j
        have h3 : i * (wideOf rows + 1) ≤ 31 * 31 := Nat.mul_le_mul (by omega) (by omega)
        rw [List.length_map, List.length_append]; omega
      have hget := get_append_new σ (PO.list ((allPts f i (wideOf rows + 1) ++ rowPts f i j).map tup2))
      have hset := fun y => set_append_new σ (PO.list ((allPts f i (wideOf rows + 1) ++ rowPts f i j).map tup2)) y
      have e4 := fun r c => e3 r c _ (gl ((allPts f i (wideOf rows + 1) ++ rowPts f i j).map tup2))
      refine out_cons (out_mono (out_if (K := fun ρ τ => E ρ ∧ ρ (Str.ofString "_law_row") = some (.int i) ∧ τ = σ ++ [.list ((allPts f i (wideOf rows + 1) ++ rowPts f i (j + 1)).map tup2)]) (c := f i j) (σ₁ := σ ++ [.list ((allPts f i (wideOf rows + 1) ++ rowPts f i j).map tup2)]) ?_ (fun hc => ?_) fun hc => ?_) ?_ fun _ _ h => h)
      · (simp (disch := first | assumption | decide | omega) only [zB, yc, zC, yM, yd, zl, yN, ye, yf, zD, zE, zm, zn, zF, yg, zo, zG, yh, zH, yi, zI, yj, zc, zJ, zK, yk, yl, zd, ym, yO, xx, yn, yo, zL, yp, zM, zp, zq, ze, zN, yq, zO, yr, zr, zf, zP, yt, zg, yu, zQ, zh, zt, yP, xy, yQ, yR, zu, yS, decide_eq_true_eq, beq_iff_eq, zR, zS, za, String.reduceEq, ↓reduceIte, yv, Glob.val?, xz, yT, yU, yV, yW, yX, yY, xA, xB, xC, xD, yZ, y0, y5, y6, y7, y8, yw, yx, yy, y9, xc, xd, zT, zU, xe, zV, zW, xf, xg, xh, xF, xG, xH, xI, xJ, xK, xL, xM, xi, xj, xk, xl, xm, xn, xo, xp, Glob.isB, and_self, and_true, true_and, zX, yz, yA, zY, Option.map_some, List.length_cons, List.length_nil, Nat.reduceAdd, Nat.zero_add, yB, yC, yD, yE, yF, yG, zb, yK, xr, xv, z9, xt, xu, xq, yI, yH, z0, zw, zZ, z8, xw, zz, zx, xE, z4, ya, z3, z6, z1, yb, z7, zj, z5, zy, zi, zA, z2, yL, yJ, zk, r1, r2, r4, e4]) <;> rfl
      · apply out_next
        · (simp (disch := first | assumption | decide | omega) only [zB, yc, zC, yM, yd, zl, yN, ye, yf, zD, zE, zm, zn, zF, yg, zo, zG, yh, zH, yi, zI, yj, zc, zJ, zK, yk, yl, zd, ym, yO, xx, yn, yo, zL, yp, zM, zp, zq, ze, zN, yq, zO, yr, zr, zf, zP, yt, zg, yu, zQ, zh, zt, yP, xy, yQ, yR, zu, yS, decide_eq_true_eq, beq_iff_eq, zR, zS, za, String.reduceEq, ↓reduceIte, yv, Glob.val?, xz, yT, yU, yV, yW, yX, yY, xA, xB, xC, xD, yZ, y0, y5, y6, y7, y8, yw, yx, yy, y9, xc, xd, zT, zU, xe, zV, zW, xf, xg, xh, xF, xG, xH, xI, xJ, xK, xL, xM, xi, xj, xk, xl, xm, xn, xo, xp, Glob.isB, and_self, and_true, true_and, zX, yz, yA, zY, Option.map_some, List.length_cons, List.length_nil, Nat.reduceAdd, Nat.zero_add, yB, yC, yD, yE, yF, yG, zb, yK, xr, xv, z9, xt, xu, xq, yI, yH, z0, zw, zZ, z8, xw, zz, zx, xE, z4, ya, z3, z6, z1, yb, z7, zj, z5, zy, zi, zA, z2, yL, yJ, zk, r3, r4, xm hget, xl hget hln, hset]) <;> rfl
        refine out_nil ⟨?_, ?_, ?_⟩
        · simp (disch := first | assumption | decide | omega) only [zB, yc, zC, yM, yd, zl, yN, ye, yf, zD, zE, zm, zn, zF, yg, zo, zG, yh, zH, yi, zI, yj, zc, zJ, zK, yk, yl, zd, ym, yO, xx, yn, yo, zL, yp, zM, zp, zq, ze, zN, yq, zO, yr, zr, zf, zP, yt, zg, yu, zQ, zh, zt, yP, xy, yQ, yR, zu, yS, decide_eq_true_eq, beq_iff_eq, zR, zS, za, String.reduceEq, ↓reduceIte, yv, Glob.val?, xz, yT, yU, yV, yW, yX, yY, xA, xB, xC, xD, yZ, y0, y5, y6, y7, y8, yw, yx, yy, y9, xc, xd, zT, zU, xe, zV, zW, xf, xg, xh, xF, xG, xH, xI, xJ, xK, xL, xM, xi, xj, xk, xl, xm, xn, xo, xp, Glob.isB, and_self, and_true, true_and, zX, yz, yA, zY, Option.map_some, List.length_cons, List.length_nil, Nat.reduceAdd, Nat.zero_add, yB, yC, yD, yE, yF, yG, zb, yK, xr, xv, z9, xt, xu, xq, yI, yH, z0, zw, zZ, z8, xw, zz, zx, xE, z4, ya, z3, z6, z1, yb, z7, zj, z5, zy, zi, zA, z2, yL, yJ, zk, E, r1, r2, r3]
        · simp (disch := first | assumption | decide | omega) only [zB, yc, zC, yM, yd, zl, yN, ye, yf, zD, zE, zm, zn, zF, yg, zo, zG, yh, zH, yi, zI, yj, zc, zJ, zK, yk, yl, zd, ym, yO, xx, yn, yo, zL, yp, zM, zp, zq, ze, zN, yq, zO, yr, zr, zf, zP, yt, zg, yu, zQ, zh, zt, yP, xy, yQ, yR, zu, yS, decide_eq_true_eq, beq_iff_eq, zR, zS, za, String.reduceEq, ↓reduceIte, yv, Glob.val?, xz, yT, yU, yV, yW, yX, yY, xA, xB, xC, xD, yZ, y0, y5, y6, y7, y8, yw, yx, yy, y9, xc, xd, zT, zU, xe, zV, zW, xf, xg, xh, xF, xG, xH, xI, xJ, xK, xL, xM, xi, xj, xk, xl, xm, xn, xo, xp, Glob.isB, and_self, and_true, true_and, zX, yz, yA, zY, Option.map_some, List.length_cons, List.length_nil, Nat.reduceAdd, Nat.zero_add, yB, yC, yD, yE, yF, yG, zb, yK, xr, xv, z9, xt, xu, xq, yI, yH, z0, zw, zZ, z8, xw, zz, zx, xE, z4, ya, z3, z6, z1, yb, z7, zj, z5, zy, zi, zA, z2, yL, yJ, zk, r4]
        · rw [rowPts_succ, if_pos hc, ← List.append_assoc]; simp only [List.map_append, List.map_cons, List.map_nil]; rfl
      · refine out_nil ⟨?_, ?_, ?_⟩
        · simp (disch := first | assumption | decide | omega) only [zB, yc, zC, yM, yd, zl, yN, ye, yf, zD, zE, zm, zn, zF, yg, zo, zG, yh, zH, yi, zI, yj, zc, zJ, zK, yk, yl, zd, ym, yO, xx, yn, yo, zL, yp, zM, zp, zq, ze, zN, yq, zO, yr, zr, zf, zP, yt, zg, yu, zQ, zh, zt, yP, xy, yQ, yR, zu, yS, decide_eq_true_eq, beq_iff_eq, zR, zS, za, String.reduceEq, ↓reduceIte, yv, Glob.val?, xz, yT, yU, yV, yW, yX, yY, xA, xB, xC, xD, yZ, y0, y5, y6, y7, y8, yw, yx, yy, y9, xc, xd, zT, zU, xe, zV, zW, xf, xg, xh, xF, xG, xH, xI, xJ, xK, xL, xM, xi, xj, xk, xl, xm, xn, xo, xp, Glob.isB, and_self, and_true, true_and, zX, yz, yA, zY, Option.map_some, List.length_cons, List.length_nil, Nat.reduceAdd, Nat.zero_add, yB, yC, yD, yE, yF, yG, zb, yK, xr, xv, z9, xt, xu, xq, yI, yH, z0, zw, zZ, z8, xw, zz, zx, xE, z4, ya, z3, z6, z1, yb, z7, zj, z5, zy, zi, zA, z2, yL, yJ, zk, E, r1, r2, r3]
        · simp (disch := first | assumption | decide | omega) only [zB, yc, zC, yM, yd, zl, yN, ye, yf, zD, zE, zm, zn, zF, yg, zo, zG, yh, zH, yi, zI, yj, zc, zJ, zK, yk, yl, zd, ym, yO, xx, yn, yo, zL, yp, zM, zp, zq, ze, zN, yq, zO, yr, zr, zf, zP, yt, zg, yu, zQ, zh, zt, yP, xy, yQ, yR, zu, yS, decide_eq_true_eq, beq_iff_eq, zR, zS, za, String.reduceEq, ↓reduceIte, yv, Glob.val?, xz, yT, yU, yV, yW, yX, yY, xA, xB, xC, xD, yZ, y0, y5, y6, y7, y8, yw, yx, yy, y9, xc, xd, zT, zU, xe, zV, zW, xf, xg, xh, xF, xG, xH, xI, xJ, xK, xL, xM, xi, xj, xk, xl, xm, xn, xo, xp, Glob.isB, and_self, and_true, true_and, zX, yz, yA, zY, Option.map_some, List.length_cons, List.length_nil, Nat.reduceAdd, Nat.zero_add, yB, yC, yD, yE, yF, yG, zb, yK, xr, xv, z9, xt, xu, xq, yI, yH, z0, zw, zZ, z8, xw, zz, zx, xE, z4, ya, z3, z6, z1, yb, z7, zj, z5, zy, zi, zA, z2, yL, yJ, zk, r4]
        · rw [rowPts_succ, if_neg (by rw [hc]; decide), List.append_nil]
      · rintro ρ τ h
        exact out_nil h
    · rintro ρ τ ⟨h1, h2, h3⟩
      refine out_nil ⟨h1, ?_⟩
      rw [h3, rangeP_len, allPts_succ, show ((wideOf rows : Int) + 1).toNat = wideOf rows + 1 by omega]
  · rintro ρ τ ⟨⟨r1, r2, r3⟩, h3⟩
    rw [rangeP_len, show ((rows.length : Int) + 1).toNat = rows.length + 1 by omega] at h3
    subst h3
    apply out_ret
    · (simp (disch := first | assumption | decide | omega) only [zB, yc, zC, yM, yd, zl, yN, ye, yf, zD, zE, zm, zn, zF, yg, zo, zG, yh, zH, yi, zI, yj, zc, zJ, zK, yk, yl, zd, ym, yO, xx, yn, yo, zL, yp, zM, zp, zq, ze, zN, yq, zO, yr, zr, zf, zP, yt, zg, yu, zQ, zh, zt, yP, xy, yQ, yR, zu, yS, decide_eq_true_eq, beq_iff_eq, zR, zS, za, String.reduceEq, ↓reduceIte, yv, Glob.val?, xz, yT, yU, yV, yW, yX, yY, xA, xB, xC, xD, yZ, y0, y5, y6, y7, y8, yw, yx, yy, y9, xc, xd, zT, zU, xe, zV, zW, xf, xg, xh, xF, xG, xH, xI, xJ, xK, xL, xM, xi, xj, xk, xl, xm, xn, xo, xp, Glob.isB, and_self, and_true, true_and, zX, yz, yA, zY, Option.map_some, List.length_cons, List.length_nil, Nat.reduceAdd, Nat.zero_add, yB, yC, yD, yE, yF, yG, zb, yK, xr, xv, z9, xt, xu, xq, yI, yH, z0, zw, zZ, z8, xw, zz, zx, xE, z4, ya, z3, z6, z1, yb, z7, zj, z5, zy, zi, zA, z2, yL, yJ, zk, r3]) <;> rfl
    · exact ⟨rfl, rfl⟩
end


/-! the cells of the floor -/
section
variable (hcel : ∀ (rows : List Str) (r c : Int) (σ : Store), Good rows → Φ (Str.ofString "cell") [.lst (rows.map .str), .int r, .int c] σ = some (.bool (onB rows r c), σ))
variable (hwid : ∀ (rows : List Str) (σ : Store), Good rows → Φ (Str.ofString "wide") [.lst (rows.map .str)] σ = some (.int (wideOf rows), σ))
include hcel hwid
theorem cells_run {rows : List Str} (hg : Good rows) : interpF Φ Gl (dOf pw "cells") [.lst (rows.map .str)] σ = some (.loc σ.length, σ ++ [.list ((allPts (onB rows) rows.length (wideOf rows)).map tup2)]) := by
  have hs := sz
  have hw := wideOf_le hg
  have h30 := hg.1
  refine run_eq (by kernel_rfl) ?_
  change Out (execSs Φ Gl (_ :: _ :: _ :: _) (bindP [_] _) σ) _ _
  rw [bindP1]
  have e2 := fun τ => hwid rows τ hg
  have e3 := fun r c τ => hcel rows r c τ hg
  have hl : (rows.map PV.str).length ≤ sizeLine := by rw [List.length_map]; omega
  apply out_next
  · (simp (disch := first | assumption | decide | omega) only [zB, yc, zC, yM, yd, zl, yN, ye, yf, zD, zE, zm, zn, zF, yg, zo, zG, yh, zH, yi, zI, yj, zc, zJ, zK, yk, yl, zd, ym, yO, xx, yn, yo, zL, yp, zM, zp, zq, ze, zN, yq, zO, yr, zr, zf, zP, yt, zg, yu, zQ, zh, zt, yP, xy, yQ, yR, zu, yS, decide_eq_true_eq, beq_iff_eq, zR, zS, za, String.reduceEq, ↓reduceIte, yv, Glob.val?, xz, yT, yU, yV, yW, yX, yY, xA, xB, xC, xD, yZ, y0, y5, y6, y7, y8, yw, yx, yy, y9, xc, xd, zT, zU, xe, zV, zW, xf, xg, xh, xF, xG, xH, xI, xJ, xK, xL, xM, xi, xj, xk, xl, xm, xn, xo, xp, Glob.isB, and_self, and_true, true_and, zX, yz, yA, zY, Option.map_some, List.length_cons, List.length_nil, Nat.reduceAdd, Nat.zero_add, yB, yC, yD, yE, yF, yG, zb, yK, xr, xv, z9, xt, xu, xq, yI, yH, z0, zw, zZ, z8, xw, zz, zx, xE, z4, ya, z3, z6, z1, yb, z7, zj, z5, zy, zi, zA, z2, yL, yJ, zk]) <;> rfl
  let R : PV → Store → Prop := fun u τ => u = .loc σ.length ∧ τ = σ ++ [.list ((allPts (onB rows) rows.length (wideOf rows)).map tup2)]
  let f : Int → Int → Bool := onB rows
  let E : Locals → Prop := fun ρ => ρ (Str.ofString "rows") = some (.lst (rows.map .str)) ∧ ρ (Str.ofString "found") = some (.loc σ.length)
  refine out_cons (out_mono (out_for (R := R)
    (for_rng (ds := rangeP 0 (rows.length : Int) 1) (vs := [.int (rows.length : Int)]) (σ₁ := σ ++ [.list []]) (by (simp (disch := first | assumption | decide | omega) only [zB, yc, zC, yM, yd, zl, yN, ye, yf, zD, zE, zm, zn, zF, yg, zo, zG, yh, zH, yi, zI, yj, zc, zJ, zK, yk, yl, zd, ym, yO, xx, yn, yo, zL, yp, zM, zp, zq, ze, zN, yq, zO, yr, zr, zf, zP, yt, zg, yu, zQ, zh, zt, yP, xy, yQ, yR, zu, yS, decide_eq_true_eq, beq_iff_eq, zR, zS, za, String.reduceEq, ↓reduceIte, yv, Glob.val?, xz, yT, yU, yV, yW, yX, yY, xA, xB, xC, xD, yZ, y0, y5, y6, y7, y8, yw, yx, yy, y9, xc, xd, zT, zU, xe, zV, zW, xf, xg, xh, xF, xG, xH, xI, xJ, xK, xL, xM, xi, xj, xk, xl, xm, xn, xo, xp, Glob.isB, and_self, and_true, true_and, zX, yz, yA, zY, Option.map_some, List.length_cons, List.length_nil, Nat.reduceAdd, Nat.zero_add, yB, yC, yD, yE, yF, yG, zb, yK, xr, xv, z9, xt, xu, xq, yI, yH, z0, zw, zZ, z8, xw, zz, zx, xE, z4, ya, z3, z6, z1, yb, z7, zj, z5, zy, zi, zA, z2, yL, yJ, zk]) <;> rfl) ?_ (range1 (by omega) (by omega)))
    (fun i ρ τ => E ρ ∧ τ = σ ++ [.list ((allPts f i (wideOf rows)).map tup2)]) ?_ ?_) ?_ fun _ _ h => h)
  · (simp (disch := first | assumption | decide | omega) only [zB, yc, zC, yM, yd, zl, yN, ye, yf, zD, zE, zm, zn, zF, yg, zo, zG, yh, zH, yi, zI, yj, zc, zJ, zK, yk, yl, zd, ym, yO, xx, yn, yo, zL, yp, zM, zp, zq, ze, zN, yq, zO, yr, zr, zf, zP, yt, zg, yu, zQ, zh, zt, yP, xy, yQ, yR, zu, yS, decide_eq_true_eq, beq_iff_eq, zR, zS, za, String.reduceEq, ↓reduceIte, yv, Glob.val?, xz, yT, yU, yV, yW, yX, yY, xA, xB, xC, xD, yZ, y0, y5, y6, y7, y8, yw, yx, yy, y9, xc, xd, zT, zU, xe, zV, zW, xf, xg, xh, xF, xG, xH, xI, xJ, xK, xL, xM, xi, xj, xk, xl, xm, xn, xo, xp, Glob.isB, and_self, and_true, true_and, zX, yz, yA, zY, Option.map_some, List.length_cons, List.length_nil, Nat.reduceAdd, Nat.zero_add, yB, yC, yD, yE, yF, yG, zb, yK, xr, xv, z9, xt, xu, xq, yI, yH, z0, zw, zZ, z8, xw, zz, zx, xE, z4, ya, z3, z6, z1, yb, z7, zj, z5, zy, zi, zA, z2, yL, yJ, zk, List.length_map]) <;> rfl
  · refine ⟨?_, rfl⟩
    simp (disch := first | assumption | decide | omega) only [zB, yc, zC, yM, yd, zl, yN, ye, yf, zD, zE, zm, zn, zF, yg, zo, zG, yh, zH, yi, zI, yj, zc, zJ, zK, yk, yl, zd, ym, yO, xx, yn, yo, zL, yp, zM, zp, zq, ze, zN, yq, zO, yr, zr, zf, zP, yt, zg, yu, zQ, zh, zt, yP, xy, yQ, yR, zu, yS, decide_eq_true_eq, beq_iff_eq, zR, zS, za, String.reduceEq, ↓reduceIte, yv, Glob.val?, xz, yT, yU, yV, yW, yX, yY, xA, xB, xC, xD, yZ, y0, y5, y6, y7, y8, yw, yx, yy, y9, xc, xd, zT, zU, xe, zV, zW, xf, xg, xh, xF, xG, xH, xI, xJ, xK, xL, xM, xi, xj, xk, xl, xm, xn, xo, xp, Glob.isB, and_self, and_true, true_and, zX, yz, yA, zY, Option.map_some, List.length_cons, List.length_nil, Nat.reduceAdd, Nat.zero_add, yB, yC, yD, yE, yF, yG, zb, yK, xr, xv, z9, xt, xu, xq, yI, yH, z0, zw, zZ, z8, xw, zz, zx, xE, z4, ya, z3, z6, z1, yb, z7, zj, z5, zy, zi, zA, z2, yL, yJ, zk, E]
  · rintro i d ρ τ hd ⟨⟨r1, r2⟩, rfl⟩
    obtain ⟨rfl, hi⟩ := rangeP_get hd
    refine ⟨_, rfl, ?_⟩
    refine out_cons (out_mono (out_for (R := R)
      (for_rng (ds := rangeP 0 (wideOf rows : Int) 1) (vs := [.int (wideOf rows : Int)]) (σ₁ := σ ++ [.list ((allPts f i (wideOf rows)).map tup2)]) (by (simp (disch := first | assumption | decide | omega) only [zB, yc, zC, yM, yd, zl, yN, ye, yf, zD, zE, zm, zn, zF, yg, zo, zG, yh, zH, yi, zI, yj, zc, zJ, zK, yk, yl, zd, ym, yO, xx, yn, yo, zL, yp, zM, zp, zq, ze, zN, yq, zO, yr, zr, zf, zP, yt, zg, yu, zQ, zh, zt, yP, xy, yQ, yR, zu, yS, decide_eq_true_eq, beq_iff_eq, zR, zS, za, String.reduceEq, ↓reduceIte, yv, Glob.val?, xz, yT, yU, yV, yW, yX, yY, xA, xB, xC, xD, yZ, y0, y5, y6, y7, y8, yw, yx, yy, y9, xc, xd, zT, zU, xe, zV, zW, xf, xg, xh, xF, xG, xH, xI, xJ, xK, xL, xM, xi, xj, xk, xl, xm, xn, xo, xp, Glob.isB, and_self, and_true, true_and, zX, yz, yA, zY, Option.map_some, List.length_cons, List.length_nil, Nat.reduceAdd, Nat.zero_add, yB, yC, yD, yE, yF, yG, zb, yK, xr, xv, z9, xt, xu, xq, yI, yH, z0, zw, zZ, z8, xw, zz, zx, xE, z4, ya, z3, z6, z1, yb, z7, zj, z5, zy, zi, zA, z2, yL, yJ, zk]) <;> rfl) ?_ (range1 (by omega) (by omega)))
      (fun j ρ τ => E ρ ∧ ρ (Str.ofString "row") = some (.int i) ∧ τ = σ ++ [.list ((allPts f i (wideOf rows) ++ rowPts f i j).map tup2)]) ?_ ?_) ?_ fun _ _ h => h)
    · (simp (disch := first | assumption | decide | omega) only [zB, yc, zC, yM, yd, zl, yN, ye, yf, zD, zE, zm, zn, zF, yg, zo, zG, yh, zH, yi, zI, yj, zc, zJ, zK, yk, yl, zd, ym, yO, xx, yn, yo, zL, yp, zM, zp, zq, ze, zN, yq, zO, yr, zr, zf, zP, yt, zg, yu, zQ, zh, zt, yP, xy, yQ, yR, zu, yS, decide_eq_true_eq, beq_iff_eq, zR, zS, za, String.reduceEq, ↓reduceIte, yv, Glob.val?, xz, yT, yU, yV, yW, yX, yY, xA, xB, xC, xD, yZ, y0, y5, y6, y7, y8, yw, yx, yy, y9, xc, xd, zT, zU, xe, zV, zW, xf, xg, xh, xF, xG, xH, xI, xJ, xK, xL, xM, xi, xj, xk, xl, xm, xn, xo, xp, Glob.isB, and_self, and_true, true_and, zX, yz, yA, zY, Option.map_some, List.length_cons, List.length_nil, Nat.reduceAdd, Nat.zero_add, yB, yC, yD, yE, yF, yG, zb, yK, xr, xv, z9, xt, xu, xq, yI, yH, z0, zw, zZ, z8, xw, zz, zx, xE, z4, ya, z3, z6, z1, yb, z7, zj, z5, zy, zi, zA, z2, yL, yJ, zk, r1, e2]) <;> rfl
    · refine ⟨?_, ?_, ?_⟩
      · simp (disch := first | assumption | decide | omega) only [zB, yc, zC, yM, yd, zl, yN, ye, yf, zD, zE, zm, zn, zF, yg, zo, zG, yh, zH, yi, zI, yj, zc, zJ, zK, yk, yl, zd, ym, yO, xx, yn, yo, zL, yp, zM, zp, zq, ze, zN, yq, zO, yr, zr, zf, zP, yt, zg, yu, zQ, zh, zt, yP, xy, yQ, yR, zu, yS, decide_eq_true_eq, beq_iff_eq, zR, zS, za, String.reduceEq, ↓reduceIte, yv, Glob.val?, xz, yT, yU, yV, yW, yX, yY, xA, xB, xC, xD, yZ, y0, y5, y6, y7, y8, yw, yx, yy, y9, xc, xd, zT, zU, xe, zV, zW, xf, xg, xh, xF, xG, xH, xI, xJ, xK, xL, xM, xi, xj, xk, xl, xm, xn, xo, xp, Glob.isB, and_self, and_true, true_and, zX, yz, yA, zY, Option.map_some, List.length_cons, List.length_nil, Nat.reduceAdd, Nat.zero_add, yB, yC, yD, yE, yF, yG, zb, yK, xr, xv, z9, xt, xu, xq, yI, yH, z0, zw, zZ, z8, xw, zz, zx, xE, z4, ya, z3, z6, z1, yb, z7, zj, z5, zy, zi, zA, z2, yL, yJ, zk, E, r1, r2]
      · simp (disch := first | assumption | decide | omega) only [zB, yc, zC, yM, yd, zl, yN, ye, yf, zD, zE, zm, zn, zF, yg, zo, zG, yh, zH, yi, zI, yj, zc, zJ, zK, yk, yl, zd, ym, yO, xx, yn, yo, zL, yp, zM, zp, zq, ze, zN, yq, zO, yr, zr, zf, zP, yt, zg, yu, zQ, zh, zt, yP, xy, yQ, yR, zu, yS, decide_eq_true_eq, beq_iff_eq, zR, zS, za, String.reduceEq, ↓reduceIte, yv, Glob.val?, xz, yT, yU, yV, yW, yX, yY, xA, xB, xC, xD, yZ, y0, y5, y6, y7, y8, yw, yx, yy, y9, xc, xd, zT, zU, xe, zV, zW, xf, xg, xh, xF, xG, xH, xI, xJ, xK, xL, xM, xi, xj, xk, xl, xm, xn, xo, xp, Glob.isB, and_self, and_true, true_and, zX, yz, yA, zY, Option.map_some, List.length_cons, List.length_nil, Nat.reduceAdd, Nat.zero_add, yB, yC, yD, yE, yF, yG, zb, yK, xr, xv, z9, xt, xu, xq, yI, yH, z0, zw, zZ, z8, xw, zz, zx, xE, z4, ya, z3, z6, z1, yb, z7, zj, z5, zy, zi, zA, z2, yL, yJ, zk]
      · show _ = σ ++ [PO.list ((_ ++ []).map tup2)]; rw [List.append_nil]
    · rintro j d ρ τ hd ⟨⟨r1, r2⟩, r3, rfl⟩
      obtain ⟨rfl, hj⟩ := rangeP_get hd
      refine ⟨_, rfl, ?_⟩
      have hln : ((allPts f i (wideOf rows) ++ rowPts f i j).map tup2).length ≤ sizeLine := by
        have h1 := allPts_len f (wideOf rows) i
        have h2 := rowPts_len f i j
        have h3 : i * wideOf rows ≤ 31 * 31 := Nat.mul_le_mul (by omega) (by omega)
        rw [List.length_map, List.length_append]; omega
      have hget := get_append_new σ (PO.list ((allPts f i (wideOf rows) ++ rowPts f i j).map tup2))
      have hset := fun y => set_append_new σ (PO.list ((allPts f i (wideOf rows) ++ rowPts f i j).map tup2)) y
      refine out_cons (out_mono (out_if (K := fun ρ τ => E ρ ∧ ρ (Str.ofString "row") = some (.int i) ∧ τ = σ ++ [.list ((allPts f i (wideOf rows) ++ rowPts f i (j + 1)).map tup2)]) (c := f i j) (σ₁ := σ ++ [.list ((allPts f i (wideOf rows) ++ rowPts f i j).map tup2)]) ?_ (fun hc => ?_) fun hc => ?_) ?_ fun _ _ h => h)
      · (simp (disch := first | assumption | decide | omega) only [zB, yc, zC, yM, yd, zl, yN, ye, yf, zD, zE, zm, zn, zF, yg, zo, zG, yh, zH, yi, zI, yj, zc, zJ, zK, yk, yl, zd, ym, yO, xx, yn, yo, zL, yp, zM, zp, zq, ze, zN, yq, zO, yr, zr, zf, zP, yt, zg, yu, zQ, zh, zt, yP, xy, yQ, yR, zu, yS, decide_eq_true_eq, beq_iff_eq, zR, zS, za, String.reduceEq, ↓reduceIte, yv, Glob.val?, xz, yT, yU, yV, yW, yX, yY, xA, xB, xC, xD, yZ, y0, y5, y6, y7, y8, yw, yx, yy, y9, xc, xd, zT, zU, xe, zV, zW, xf, xg, xh, xF, xG, xH, xI, xJ, xK, xL, xM, xi, xj, xk, xl, xm, xn, xo, xp, Glob.isB, and_self, and_true, true_and, zX, yz, yA, zY, Option.map_some, List.length_cons, List.length_nil, Nat.reduceAdd, Nat.zero_add, yB, yC, yD, yE, yF, yG, zb, yK, xr, xv, z9, xt, xu, xq, yI, yH, z0, zw, zZ, z8, xw, zz, zx, xE, z4, ya, z3, z6, z1, yb, z7, zj, z5, zy, zi, zA, z2, yL, yJ, zk, r1, r3, e3]) <;> rfl
      · apply out_next
        · (simp (disch := first | assumption | decide | omega) only [zB, yc, zC, yM, yd, zl, yN, ye, yf, zD, zE, zm, zn, zF, yg, zo, zG, yh, zH, yi, zI, yj, zc, zJ, zK, yk, yl, zd, ym, yO, xx, yn, yo, zL, yp, zM, zp, zq, ze, zN, yq, zO, yr, zr, zf, zP, yt, zg, yu, zQ, zh, zt, yP, xy, yQ, yR, zu, yS, decide_eq_true_eq, beq_iff_eq, zR, zS, za, String.reduceEq, ↓reduceIte, yv, Glob.val?, xz, yT, yU, yV, yW, yX, yY, xA, xB, xC, xD, yZ, y0, y5, y6, y7, y8, yw, yx, yy, y9, xc, xd, zT, zU, xe, zV, zW, xf, xg, xh, xF, xG, xH, xI, xJ, xK, xL, xM, xi, xj, xk, xl, xm, xn, xo, xp, Glob.isB, and_self, and_true, true_and, zX, yz, yA, zY, Option.map_some, List.length_cons, List.length_nil, Nat.reduceAdd, Nat.zero_add, yB, yC, yD, yE, yF, yG, zb, yK, xr, xv, z9, xt, xu, xq, yI, yH, z0, zw, zZ, z8, xw, zz, zx, xE, z4, ya, z3, z6, z1, yb, z7, zj, z5, zy, zi, zA, z2, yL, yJ, zk, r2, r3, xm hget, xl hget hln, hset]) <;> rfl
        refine out_nil ⟨?_, ?_, ?_⟩
        · simp (disch := first | assumption | decide | omega) only [zB, yc, zC, yM, yd, zl, yN, ye, yf, zD, zE, zm, zn, zF, yg, zo, zG, yh, zH, yi, zI, yj, zc, zJ, zK, yk, yl, zd, ym, yO, xx, yn, yo, zL, yp, zM, zp, zq, ze, zN, yq, zO, yr, zr, zf, zP, yt, zg, yu, zQ, zh, zt, yP, xy, yQ, yR, zu, yS, decide_eq_true_eq, beq_iff_eq, zR, zS, za, String.reduceEq, ↓reduceIte, yv, Glob.val?, xz, yT, yU, yV, yW, yX, yY, xA, xB, xC, xD, yZ, y0, y5, y6, y7, y8, yw, yx, yy, y9, xc, xd, zT, zU, xe, zV, zW, xf, xg, xh, xF, xG, xH, xI, xJ, xK, xL, xM, xi, xj, xk, xl, xm, xn, xo, xp, Glob.isB, and_self, and_true, true_and, zX, yz, yA, zY, Option.map_some, List.length_cons, List.length_nil, Nat.reduceAdd, Nat.zero_add, yB, yC, yD, yE, yF, yG, zb, yK, xr, xv, z9, xt, xu, xq, yI, yH, z0, zw, zZ, z8, xw, zz, zx, xE, z4, ya, z3, z6, z1, yb, z7, zj, z5, zy, zi, zA, z2, yL, yJ, zk, E, r1, r2]
        · simp (disch := first | assumption | decide | omega) only [zB, yc, zC, yM, yd, zl, yN, ye, yf, zD, zE, zm, zn, zF, yg, zo, zG, yh, zH, yi, zI, yj, zc, zJ, zK, yk, yl, zd, ym, yO, xx, yn, yo, zL, yp, zM, zp, zq, ze, zN, yq, zO, yr, zr, zf, zP, yt, zg, yu, zQ, zh, zt, yP, xy, yQ, yR, zu, yS, decide_eq_true_eq, beq_iff_eq, zR, zS, za, String.reduceEq, ↓reduceIte, yv, Glob.val?, xz, yT, yU, yV, yW, yX, yY, xA, xB, xC, xD, yZ, y0, y5, y6, y7, y8, yw, yx, yy, y9, xc, xd, zT, zU, xe, zV, zW, xf, xg, xh, xF, xG, xH, xI, xJ, xK, xL, xM, xi, xj, xk, xl, xm, xn, xo, xp, Glob.isB, and_self, and_true, true_and, zX, yz, yA, zY, Option.map_some, List.length_cons, List.length_nil, Nat.reduceAdd, Nat.zero_add, yB, yC, yD, yE, yF, yG, zb, yK, xr, xv, z9, xt, xu, xq, yI, yH, z0, zw, zZ, z8, xw, zz, zx, xE, z4, ya, z3, z6, z1, yb, z7, zj, z5, zy, zi, zA, z2, yL, yJ, zk, r3]
        · rw [rowPts_succ, if_pos hc, ← List.append_assoc]; simp only [List.map_append, List.map_cons, List.map_nil]; rfl
      · refine out_nil ⟨?_, ?_, ?_⟩
        · simp (disch := first | assumption | decide | omega) only [zB, yc, zC, yM, yd, zl, yN, ye, yf, zD, zE, zm, zn, zF, yg, zo, zG, yh, zH, yi, zI, yj, zc, zJ, zK, yk, yl, zd, ym, yO, xx, yn, yo, zL, yp, zM, zp, zq, ze, zN, yq, zO, yr, zr, zf, zP, yt, zg, yu, zQ, zh, zt, yP, xy, yQ, yR, zu, yS, decide_eq_true_eq, beq_iff_eq, zR, zS, za, String.reduceEq, ↓reduceIte, yv, Glob.val?, xz, yT, yU, yV, yW, yX, yY, xA, xB, xC, xD, yZ, y0, y5, y6, y7, y8, yw, yx, yy, y9, xc, xd, zT, zU, xe, zV, zW, xf, xg, xh, xF, xG, xH, xI, xJ, xK, xL, xM, xi, xj, xk, xl, xm, xn, xo, xp, Glob.isB, and_self, and_true, true_and, zX, yz, yA, zY, Option.map_some, List.length_cons, List.length_nil, Nat.reduceAdd, Nat.zero_add, yB, yC, yD, yE, yF, yG, zb, yK, xr, xv, z9, xt, xu, xq, yI, yH, z0, zw, zZ, z8, xw, zz, zx, xE, z4, ya, z3, z6, z1, yb, z7, zj, z5, zy, zi, zA, z2, yL, yJ, zk, E, r1, r2]
        · simp (disch := first | assumption | decide | omega) only [zB, yc, zC, yM, yd, zl, yN, ye, yf, zD, zE, zm, zn, zF, yg, zo, zG, yh, zH, yi, zI, yj, zc, zJ, zK, yk, yl, zd, ym, yO, xx, yn, yo, zL, yp, zM, zp, zq, ze, zN, yq, zO, yr, zr, zf, zP, yt, zg, yu, zQ, zh, zt, yP, xy, yQ, yR, zu, yS, decide_eq_true_eq, beq_iff_eq, zR, zS, za, String.reduceEq, ↓reduceIte, yv, Glob.val?, xz, yT, yU, yV, yW, yX, yY, xA, xB, xC, xD, yZ, y0, y5, y6, y7, y8, yw, yx, yy, y9, xc, xd, zT, zU, xe, zV, zW, xf, xg, xh, xF, xG, xH, xI, xJ, xK, xL, xM, xi, xj, xk, xl, xm, xn, xo, xp, Glob.isB, and_self, and_true, true_and, zX, yz, yA, zY, Option.map_some, List.length_cons, List.length_nil, Nat.reduceAdd, Nat.zero_add, yB, yC, yD, yE, yF, yG, zb, yK, xr, xv, z9, xt, xu, xq, yI, yH, z0, zw, zZ, z8, xw, zz, zx, xE, z4, ya, z3, z6, z1, yb, z7, zj, z5, zy, zi, zA, z2, yL, yJ, zk, r3]
        · rw [rowPts_succ, if_neg (by rw [hc]; decide), List.append_nil]
      · rintro ρ τ h
        exact out_nil h
    · rintro ρ τ ⟨h1, h2, h3⟩
      refine out_nil ⟨h1, ?_⟩
      rw [h3, rangeP_len, allPts_succ, show ((wideOf rows : Int)).toNat = wideOf rows by omega]
  · rintro ρ τ ⟨⟨r1, r2⟩, h3⟩
    rw [rangeP_len, show ((rows.length : Int)).toNat = rows.length by omega] at h3
    subst h3
    apply out_ret
    · (simp (disch := first | assumption | decide | omega) only [zB, yc, zC, yM, yd, zl, yN, ye, yf, zD, zE, zm, zn, zF, yg, zo, zG, yh, zH, yi, zI, yj, zc, zJ, zK, yk, yl, zd, ym, yO, xx, yn, yo, zL, yp, zM, zp, zq, ze, zN, yq, zO, yr, zr, zf, zP, yt, zg, yu, zQ, zh, zt, yP, xy, yQ, yR, zu, yS, decide_eq_true_eq, beq_iff_eq, zR, zS, za, String.reduceEq, ↓reduceIte, yv, Glob.val?, xz, yT, yU, yV, yW, yX, yY, xA, xB, xC, xD, yZ, y0, y5, y6, y7, y8, yw, yx, yy, y9, xc, xd, zT, zU, xe, zV, zW, xf, xg, xh, xF, xG, xH, xI, xJ, xK, xL, xM, xi, xj, xk, xl, xm, xn, xo, xp, Glob.isB, and_self, and_true, true_and, zX, yz, yA, zY, Option.map_some, List.length_cons, List.length_nil, Nat.reduceAdd, Nat.zero_add, yB, yC, yD, yE, yF, yG, zb, yK, xr, xv, z9, xt, xu, xq, yI, yH, z0, zw, zZ, z8, xw, zz, zx, xE, z4, ya, z3, z6, z1, yb, z7, zj, z5, zy, zi, zA, z2, yL, yJ, zk, r2]) <;> rfl
    · exact ⟨rfl, rfl⟩
end

end
end Mine

namespace Mine

/-! classes of a finite set, by representatives -/
structure Reps {α : Type} (S : List α) (R : α → α → Prop) (n : Nat) : Prop where
  ex : ∃ rs : List α, rs.length = n ∧ (∀ r ∈ rs, r ∈ S) ∧ rs.Pairwise (fun a b => ¬ R a b) ∧ ∀ x ∈ S, ∃ r ∈ rs, R x r

section
variable {α : Type} {R : α → α → Prop}
theorem indep_le (sy : ∀ a b, R a b → R b a) (tr : ∀ a b c, R a b → R b c → R a c) : ∀ (A B : List α), A.Pairwise (fun a b => ¬ R a b) → (∀ a ∈ A, ∃ b ∈ B, R a b) → A.length ≤ B.length
  | [], _, _, _ => Nat.zero_le _
  | a :: A, B, hp, hc => by
    obtain ⟨h1, h2⟩ := List.pairwise_cons.mp hp
    obtain ⟨b, hb, hr⟩ := hc a (.head _)
    obtain ⟨B1, B2, rfl⟩ := List.append_of_mem hb
    have := indep_le sy tr A (B1 ++ B2) h2 fun a' ha' => by
      obtain ⟨b', hb', hr'⟩ := hc a' (.tail _ ha')
      rcases List.mem_append.mp hb' with q | q
      · exact ⟨b', List.mem_append_left _ q, hr'⟩
      · rcases List.mem_cons.mp q with q | q
        · subst q; exact absurd (tr _ _ _ hr (sy _ _ hr')) (h1 a' ha')
        · exact ⟨b', List.mem_append_right _ q, hr'⟩
    simp only [List.length_append, List.length_cons] at this ⊢
    omega
theorem Reps.le {S : List α} {n m : Nat} (sy : ∀ a b, R a b → R b a) (tr : ∀ a b c, R a b → R b c → R a c) (a : Reps S R n) (b : Reps S R m) : n ≤ m := by
  obtain ⟨A, rfl, a1, a2, a3⟩ := a.ex
  obtain ⟨B, rfl, b1, b2, b3⟩ := b.ex
  exact indep_le sy tr A B a2 fun x hx => b3 x (a1 x hx)
theorem Reps.unique {S : List α} {n m : Nat} (sy : ∀ a b, R a b → R b a) (tr : ∀ a b c, R a b → R b c → R a c) (a : Reps S R n) (b : Reps S R m) : n = m :=
  Nat.le_antisymm (a.le sy tr b) (b.le sy tr a)
end

/-! joined by edges -/
inductive Cn {α : Type} (es : List (α × α)) : α → α → Prop
  | refl (a : α) : Cn es a a
  | fwd {a b c : α} : Cn es a b → (b, c) ∈ es → Cn es a c
  | bwd {a b c : α} : Cn es a b → (c, b) ∈ es → Cn es a c

section
variable {α : Type} {es : List (α × α)} {a b c u v : α}
theorem Cn.trans (h : Cn es a b) (g : Cn es b c) : Cn es a c := by
  induction g with
  | refl => exact h
  | fwd _ e ih => exact .fwd ih e
  | bwd _ e ih => exact .bwd ih e
theorem Cn.edge (e : (a, b) ∈ es) : Cn es a b := .fwd (.refl a) e
theorem Cn.edge' (e : (a, b) ∈ es) : Cn es b a := .bwd (.refl b) e
theorem Cn.symm (h : Cn es a b) : Cn es b a := by
  induction h with
  | refl => exact .refl _
  | fwd _ e ih => exact (Cn.edge' e).trans ih
  | bwd _ e ih => exact (Cn.edge e).trans ih
theorem Cn.mono {es' : List (α × α)} (hs : ∀ e ∈ es, e ∈ es') (h : Cn es a b) : Cn es' a b := by
  induction h with
  | refl => exact .refl _
  | fwd _ e ih => exact .fwd ih (hs _ e)
  | bwd _ e ih => exact .bwd ih (hs _ e)
theorem Cn.none (h : Cn [] a b) : a = b := by
  induction h with
  | refl => rfl
  | fwd _ e ih => cases e
  | bwd _ e ih => cases e
theorem Cn.split (h : Cn ((u, v) :: es) a b) : Cn es a b ∨ (Cn es a u ∧ Cn es v b) ∨ (Cn es a v ∧ Cn es u b) := by
  induction h with
  | refl => exact .inl (.refl _)
  | fwd _ e ih =>
    rcases List.mem_cons.mp e with q | q
    · cases q
      rcases ih with ih | ⟨i1, i2⟩ | ⟨i1, i2⟩
      · exact .inr (.inl ⟨ih, .refl _⟩)
      · exact .inr (.inl ⟨i1, .refl _⟩)
      · exact .inl i1
    · rcases ih with ih | ⟨i1, i2⟩ | ⟨i1, i2⟩
      · exact .inl (.fwd ih q)
      · exact .inr (.inl ⟨i1, .fwd i2 q⟩)
      · exact .inr (.inr ⟨i1, .fwd i2 q⟩)
  | bwd _ e ih =>
    rcases List.mem_cons.mp e with q | q
    · cases q
      rcases ih with ih | ⟨i1, i2⟩ | ⟨i1, i2⟩
      · exact .inr (.inr ⟨ih, .refl _⟩)
      · exact .inl i1
      · exact .inr (.inr ⟨i1, .refl _⟩)
    · rcases ih with ih | ⟨i1, i2⟩ | ⟨i1, i2⟩
      · exact .inl (.bwd ih q)
      · exact .inr (.inl ⟨i1, .bwd i2 q⟩)
      · exact .inr (.inr ⟨i1, .bwd i2 q⟩)
end

open Classical in
/-- how many edges join what was apart -/
noncomputable def dr {α : Type} : List (α × α) → Nat
  | [] => 0
  | (u, v) :: es => dr es + if Cn es u v then 0 else 1

theorem dr_reps {α : Type} (S : List α) (hS : S.Nodup) : ∀ es : List (α × α), (∀ e ∈ es, e.1 ∈ S ∧ e.2 ∈ S) → ∃ n, n + dr es = S.length ∧ Reps S (Cn es) n
  | [], _ => ⟨S.length, rfl, ⟨S, rfl, fun r h => h, hS.imp fun h q => h q.none, fun x hx => ⟨x, hx, .refl x⟩⟩⟩
  | (u, v) :: es, he => by
    obtain ⟨n, hn, ⟨rs, rl, r1, r2, r3⟩⟩ := dr_reps S hS es fun e h => he e (.tail _ h)
    obtain ⟨hu, hv⟩ := he (u, v) (.head _)
    unfold dr
    by_cases hc : Cn es u v
    · rw [if_pos hc]
      have same : ∀ {a b}, Cn ((u, v) :: es) a b → Cn es a b := fun q => by
        rcases q.split with q | ⟨q1, q2⟩ | ⟨q1, q2⟩
        · exact q
        · exact (q1.trans hc).trans q2
        · exact (q1.trans hc.symm).trans q2
      refine ⟨n, hn, ⟨rs, rl, r1, r2.imp fun h q => h (same q), fun x hx => ?_⟩⟩
      · obtain ⟨r, hr, h⟩ := r3 x hx
        exact ⟨r, hr, h.mono fun e h => .tail _ h⟩
    · rw [if_neg hc]
      obtain ⟨ru, hru, cu⟩ := r3 u hu
      obtain ⟨rv, hrv, cv⟩ := r3 v hv
      obtain ⟨B1, B2, rfl⟩ := List.append_of_mem hru
      have p1 := List.pairwise_append.mp r2
      have p2 := List.pairwise_cons.mp p1.2.1
      have ap : ∀ x ∈ B1 ++ B2, ¬ Cn es x ru := fun x hx q => by
        rcases List.mem_append.mp hx with h | h
        · exact p1.2.2 x h ru (.head _) q
        · exact p2.1 x h q.symm
      refine ⟨n - 1, ?_, ⟨B1 ++ B2, ?_, fun r h => r1 r ?_, ?_, fun x hx => ?_⟩⟩
      · simp only [List.length_append, List.length_cons] at rl; omega
      · simp only [List.length_append, List.length_cons] at rl ⊢; omega
      · rcases List.mem_append.mp h with h | h
        · exact List.mem_append_left _ h
        · exact List.mem_append_right _ (.tail _ h)
      · have r2' : (B1 ++ B2).Pairwise (fun a b => ¬ Cn es a b) := List.pairwise_append.mpr ⟨p1.1, p2.2, fun a ha b hb => p1.2.2 a ha b (.tail _ hb)⟩
        refine r2'.imp_of_mem fun {a b} ha hb h q => ?_
        rcases q.split with q | ⟨q1, q2⟩ | ⟨q1, q2⟩
        · exact h q
        · exact ap a ha (q1.trans cu)
        · exact ap b hb (q2.symm.trans cu)
      · obtain ⟨r, hr, h⟩ := r3 x hx
        have hmono : ∀ {a b}, Cn es a b → Cn ((u, v) :: es) a b := fun h => h.mono fun e h => .tail _ h
        have old : ∀ {r}, r ∈ B1 ++ ru :: B2 → ¬ r = ru → r ∈ B1 ++ B2 := fun {r} hr hne => by
          rcases List.mem_append.mp hr with h | h
          · exact List.mem_append_left _ h
          · rcases List.mem_cons.mp h with h | h
            · exact absurd h hne
            · exact List.mem_append_right _ h
        by_cases q : r = ru
        · subst q
          have hne : ¬ rv = r := fun q => hc (cu.trans (q ▸ cv.symm))
          exact ⟨rv, old hrv hne, (hmono (h.trans cu.symm)).trans ((Cn.edge (.head _)).trans (hmono cv))⟩
        · exact ⟨r, old hr q, hmono h⟩

/-! the two sides of a plane graph -/
section
variable {ε α β : Type} {pe : ε → α × α} {de : ε → β × β}
open Classical in
theorem dual_step {All : List ε} (cross : ∀ (e : ε) (l1 l2 : List ε), e ∉ l1 → e ∉ l2 → (∀ x ∈ l1, x ∉ l2) → e ∈ All → (∀ x ∈ l1, x ∈ All) → (∀ x ∈ l2, x ∈ All) → ¬ (Cn (l1.map pe) (pe e).1 (pe e).2 ∧ Cn (l2.map de) (de e).1 (de e).2)) (rest : List ε) :
    ∀ (l2 l1 : List ε), (l1 ++ (l2 ++ rest)).Nodup → (∀ x ∈ l1 ++ (l2 ++ rest), x ∈ All) → dr (l1.map pe) + l2.length + dr (rest.map de) ≤ dr ((l2.reverse ++ l1).map pe) + dr ((l2 ++ rest).map de)
  | [], l1, _, _ => by simp
  | e :: l2, l1, hn, hA => by
    have hn' : ((e :: l1) ++ (l2 ++ rest)).Nodup := (List.perm_middle (l₁ := l1) (a := e) (l₂ := l2 ++ rest)).nodup_iff.mp hn
    have ih := dual_step cross rest l2 (e :: l1) hn' fun x hx => hA x (by
      rcases List.mem_cons.mp hx with rfl | hx
      · exact List.mem_append_right _ (.head _)
      · rcases List.mem_append.mp hx with h | h
        · exact List.mem_append_left _ h
        · exact List.mem_append_right _ (.tail _ h))
    have hc := List.nodup_cons.mp hn'
    have hd := (List.nodup_append.mp hc.2).2.2
    have cr := cross e l1 (l2 ++ rest) (fun h => hc.1 (List.mem_append_left _ h)) (fun h => hc.1 (List.mem_append_right _ h)) (fun x h1 h2 => hd x h1 x h2 rfl) (hA e (List.mem_append_right _ (.head _)))
      (fun x h => hA x (List.mem_append_left _ h)) fun x h => hA x (List.mem_append_right _ (.tail _ h))
    have e1 : dr ((e :: l1).map pe) = dr (l1.map pe) + if Cn (l1.map pe) (pe e).1 (pe e).2 then 0 else 1 := rfl
    have e2 : dr ((e :: l2 ++ rest).map de) = dr ((l2 ++ rest).map de) + if Cn ((l2 ++ rest).map de) (de e).1 (de e).2 then 0 else 1 := rfl
    have e3 : (e :: l2).reverse ++ l1 = l2.reverse ++ e :: l1 := by simp
    rw [e3, e2, List.length_cons]
    by_cases h1 : Cn (l1.map pe) (pe e).1 (pe e).2
    · rw [if_neg fun h2 => cr ⟨h1, h2⟩]
      rw [e1, if_pos h1] at ih
      omega
    · rw [e1, if_neg h1] at ih
      split <;> omega
end

theorem Cn.cong {α : Type} {es es' : List (α × α)} (h : ∀ e, e ∈ es ↔ e ∈ es') {a b : α} : Cn es a b ↔ Cn es' a b :=
  ⟨fun q => q.mono fun e he => (h e).mp he, fun q => q.mono fun e he => (h e).mpr he⟩
theorem Reps.cong {α : Type} {S : List α} {R R' : α → α → Prop} (h : ∀ a b, R a b ↔ R' a b) {n : Nat} (r : Reps S R n) : Reps S R' n := by
  have : R = R' := funext fun a => funext fun b => propext (h a b)
  rw [← this]; exact r
theorem dr_unique {α : Type} {S : List α} (hS : S.Nodup) {es es' : List (α × α)} (h1 : ∀ e ∈ es, e.1 ∈ S ∧ e.2 ∈ S) (h : ∀ e, e ∈ es ↔ e ∈ es') : dr es = dr es' := by
  obtain ⟨n, hn, r⟩ := dr_reps S hS es h1
  obtain ⟨m, hm, r'⟩ := dr_reps S hS es' fun e he => h1 e ((h e).mpr he)
  have := Reps.unique (fun a b h => h.symm) (fun a b c h g => h.trans g) (r.cong fun a b => Cn.cong h) r'
  omega
theorem dr_one {α : Type} {S : List α} (hS : S.Nodup) {es : List (α × α)} (h1 : ∀ e ∈ es, e.1 ∈ S ∧ e.2 ∈ S) (o : α) (ho : o ∈ S) (hc : ∀ x ∈ S, Cn es x o) : dr es + 1 = S.length := by
  obtain ⟨n, hn, r⟩ := dr_reps S hS es h1
  have r1 : Reps S (Cn es) 1 := ⟨[o], rfl, fun r hr => by rw [List.mem_singleton.mp hr]; exact ho, List.pairwise_singleton _ _, fun x hx => ⟨o, .head _, hc x hx⟩⟩
  have := Reps.unique (fun a b h => h.symm) (fun a b c h g => h.trans g) r r1
  omega
end Mine

namespace Mine

abbrev Pt := Nat × Nat
abbrev Ed := Bool × Nat × Nat
noncomputable def grid (n m : Nat) : List Pt := (List.range n).flatMap fun i => (List.range m).map fun j => (i, j)
theorem mem_grid {n m : Nat} {x : Pt} : x ∈ grid n m ↔ x.1 < n ∧ x.2 < m := by
  obtain ⟨a, b⟩ := x
  simp only [grid, List.mem_flatMap, List.mem_map, List.mem_range, Prod.mk.injEq]
  constructor
  · rintro ⟨i, hi, j, hj, rfl, rfl⟩; exact ⟨hi, hj⟩
  · rintro ⟨h1, h2⟩; exact ⟨a, h1, b, h2, rfl, rfl⟩
theorem grid_succ (n m : Nat) : grid (n + 1) m = grid n m ++ (List.range m).map fun j => (n, j) := by
  simp [grid, List.range_succ, List.flatMap_append]
theorem grid_len (n m : Nat) : (grid n m).length = n * m := by
  induction n with
  | zero => simp [grid]
  | succ n ih => rw [grid_succ, List.length_append, ih, List.length_map, List.length_range, Nat.succ_mul]
theorem grid_nodup (n m : Nat) : (grid n m).Nodup := by
  induction n with
  | zero => exact .nil
  | succ n ih =>
    rw [grid_succ, List.nodup_append]
    refine ⟨ih, ?_, ?_⟩
    · refine List.Pairwise.map (fun j => (n, j)) ?_ (List.nodup_range (n := m))
      intro a b h q
      exact h (Prod.mk.inj q).2
    · rintro x hx y hy rfl
      obtain ⟨j, _, rfl⟩ := List.mem_map.mp hy
      have := (mem_grid.mp hx).1
      simp at this

theorem filter_two {α : Type} (A : α → Bool) : ∀ l : List α, (l.filter A).length + (l.filter fun e => !A e).length = l.length
  | [] => rfl
  | x :: l => by
    have ih := filter_two A l
    rw [List.filter_cons, List.filter_cons]
    cases A x <;> simp <;> omega

section
variable (H W : Nat)
noncomputable def pe : Ed → Option Pt × Option Pt
  | (true, p, q) => (if p = 0 then none else some (p - 1, q), if p < H then some (p, q) else none)
  | (false, p, q) => (if q = 0 then none else some (p, q - 1), if q < W then some (p, q) else none)
noncomputable def de : Ed → Pt × Pt
  | (true, p, q) => ((p, q), (p, q + 1))
  | (false, p, q) => ((p, q), (p + 1, q))
noncomputable def OkE : Ed → Prop
  | (true, p, q) => p ≤ H ∧ q < W
  | (false, p, q) => p < H ∧ q ≤ W
noncomputable def edges : List Ed := (grid (H + 1) W).map (fun x => (true, x.1, x.2)) ++ (grid H (W + 1)).map (fun x => (false, x.1, x.2))
noncomputable def verts : List (Option Pt) := none :: (grid H W).map some
end
section
variable {H W : Nat}
theorem mem_edges {e : Ed} : e ∈ edges H W ↔ OkE H W e := by
  obtain ⟨b, p, q⟩ := e
  simp only [edges, List.mem_append, List.mem_map, mem_grid, Prod.mk.injEq]
  cases b
  · constructor
    · rintro (⟨x, _, h, _⟩ | ⟨⟨p', q'⟩, ⟨h1, h2⟩, _, rfl, rfl⟩)
      · cases h
      · exact ⟨h1, Nat.le_of_lt_succ h2⟩
    · rintro ⟨h1, h2⟩; exact .inr ⟨(p, q), ⟨h1, Nat.lt_succ_of_le h2⟩, rfl, rfl, rfl⟩
  · constructor
    · rintro (⟨⟨p', q'⟩, ⟨h1, h2⟩, _, rfl, rfl⟩ | ⟨x, _, h, _⟩)
      · exact ⟨Nat.le_of_lt_succ h1, h2⟩
      · cases h
    · rintro ⟨h1, h2⟩; exact .inl ⟨(p, q), ⟨Nat.lt_succ_of_le h1, h2⟩, rfl, rfl, rfl⟩
theorem edges_nodup : (edges H W).Nodup := by
  rw [edges, List.nodup_append]
  refine ⟨?_, ?_, ?_⟩
  · refine List.Pairwise.map _ ?_ (grid_nodup (H + 1) W)
    rintro ⟨a, b⟩ ⟨c, d⟩ h q
    simp only [Prod.mk.injEq, true_and] at q
    exact h (by rw [q.1, q.2])
  · refine List.Pairwise.map _ ?_ (grid_nodup H (W + 1))
    rintro ⟨a, b⟩ ⟨c, d⟩ h q
    simp only [Prod.mk.injEq, true_and] at q
    exact h (by rw [q.1, q.2])
  · rintro x hx y hy rfl
    obtain ⟨_, _, rfl⟩ := List.mem_map.mp hx
    obtain ⟨_, _, h⟩ := List.mem_map.mp hy
    simp at h
theorem edges_len : (edges H W).length = (H + 1) * W + H * (W + 1) := by
  rw [edges, List.length_append, List.length_map, List.length_map, grid_len, grid_len]
theorem verts_nodup : (verts H W).Nodup := by
  refine List.nodup_cons.mpr ⟨fun h => ?_, List.Pairwise.map _ (fun a b h q => h (Option.some.inj q)) (grid_nodup H W)⟩
  obtain ⟨_, _, h⟩ := List.mem_map.mp h
  cases h
theorem mem_verts {x : Pt} : some x ∈ verts H W ↔ x.1 < H ∧ x.2 < W := by
  rw [verts, List.mem_cons, List.mem_map]
  constructor
  · rintro (h | ⟨y, hy, h⟩)
    · cases h
    · cases h; exact mem_grid.mp hy
  · intro h; exact .inr ⟨x, mem_grid.mpr h, rfl⟩
theorem pe_verts {e : Ed} (he : OkE H W e) : (pe H W e).1 ∈ verts H W ∧ (pe H W e).2 ∈ verts H W := by
  obtain ⟨b, p, q⟩ := e
  have h0 : none ∈ verts H W := .head _
  cases b
  · obtain ⟨h1, h2⟩ := he
    constructor
    · show (if q = 0 then none else some (p, q - 1)) ∈ _
      split
      · exact h0
      · exact mem_verts.mpr ⟨h1, by simp only; omega⟩
    · show (if q < W then some (p, q) else none) ∈ _
      split
      · rename_i h; exact mem_verts.mpr ⟨h1, h⟩
      · exact h0
  · obtain ⟨h1, h2⟩ := he
    constructor
    · show (if p = 0 then none else some (p - 1, q)) ∈ _
      split
      · exact h0
      · exact mem_verts.mpr ⟨by simp only; omega, h2⟩
    · show (if p < H then some (p, q) else none) ∈ _
      split
      · rename_i h; exact mem_verts.mpr ⟨h, h2⟩
      · exact h0
theorem de_pts {e : Ed} (he : OkE H W e) : (de e).1 ∈ grid (H + 1) (W + 1) ∧ (de e).2 ∈ grid (H + 1) (W + 1) := by
  obtain ⟨b, p, q⟩ := e
  cases b
  · obtain ⟨h1, h2⟩ := he
    exact ⟨mem_grid.mpr ⟨by simp only [de]; omega, by simp only [de]; omega⟩, mem_grid.mpr ⟨by simp only [de]; omega, by simp only [de]; omega⟩⟩
  · obtain ⟨h1, h2⟩ := he
    exact ⟨mem_grid.mpr ⟨by simp only [de]; omega, by simp only [de]; omega⟩, mem_grid.mpr ⟨by simp only [de]; omega, by simp only [de]; omega⟩⟩

/-! a closed way crosses any other an even number of times -/
theorem xor8 : ∀ a b c d e f g h : Bool, ((a ^^ e) ^^ (b ^^ f) ^^ (c ^^ g) ^^ (d ^^ h)) = ((a ^^ b ^^ c ^^ d) ^^ (e ^^ f ^^ g ^^ h)) := by decide
theorem xor3 : ∀ a b c : Bool, ((a ^^ b) ^^ (b ^^ c)) = (a ^^ c) := by decide
noncomputable def deg (cnt : Ed → Bool) (i j : Nat) : Bool := cnt (true, i, j) ^^ cnt (true, i + 1, j) ^^ cnt (false, i, j) ^^ cnt (false, i, j + 1)
theorem deg_add (c d : Ed → Bool) (i j : Nat) : deg (fun e => c e ^^ d e) i j = (deg c i j ^^ deg d i j) := xor8 _ _ _ _ _ _ _ _
theorem deg_edge {e : Ed} (he : OkE H W e) {i j : Nat} (hi : i < H) (hj : j < W) : deg (fun x => decide (x = e)) i j = (decide ((pe H W e).1 = some (i, j)) ^^ decide ((pe H W e).2 = some (i, j))) := by
  obtain ⟨b, p, q⟩ := e
  unfold deg
  cases b
  · obtain ⟨h1, h2⟩ := he
    have a1 : decide ((true, i, j) = ((false, p, q) : Ed)) = false := by simp
    have a2 : decide ((true, i + 1, j) = ((false, p, q) : Ed)) = false := by simp
    have a3 : decide ((false, i, j) = ((false, p, q) : Ed)) = decide (p = i ∧ q = j) := decide_eq_decide.mpr (by simp only [Prod.mk.injEq, true_and]; omega)
    have a4 : decide ((false, i, j + 1) = ((false, p, q) : Ed)) = decide (p = i ∧ q = j + 1) := decide_eq_decide.mpr (by simp only [Prod.mk.injEq, true_and]; omega)
    have b1 : decide ((pe H W (false, p, q)).1 = some (i, j)) = decide (p = i ∧ q = j + 1) := decide_eq_decide.mpr (by
      show (if q = 0 then none else some (p, q - 1)) = some (i, j) ↔ _
      split
      · simp; omega
      · simp only [Option.some.injEq, Prod.mk.injEq]; omega)
    have b2 : decide ((pe H W (false, p, q)).2 = some (i, j)) = decide (p = i ∧ q = j) := decide_eq_decide.mpr (by
      show (if q < W then some (p, q) else none) = some (i, j) ↔ _
      split
      · simp only [Option.some.injEq, Prod.mk.injEq]
      · simp; omega)
    dsimp only
    rw [a1, a2, a3, a4, b1, b2]
    cases decide (p = i ∧ q = j) <;> cases decide (p = i ∧ q = j + 1) <;> rfl
  · obtain ⟨h1, h2⟩ := he
    have a1 : decide ((true, i, j) = ((true, p, q) : Ed)) = decide (p = i ∧ q = j) := decide_eq_decide.mpr (by simp only [Prod.mk.injEq, true_and]; omega)
    have a2 : decide ((true, i + 1, j) = ((true, p, q) : Ed)) = decide (p = i + 1 ∧ q = j) := decide_eq_decide.mpr (by simp only [Prod.mk.injEq, true_and]; omega)
    have a3 : decide ((false, i, j) = ((true, p, q) : Ed)) = false := by simp
    have a4 : decide ((false, i, j + 1) = ((true, p, q) : Ed)) = false := by simp
    have b1 : decide ((pe H W (true, p, q)).1 = some (i, j)) = decide (p = i + 1 ∧ q = j) := decide_eq_decide.mpr (by
      show (if p = 0 then none else some (p - 1, q)) = some (i, j) ↔ _
      split
      · simp; omega
      · simp only [Option.some.injEq, Prod.mk.injEq]; omega)
    have b2 : decide ((pe H W (true, p, q)).2 = some (i, j)) = decide (p = i ∧ q = j) := decide_eq_decide.mpr (by
      show (if p < H then some (p, q) else none) = some (i, j) ↔ _
      split
      · simp only [Option.some.injEq, Prod.mk.injEq]
      · simp; omega)
    dsimp only
    rw [a1, a2, a3, a4, b1, b2]
    cases decide (p = i ∧ q = j) <;> cases decide (p = i + 1 ∧ q = j) <;> rfl
theorem chain {l : List Ed} (hl : ∀ e ∈ l, OkE H W e) {a b : Option Pt} (h : Cn (l.map (pe H W)) a b) :
    ∃ cnt : Ed → Bool, (∀ e, cnt e = true → e ∈ l) ∧ ∀ i j, i < H → j < W → deg cnt i j = (decide (a = some (i, j)) ^^ decide (b = some (i, j))) := by
  have step : ∀ {b c : Option Pt} (e : Ed), e ∈ l → (∀ i j, i < H → j < W → (decide ((pe H W e).1 = some (i, j)) ^^ decide ((pe H W e).2 = some (i, j))) = (decide (b = some (i, j)) ^^ decide (c = some (i, j)))) →
      (∃ cnt : Ed → Bool, (∀ e, cnt e = true → e ∈ l) ∧ ∀ i j, i < H → j < W → deg cnt i j = (decide (a = some (i, j)) ^^ decide (b = some (i, j)))) →
      ∃ cnt : Ed → Bool, (∀ e, cnt e = true → e ∈ l) ∧ ∀ i j, i < H → j < W → deg cnt i j = (decide (a = some (i, j)) ^^ decide (c = some (i, j))) := by
    rintro b c e he hbc ⟨cnt, h1, h2⟩
    refine ⟨fun x => cnt x ^^ decide (x = e), fun x hx => ?_, fun i j hi hj => ?_⟩
    · replace hx : (cnt x ^^ decide (x = e)) = true := hx
      by_cases q : x = e
      · rw [q]; exact he
      · rw [decide_eq_false q, Bool.xor_false] at hx; exact h1 x hx
    · rw [deg_add, h2 i j hi hj, deg_edge (hl e he) hi hj, hbc i j hi hj, xor3]
  induction h with
  | refl => exact ⟨fun _ => false, fun _ h => (by cases h), fun i j _ _ => by simp [deg]⟩
  | fwd _ e ih =>
    obtain ⟨x, hx, q⟩ := List.mem_map.mp e
    exact step x hx (fun i j _ _ => by rw [q]) ih
  | bwd _ e ih =>
    obtain ⟨x, hx, q⟩ := List.mem_map.mp e
    exact step x hx (fun i j _ _ => by rw [q, Bool.xor_comm]) ih

noncomputable def sA (cnt : Ed → Bool) : Nat → Bool
  | 0 => false
  | p + 1 => sA cnt p ^^ cnt (false, p, 0)
noncomputable def sB (cnt : Ed → Bool) (p : Nat) : Nat → Bool
  | 0 => false
  | q + 1 => sB cnt p q ^^ cnt (true, p, q)
noncomputable def pot (cnt : Ed → Bool) (x : Pt) : Bool := sA cnt x.1 ^^ sB cnt x.1 x.2
theorem xorV : ∀ a b c d e f g : Bool, ((a ^^ b) ^^ (c ^^ d)) = e → (f ^^ g ^^ e ^^ false) = false → ((a ^^ (b ^^ f)) ^^ (c ^^ (d ^^ g))) = false := by decide
theorem pot_v {cnt : Ed → Bool} (hz : ∀ i j, i < H → j < W → deg cnt i j = false) {p : Nat} (hp : p < H) : ∀ q, q ≤ W → (pot cnt (p, q) ^^ pot cnt (p + 1, q)) = cnt (false, p, q)
  | 0, _ => by
    show ((sA cnt p ^^ false) ^^ ((sA cnt p ^^ cnt (false, p, 0)) ^^ false)) = _
    cases sA cnt p <;> cases cnt (false, p, 0) <;> rfl
  | q + 1, hq => by
    have ih := pot_v hz hp q (by omega)
    have z := hz p q hp (by omega)
    unfold deg at z
    show ((sA cnt p ^^ (sB cnt p q ^^ cnt (true, p, q))) ^^ (sA cnt (p + 1) ^^ (sB cnt (p + 1) q ^^ cnt (true, p + 1, q)))) = _
    have ih : ((sA cnt p ^^ sB cnt p q) ^^ (sA cnt (p + 1) ^^ sB cnt (p + 1) q)) = cnt (false, p, q) := ih
    revert ih z
    generalize sA cnt p = a
    generalize sA cnt (p + 1) = b
    generalize sB cnt p q = c
    generalize sB cnt (p + 1) q = d
    generalize cnt (true, p, q) = e
    generalize cnt (true, p + 1, q) = f
    generalize cnt (false, p, q) = g
    generalize cnt (false, p, q + 1) = h
    revert a b c d e f g h
    decide
theorem pot_edge {cnt : Ed → Bool} (hz : ∀ i j, i < H → j < W → deg cnt i j = false) {e : Ed} (he : OkE H W e) : (pot cnt (de e).1 ^^ pot cnt (de e).2) = cnt e := by
  obtain ⟨b, p, q⟩ := e
  cases b
  · exact pot_v hz he.1 q he.2
  · show ((sA cnt p ^^ sB cnt p q) ^^ (sA cnt p ^^ (sB cnt p q ^^ cnt (true, p, q)))) = _
    cases sA cnt p <;> cases sB cnt p q <;> cases cnt (true, p, q) <;> rfl
theorem cross (e : Ed) (l1 l2 : List Ed) (h1 : e ∉ l1) (h2 : e ∉ l2) (h12 : ∀ x ∈ l1, x ∉ l2) (he : e ∈ edges H W) (hl1 : ∀ x ∈ l1, x ∈ edges H W) (hl2 : ∀ x ∈ l2, x ∈ edges H W) :
    ¬ (Cn (l1.map (pe H W)) (pe H W e).1 (pe H W e).2 ∧ Cn (l2.map de) (de e).1 (de e).2) := by
  rintro ⟨c1, c2⟩
  have he := mem_edges.mp he
  obtain ⟨cnt, k1, k2⟩ := chain (fun x hx => mem_edges.mp (hl1 x hx)) c1
  have hz : ∀ i j, i < H → j < W → deg (fun x => cnt x ^^ decide (x = e)) i j = false := fun i j hi hj => by
    rw [deg_add, k2 i j hi hj, deg_edge he hi hj, Bool.xor_self]
  have hce : (fun x => cnt x ^^ decide (x = e)) e = true := by
    have : cnt e = false := by
      cases q : cnt e with
      | false => rfl
      | true => exact absurd (k1 e q) h1
    simp [this]
  have hoff : ∀ x ∈ l2, (fun x => cnt x ^^ decide (x = e)) x = false := fun x hx => by
    have q1 : x ≠ e := fun q => h2 (q ▸ hx)
    have : cnt x = false := by
      cases q : cnt x with
      | false => rfl
      | true => exact absurd hx (h12 x (k1 x q))
    simp [this, q1]
  generalize (fun x => cnt x ^^ decide (x = e)) = c at hz hce hoff
  have path : ∀ {x y : Pt}, Cn (l2.map de) x y → pot c x = pot c y := fun h => by
    have eqx : ∀ a b : Bool, (a ^^ b) = false → a = b := by decide
    induction h with
    | refl => rfl
    | fwd _ e ih =>
      obtain ⟨x, hx, q⟩ := List.mem_map.mp e
      have := pot_edge hz (mem_edges.mp (hl2 x hx))
      rw [q, hoff x hx] at this
      rw [ih]; exact eqx _ _ this
    | bwd _ e ih =>
      obtain ⟨x, hx, q⟩ := List.mem_map.mp e
      have := pot_edge hz (mem_edges.mp (hl2 x hx))
      rw [q, hoff x hx] at this
      rw [ih]; exact (eqx _ _ this).symm
  have := pot_edge hz he
  rw [path c2, Bool.xor_self, hce] at this
  cases this

theorem euler (A : Ed → Bool) : ∃ nS nT, Reps (verts H W) (Cn (((edges H W).filter A).map (pe H W))) nS ∧ Reps (grid (H + 1) (W + 1)) (Cn (((edges H W).filter fun e => !A e).map de)) nT ∧
    nS + ((edges H W).filter A).length = nT + H * W := by
  generalize hF : (edges H W).filter A = F
  generalize hG : ((edges H W).filter fun e => !A e) = G
  have memF : ∀ {x}, x ∈ F ↔ x ∈ edges H W ∧ A x = true := fun {x} => by rw [← hF, List.mem_filter]
  have memG : ∀ {x}, x ∈ G ↔ x ∈ edges H W ∧ (!A x) = true := fun {x} => by rw [← hG, List.mem_filter]
  have both : ∀ x, x ∈ edges H W ↔ x ∈ F ∨ x ∈ G := fun x => by
    rw [memF, memG]
    cases A x <;> simp
  have nF : F.Nodup := by rw [← hF]; exact edges_nodup.filter _
  have nG : G.Nodup := by rw [← hG]; exact edges_nodup.filter _
  have nFG : (F ++ G).Nodup := List.nodup_append.mpr ⟨nF, nG, by
    rintro x hx y hy rfl
    have h1 := (memF.mp hx).2
    have h2 := (memG.mp hy).2
    rw [h1] at h2; cases h2⟩
  have hlen : F.length + G.length = (edges H W).length := by
    rw [← hF, ← hG]
    exact filter_two A _
  have okF : ∀ e ∈ F.map (pe H W), e.1 ∈ verts H W ∧ e.2 ∈ verts H W := fun e he => by
    obtain ⟨x, hx, rfl⟩ := List.mem_map.mp he
    exact pe_verts (mem_edges.mp ((both x).mpr (.inl hx)))
  have okG : ∀ e ∈ G.map de, e.1 ∈ grid (H + 1) (W + 1) ∧ e.2 ∈ grid (H + 1) (W + 1) := fun e he => by
    obtain ⟨x, hx, rfl⟩ := List.mem_map.mp he
    exact de_pts (mem_edges.mp ((both x).mpr (.inr hx)))
  obtain ⟨nS, hS, rS⟩ := dr_reps (verts H W) verts_nodup _ okF
  obtain ⟨nT, hT, rT⟩ := dr_reps (grid (H + 1) (W + 1)) (grid_nodup _ _) _ okG
  refine ⟨nS, nT, rS, rT, ?_⟩
  have s1 := dual_step (All := edges H W) (pe := pe H W) (de := de) cross [] G F (by rw [List.append_nil]; exact nFG) fun x hx => by
    rw [List.append_nil] at hx
    exact (both x).mpr (List.mem_append.mp hx)
  have s2 := dual_step (All := edges H W) (pe := pe H W) (de := de) cross G F [] nFG fun x hx => (both x).mpr (List.mem_append.mp hx)
  have d1 : dr ((G.reverse ++ F).map (pe H W)) + 1 = (verts H W).length := by
    have hm : ∀ e : Ed, OkE H W e → pe H W e ∈ (G.reverse ++ F).map (pe H W) := fun e he => List.mem_map_of_mem (by
      rcases (both e).mp (mem_edges.mpr he) with h | h
      · exact List.mem_append_right _ h
      · exact List.mem_append_left _ (List.mem_reverse.mpr h))
    refine dr_one verts_nodup (fun e he => ?_) none (.head _) fun x hx => ?_
    · obtain ⟨x, hx, rfl⟩ := List.mem_map.mp he
      refine pe_verts (mem_edges.mp ((both x).mpr ?_))
      rcases List.mem_append.mp hx with h | h
      · exact .inr (List.mem_reverse.mp h)
      · exact .inl h
    · cases x with
      | none => exact .refl _
      | some x =>
        obtain ⟨p, q⟩ := x
        have hq := mem_verts.mp hx
        simp only at hq
        have key : ∀ p, p < H → Cn ((G.reverse ++ F).map (pe H W)) (some (p, q)) none := by
          intro p
          induction p with
          | zero =>
            intro hp
            have := hm (true, 0, q) ⟨Nat.zero_le _, hq.2⟩
            simp only [pe, if_true, if_pos hp] at this
            exact Cn.edge' this
          | succ p ih =>
            intro hp
            have := hm (true, p + 1, q) ⟨by omega, hq.2⟩
            simp only [pe, if_pos hp, Nat.add_sub_cancel, if_neg (Nat.succ_ne_zero p)] at this
            exact (Cn.edge' this).trans (ih (by omega))
        exact key p hq.1
  have d2 : dr ((F ++ G).map de) + 1 = (grid (H + 1) (W + 1)).length := by
    have hm : ∀ e : Ed, OkE H W e → de e ∈ (F ++ G).map de := fun e he => List.mem_map_of_mem (List.mem_append.mpr ((both e).mp (mem_edges.mpr he)))
    refine dr_one (grid_nodup _ _) (fun e he => ?_) (0, 0) (mem_grid.mpr ⟨by simp, by simp⟩) fun x hx => ?_
    · obtain ⟨x, hx, rfl⟩ := List.mem_map.mp he
      exact de_pts (mem_edges.mp ((both x).mpr (List.mem_append.mp hx)))
    · obtain ⟨p, q⟩ := x
      have hq := mem_grid.mp hx
      simp only at hq
      have k1 : ∀ q, q ≤ W → Cn ((F ++ G).map de) (p, q) (p, 0) := by
        intro q
        induction q with
        | zero => intro _; exact .refl _
        | succ q ih => intro hq'; exact (Cn.edge' (hm (true, p, q) ⟨by omega, by omega⟩)).trans (ih (by omega))
      have k2 : ∀ p, p ≤ H → Cn ((F ++ G).map de) (p, 0) (0, 0) := by
        intro p
        induction p with
        | zero => intro _; exact .refl _
        | succ p ih => intro hp'; exact (Cn.edge' (hm (false, p, 0) ⟨by omega, by omega⟩)).trans (ih (by omega))
      exact (k1 q (by omega)).trans (k2 p (by omega))
  have d3 : dr ((F.reverse ++ []).map (pe H W)) = dr (F.map (pe H W)) := by
    refine (dr_unique verts_nodup okF fun e => ?_).symm
    simp only [List.append_nil, List.mem_map, List.mem_reverse]
  have d0 : dr (([] : List Ed).map (pe H W)) = 0 := rfl
  have d0' : dr (([] : List Ed).map de) = 0 := rfl
  rw [d3, d0] at s2
  rw [d0', List.append_nil] at s1
  have v1 : (verts H W).length = H * W + 1 := by rw [verts, List.length_cons, List.length_map, grid_len]
  have v2 : (grid (H + 1) (W + 1)).length = H * W + H + W + 1 := by rw [grid_len, Nat.add_mul, Nat.mul_add]; omega
  have v3 : (edges H W).length = 2 * (H * W) + H + W := by rw [edges_len, Nat.add_mul, Nat.mul_add]; omega
  omega
end
end Mine

namespace Mine

abbrev IP := Int × Int
/-- the steps between two members of S -/
noncomputable def stepsOf (S : List IP) (ways : List IP) : List (IP × IP) := S.flatMap fun p => ways.flatMap fun w => if (p.1 + w.1, p.2 + w.2) ∈ S then [(p, (p.1 + w.1, p.2 + w.2))] else []
theorem mem_steps {S ways : List IP} {p q : IP} : (p, q) ∈ stepsOf S ways ↔ p ∈ S ∧ q ∈ S ∧ ∃ w ∈ ways, q = (p.1 + w.1, p.2 + w.2) := by
  simp only [stepsOf, List.mem_flatMap]
  constructor
  · rintro ⟨a, ha, w, hw, h⟩
    split at h
    · rename_i hs
      cases List.mem_singleton.mp h
      exact ⟨ha, hs, w, hw, rfl⟩
    · cases h
  · rintro ⟨hp, hq, w, hw, rfl⟩
    exact ⟨p, hp, w, hw, by rw [if_pos hq]; exact .head _⟩
noncomputable def four : List IP := [(-1, 0), (0, -1), (0, 1), (1, 0)]
noncomputable def eight : List IP := [(-1, -1), (-1, 0), (-1, 1), (0, -1), (0, 1), (1, -1), (1, 0), (1, 1)]

section
variable {H W : Nat} {x : Int → Int → Bool}

noncomputable def fgO (x : Int → Int → Bool) : Option Pt → Bool
  | none => false
  | some a => x a.1 a.2
noncomputable def inA (H W : Nat) (x : Int → Int → Bool) (e : Ed) : Bool := fgO x (pe H W e).1 && fgO x (pe H W e).2
noncomputable def ip (a : Pt) : IP := ((a.1 : Int), (a.2 : Int))
noncomputable def ipO : Option Pt → IP
  | none => (-5, -5)
  | some a => ip a
noncomputable def np (a : IP) : Pt := (a.1.toNat, a.2.toNat)

variable (hx : ∀ r c, x r c = true → 0 ≤ r ∧ r < H ∧ 0 ≤ c ∧ c < W)
include hx
theorem fg_up (p q : Nat) : fgO x (if p = 0 then none else some (p - 1, q)) = x ((p : Int) - 1) q := by
  split
  · rename_i h; subst h
    cases e : x (((0 : Nat) : Int) - 1) q with
    | false => rfl
    | true => have := (hx _ _ e).1; simp at this
  · rename_i h
    show x ((p - 1 : Nat) : Int) q = _
    rw [show ((p - 1 : Nat) : Int) = (p : Int) - 1 by omega]
theorem fg_dn (p q : Nat) : fgO x (if p < H then some (p, q) else none) = x p q := by
  split
  · rfl
  · rename_i h
    cases e : x (p : Int) q with
    | false => rfl
    | true => have := (hx _ _ e).2.1; omega
theorem fg_lt (p q : Nat) : fgO x (if q = 0 then none else some (p, q - 1)) = x p ((q : Int) - 1) := by
  split
  · rename_i h; subst h
    cases e : x p (((0 : Nat) : Int) - 1) with
    | false => rfl
    | true => have := (hx _ _ e).2.2.1; simp at this
  · rename_i h
    show x p ((q - 1 : Nat) : Int) = _
    rw [show ((q - 1 : Nat) : Int) = (q : Int) - 1 by omega]
theorem fg_rt (p q : Nat) : fgO x (if q < W then some (p, q) else none) = x p q := by
  split
  · rfl
  · rename_i h
    cases e : x (p : Int) q with
    | false => rfl
    | true => have := (hx _ _ e).2.2.2; omega
theorem inA_v (p q : Nat) : inA H W x (true, p, q) = (x ((p : Int) - 1) q && x p q) := by
  show (fgO x (if p = 0 then none else some (p - 1, q)) && fgO x (if p < H then some (p, q) else none)) = _
  rw [fg_up hx, fg_dn hx]
theorem inA_h (p q : Nat) : inA H W x (false, p, q) = (x p ((q : Int) - 1) && x p q) := by
  show (fgO x (if q = 0 then none else some (p, q - 1)) && fgO x (if q < W then some (p, q) else none)) = _
  rw [fg_lt hx, fg_rt hx]

/-! the floor's parts -/
section
variable {Sf : List IP} (hS : ∀ a : IP, a ∈ Sf ↔ x a.1 a.2 = true)
include hS
theorem fg_near {u v : Option Pt} (h : (u, v) ∈ ((edges H W).filter (inA H W x)).map (pe H W)) : fgO x u = true ∧ fgO x v = true ∧ (ipO u, ipO v) ∈ stepsOf Sf four := by
  obtain ⟨e, he, q⟩ := List.mem_map.mp h
  obtain ⟨he, hA⟩ := List.mem_filter.mp he
  simp only [inA, Bool.and_eq_true] at hA
  rw [q] at hA
  refine ⟨hA.1, hA.2, mem_steps.mpr ?_⟩
  cases u with
  | none => cases hA.1
  | some a =>
    cases v with
    | none => cases hA.2
    | some b =>
      refine ⟨(hS _).mpr hA.1, (hS _).mpr hA.2, ?_⟩
      obtain ⟨t, p, r⟩ := e
      cases t
      · have q' : ((if r = 0 then none else some (p, r - 1)), (if r < W then some (p, r) else none)) = (some a, some b) := q
        simp only [Prod.mk.injEq] at q'
        split at q'
        · cases q'.1
        · split at q'
          · obtain ⟨q1, q2⟩ := q'; cases q1; cases q2
            exact ⟨(0, 1), by simp [four], by simp [ipO, ip]; omega⟩
          · cases q'.2
      · have q' : ((if p = 0 then none else some (p - 1, r)), (if p < H then some (p, r) else none)) = (some a, some b) := q
        simp only [Prod.mk.injEq] at q'
        split at q'
        · cases q'.1
        · split at q'
          · obtain ⟨q1, q2⟩ := q'; cases q1; cases q2
            exact ⟨(1, 0), by simp [four], by simp [ipO, ip]; omega⟩
          · cases q'.2
theorem fg_conn {u v : Option Pt} (h : Cn (((edges H W).filter (inA H W x)).map (pe H W)) u v) : u = v ∨ (fgO x u = true ∧ fgO x v = true ∧ Cn (stepsOf Sf four) (ipO u) (ipO v)) := by
  induction h with
  | refl => exact .inl rfl
  | fwd _ e ih =>
    obtain ⟨n1, n2, n3⟩ := fg_near hx hS e
    rcases ih with rfl | ⟨i1, i2, i3⟩
    · exact .inr ⟨n1, n2, Cn.edge n3⟩
    · exact .inr ⟨i1, n2, .fwd i3 n3⟩
  | bwd _ e ih =>
    obtain ⟨n1, n2, n3⟩ := fg_near hx hS e
    rcases ih with rfl | ⟨i1, i2, i3⟩
    · exact .inr ⟨n2, n1, Cn.edge' n3⟩
    · exact .inr ⟨i1, n1, .bwd i3 n3⟩
theorem fg_step {a b : IP} (h : (a, b) ∈ stepsOf Sf four) : Cn (((edges H W).filter (inA H W x)).map (pe H W)) (some (np a)) (some (np b)) := by
  obtain ⟨ha, hb, w, hw, q⟩ := mem_steps.mp h
  have xa := (hS a).mp ha
  have xb := (hS b).mp hb
  have ra := hx _ _ xa
  have rb := hx _ _ xb
  obtain ⟨a1, a2⟩ := a
  obtain ⟨b1, b2⟩ := b
  obtain ⟨i, rfl⟩ := Int.eq_ofNat_of_zero_le ra.1
  obtain ⟨j, rfl⟩ := Int.eq_ofNat_of_zero_le ra.2.2.1
  obtain ⟨k, rfl⟩ := Int.eq_ofNat_of_zero_le rb.1
  obtain ⟨l, rfl⟩ := Int.eq_ofNat_of_zero_le rb.2.2.1
  simp only at xa xb ra rb
  simp only [np, Int.toNat_natCast]
  have vert : ∀ i j : Nat, x i j = true → x ((i : Int) + 1) j = true → (some (i, j), some (i + 1, j)) ∈ ((edges H W).filter (inA H W x)).map (pe H W) := fun i j h1 h2 => by
    have r1 := hx _ _ h1
    have r2 := hx _ _ h2
    refine List.mem_map.mpr ⟨(true, i + 1, j), List.mem_filter.mpr ⟨mem_edges.mpr ⟨by omega, by omega⟩, ?_⟩, ?_⟩
    · rw [inA_v hx, show ((i + 1 : Nat) : Int) - 1 = i by omega, h1, show ((i + 1 : Nat) : Int) = (i : Int) + 1 by omega, h2]; rfl
    · simp only [pe, if_neg (Nat.succ_ne_zero i), if_pos (show i + 1 < H by omega), Nat.add_sub_cancel]
  have horz : ∀ i j : Nat, x i j = true → x i ((j : Int) + 1) = true → (some (i, j), some (i, j + 1)) ∈ ((edges H W).filter (inA H W x)).map (pe H W) := fun i j h1 h2 => by
    have r1 := hx _ _ h1
    have r2 := hx _ _ h2
    refine List.mem_map.mpr ⟨(false, i, j + 1), List.mem_filter.mpr ⟨mem_edges.mpr ⟨by omega, by omega⟩, ?_⟩, ?_⟩
    · rw [inA_h hx, show ((j + 1 : Nat) : Int) - 1 = j by omega, h1, show ((j + 1 : Nat) : Int) = (j : Int) + 1 by omega, h2]; rfl
    · simp only [pe, if_neg (Nat.succ_ne_zero j), if_pos (show j + 1 < W by omega), Nat.add_sub_cancel]
  simp only [four, List.mem_cons, List.not_mem_nil, or_false] at hw
  rcases hw with rfl | rfl | rfl | rfl
  · have e1 : i = k + 1 := by have := (Prod.mk.inj q).1; simp only at this; omega
    have e2 : l = j := by have := (Prod.mk.inj q).2; simp only at this; omega
    subst e1 e2
    exact Cn.edge' (vert k l xb (by rw [show ((k : Int) + 1) = ((k + 1 : Nat) : Int) by omega]; exact xa))
  · have e1 : k = i := by have := (Prod.mk.inj q).1; simp only at this; omega
    have e2 : j = l + 1 := by have := (Prod.mk.inj q).2; simp only at this; omega
    subst e1 e2
    exact Cn.edge' (horz k l xb (by rw [show ((l : Int) + 1) = ((l + 1 : Nat) : Int) by omega]; exact xa))
  · have e1 : k = i := by have := (Prod.mk.inj q).1; simp only at this; omega
    have e2 : l = j + 1 := by have := (Prod.mk.inj q).2; simp only at this; omega
    subst e1 e2
    exact Cn.edge (horz k j xa (by rw [show ((j : Int) + 1) = ((j + 1 : Nat) : Int) by omega]; exact xb))
  · have e1 : k = i + 1 := by have := (Prod.mk.inj q).1; simp only at this; omega
    have e2 : l = j := by have := (Prod.mk.inj q).2; simp only at this; omega
    subst e1 e2
    exact Cn.edge (vert i l xa (by rw [show ((i : Int) + 1) = ((i + 1 : Nat) : Int) by omega]; exact xb))
theorem fg_back {a b : IP} (h : Cn (stepsOf Sf four) a b) : Cn (((edges H W).filter (inA H W x)).map (pe H W)) (some (np a)) (some (np b)) := by
  induction h with
  | refl => exact .refl _
  | fwd _ e ih => exact ih.trans (fg_step hx hS e)
  | bwd _ e ih => exact ih.trans (fg_step hx hS e).symm
theorem np_ip {a : IP} (ha : a ∈ Sf) : ip (np a) = a ∧ (np a).1 < H ∧ (np a).2 < W := by
  have := hx _ _ ((hS a).mp ha)
  obtain ⟨a1, a2⟩ := a
  simp only [np, ip] at this ⊢
  refine ⟨?_, by omega, by omega⟩
  rw [Int.toNat_of_nonneg this.1, Int.toNat_of_nonneg this.2.2.1]
theorem reps_fg {n : Nat} (r : Reps Sf (Cn (stepsOf Sf four)) n) :
    Reps (verts H W) (Cn (((edges H W).filter (inA H W x)).map (pe H W))) (1 + ((grid H W).filter fun a => !x a.1 a.2).length + n) := by
  obtain ⟨rs, rl, r1, r2, r3⟩ := r.ex
  have bgO : ∀ {u v : Option Pt}, fgO x u = false → Cn (((edges H W).filter (inA H W x)).map (pe H W)) u v → u = v := fun hu h => by
    rcases fg_conn hx hS h with h | ⟨h, _⟩
    · exact h
    · rw [hu] at h; cases h
  have fgr : ∀ a ∈ rs, fgO x (some (np a)) = true := fun a ha => by
    have := np_ip hx hS (r1 a ha)
    have h2 := (hS a).mp (r1 a ha)
    show x ((np a).1 : Int) ((np a).2 : Int) = true
    have h3 : ((np a).1 : Int) = a.1 := congrArg Prod.fst this.1
    have h4 : ((np a).2 : Int) = a.2 := congrArg Prod.snd this.1
    rw [h3, h4]; exact h2
  refine ⟨none :: (((grid H W).filter fun a => !x a.1 a.2).map some ++ rs.map fun a => some (np a)), ?_, ?_, ?_, ?_⟩
  · simp only [List.length_cons, List.length_append, List.length_map, rl]; omega
  · intro u hu
    rcases List.mem_cons.mp hu with rfl | hu
    · exact .head _
    · rcases List.mem_append.mp hu with hu | hu
      · obtain ⟨a, ha, rfl⟩ := List.mem_map.mp hu
        exact mem_verts.mpr (mem_grid.mp (List.mem_filter.mp ha).1)
      · obtain ⟨a, ha, rfl⟩ := List.mem_map.mp hu
        exact mem_verts.mpr (np_ip hx hS (r1 a ha)).2
  · refine List.pairwise_cons.mpr ⟨fun u hu h => ?_, List.pairwise_append.mpr ⟨?_, ?_, ?_⟩⟩
    · have := bgO rfl h
      subst this
      rcases List.mem_append.mp hu with hu | hu <;> (obtain ⟨_, _, q⟩ := List.mem_map.mp hu; cases q)
    · refine List.Pairwise.map _ (R := fun a b : Pt => a ≠ b ∧ x a.1 a.2 = false) (fun a b h q => ?_) ?_
      · exact h.1 (Option.some.inj (bgO h.2 q))
      · refine List.Pairwise.imp_of_mem (R := fun a b : Pt => a ≠ b) (fun {a b} ha hb h => ⟨h, ?_⟩) ((grid_nodup H W).filter _)
        have := (List.mem_filter.mp ha).2
        simpa using this
    · refine List.Pairwise.map _ (R := fun a b : IP => (a ∈ rs ∧ b ∈ rs) ∧ ¬ Cn (stepsOf Sf four) a b) (fun a b h q => h.2 ?_) (r2.imp_of_mem fun {a b} ha hb h => ⟨⟨ha, hb⟩, h⟩)
      have ea := (np_ip hx hS (r1 a h.1.1)).1
      have eb := (np_ip hx hS (r1 b h.1.2)).1
      rcases fg_conn hx hS q with e | ⟨_, _, e⟩
      · have := Option.some.inj e
        rw [← ea, ← eb, this]; exact .refl _
      · have e : Cn (stepsOf Sf four) (ip (np a)) (ip (np b)) := e
        rw [ea, eb] at e; exact e
    · intro u hu v hv h
      obtain ⟨a, ha, rfl⟩ := List.mem_map.mp hu
      obtain ⟨b, hb, rfl⟩ := List.mem_map.mp hv
      have h0 : fgO x (some a) = false := by have := (List.mem_filter.mp ha).2; simpa [fgO] using this
      have := bgO h0 h
      rw [this, fgr b hb] at h0; cases h0
  · intro u hu
    cases u with
    | none => exact ⟨none, .head _, .refl _⟩
    | some a =>
      have ha := mem_verts.mp hu
      cases e : x a.1 a.2 with
      | false => exact ⟨some a, .tail _ (List.mem_append_left _ (List.mem_map_of_mem (List.mem_filter.mpr ⟨mem_grid.mpr ha, by simp [e]⟩))), .refl _⟩
      | true =>
        obtain ⟨r, hr, h⟩ := r3 (ip a) ((hS _).mpr e)
        refine ⟨some (np r), .tail _ (List.mem_append_right _ (List.mem_map.mpr ⟨r, hr, rfl⟩)), ?_⟩
        have := fg_back hx hS h
        simpa [np, ip] using this
end
end
end Mine

namespace Mine
theorem mem_eight {u v : Int} (h1 : -1 ≤ u) (h2 : u ≤ 1) (h3 : -1 ≤ v) (h4 : v ≤ 1) (h : ¬ (u = 0 ∧ v = 0)) : (u, v) ∈ eight := by
  have hu : u = -1 ∨ u = 0 ∨ u = 1 := by omega
  have hv : v = -1 ∨ v = 0 ∨ v = 1 := by omega
  rcases hu with rfl | rfl | rfl <;> rcases hv with rfl | rfl | rfl <;> first | exact absurd ⟨rfl, rfl⟩ h | decide
theorem eight_le {w : IP} (h : w ∈ eight) : -1 ≤ w.1 ∧ w.1 ≤ 1 ∧ -1 ≤ w.2 ∧ w.2 ≤ 1 := by
  revert w h; decide
theorem two_near {t : Nat} {a b : Int} (h : a = t ∨ a = (t : Int) - 1) (h' : b = t ∨ b = (t : Int) - 1) : -1 ≤ b - a ∧ b - a ≤ 1 ∧ b = a + (b - a) := by omega
theorem mid {H : Nat} {a b w : Int} (h1 : -1 ≤ a) (h2 : a ≤ H) (h3 : -1 ≤ b) (h4 : b ≤ H) (hw1 : -1 ≤ w) (hw2 : w ≤ 1) (q : b = a + w) : ∃ t : Nat, t < H + 1 ∧ (a = t ∨ a = (t : Int) - 1) ∧ (b = t ∨ b = (t : Int) - 1) :=
  ⟨(max a b).toNat, by omega, by omega, by omega⟩
section
variable {H W : Nat} {x : Int → Int → Bool}

noncomputable def near (t : Pt) (a : IP) : Prop := (a.1 = t.1 ∨ a.1 = (t.1 : Int) - 1) ∧ (a.2 = t.2 ∨ a.2 = (t.2 : Int) - 1)
noncomputable def full (x : Int → Int → Bool) (t : Pt) : Bool := x ((t.1 : Int) - 1) ((t.2 : Int) - 1) && x ((t.1 : Int) - 1) t.2 && x t.1 ((t.2 : Int) - 1) && x t.1 t.2
noncomputable def bare (H W : Nat) (x : Int → Int → Bool) (a : IP) : Prop := -1 ≤ a.1 ∧ a.1 ≤ H ∧ -1 ≤ a.2 ∧ a.2 ≤ W ∧ x a.1 a.2 = false
theorem full_of {t : Pt} (h : full x t = true) {a : IP} (ha : near t a) : x a.1 a.2 = true := by
  simp only [full, Bool.and_eq_true] at h
  obtain ⟨⟨⟨h1, h2⟩, h3⟩, h4⟩ := h
  obtain ⟨a1, a2⟩ := a
  obtain ⟨e1, e2⟩ := ha
  simp only at e1 e2 ⊢
  rcases e1 with rfl | rfl <;> rcases e2 with rfl | rfl <;> assumption
theorem not_full {t : Pt} (ht : t ∈ grid (H + 1) (W + 1)) (h : full x t = false) : ∃ a, bare H W x a ∧ near t a := by
  have := mem_grid.mp ht
  obtain ⟨p, q⟩ := t
  simp only at this
  have key : ∀ a1 a2 : Int, near (p, q) (a1, a2) → x a1 a2 = false → ∃ a, bare H W x a ∧ near (p, q) a := fun a1 a2 hn hf => by
    refine ⟨(a1, a2), ⟨?_, ?_, ?_, ?_, hf⟩, hn⟩ <;> (obtain ⟨e1, e2⟩ := hn; simp only at e1 e2 ⊢; omega)
  simp only [full] at h
  cases e1 : x ((p : Int) - 1) ((q : Int) - 1) with
  | false => exact key _ _ ⟨.inr rfl, .inr rfl⟩ e1
  | true =>
    cases e2 : x ((p : Int) - 1) q with
    | false => exact key _ _ ⟨.inr rfl, .inl rfl⟩ e2
    | true =>
      cases e3 : x p ((q : Int) - 1) with
      | false => exact key _ _ ⟨.inl rfl, .inr rfl⟩ e3
      | true =>
        cases e4 : x p q with
        | false => exact key _ _ ⟨.inl rfl, .inl rfl⟩ e4
        | true => rw [e1, e2, e3, e4] at h; cases h

variable (hx : ∀ r c, x r c = true → 0 ≤ r ∧ r < H ∧ 0 ≤ c ∧ c < W)
include hx
/-- the edges that some bare cell has -/
theorem bg_edge {e : Ed} (he : e ∈ (edges H W).filter fun e => !inA H W x e) : ∃ a, bare H W x a ∧ near (de e).1 a ∧ near (de e).2 a := by
  obtain ⟨he, hA⟩ := List.mem_filter.mp he
  have ok := mem_edges.mp he
  obtain ⟨t, p, q⟩ := e
  cases t
  · rw [inA_h hx, Bool.not_eq_true'] at hA
    obtain ⟨o1, o2⟩ := ok
    cases e1 : x p ((q : Int) - 1) with
    | false => exact ⟨(p, (q : Int) - 1), ⟨by simp only; omega, by simp only; omega, by simp only; omega, by simp only; omega, e1⟩, ⟨.inl rfl, .inr rfl⟩, ⟨.inr (by simp [de]), .inr rfl⟩⟩
    | true =>
      rw [e1, Bool.true_and] at hA
      exact ⟨(p, q), ⟨by simp only; omega, by simp only; omega, by simp only; omega, by simp only; omega, hA⟩, ⟨.inl rfl, .inl rfl⟩, ⟨.inr (by simp [de]), .inl rfl⟩⟩
  · rw [inA_v hx, Bool.not_eq_true'] at hA
    obtain ⟨o1, o2⟩ := ok
    cases e1 : x ((p : Int) - 1) q with
    | false => exact ⟨((p : Int) - 1, q), ⟨by simp only; omega, by simp only; omega, by simp only; omega, by simp only; omega, e1⟩, ⟨.inr rfl, .inl rfl⟩, ⟨.inr rfl, .inr (by simp [de])⟩⟩
    | true =>
      rw [e1, Bool.true_and] at hA
      exact ⟨(p, q), ⟨by simp only; omega, by simp only; omega, by simp only; omega, by simp only; omega, hA⟩, ⟨.inl rfl, .inl rfl⟩, ⟨.inl rfl, .inr (by simp [de])⟩⟩
theorem edge_v {p c : Nat} {a : IP} (ha : bare H W x a) (hp : p ≤ H) (hc : c < W) (h1 : a.1 = p ∨ a.1 = (p : Int) - 1) (h2 : a.2 = c) : ((p, c), (p, c + 1)) ∈ ((edges H W).filter fun e => !inA H W x e).map de := by
  refine List.mem_map.mpr ⟨(true, p, c), List.mem_filter.mpr ⟨mem_edges.mpr ⟨hp, hc⟩, ?_⟩, rfl⟩
  rw [inA_v hx]
  have hf := ha.2.2.2.2
  rcases h1 with h1 | h1 <;> rw [h1, h2] at hf <;> simp [hf]
theorem edge_h {r q : Nat} {a : IP} (ha : bare H W x a) (hr : r < H) (hq : q ≤ W) (h1 : a.1 = r) (h2 : a.2 = q ∨ a.2 = (q : Int) - 1) : ((r, q), (r + 1, q)) ∈ ((edges H W).filter fun e => !inA H W x e).map de := by
  refine List.mem_map.mpr ⟨(false, r, q), List.mem_filter.mpr ⟨mem_edges.mpr ⟨hr, hq⟩, ?_⟩, rfl⟩
  rw [inA_h hx]
  have hf := ha.2.2.2.2
  rcases h2 with h2 | h2 <;> rw [h1, h2] at hf <;> simp [hf]
theorem corners {a : IP} (ha : bare H W x a) {t t' : Pt} (ht : t ∈ grid (H + 1) (W + 1)) (ht' : t' ∈ grid (H + 1) (W + 1)) (h : near t a) (h' : near t' a) :
    Cn (((edges H W).filter fun e => !inA H W x e).map de) t t' := by
  obtain ⟨p, q⟩ := t
  obtain ⟨p', q'⟩ := t'
  have b1 := mem_grid.mp ht
  have b2 := mem_grid.mp ht'
  obtain ⟨n1, n2⟩ := h
  obtain ⟨n3, n4⟩ := h'
  simp only at b1 b2 n1 n2 n3 n4
  have s1 : Cn (((edges H W).filter fun e => !inA H W x e).map de) (p, q) (p, q') := by
    have : q = q' ∨ q' = q + 1 ∨ q = q' + 1 := by omega
    rcases this with rfl | rfl | rfl
    · exact .refl _
    · exact Cn.edge (edge_v hx ha (by omega) (by omega) n1 (by omega))
    · exact Cn.edge' (edge_v hx ha (by omega) (by omega) n1 (by omega))
  have s2 : Cn (((edges H W).filter fun e => !inA H W x e).map de) (p, q') (p', q') := by
    have : p = p' ∨ p' = p + 1 ∨ p = p' + 1 := by omega
    rcases this with rfl | rfl | rfl
    · exact .refl _
    · exact Cn.edge (edge_h hx ha (by omega) (by omega) (by omega) n4)
    · exact Cn.edge' (edge_h hx ha (by omega) (by omega) (by omega) n4)
  exact s1.trans s2
theorem full_alone {t t' : Pt} (hf : full x t = true) (h : Cn (((edges H W).filter fun e => !inA H W x e).map de) t t') : t = t' := by
  have no : ∀ {e : Ed}, e ∈ ((edges H W).filter fun e => !inA H W x e) → (de e).1 = t ∨ (de e).2 = t → False := fun {e} he hq => by
    obtain ⟨a, ha, n1, n2⟩ := bg_edge hx he
    have : near t a := by rcases hq with rfl | rfl <;> assumption
    have h1 := full_of hf this
    rw [ha.2.2.2.2] at h1; cases h1
  induction h with
  | refl => rfl
  | fwd _ e ih =>
    obtain ⟨y, hy, q⟩ := List.mem_map.mp e
    exact (no hy (.inl (by rw [q]; exact ih.symm))).elim
  | bwd _ e ih =>
    obtain ⟨y, hy, q⟩ := List.mem_map.mp e
    exact (no hy (.inr (by rw [q]; exact ih.symm))).elim

section
variable {Sb : List IP} (hS : ∀ a : IP, a ∈ Sb ↔ bare H W x a)
include hS
omit hx in
theorem near8 {t : Pt} {a b : IP} (ha : bare H W x a) (hb : bare H W x b) (h : near t a) (h' : near t b) : Cn (stepsOf Sb eight) a b := by
  obtain ⟨a1, a2⟩ := a
  obtain ⟨b1, b2⟩ := b
  obtain ⟨n1, n2⟩ := h
  obtain ⟨n3, n4⟩ := h'
  by_cases q : (a1, a2) = (b1, b2)
  · rw [q]; exact .refl _
  · obtain ⟨x1, x2, x3⟩ := two_near n1 n3
    obtain ⟨y1, y2, y3⟩ := two_near n2 n4
    refine Cn.edge (mem_steps.mpr ⟨(hS _).mpr ha, (hS _).mpr hb, (b1 - a1, b2 - a2), mem_eight x1 x2 y1 y2 fun h => q ?_, ?_⟩)
    · rw [Int.sub_eq_zero.mp h.1, Int.sub_eq_zero.mp h.2]
    · rw [← x3, ← y3]
theorem bg_conn {t t' : Pt} (h : Cn (((edges H W).filter fun e => !inA H W x e).map de) t t') {a : IP} (ha : bare H W x a) (hn : near t a) : ∀ b, bare H W x b → near t' b → Cn (stepsOf Sb eight) a b := by
  induction h with
  | refl => exact fun b hb h => near8 hS ha hb hn h
  | fwd _ e ih =>
    obtain ⟨y, hy, q⟩ := List.mem_map.mp e
    obtain ⟨z, hz, n1, n2⟩ := bg_edge hx hy
    rw [q] at n1 n2
    exact fun b hb h => (ih z hz n1).trans (near8 hS hz hb n2 h)
  | bwd _ e ih =>
    obtain ⟨y, hy, q⟩ := List.mem_map.mp e
    obtain ⟨z, hz, n1, n2⟩ := bg_edge hx hy
    rw [q] at n1 n2
    exact fun b hb h => (ih z hz n2).trans (near8 hS hz hb n1 h)
omit hx hS in
theorem np_near {a : IP} (ha : bare H W x a) : near (np a) a ∧ np a ∈ grid (H + 1) (W + 1) := by
  obtain ⟨a1, a2⟩ := a
  obtain ⟨h1, h2, h3, h4, _⟩ := ha
  simp only at h1 h2 h3 h4
  refine ⟨⟨?_, ?_⟩, mem_grid.mpr ⟨?_, ?_⟩⟩ <;> simp only [np] <;> omega
theorem bg_step {a b : IP} (h : (a, b) ∈ stepsOf Sb eight) : Cn (((edges H W).filter fun e => !inA H W x e).map de) (np a) (np b) := by
  obtain ⟨ha, hb, w, hw, q⟩ := mem_steps.mp h
  have ba := (hS a).mp ha
  have bb := (hS b).mp hb
  obtain ⟨c1, c2⟩ := np_near ba
  obtain ⟨c3, c4⟩ := np_near bb
  have : ∃ t, t ∈ grid (H + 1) (W + 1) ∧ near t a ∧ near t b := by
    obtain ⟨a1, a2⟩ := a
    obtain ⟨b1, b2⟩ := b
    obtain ⟨w1, w2⟩ := w
    have hw' : -1 ≤ w1 ∧ w1 ≤ 1 ∧ -1 ≤ w2 ∧ w2 ≤ 1 := by
      exact eight_le hw
    simp only [Prod.mk.injEq] at q
    obtain ⟨t1, u1, u2, u3⟩ := mid ba.1 ba.2.1 bb.1 bb.2.1 hw'.1 hw'.2.1 q.1
    obtain ⟨t2, v1, v2, v3⟩ := mid ba.2.2.1 ba.2.2.2.1 bb.2.2.1 bb.2.2.2.1 hw'.2.2.1 hw'.2.2.2 q.2
    exact ⟨(t1, t2), mem_grid.mpr ⟨u1, v1⟩, ⟨u2, v2⟩, ⟨u3, v3⟩⟩
  obtain ⟨t, ht, n1, n2⟩ := this
  exact (corners hx ba c2 ht c1 n1).trans (corners hx bb ht c4 n2 c3)
theorem bg_back {a b : IP} (h : Cn (stepsOf Sb eight) a b) : Cn (((edges H W).filter fun e => !inA H W x e).map de) (np a) (np b) := by
  induction h with
  | refl => exact .refl _
  | fwd _ e ih => exact ih.trans (bg_step hx hS e)
  | bwd _ e ih => exact ih.trans (bg_step hx hS e).symm
theorem reps_bg {n : Nat} (r : Reps Sb (Cn (stepsOf Sb eight)) n) :
    Reps (grid (H + 1) (W + 1)) (Cn (((edges H W).filter fun e => !inA H W x e).map de)) (((grid (H + 1) (W + 1)).filter (full x)).length + n) := by
  obtain ⟨rs, rl, r1, r2, r3⟩ := r.ex
  have bb : ∀ a ∈ rs, bare H W x a := fun a ha => (hS a).mp (r1 a ha)
  refine ⟨(grid (H + 1) (W + 1)).filter (full x) ++ rs.map np, ?_, ?_, List.pairwise_append.mpr ⟨?_, ?_, ?_⟩, ?_⟩
  · rw [List.length_append, List.length_map, rl]
  · intro t ht
    rcases List.mem_append.mp ht with h | h
    · exact (List.mem_filter.mp h).1
    · obtain ⟨a, ha, rfl⟩ := List.mem_map.mp h
      exact (np_near (bb a ha)).2
  · refine List.Pairwise.imp_of_mem (R := fun a b : Pt => a ≠ b) (fun {a b} ha hb h q => h ?_) ((grid_nodup _ _).filter _)
    exact full_alone hx (List.mem_filter.mp ha).2 q
  · refine List.Pairwise.map _ (R := fun a b : IP => (a ∈ rs ∧ b ∈ rs) ∧ ¬ Cn (stepsOf Sb eight) a b) (fun a b h q => h.2 ?_) (r2.imp_of_mem fun {a b} ha hb h => ⟨⟨ha, hb⟩, h⟩)
    exact bg_conn hx hS q (bb a h.1.1) (np_near (bb a h.1.1)).1 b (bb b h.1.2) (np_near (bb b h.1.2)).1
  · intro t ht u hu h
    obtain ⟨a, ha, rfl⟩ := List.mem_map.mp hu
    have hf := (List.mem_filter.mp ht).2
    have := full_alone hx hf h
    subst this
    have h1 := full_of hf (np_near (bb a ha)).1
    rw [(bb a ha).2.2.2.2] at h1; cases h1
  · intro t ht
    cases e : full x t with
    | true => exact ⟨t, List.mem_append_left _ (List.mem_filter.mpr ⟨ht, e⟩), .refl _⟩
    | false =>
      obtain ⟨a, ha, hn⟩ := not_full ht e
      obtain ⟨r, hr, h⟩ := r3 a ((hS a).mpr ha)
      refine ⟨np r, List.mem_append_right _ (List.mem_map_of_mem hr), ?_⟩
      exact (corners hx ha ht (np_near ha).2 hn (np_near ha).1).trans (bg_back hx hS h)
end
end
end Mine

namespace Mine

noncomputable def b2 (b : Bool) : Int := if b then 1 else 0
noncomputable def r1 : Nat → (Nat → Int) → Int
  | 0, _ => 0
  | n + 1, f => r1 n f + f n
noncomputable def g2 (n m : Nat) (f : Nat → Nat → Int) : Int := r1 n fun i => r1 m fun j => f i j
theorem r1_add (f g : Nat → Int) : ∀ n, r1 n (fun i => f i + g i) = r1 n f + r1 n g
  | 0 => rfl
  | n + 1 => by simp only [r1]; rw [r1_add f g n]; omega
theorem r1_mul (k : Int) (f : Nat → Int) : ∀ n, r1 n (fun i => k * f i) = k * r1 n f
  | 0 => by simp [r1]
  | n + 1 => by simp only [r1]; rw [r1_mul k f n, Int.mul_add]
theorem r1_congr {f g : Nat → Int} : ∀ n, (∀ i, i < n → f i = g i) → r1 n f = r1 n g
  | 0, _ => rfl
  | n + 1, h => by simp only [r1]; rw [r1_congr n fun i hi => h i (by omega), h n (by omega)]
theorem r1_zero : ∀ n, r1 n (fun _ => 0) = 0
  | 0 => rfl
  | n + 1 => by simp only [r1]; rw [r1_zero n]; rfl
theorem r1_shift (f : Nat → Int) : ∀ n, r1 (n + 1) f = f 0 + r1 n fun i => f (i + 1)
  | 0 => by simp [r1]
  | n + 1 => by rw [r1, r1_shift f n]; simp only [r1]; omega
section
variable {n m : Nat} {f g : Nat → Nat → Int}
theorem g2_add : g2 n m (fun i j => f i j + g i j) = g2 n m f + g2 n m g := by
  unfold g2
  rw [← r1_add]
  exact r1_congr n fun i _ => r1_add _ _ m
theorem g2_mul (k : Int) : g2 n m (fun i j => k * f i j) = k * g2 n m f := by
  unfold g2
  rw [← r1_mul]
  exact r1_congr n fun i _ => r1_mul _ _ m
theorem g2_congr (h : ∀ i j, i < n → j < m → f i j = g i j) : g2 n m f = g2 n m g := r1_congr n fun i hi => r1_congr m fun j hj => h i j hi hj
theorem hi1 (h : ∀ q, f n q = 0) : g2 (n + 1) m f = g2 n m f := by
  unfold g2
  rw [r1, show (fun j => f n j) = fun _ => 0 from funext h, r1_zero]; omega
theorem lo1 (h : ∀ q, f 0 q = 0) : g2 (n + 1) m f = g2 n m fun i j => f (i + 1) j := by
  unfold g2
  rw [r1_shift, show (fun j => f 0 j) = fun _ => 0 from funext h, r1_zero, Int.zero_add]
theorem hi2 (h : ∀ p, f p m = 0) : g2 n (m + 1) f = g2 n m f := r1_congr n fun i _ => by rw [r1, h]; omega
theorem lo2 (h : ∀ p, f p 0 = 0) : g2 n (m + 1) f = g2 n m fun i j => f i (j + 1) := r1_congr n fun i _ => by rw [r1_shift, h, Int.zero_add]
end
theorem row_count (p : Pt → Bool) (i : Nat) : ∀ m, ((((List.range m).map fun j => (i, j)).filter p).length : Int) = r1 m fun j => b2 (p (i, j))
  | 0 => rfl
  | m + 1 => by
    rw [List.range_succ, List.map_append, List.filter_append, List.length_append, r1, ← row_count p i m]
    simp only [List.map_cons, List.map_nil, List.filter_cons, List.filter_nil, b2]
    cases p (i, m) <;> simp
theorem grid_count (p : Pt → Bool) (m : Nat) : ∀ n, (((grid n m).filter p).length : Int) = g2 n m fun i j => b2 (p (i, j))
  | 0 => rfl
  | n + 1 => by
    rw [grid_succ, List.filter_append, List.length_append]
    show _ = r1 n _ + _
    rw [Int.natCast_add, grid_count p m n, row_count]
    rfl

noncomputable def quad (x : Int → Int → Bool) (t : Pt) : Int := b2 (x ((t.1 : Int) - 1) ((t.2 : Int) - 1)) + b2 (x ((t.1 : Int) - 1) t.2) + b2 (x t.1 ((t.2 : Int) - 1)) + b2 (x t.1 t.2)
theorem quad_local : ∀ a b c d : Bool, b2 (b2 a + b2 b + b2 c + b2 d == 1) + (-1) * b2 (b2 a + b2 b + b2 c + b2 d == 3) + 2 * b2 (b2 a + b2 b + b2 c + b2 d == 2 && d == a) =
    (b2 a + b2 b + b2 c + b2 d) + (-2) * (b2 a * b2 b + b2 c * b2 d + b2 a * b2 c + b2 b * b2 d) + 4 * b2 (a && b && c && d) := by decide
theorem b2_and : ∀ a b : Bool, b2 (a && b) = b2 a * b2 b := by decide

section
variable {H W : Nat} {x : Int → Int → Bool} (hx : ∀ r c, x r c = true → 0 ≤ r ∧ r < H ∧ 0 ≤ c ∧ c < W)
include hx
theorem quads : (((grid (H + 1) (W + 1)).filter fun t => quad x t == 1).length : Int) - (((grid (H + 1) (W + 1)).filter fun t => quad x t == 3).length : Int) +
    2 * (((grid (H + 1) (W + 1)).filter fun t => quad x t == 2 && x t.1 t.2 == x ((t.1 : Int) - 1) ((t.2 : Int) - 1)).length : Int) =
    4 * ((((grid H W).filter fun a => x a.1 a.2).length : Int) - (((edges H W).filter (inA H W x)).length : Int) + (((grid (H + 1) (W + 1)).filter (full x)).length : Int)) := by
  let Y : Nat → Nat → Int := fun p q => b2 (x ((p : Int) - 1) ((q : Int) - 1))
  have s1 : ∀ k : Nat, ((k + 1 : Nat) : Int) - 1 = k := fun k => by omega
  have off : ∀ r c : Int, ¬ (0 ≤ r ∧ r < H ∧ 0 ≤ c ∧ c < W) → b2 (x r c) = 0 := fun r c h => by
    cases e : x r c with
    | false => rfl
    | true => exact absurd (hx r c e) h
  have y1 : ∀ q, Y 0 q = 0 := fun q => off _ _ (by omega)
  have y2 : ∀ p, Y p 0 = 0 := fun p => off _ _ (by omega)
  have y3 : ∀ q, Y (H + 1) q = 0 := fun q => off _ _ (by omega)
  have y4 : ∀ p, Y p (W + 1) = 0 := fun p => off _ _ (by omega)
  have V : (((grid H W).filter fun a => x a.1 a.2).length : Int) = g2 H W fun i j => Y (i + 1) (j + 1) := by
    rw [grid_count]
    exact g2_congr fun i j _ _ => by simp only [Y]; rw [s1, s1]
  have Ev : (((grid (H + 1) W).filter fun a => inA H W x (true, a.1, a.2)).length : Int) = g2 (H + 1) W fun p q => Y p (q + 1) * Y (p + 1) (q + 1) := by
    rw [grid_count]
    exact g2_congr fun i j _ _ => by simp only [Y]; rw [inA_v hx, b2_and, s1, s1]
  have Eh : (((grid H (W + 1)).filter fun a => inA H W x (false, a.1, a.2)).length : Int) = g2 H (W + 1) fun p q => Y (p + 1) q * Y (p + 1) (q + 1) := by
    rw [grid_count]
    exact g2_congr fun i j _ _ => by simp only [Y]; rw [inA_h hx, b2_and, s1, s1]
  have E : (((edges H W).filter (inA H W x)).length : Int) = (g2 (H + 1) W fun p q => Y p (q + 1) * Y (p + 1) (q + 1)) + g2 H (W + 1) fun p q => Y (p + 1) q * Y (p + 1) (q + 1) := by
    rw [← Ev, ← Eh, edges, List.filter_append, List.length_append, List.filter_map, List.filter_map, List.length_map, List.length_map, Int.natCast_add]
    rfl
  rw [grid_count, grid_count, grid_count, V, E, grid_count]
  have L : (g2 (H + 1) (W + 1) fun i j => b2 (quad x (i, j) == 1)) + (-1) * (g2 (H + 1) (W + 1) fun i j => b2 (quad x (i, j) == 3)) +
      2 * (g2 (H + 1) (W + 1) fun i j => b2 (quad x (i, j) == 2 && x ((i, j) : Pt).1 ((i, j) : Pt).2 == x ((((i, j) : Pt).1 : Int) - 1) ((((i, j) : Pt).2 : Int) - 1))) =
      ((g2 (H + 1) (W + 1) fun p q => Y p q) + (g2 (H + 1) (W + 1) fun p q => Y p (q + 1)) + (g2 (H + 1) (W + 1) fun p q => Y (p + 1) q) + (g2 (H + 1) (W + 1) fun p q => Y (p + 1) (q + 1))) +
      (-2) * ((g2 (H + 1) (W + 1) fun p q => Y p q * Y p (q + 1)) + (g2 (H + 1) (W + 1) fun p q => Y (p + 1) q * Y (p + 1) (q + 1)) + (g2 (H + 1) (W + 1) fun p q => Y p q * Y (p + 1) q) + (g2 (H + 1) (W + 1) fun p q => Y p (q + 1) * Y (p + 1) (q + 1))) +
      4 * (g2 (H + 1) (W + 1) fun i j => b2 (full x (i, j))) := by
    simp only [← g2_mul, ← g2_add]
    refine g2_congr fun i j _ _ => ?_
    simp only [Y, s1]
    exact quad_local _ _ _ _
  have a1 : (g2 (H + 1) (W + 1) fun p q => Y p q) = g2 H W fun i j => Y (i + 1) (j + 1) := (lo1 y1).trans (lo2 (f := fun i j => Y (i + 1) j) fun p => y2 (p + 1))
  have a2 : (g2 (H + 1) (W + 1) fun p q => Y p (q + 1)) = g2 H W fun i j => Y (i + 1) (j + 1) := (lo1 (f := fun p q => Y p (q + 1)) fun q => y1 (q + 1)).trans (hi2 (f := fun p q => Y (p + 1) (q + 1)) fun p => y4 (p + 1))
  have a3 : (g2 (H + 1) (W + 1) fun p q => Y (p + 1) q) = g2 H W fun i j => Y (i + 1) (j + 1) := (hi1 (f := fun p q => Y (p + 1) q) y3).trans (lo2 (f := fun i j => Y (i + 1) j) fun p => y2 (p + 1))
  have a4 : (g2 (H + 1) (W + 1) fun p q => Y (p + 1) (q + 1)) = g2 H W fun i j => Y (i + 1) (j + 1) := (hi1 (f := fun p q => Y (p + 1) (q + 1)) fun q => y3 (q + 1)).trans (hi2 (f := fun p q => Y (p + 1) (q + 1)) fun p => y4 (p + 1))
  have c1 : (g2 (H + 1) (W + 1) fun p q => Y p q * Y p (q + 1)) = g2 H (W + 1) fun p q => Y (p + 1) q * Y (p + 1) (q + 1) := lo1 (f := fun p q => Y p q * Y p (q + 1)) fun q => by rw [y1, Int.zero_mul]
  have c2 : (g2 (H + 1) (W + 1) fun p q => Y (p + 1) q * Y (p + 1) (q + 1)) = g2 H (W + 1) fun p q => Y (p + 1) q * Y (p + 1) (q + 1) := hi1 (f := fun p q => Y (p + 1) q * Y (p + 1) (q + 1)) fun q => by rw [y3, Int.zero_mul]
  have c3 : (g2 (H + 1) (W + 1) fun p q => Y p q * Y (p + 1) q) = g2 (H + 1) W fun p q => Y p (q + 1) * Y (p + 1) (q + 1) := lo2 (f := fun p q => Y p q * Y (p + 1) q) fun p => by rw [y2, Int.zero_mul]
  have c4 : (g2 (H + 1) (W + 1) fun p q => Y p (q + 1) * Y (p + 1) (q + 1)) = g2 (H + 1) W fun p q => Y p (q + 1) * Y (p + 1) (q + 1) := hi2 (f := fun p q => Y p (q + 1) * Y (p + 1) (q + 1)) fun p => by rw [y4, Int.zero_mul]
  rw [a1, a2, a3, a4, c1, c2, c3, c4] at L
  omega

/-- parts less holes -/
theorem parts_holes {Sf Sb : List IP} (hf : ∀ a : IP, a ∈ Sf ↔ x a.1 a.2 = true) (hb : ∀ a : IP, a ∈ Sb ↔ bare H W x a) {n4 n8 : Nat} (r4 : Reps Sf (Cn (stepsOf Sf four)) n4) (r8 : Reps Sb (Cn (stepsOf Sb eight)) n8) :
    (((grid (H + 1) (W + 1)).filter fun t => quad x t == 1).length : Int) - (((grid (H + 1) (W + 1)).filter fun t => quad x t == 3).length : Int) +
    2 * (((grid (H + 1) (W + 1)).filter fun t => quad x t == 2 && x t.1 t.2 == x ((t.1 : Int) - 1) ((t.2 : Int) - 1)).length : Int) = 4 * ((n4 : Int) - ((n8 : Int) - 1)) := by
  rw [quads hx]
  obtain ⟨nS, nT, e1, e2, e3⟩ := euler (H := H) (W := W) (inA H W x)
  have u1 := Reps.unique (fun a b h => h.symm) (fun a b c h g => h.trans g) e1 (reps_fg hx hf r4)
  have u2 := Reps.unique (fun a b h => h.symm) (fun a b c h g => h.trans g) e2 (reps_bg hx hb r8)
  have u3 := filter_two (fun a : Pt => x a.1 a.2) (grid H W)
  rw [grid_len] at u3
  omega
end
end Mine

set_option maxRecDepth 100000
namespace Mine
open PySem PySem.Spec PyProof.Rows PySem.Challenge

/-! while -/
theorem whileL_inv {test : Locals → Store → Option (Bool × Store)} {run : Run} {K : Locals → Store → Prop} {R : PV → Store → Prop} (I : Nat → Locals → Store → Prop)
    (step : ∀ m ρ σ, I m ρ σ → ∃ b σ₁, test ρ σ = some (b, σ₁) ∧ (b = false → K ρ σ₁) ∧ (b = true → Out (run ρ σ₁) (fun ρ' σ' => ∃ m', m' < m ∧ I m' ρ' σ') R)) :
    ∀ n m ρ σ, I m ρ σ → m < n → Out (whileL test run n ρ σ) K R
  | 0, m, ρ, σ, _, h => absurd h (Nat.not_lt_zero _)
  | n + 1, m, ρ, σ, hI, hm => by
    obtain ⟨b, σ₁, e1, h0, h1⟩ := step m ρ σ hI
    cases b with
    | false => exact .inl ⟨ρ, σ₁, by rw [whileL, e1], h0 rfl⟩
    | true =>
      rcases h1 rfl with ⟨ρ', σ', e, m', hm', hI'⟩ | ⟨v, ρ', σ', e, h⟩
      · have := whileL_inv I step n m' ρ' σ' hI' (by omega)
        rwa [show whileL test run (n + 1) ρ σ = whileL test run n ρ' σ' by rw [whileL, e1]; simp only [e]]
      · exact .inr ⟨v, ρ', σ', by rw [whileL, e1]; simp only [e], h⟩
theorem out_while {Φ : Fns} {G : Glob} {t : Expr} {body : List Stmt} {pos : Pos} {ρ : Locals} {σ : Store} {K : Locals → Store → Prop} {R : PV → Store → Prop} (I : Nat → Locals → Store → Prop) (m : Nat) (hI : I m ρ σ) (hm : m < 1000000)
    (step : ∀ m ρ σ, I m ρ σ → ∃ b σ₁, evalT Φ G t ρ σ = some (b, σ₁) ∧ (b = false → K ρ σ₁) ∧ (b = true → Out (execSs Φ G body ρ σ₁) (fun ρ' σ' => ∃ m', m' < m ∧ I m' ρ' σ') R)) :
    Out (execS Φ G (.While t body [] pos) ρ σ) K R := by
  rw [x_while]
  exact whileL_inv I step whileMost m ρ σ hI (by unfold whileMost; omega)

/-! dicts of points -/
noncomputable def kp (p : IP) : List Int := [p.1, p.2]
theorem kp_inj {p q : IP} : kp p = kp q ↔ p = q := by
  obtain ⟨a, b⟩ := p
  obtain ⟨c, d⟩ := q
  simp [kp]
/-- all but one -/
noncomputable def rem (p : IP) (T : List IP) : List IP := T.filter fun q => !decide (q = p)
theorem mem_rem {p q : IP} {T : List IP} : q ∈ rem p T ↔ q ∈ T ∧ q ≠ p := by
  unfold rem
  rw [List.mem_filter]; simp
theorem rem_len {p : IP} {T : List IP} (h : p ∈ T) : (rem p T).length + 1 ≤ T.length := by
  unfold rem
  have h1 := filter_two (fun q : IP => !decide (q = p)) T
  have h2 : 0 < (T.filter fun e => !!decide (e = p)).length := List.length_pos_iff_exists_mem.mpr ⟨p, List.mem_filter.mpr ⟨h, by simp⟩⟩
  omega
noncomputable def dU (K : List IP) (u : IP → Bool) : PO := .dict (K.map fun q => (kp q, .bool (u q)))
theorem find_dU (u : IP → Bool) (p : IP) : ∀ K : List IP, find (kp p) (K.map fun q => (kp q, .bool (u q))) = if p ∈ K then some (.bool (u p)) else none
  | [] => rfl
  | q :: K => by
    have ih := find_dU u p K
    unfold find at ih ⊢
    rw [List.map_cons, List.find?_cons]
    by_cases h : q = p
    · subst h; simp
    · have h1 : decide (kp q = kp p) = false := decide_eq_false fun e => h (kp_inj.mp e)
      have h2 : ¬ p = q := fun e => h e.symm
      simp only [h1, ih, List.mem_cons, h2, false_or]
theorem keyOf_pt (p : IP) : keyOf [.int p.1, .int p.2] = some (kp p) := rfl
section
variable {σ : Store} {d : Nat} {K : List IP} {u : IP → Bool} (hσ : σ[d]? = some (dU K u))
include hσ
theorem c_in (p : IP) : cmpP σ .In (tup2 p) (.loc d) = some (.bool (decide (p ∈ K))) := by
  show (inP σ (.tup [.int p.1, .int p.2]) (.loc d)).map PV.bool = _
  have : inP σ (.tup [.int p.1, .int p.2]) (.loc d) = some (decide (p ∈ K)) := by
    show (match σ[d]?, keyOf [.int p.1, .int p.2] with
      | some (.dict es), some k => some (find k es).isSome
      | _, _ => none) = _
    rw [hσ, keyOf_pt]
    show some (find (kp p) (K.map fun q => (kp q, .bool (u q)))).isSome = _
    rw [find_dU]
    by_cases h : p ∈ K
    · rw [if_pos h, decide_eq_true h]; rfl
    · rw [if_neg h, decide_eq_false h]; rfl
  rw [this]; rfl
theorem r_dict : recvT σ (.loc d) = some false := by
  show (match σ[d]? with | some (.list _) => some true | some (.dict _) => some false | none => none) = _
  rw [hσ]; rfl
theorem s_dict {p : IP} (hp : p ∈ K) : subP σ (.loc d) (tup2 p) = some (.bool (u p)) := by
  show (match σ[d]?, keyOf [.int p.1, .int p.2] with
    | some (.dict es), some k => find k es
    | _, _ => none) = _
  rw [hσ, keyOf_pt]
  show find (kp p) (K.map fun q => (kp q, .bool (u q))) = _
  rw [find_dU, if_pos hp]
theorem m_dget (p : IP) : methP false (Str.ofString "get") (.loc d) [tup2 p, .bool false] σ = some (.bool (decide (p ∈ K) && u p), σ) := by
  have e : methP false (Str.ofString "get") (.loc d) [tup2 p, .bool false] σ = (match σ[d]?, keyOf [.int p.1, .int p.2] with
        | some (.dict es), some k => some ((find k es).getD (.bool false), σ)
        | _, _ => none) := by
    kernel_rfl
  rw [e, hσ, keyOf_pt]
  show some ((find (kp p) (K.map fun q => (kp q, .bool (u q)))).getD (.bool false), σ) = _
  rw [find_dU]
  by_cases h : p ∈ K
  · rw [if_pos h, decide_eq_true h]; rfl
  · rw [if_neg h, decide_eq_false h]; rfl
theorem m_dpop {p : IP} (hp : p ∈ K) (hl : K.length ≤ sizeLine) : methP false (Str.ofString "pop") (.loc d) [tup2 p] σ = some (.bool (u p), σ.set d (dU (rem p K) u)) := by
  have e : methP false (Str.ofString "pop") (.loc d) [tup2 p] σ = (match σ[d]?, keyOf [.int p.1, .int p.2] with
        | some (.dict es), some k => (match find k es with
          | some x => if es.length ≤ sizeLine then some (x, σ.set d (.dict (es.filter fun e => !decide (e.1 = k)))) else none
          | none => none)
        | _, _ => none) := by
    kernel_rfl
  rw [e, hσ, keyOf_pt]
  show (match find (kp p) (K.map fun q => (kp q, .bool (u q))) with
    | some x => if (K.map fun q => (kp q, PV.bool (u q))).length ≤ sizeLine then some (x, σ.set d (.dict ((K.map fun q => (kp q, PV.bool (u q))).filter fun e => !decide (e.1 = kp p)))) else none
    | none => none) = _
  rw [find_dU, if_pos hp]
  show (if _ then _ else _) = _
  rw [if_pos (by rw [List.length_map]; exact hl), List.filter_map]
  refine congrArg some (Prod.ext rfl (congrArg (σ.set d) ?_))
  show PO.dict _ = PO.dict _
  refine congrArg PO.dict (congrArg _ (List.filter_congr fun q _ => ?_))
  show (!decide (kp q = kp p)) = !decide (q = p)
  rw [decide_eq_decide.mpr kp_inj]
theorem set_dU (p : IP) (b : Bool) (hl : K.length ≤ sizeLine) : setP σ (.loc d) (tup2 p) (.bool b) = some (σ.set d (dU (if p ∈ K then K else K ++ [p]) fun q => if q = p then b else u q)) := by
  have e : setP σ (.loc d) (tup2 p) (.bool b) = (match σ[d]?, keyOf [.int p.1, .int p.2] with
    | some (.dict es), some k => if es.length ≤ sizeLine then some (σ.set d (.dict (put k (.bool b) es))) else none
    | _, _ => none) := rfl
  rw [e, hσ, keyOf_pt]
  show (if (K.map fun q => (kp q, PV.bool (u q))).length ≤ sizeLine then some (σ.set d (.dict (put (kp p) (.bool b) (K.map fun q => (kp q, .bool (u q)))))) else none) = _
  rw [if_pos (by rw [List.length_map]; exact hl)]
  refine congrArg (fun x => some (σ.set d x)) ?_
  unfold put dU
  rw [find_dU]
  refine congrArg PO.dict ?_
  by_cases h : p ∈ K
  · rw [if_pos h, if_pos h]
    rw [if_pos (show (some (PV.bool (u p))).isSome = true from rfl), List.map_map]
    refine List.map_congr_left fun q _ => ?_
    show (if kp q = kp p then (kp q, PV.bool b) else (kp q, .bool (u q))) = (kp q, .bool (if q = p then b else u q))
    by_cases hq : q = p
    · rw [if_pos (kp_inj.mpr hq), if_pos hq]
    · rw [if_neg fun e => hq (kp_inj.mp e), if_neg hq]
  · rw [if_neg h, if_neg h, if_neg (by decide), List.map_append, List.map_cons, List.map_nil]
    dsimp only
    rw [if_pos rfl]
    refine congrArg (· ++ _) (List.map_congr_left fun q hq => ?_)
    show (kp q, PV.bool (u q)) = (kp q, PV.bool (if q = p then b else u q))
    rw [if_neg (fun e : q = p => h (e ▸ hq))]
end

/-! a store whose place d is changed and that has one more place -/
noncomputable def S2 (σ : Store) (d : Nat) (y x : PO) : Store := σ.set d y ++ [x]
section
variable {σ : Store} {d : Nat} {y x : PO} (hd : d < σ.length)
include hd
theorem s2_getd : (S2 σ d y x)[d]? = some y := by
  unfold S2; rw [List.getElem?_append_left (by rw [List.length_set]; exact hd), List.getElem?_set_self hd]
theorem s2_setd (y' : PO) : (S2 σ d y x).set d y' = S2 σ d y' x := by
  unfold S2; rw [List.set_append_left _ _ (by rw [List.length_set]; exact hd), List.set_set]
omit hd in
theorem s2_getn : (S2 σ d y x)[σ.length]? = some x := by
  unfold S2; rw [List.getElem?_append_right (by rw [List.length_set]; exact Nat.le_refl _), List.length_set]; simp
omit hd in
theorem s2_setn (x' : PO) : (S2 σ d y x).set σ.length x' = S2 σ d y x' := by
  unfold S2; rw [List.set_append_right _ _ (by rw [List.length_set]; exact Nat.le_refl _), List.length_set]; simp
theorem s2_new (hy : σ[d]? = some y) : σ ++ [x] = S2 σ d y x := by
  unfold S2
  have : σ.set d y = σ := by
    refine List.ext_getElem? fun i => ?_
    by_cases h : d = i
    · subst h; rw [List.getElem?_set_self hd, hy]
    · rw [List.getElem?_set_ne h]
  rw [this]
end

noncomputable abbrev dT (T : List IP) : PO := dU T fun _ => true

/-! spread -/
noncomputable def addP (p w : IP) : IP := (p.1 + w.1, p.2 + w.2)
structure SpreadTo (T : List IP) (ways : List IP) (first : IP) (T' W : List IP) : Prop where
  left : ∀ q, q ∈ T' ↔ q ∈ T ∧ q ∉ W
  conn : ∀ q ∈ W, q ∈ T ∧ Cn (stepsOf T ways) first q
  first : first ∈ W
  less : T'.length + W.length ≤ T.length

section
variable {Φ : Fns} {σ : Store}
theorem spread_run {T ways : List IP} {d : Nat} {first : IP} (hd : d < σ.length) (hσ : σ[d]? = some (dU T fun _ => true)) (hf : first ∈ T) (hl : T.length ≤ 2000) (hw : ways.length ≤ 20) :
    ∃ T' W, interpF Φ Gl (dOf pw "spread") [tup2 first, .loc d, .tup (ways.map tup2)] σ = some (.none, S2 σ d (dU T' fun _ => true) (.list (W.map tup2))) ∧ SpreadTo T ways first T' W ∧ ∀ p ∈ W, ∀ w ∈ ways, addP p w ∈ T → addP p w ∈ W := by
  have hs := sz
  let Fin : Store → Prop := fun τ => ∃ T' W, τ = S2 σ d (dT T') (.list (W.map tup2)) ∧ SpreadTo T ways first T' W ∧ ∀ p ∈ W, ∀ w ∈ ways, addP p w ∈ T → addP p w ∈ W
  suffices h : Out (execSs Φ Gl (dOf pw "spread").body (bindP ((dOf pw "spread").params.args.map (·.arg)) [tup2 first, .loc d, .tup (ways.map tup2)]) σ) (fun _ τ => Fin τ) NoR by
    rcases h with ⟨ρ', τ, e, T', W, rfl, h1, h2⟩ | ⟨v, ρ', τ, e, h⟩
    · refine ⟨T', W, ?_, h1, h2⟩
      unfold interpF
      rw [if_pos (by kernel_rfl), e]
    · exact h.elim
  change Out (execSs Φ Gl (_ :: _ :: _ :: _ :: _) (bindP [_, _, _] _) σ) _ _
  rw [bindP3]
  let T1 := rem first T
  have e0 : σ ++ [PO.list [tup2 first]] = S2 σ d (dT T) (.list ([first].map tup2)) := s2_new hd hσ
  have g0 := s2_getd (y := dT T) (x := .list ([first].map tup2)) hd
  have p0 := m_dpop g0 hf (by omega)
  rw [s2_setd hd] at p0
  apply out_next
  · (simp (disch := first | assumption | decide | omega) only [zB, yc, zC, yM, yd, zl, yN, ye, yf, zD, zE, zm, zn, zF, yg, zo, zG, yh, zH, yi, zI, yj, zc, zJ, zK, yk, yl, zd, ym, yO, xx, yn, yo, zL, yp, zM, zp, zq, ze, zN, yq, zO, yr, zr, zf, zP, yt, zg, yu, zQ, zh, zt, yP, xy, yQ, yR, zu, yS, decide_eq_true_eq, beq_iff_eq, zR, zS, za, String.reduceEq, ↓reduceIte, yv, Glob.val?, xz, yT, yU, yV, yW, yX, yY, xA, xB, xC, xD, yZ, y0, y5, y6, y7, y8, yw, yx, yy, y9, xc, xd, zT, zU, xe, zV, zW, xf, xg, xh, xF, xG, xH, xI, xJ, xK, xL, xM, xi, xj, xk, xl, xm, xn, xo, xp, Glob.isB, and_self, and_true, true_and, zX, yz, yA, zY, Option.map_some, List.length_cons, List.length_nil, Nat.reduceAdd, Nat.zero_add, yB, yC, yD, yE, yF, yG, zb, yK, xr, xv, z9, xt, xu, xq, yI, yH, z0, zw, zZ, z8, xw, zz, zx, xE, z4, ya, z3, z6, z1, yb, z7, zj, z5, zy, zi, zA, z2, yL, yJ, zk]) <;> rfl
  rw [e0]
  apply out_next
  · (simp (disch := first | assumption | decide | omega) only [zB, yc, zC, yM, yd, zl, yN, ye, yf, zD, zE, zm, zn, zF, yg, zo, zG, yh, zH, yi, zI, yj, zc, zJ, zK, yk, yl, zd, ym, yO, xx, yn, yo, zL, yp, zM, zp, zq, ze, zN, yq, zO, yr, zr, zf, zP, yt, zg, yu, zQ, zh, zt, yP, xy, yQ, yR, zu, yS, decide_eq_true_eq, beq_iff_eq, zR, zS, za, String.reduceEq, ↓reduceIte, yv, Glob.val?, xz, yT, yU, yV, yW, yX, yY, xA, xB, xC, xD, yZ, y0, y5, y6, y7, y8, yw, yx, yy, y9, xc, xd, zT, zU, xe, zV, zW, xf, xg, xh, xF, xG, xH, xI, xJ, xK, xL, xM, xi, xj, xk, xl, xm, xn, xo, xp, Glob.isB, and_self, and_true, true_and, zX, yz, yA, zY, Option.map_some, List.length_cons, List.length_nil, Nat.reduceAdd, Nat.zero_add, yB, yC, yD, yE, yF, yG, zb, yK, xr, xv, z9, xt, xu, xq, yI, yH, z0, zw, zZ, z8, xw, zz, zx, xE, z4, ya, z3, z6, z1, yb, z7, zj, z5, zy, zi, zA, z2, yL, yJ, zk, r_dict g0, p0]) <;> rfl
  apply out_next
  · (simp (disch := first | assumption | decide | omega) only [zB, yc, zC, yM, yd, zl, yN, ye, yf, zD, zE, zm, zn, zF, yg, zo, zG, yh, zH, yi, zI, yj, zc, zJ, zK, yk, yl, zd, ym, yO, xx, yn, yo, zL, yp, zM, zp, zq, ze, zN, yq, zO, yr, zr, zf, zP, yt, zg, yu, zQ, zh, zt, yP, xy, yQ, yR, zu, yS, decide_eq_true_eq, beq_iff_eq, zR, zS, za, String.reduceEq, ↓reduceIte, yv, Glob.val?, xz, yT, yU, yV, yW, yX, yY, xA, xB, xC, xD, yZ, y0, y5, y6, y7, y8, yw, yx, yy, y9, xc, xd, zT, zU, xe, zV, zW, xf, xg, xh, xF, xG, xH, xI, xJ, xK, xL, xM, xi, xj, xk, xl, xm, xn, xo, xp, Glob.isB, and_self, and_true, true_and, zX, yz, yA, zY, Option.map_some, List.length_cons, List.length_nil, Nat.reduceAdd, Nat.zero_add, yB, yC, yD, yE, yF, yG, zb, yK, xr, xv, z9, xt, xu, xq, yI, yH, z0, zw, zZ, z8, xw, zz, zx, xE, z4, ya, z3, z6, z1, yb, z7, zj, z5, zy, zi, zA, z2, yL, yJ, zk]) <;> rfl
  have lenT1 : T1.length + 1 ≤ T.length := rem_len hf
  let E : Locals → Prop := fun ρ => ρ (Str.ofString "waiting") = some (.loc σ.length) ∧ ρ (Str.ofString "there") = some (.loc d) ∧ ρ (Str.ofString "ways") = some (.tup (ways.map tup2))
  refine out_cons (out_mono (out_while (R := NoR) (K := fun ρ τ => Fin τ)
    (fun m ρ τ => ∃ (a : Nat) (T' W : List IP), E ρ ∧ ρ (Str.ofString "at") = some (.int a) ∧ τ = S2 σ d (dT T') (.list (W.map tup2)) ∧ SpreadTo T ways first T' W ∧ a ≤ W.length ∧ m + a = T.length + 1 ∧
      ∀ (j : Nat) (p : IP), j < a → W[j]? = some p → ∀ w ∈ ways, addP p w ∈ T → addP p w ∈ W) (T.length + 1) ?_ (by omega) ?_) ?_ fun _ _ h => h)
  · refine ⟨0, T1, [first], ⟨by simp (disch := first | assumption | decide | omega) only [zB, yc, zC, yM, yd, zl, yN, ye, yf, zD, zE, zm, zn, zF, yg, zo, zG, yh, zH, yi, zI, yj, zc, zJ, zK, yk, yl, zd, ym, yO, xx, yn, yo, zL, yp, zM, zp, zq, ze, zN, yq, zO, yr, zr, zf, zP, yt, zg, yu, zQ, zh, zt, yP, xy, yQ, yR, zu, yS, decide_eq_true_eq, beq_iff_eq, zR, zS, za, String.reduceEq, ↓reduceIte, yv, Glob.val?, xz, yT, yU, yV, yW, yX, yY, xA, xB, xC, xD, yZ, y0, y5, y6, y7, y8, yw, yx, yy, y9, xc, xd, zT, zU, xe, zV, zW, xf, xg, xh, xF, xG, xH, xI, xJ, xK, xL, xM, xi, xj, xk, xl, xm, xn, xo, xp, Glob.isB, and_self, and_true, true_and, zX, yz, yA, zY, Option.map_some, List.length_cons, List.length_nil, Nat.reduceAdd, Nat.zero_add, yB, yC, yD, yE, yF, yG, zb, yK, xr, xv, z9, xt, xu, xq, yI, yH, z0, zw, zZ, z8, xw, zz, zx, xE, z4, ya, z3, z6, z1, yb, z7, zj, z5, zy, zi, zA, z2, yL, yJ, zk], by simp (disch := first | assumption | decide | omega) only [zB, yc, zC, yM, yd, zl, yN, ye, yf, zD, zE, zm, zn, zF, yg, zo, zG, yh, zH, yi, zI, yj, zc, zJ, zK, yk, yl, zd, ym, yO, xx, yn, yo, zL, yp, zM, zp, zq, ze, zN, yq, zO, yr, zr, zf, zP, yt, zg, yu, zQ, zh, zt, yP, xy, yQ, yR, zu, yS, decide_eq_true_eq, beq_iff_eq, zR, zS, za, String.reduceEq, ↓reduceIte, yv, Glob.val?, xz, yT, yU, yV, yW, yX, yY, xA, xB, xC, xD, yZ, y0, y5, y6, y7, y8, yw, yx, yy, y9, xc, xd, zT, zU, xe, zV, zW, xf, xg, xh, xF, xG, xH, xI, xJ, xK, xL, xM, xi, xj, xk, xl, xm, xn, xo, xp, Glob.isB, and_self, and_true, true_and, zX, yz, yA, zY, Option.map_some, List.length_cons, List.length_nil, Nat.reduceAdd, Nat.zero_add, yB, yC, yD, yE, yF, yG, zb, yK, xr, xv, z9, xt, xu, xq, yI, yH, z0, zw, zZ, z8, xw, zz, zx, xE, z4, ya, z3, z6, z1, yb, z7, zj, z5, zy, zi, zA, z2, yL, yJ, zk], by simp (disch := first | assumption | decide | omega) only [zB, yc, zC, yM, yd, zl, yN, ye, yf, zD, zE, zm, zn, zF, yg, zo, zG, yh, zH, yi, zI, yj, zc, zJ, zK, yk, yl, zd, ym, yO, xx, yn, yo, zL, yp, zM, zp, zq, ze, zN, yq, zO, yr, zr, zf, zP, yt, zg, yu, zQ, zh, zt, yP, xy, yQ, yR, zu, yS, decide_eq_true_eq, beq_iff_eq, zR, zS, za, String.reduceEq, ↓reduceIte, yv, Glob.val?, xz, yT, yU, yV, yW, yX, yY, xA, xB, xC, xD, yZ, y0, y5, y6, y7, y8, yw, yx, yy, y9, xc, xd, zT, zU, xe, zV, zW, xf, xg, xh, xF, xG, xH, xI, xJ, xK, xL, xM, xi, xj, xk, xl, xm, xn, xo, xp, Glob.isB, and_self, and_true, true_and, zX, yz, yA, zY, Option.map_some, List.length_cons, List.length_nil, Nat.reduceAdd, Nat.zero_add, yB, yC, yD, yE, yF, yG, zb, yK, xr, xv, z9, xt, xu, xq, yI, yH, z0, zw, zZ, z8, xw, zz, zx, xE, z4, ya, z3, z6, z1, yb, z7, zj, z5, zy, zi, zA, z2, yL, yJ, zk]⟩, by (simp (disch := first | assumption | decide | omega) only [zB, yc, zC, yM, yd, zl, yN, ye, yf, zD, zE, zm, zn, zF, yg, zo, zG, yh, zH, yi, zI, yj, zc, zJ, zK, yk, yl, zd, ym, yO, xx, yn, yo, zL, yp, zM, zp, zq, ze, zN, yq, zO, yr, zr, zf, zP, yt, zg, yu, zQ, zh, zt, yP, xy, yQ, yR, zu, yS, decide_eq_true_eq, beq_iff_eq, zR, zS, za, String.reduceEq, ↓reduceIte, yv, Glob.val?, xz, yT, yU, yV, yW, yX, yY, xA, xB, xC, xD, yZ, y0, y5, y6, y7, y8, yw, yx, yy, y9, xc, xd, zT, zU, xe, zV, zW, xf, xg, xh, xF, xG, xH, xI, xJ, xK, xL, xM, xi, xj, xk, xl, xm, xn, xo, xp, Glob.isB, and_self, and_true, true_and, zX, yz, yA, zY, Option.map_some, List.length_cons, List.length_nil, Nat.reduceAdd, Nat.zero_add, yB, yC, yD, yE, yF, yG, zb, yK, xr, xv, z9, xt, xu, xq, yI, yH, z0, zw, zZ, z8, xw, zz, zx, xE, z4, ya, z3, z6, z1, yb, z7, zj, z5, zy, zi, zA, z2, yL, yJ, zk]) <;> rfl, rfl, ⟨fun q => ?_, fun q hq => ?_, .head _, by simpa using lenT1⟩, by simp, by omega, fun j p hj => absurd hj (Nat.not_lt_zero _)⟩
    · rw [List.mem_singleton]; exact mem_rem
    · rw [List.mem_singleton.mp hq]; exact ⟨hf, .refl _⟩
  · rintro m ρ τ ⟨a, T', W, ⟨r1, r2, r3⟩, r4, rfl, sp, ha, hm, hcl⟩
    have gn := s2_getn (σ := σ) (d := d) (y := dT T') (x := .list (W.map tup2))
    have lW : (W.map tup2).length ≤ sizeLine := by have := sp.less; rw [List.length_map]; omega
    have kl := yy gn lW
    refine ⟨decide ((a : Int) < (W.map tup2).length), S2 σ d (dT T') (.list (W.map tup2)), ?_, fun hb => ?_, fun hb => ?_⟩
    · (simp (disch := first | assumption | decide | omega) only [zB, yc, zC, yM, yd, zl, yN, ye, yf, zD, zE, zm, zn, zF, yg, zo, zG, yh, zH, yi, zI, yj, zc, zJ, zK, yk, yl, zd, ym, yO, xx, yn, yo, zL, yp, zM, zp, zq, ze, zN, yq, zO, yr, zr, zf, zP, yt, zg, yu, zQ, zh, zt, yP, xy, yQ, yR, zu, yS, decide_eq_true_eq, beq_iff_eq, zR, zS, za, String.reduceEq, ↓reduceIte, yv, Glob.val?, xz, yT, yU, yV, yW, yX, yY, xA, xB, xC, xD, yZ, y0, y5, y6, y7, y8, yw, yx, yy, y9, xc, xd, zT, zU, xe, zV, zW, xf, xg, xh, xF, xG, xH, xI, xJ, xK, xL, xM, xi, xj, xk, xl, xm, xn, xo, xp, Glob.isB, and_self, and_true, true_and, zX, yz, yA, zY, Option.map_some, List.length_cons, List.length_nil, Nat.reduceAdd, Nat.zero_add, yB, yC, yD, yE, yF, yG, zb, yK, xr, xv, z9, xt, xu, xq, yI, yH, z0, zw, zZ, z8, xw, zz, zx, xE, z4, ya, z3, z6, z1, yb, z7, zj, z5, zy, zi, zA, z2, yL, yJ, zk, r1, r4, kl]) <;> rfl
    · refine ⟨T', W, rfl, sp, fun p hp w hw' hin => ?_⟩
      obtain ⟨j, hj, e⟩ := List.getElem_of_mem hp
      have : ¬ ((a : Int) < (W.map tup2).length) := by simpa using hb
      rw [List.length_map] at this
      exact hcl j p (by omega) (by rw [List.getElem?_eq_getElem hj, e]) w hw' hin
    · have hlt : a < W.length := by
        have : (a : Int) < (W.map tup2).length := by simpa using hb
        rw [List.length_map] at this; omega
      have hWa : W[a]? = some W[a] := List.getElem?_eq_getElem hlt
      generalize W[a] = pt0 at hWa
      obtain ⟨pr, pc⟩ := pt0
      have sl : subP (S2 σ d (dT T') (.list (W.map tup2))) (.loc σ.length) (.int (a : Int)) = some (.tup [.int pr, .int pc]) := by
        rw [xj gn (by omega) (by rw [List.length_map]; omega) lW, List.getElem?_map, show ((a : Int)).toNat = a by omega, hWa]; rfl
      apply out_next
      · (simp (disch := first | assumption | decide | omega) only [zB, yc, zC, yM, yd, zl, yN, ye, yf, zD, zE, zm, zn, zF, yg, zo, zG, yh, zH, yi, zI, yj, zc, zJ, zK, yk, yl, zd, ym, yO, xx, yn, yo, zL, yp, zM, zp, zq, ze, zN, yq, zO, yr, zr, zf, zP, yt, zg, yu, zQ, zh, zt, yP, xy, yQ, yR, zu, yS, decide_eq_true_eq, beq_iff_eq, zR, zS, za, String.reduceEq, ↓reduceIte, yv, Glob.val?, xz, yT, yU, yV, yW, yX, yY, xA, xB, xC, xD, yZ, y0, y5, y6, y7, y8, yw, yx, yy, y9, xc, xd, zT, zU, xe, zV, zW, xf, xg, xh, xF, xG, xH, xI, xJ, xK, xL, xM, xi, xj, xk, xl, xm, xn, xo, xp, Glob.isB, and_self, and_true, true_and, zX, yz, yA, zY, Option.map_some, List.length_cons, List.length_nil, Nat.reduceAdd, Nat.zero_add, yB, yC, yD, yE, yF, yG, zb, yK, xr, xv, z9, xt, xu, xq, yI, yH, z0, zw, zZ, z8, xw, zz, zx, xE, z4, ya, z3, z6, z1, yb, z7, zj, z5, zy, zi, zA, z2, yL, yJ, zk, r1, r4, sl]) <;> rfl
      apply out_next
      · (simp (disch := first | assumption | decide | omega) only [zB, yc, zC, yM, yd, zl, yN, ye, yf, zD, zE, zm, zn, zF, yg, zo, zG, yh, zH, yi, zI, yj, zc, zJ, zK, yk, yl, zd, ym, yO, xx, yn, yo, zL, yp, zM, zp, zq, ze, zN, yq, zO, yr, zr, zf, zP, yt, zg, yu, zQ, zh, zt, yP, xy, yQ, yR, zu, yS, decide_eq_true_eq, beq_iff_eq, zR, zS, za, String.reduceEq, ↓reduceIte, yv, Glob.val?, xz, yT, yU, yV, yW, yX, yY, xA, xB, xC, xD, yZ, y0, y5, y6, y7, y8, yw, yx, yy, y9, xc, xd, zT, zU, xe, zV, zW, xf, xg, xh, xF, xG, xH, xI, xJ, xK, xL, xM, xi, xj, xk, xl, xm, xn, xo, xp, Glob.isB, and_self, and_true, true_and, zX, yz, yA, zY, Option.map_some, List.length_cons, List.length_nil, Nat.reduceAdd, Nat.zero_add, yB, yC, yD, yE, yF, yG, zb, yK, xr, xv, z9, xt, xu, xq, yI, yH, z0, zw, zZ, z8, xw, zz, zx, xE, z4, ya, z3, z6, z1, yb, z7, zj, z5, zy, zi, zA, z2, yL, yJ, zk, r4]) <;> rfl
      refine out_cons (out_mono (out_for (R := NoR) (for_tupT (ds := ways.map tup2) (σ₁ := S2 σ d (dT T') (.list (W.map tup2))) ?_)
        (fun i ρ τ => ∃ T2 W2 : List IP, E ρ ∧ ρ (Str.ofString "at") = some (.int ((a : Int) + 1)) ∧ ρ (Str.ofString "row") = some (.int pr) ∧ ρ (Str.ofString "column") = some (.int pc) ∧ τ = S2 σ d (dT T2) (.list (W2.map tup2)) ∧ SpreadTo T ways first T2 W2 ∧
          (∃ ex, W2 = W ++ ex) ∧ ∀ (j : Nat) (w : IP), j < i → ways[j]? = some w → addP (pr, pc) w ∈ T → addP (pr, pc) w ∈ W2) ?_ ?_) ?_ fun _ _ h => h)
      · simp (disch := first | assumption | decide | omega) only [zB, yc, zC, yM, yd, zl, yN, ye, yf, zD, zE, zm, zn, zF, yg, zo, zG, yh, zH, yi, zI, yj, zc, zJ, zK, yk, yl, zd, ym, yO, xx, yn, yo, zL, yp, zM, zp, zq, ze, zN, yq, zO, yr, zr, zf, zP, yt, zg, yu, zQ, zh, zt, yP, xy, yQ, yR, zu, yS, decide_eq_true_eq, beq_iff_eq, zR, zS, za, String.reduceEq, ↓reduceIte, yv, Glob.val?, xz, yT, yU, yV, yW, yX, yY, xA, xB, xC, xD, yZ, y0, y5, y6, y7, y8, yw, yx, yy, y9, xc, xd, zT, zU, xe, zV, zW, xf, xg, xh, xF, xG, xH, xI, xJ, xK, xL, xM, xi, xj, xk, xl, xm, xn, xo, xp, Glob.isB, and_self, and_true, true_and, zX, yz, yA, zY, Option.map_some, List.length_cons, List.length_nil, Nat.reduceAdd, Nat.zero_add, yB, yC, yD, yE, yF, yG, zb, yK, xr, xv, z9, xt, xu, xq, yI, yH, z0, zw, zZ, z8, xw, zz, zx, xE, z4, ya, z3, z6, z1, yb, z7, zj, z5, zy, zi, zA, z2, yL, yJ, zk, r3]
      · exact ⟨T', W, ⟨by simp (disch := first | assumption | decide | omega) only [zB, yc, zC, yM, yd, zl, yN, ye, yf, zD, zE, zm, zn, zF, yg, zo, zG, yh, zH, yi, zI, yj, zc, zJ, zK, yk, yl, zd, ym, yO, xx, yn, yo, zL, yp, zM, zp, zq, ze, zN, yq, zO, yr, zr, zf, zP, yt, zg, yu, zQ, zh, zt, yP, xy, yQ, yR, zu, yS, decide_eq_true_eq, beq_iff_eq, zR, zS, za, String.reduceEq, ↓reduceIte, yv, Glob.val?, xz, yT, yU, yV, yW, yX, yY, xA, xB, xC, xD, yZ, y0, y5, y6, y7, y8, yw, yx, yy, y9, xc, xd, zT, zU, xe, zV, zW, xf, xg, xh, xF, xG, xH, xI, xJ, xK, xL, xM, xi, xj, xk, xl, xm, xn, xo, xp, Glob.isB, and_self, and_true, true_and, zX, yz, yA, zY, Option.map_some, List.length_cons, List.length_nil, Nat.reduceAdd, Nat.zero_add, yB, yC, yD, yE, yF, yG, zb, yK, xr, xv, z9, xt, xu, xq, yI, yH, z0, zw, zZ, z8, xw, zz, zx, xE, z4, ya, z3, z6, z1, yb, z7, zj, z5, zy, zi, zA, z2, yL, yJ, zk, r1], by simp (disch := first | assumption | decide | omega) only [zB, yc, zC, yM, yd, zl, yN, ye, yf, zD, zE, zm, zn, zF, yg, zo, zG, yh, zH, yi, zI, yj, zc, zJ, zK, yk, yl, zd, ym, yO, xx, yn, yo, zL, yp, zM, zp, zq, ze, zN, yq, zO, yr, zr, zf, zP, yt, zg, yu, zQ, zh, zt, yP, xy, yQ, yR, zu, yS, decide_eq_true_eq, beq_iff_eq, zR, zS, za, String.reduceEq, ↓reduceIte, yv, Glob.val?, xz, yT, yU, yV, yW, yX, yY, xA, xB, xC, xD, yZ, y0, y5, y6, y7, y8, yw, yx, yy, y9, xc, xd, zT, zU, xe, zV, zW, xf, xg, xh, xF, xG, xH, xI, xJ, xK, xL, xM, xi, xj, xk, xl, xm, xn, xo, xp, Glob.isB, and_self, and_true, true_and, zX, yz, yA, zY, Option.map_some, List.length_cons, List.length_nil, Nat.reduceAdd, Nat.zero_add, yB, yC, yD, yE, yF, yG, zb, yK, xr, xv, z9, xt, xu, xq, yI, yH, z0, zw, zZ, z8, xw, zz, zx, xE, z4, ya, z3, z6, z1, yb, z7, zj, z5, zy, zi, zA, z2, yL, yJ, zk, r2], by simp (disch := first | assumption | decide | omega) only [zB, yc, zC, yM, yd, zl, yN, ye, yf, zD, zE, zm, zn, zF, yg, zo, zG, yh, zH, yi, zI, yj, zc, zJ, zK, yk, yl, zd, ym, yO, xx, yn, yo, zL, yp, zM, zp, zq, ze, zN, yq, zO, yr, zr, zf, zP, yt, zg, yu, zQ, zh, zt, yP, xy, yQ, yR, zu, yS, decide_eq_true_eq, beq_iff_eq, zR, zS, za, String.reduceEq, ↓reduceIte, yv, Glob.val?, xz, yT, yU, yV, yW, yX, yY, xA, xB, xC, xD, yZ, y0, y5, y6, y7, y8, yw, yx, yy, y9, xc, xd, zT, zU, xe, zV, zW, xf, xg, xh, xF, xG, xH, xI, xJ, xK, xL, xM, xi, xj, xk, xl, xm, xn, xo, xp, Glob.isB, and_self, and_true, true_and, zX, yz, yA, zY, Option.map_some, List.length_cons, List.length_nil, Nat.reduceAdd, Nat.zero_add, yB, yC, yD, yE, yF, yG, zb, yK, xr, xv, z9, xt, xu, xq, yI, yH, z0, zw, zZ, z8, xw, zz, zx, xE, z4, ya, z3, z6, z1, yb, z7, zj, z5, zy, zi, zA, z2, yL, yJ, zk, r3]⟩, by simp (disch := first | assumption | decide | omega) only [zB, yc, zC, yM, yd, zl, yN, ye, yf, zD, zE, zm, zn, zF, yg, zo, zG, yh, zH, yi, zI, yj, zc, zJ, zK, yk, yl, zd, ym, yO, xx, yn, yo, zL, yp, zM, zp, zq, ze, zN, yq, zO, yr, zr, zf, zP, yt, zg, yu, zQ, zh, zt, yP, xy, yQ, yR, zu, yS, decide_eq_true_eq, beq_iff_eq, zR, zS, za, String.reduceEq, ↓reduceIte, yv, Glob.val?, xz, yT, yU, yV, yW, yX, yY, xA, xB, xC, xD, yZ, y0, y5, y6, y7, y8, yw, yx, yy, y9, xc, xd, zT, zU, xe, zV, zW, xf, xg, xh, xF, xG, xH, xI, xJ, xK, xL, xM, xi, xj, xk, xl, xm, xn, xo, xp, Glob.isB, and_self, and_true, true_and, zX, yz, yA, zY, Option.map_some, List.length_cons, List.length_nil, Nat.reduceAdd, Nat.zero_add, yB, yC, yD, yE, yF, yG, zb, yK, xr, xv, z9, xt, xu, xq, yI, yH, z0, zw, zZ, z8, xw, zz, zx, xE, z4, ya, z3, z6, z1, yb, z7, zj, z5, zy, zi, zA, z2, yL, yJ, zk], by simp (disch := first | assumption | decide | omega) only [zB, yc, zC, yM, yd, zl, yN, ye, yf, zD, zE, zm, zn, zF, yg, zo, zG, yh, zH, yi, zI, yj, zc, zJ, zK, yk, yl, zd, ym, yO, xx, yn, yo, zL, yp, zM, zp, zq, ze, zN, yq, zO, yr, zr, zf, zP, yt, zg, yu, zQ, zh, zt, yP, xy, yQ, yR, zu, yS, decide_eq_true_eq, beq_iff_eq, zR, zS, za, String.reduceEq, ↓reduceIte, yv, Glob.val?, xz, yT, yU, yV, yW, yX, yY, xA, xB, xC, xD, yZ, y0, y5, y6, y7, y8, yw, yx, yy, y9, xc, xd, zT, zU, xe, zV, zW, xf, xg, xh, xF, xG, xH, xI, xJ, xK, xL, xM, xi, xj, xk, xl, xm, xn, xo, xp, Glob.isB, and_self, and_true, true_and, zX, yz, yA, zY, Option.map_some, List.length_cons, List.length_nil, Nat.reduceAdd, Nat.zero_add, yB, yC, yD, yE, yF, yG, zb, yK, xr, xv, z9, xt, xu, xq, yI, yH, z0, zw, zZ, z8, xw, zz, zx, xE, z4, ya, z3, z6, z1, yb, z7, zj, z5, zy, zi, zA, z2, yL, yJ, zk], by simp (disch := first | assumption | decide | omega) only [zB, yc, zC, yM, yd, zl, yN, ye, yf, zD, zE, zm, zn, zF, yg, zo, zG, yh, zH, yi, zI, yj, zc, zJ, zK, yk, yl, zd, ym, yO, xx, yn, yo, zL, yp, zM, zp, zq, ze, zN, yq, zO, yr, zr, zf, zP, yt, zg, yu, zQ, zh, zt, yP, xy, yQ, yR, zu, yS, decide_eq_true_eq, beq_iff_eq, zR, zS, za, String.reduceEq, ↓reduceIte, yv, Glob.val?, xz, yT, yU, yV, yW, yX, yY, xA, xB, xC, xD, yZ, y0, y5, y6, y7, y8, yw, yx, yy, y9, xc, xd, zT, zU, xe, zV, zW, xf, xg, xh, xF, xG, xH, xI, xJ, xK, xL, xM, xi, xj, xk, xl, xm, xn, xo, xp, Glob.isB, and_self, and_true, true_and, zX, yz, yA, zY, Option.map_some, List.length_cons, List.length_nil, Nat.reduceAdd, Nat.zero_add, yB, yC, yD, yE, yF, yG, zb, yK, xr, xv, z9, xt, xu, xq, yI, yH, z0, zw, zZ, z8, xw, zz, zx, xE, z4, ya, z3, z6, z1, yb, z7, zj, z5, zy, zi, zA, z2, yL, yJ, zk], rfl, sp, ⟨[], by simp⟩, fun j w hj => absurd hj (Nat.not_lt_zero _)⟩
      · rintro i dv ρ τ hdv ⟨T2, W2, ⟨r1, r2, r3⟩, r4, r5, r6, rfl, sp2, ⟨ex, hex⟩, hcl2⟩
        obtain ⟨⟨wr, wc⟩, hwi, rfl⟩ : ∃ w, ways[i]? = some w ∧ dv = tup2 w := by
          rw [List.getElem?_map] at hdv
          obtain ⟨w, h1, h2⟩ := Option.map_eq_some_iff.mp hdv
          exact ⟨w, h1, h2.symm⟩
        have hwm : (wr, wc) ∈ ways := List.mem_of_getElem? hwi
        refine ⟨_, rfl, ?_⟩
        have gd := s2_getd (y := dT T2) (x := .list (W2.map tup2)) hd
        have gn2 := s2_getn (σ := σ) (d := d) (y := dT T2) (x := .list (W2.map tup2))
        have ci := c_in gd (pr + wr, pc + wc)
        have l2 := sp2.less
        simp only [tup2] at ci
        apply out_next
        · (simp (disch := first | assumption | decide | omega) only [zB, yc, zC, yM, yd, zl, yN, ye, yf, zD, zE, zm, zn, zF, yg, zo, zG, yh, zH, yi, zI, yj, zc, zJ, zK, yk, yl, zd, ym, yO, xx, yn, yo, zL, yp, zM, zp, zq, ze, zN, yq, zO, yr, zr, zf, zP, yt, zg, yu, zQ, zh, zt, yP, xy, yQ, yR, zu, yS, decide_eq_true_eq, beq_iff_eq, zR, zS, za, String.reduceEq, ↓reduceIte, yv, Glob.val?, xz, yT, yU, yV, yW, yX, yY, xA, xB, xC, xD, yZ, y0, y5, y6, y7, y8, yw, yx, yy, y9, xc, xd, zT, zU, xe, zV, zW, xf, xg, xh, xF, xG, xH, xI, xJ, xK, xL, xM, xi, xj, xk, xl, xm, xn, xo, xp, Glob.isB, and_self, and_true, true_and, zX, yz, yA, zY, Option.map_some, List.length_cons, List.length_nil, Nat.reduceAdd, Nat.zero_add, yB, yC, yD, yE, yF, yG, zb, yK, xr, xv, z9, xt, xu, xq, yI, yH, z0, zw, zZ, z8, xw, zz, zx, xE, z4, ya, z3, z6, z1, yb, z7, zj, z5, zy, zi, zA, z2, yL, yJ, zk, r5, r6]) <;> rfl
        refine out_cons (out_mono (out_if (K := fun ρ τ => ∃ T2 W2 : List IP, E ρ ∧ ρ (Str.ofString "at") = some (.int ((a : Int) + 1)) ∧ ρ (Str.ofString "row") = some (.int pr) ∧ ρ (Str.ofString "column") = some (.int pc) ∧ τ = S2 σ d (dT T2) (.list (W2.map tup2)) ∧ SpreadTo T ways first T2 W2 ∧
          (∃ ex, W2 = W ++ ex) ∧ ∀ (j : Nat) (w : IP), j < i + 1 → ways[j]? = some w → addP (pr, pc) w ∈ T → addP (pr, pc) w ∈ W2) (R := NoR) (c := decide ((pr + wr, pc + wc) ∈ T2)) (σ₁ := S2 σ d (dT T2) (.list (W2.map tup2))) ?_ (fun hc => ?_) fun hc => ?_) (fun ρ τ h => out_nil h) fun _ _ h => h)
        · simp (disch := first | assumption | decide | omega) only [zB, yc, zC, yM, yd, zl, yN, ye, yf, zD, zE, zm, zn, zF, yg, zo, zG, yh, zH, yi, zI, yj, zc, zJ, zK, yk, yl, zd, ym, yO, xx, yn, yo, zL, yp, zM, zp, zq, ze, zN, yq, zO, yr, zr, zf, zP, yt, zg, yu, zQ, zh, zt, yP, xy, yQ, yR, zu, yS, decide_eq_true_eq, beq_iff_eq, zR, zS, za, String.reduceEq, ↓reduceIte, yv, Glob.val?, xz, yT, yU, yV, yW, yX, yY, xA, xB, xC, xD, yZ, y0, y5, y6, y7, y8, yw, yx, yy, y9, xc, xd, zT, zU, xe, zV, zW, xf, xg, xh, xF, xG, xH, xI, xJ, xK, xL, xM, xi, xj, xk, xl, xm, xn, xo, xp, Glob.isB, and_self, and_true, true_and, zX, yz, yA, zY, Option.map_some, List.length_cons, List.length_nil, Nat.reduceAdd, Nat.zero_add, yB, yC, yD, yE, yF, yG, zb, yK, xr, xv, z9, xt, xu, xq, yI, yH, z0, zw, zZ, z8, xw, zz, zx, xE, z4, ya, z3, z6, z1, yb, z7, zj, z5, zy, zi, zA, z2, yL, yJ, zk, r2, ci]
        · have hin : (pr + wr, pc + wc) ∈ T2 := by simpa using hc
          have pp := m_dpop gd hin (by omega)
          rw [s2_setd hd] at pp
          simp only [tup2] at pp
          have gn3 := s2_getn (σ := σ) (d := d) (y := dT (rem (pr + wr, pc + wc) T2)) (x := .list (W2.map tup2))
          have ma := xl (d := .tup [.int (pr + wr), .int (pc + wc)]) gn3 (by rw [List.length_map]; omega)
          rw [s2_setn] at ma
          apply out_next
          · (simp (disch := first | assumption | decide | omega) only [zB, yc, zC, yM, yd, zl, yN, ye, yf, zD, zE, zm, zn, zF, yg, zo, zG, yh, zH, yi, zI, yj, zc, zJ, zK, yk, yl, zd, ym, yO, xx, yn, yo, zL, yp, zM, zp, zq, ze, zN, yq, zO, yr, zr, zf, zP, yt, zg, yu, zQ, zh, zt, yP, xy, yQ, yR, zu, yS, decide_eq_true_eq, beq_iff_eq, zR, zS, za, String.reduceEq, ↓reduceIte, yv, Glob.val?, xz, yT, yU, yV, yW, yX, yY, xA, xB, xC, xD, yZ, y0, y5, y6, y7, y8, yw, yx, yy, y9, xc, xd, zT, zU, xe, zV, zW, xf, xg, xh, xF, xG, xH, xI, xJ, xK, xL, xM, xi, xj, xk, xl, xm, xn, xo, xp, Glob.isB, and_self, and_true, true_and, zX, yz, yA, zY, Option.map_some, List.length_cons, List.length_nil, Nat.reduceAdd, Nat.zero_add, yB, yC, yD, yE, yF, yG, zb, yK, xr, xv, z9, xt, xu, xq, yI, yH, z0, zw, zZ, z8, xw, zz, zx, xE, z4, ya, z3, z6, z1, yb, z7, zj, z5, zy, zi, zA, z2, yL, yJ, zk, r2, r_dict gd, pp]) <;> rfl
          apply out_next
          · (simp (disch := first | assumption | decide | omega) only [zB, yc, zC, yM, yd, zl, yN, ye, yf, zD, zE, zm, zn, zF, yg, zo, zG, yh, zH, yi, zI, yj, zc, zJ, zK, yk, yl, zd, ym, yO, xx, yn, yo, zL, yp, zM, zp, zq, ze, zN, yq, zO, yr, zr, zf, zP, yt, zg, yu, zQ, zh, zt, yP, xy, yQ, yR, zu, yS, decide_eq_true_eq, beq_iff_eq, zR, zS, za, String.reduceEq, ↓reduceIte, yv, Glob.val?, xz, yT, yU, yV, yW, yX, yY, xA, xB, xC, xD, yZ, y0, y5, y6, y7, y8, yw, yx, yy, y9, xc, xd, zT, zU, xe, zV, zW, xf, xg, xh, xF, xG, xH, xI, xJ, xK, xL, xM, xi, xj, xk, xl, xm, xn, xo, xp, Glob.isB, and_self, and_true, true_and, zX, yz, yA, zY, Option.map_some, List.length_cons, List.length_nil, Nat.reduceAdd, Nat.zero_add, yB, yC, yD, yE, yF, yG, zb, yK, xr, xv, z9, xt, xu, xq, yI, yH, z0, zw, zZ, z8, xw, zz, zx, xE, z4, ya, z3, z6, z1, yb, z7, zj, z5, zy, zi, zA, z2, yL, yJ, zk, r1, xm gn3, ma]) <;> rfl
          have hTin := (sp2.left _).mp hin
          have hpT : (pr, pc) ∈ W2 := by rw [hex]; exact List.mem_append_left _ (List.mem_of_getElem? hWa)
          refine out_nil ⟨rem (pr + wr, pc + wc) T2, W2 ++ [(pr + wr, pc + wc)], ⟨by simp (disch := first | assumption | decide | omega) only [zB, yc, zC, yM, yd, zl, yN, ye, yf, zD, zE, zm, zn, zF, yg, zo, zG, yh, zH, yi, zI, yj, zc, zJ, zK, yk, yl, zd, ym, yO, xx, yn, yo, zL, yp, zM, zp, zq, ze, zN, yq, zO, yr, zr, zf, zP, yt, zg, yu, zQ, zh, zt, yP, xy, yQ, yR, zu, yS, decide_eq_true_eq, beq_iff_eq, zR, zS, za, String.reduceEq, ↓reduceIte, yv, Glob.val?, xz, yT, yU, yV, yW, yX, yY, xA, xB, xC, xD, yZ, y0, y5, y6, y7, y8, yw, yx, yy, y9, xc, xd, zT, zU, xe, zV, zW, xf, xg, xh, xF, xG, xH, xI, xJ, xK, xL, xM, xi, xj, xk, xl, xm, xn, xo, xp, Glob.isB, and_self, and_true, true_and, zX, yz, yA, zY, Option.map_some, List.length_cons, List.length_nil, Nat.reduceAdd, Nat.zero_add, yB, yC, yD, yE, yF, yG, zb, yK, xr, xv, z9, xt, xu, xq, yI, yH, z0, zw, zZ, z8, xw, zz, zx, xE, z4, ya, z3, z6, z1, yb, z7, zj, z5, zy, zi, zA, z2, yL, yJ, zk, r1], by simp (disch := first | assumption | decide | omega) only [zB, yc, zC, yM, yd, zl, yN, ye, yf, zD, zE, zm, zn, zF, yg, zo, zG, yh, zH, yi, zI, yj, zc, zJ, zK, yk, yl, zd, ym, yO, xx, yn, yo, zL, yp, zM, zp, zq, ze, zN, yq, zO, yr, zr, zf, zP, yt, zg, yu, zQ, zh, zt, yP, xy, yQ, yR, zu, yS, decide_eq_true_eq, beq_iff_eq, zR, zS, za, String.reduceEq, ↓reduceIte, yv, Glob.val?, xz, yT, yU, yV, yW, yX, yY, xA, xB, xC, xD, yZ, y0, y5, y6, y7, y8, yw, yx, yy, y9, xc, xd, zT, zU, xe, zV, zW, xf, xg, xh, xF, xG, xH, xI, xJ, xK, xL, xM, xi, xj, xk, xl, xm, xn, xo, xp, Glob.isB, and_self, and_true, true_and, zX, yz, yA, zY, Option.map_some, List.length_cons, List.length_nil, Nat.reduceAdd, Nat.zero_add, yB, yC, yD, yE, yF, yG, zb, yK, xr, xv, z9, xt, xu, xq, yI, yH, z0, zw, zZ, z8, xw, zz, zx, xE, z4, ya, z3, z6, z1, yb, z7, zj, z5, zy, zi, zA, z2, yL, yJ, zk, r2], by simp (disch := first | assumption | decide | omega) only [zB, yc, zC, yM, yd, zl, yN, ye, yf, zD, zE, zm, zn, zF, yg, zo, zG, yh, zH, yi, zI, yj, zc, zJ, zK, yk, yl, zd, ym, yO, xx, yn, yo, zL, yp, zM, zp, zq, ze, zN, yq, zO, yr, zr, zf, zP, yt, zg, yu, zQ, zh, zt, yP, xy, yQ, yR, zu, yS, decide_eq_true_eq, beq_iff_eq, zR, zS, za, String.reduceEq, ↓reduceIte, yv, Glob.val?, xz, yT, yU, yV, yW, yX, yY, xA, xB, xC, xD, yZ, y0, y5, y6, y7, y8, yw, yx, yy, y9, xc, xd, zT, zU, xe, zV, zW, xf, xg, xh, xF, xG, xH, xI, xJ, xK, xL, xM, xi, xj, xk, xl, xm, xn, xo, xp, Glob.isB, and_self, and_true, true_and, zX, yz, yA, zY, Option.map_some, List.length_cons, List.length_nil, Nat.reduceAdd, Nat.zero_add, yB, yC, yD, yE, yF, yG, zb, yK, xr, xv, z9, xt, xu, xq, yI, yH, z0, zw, zZ, z8, xw, zz, zx, xE, z4, ya, z3, z6, z1, yb, z7, zj, z5, zy, zi, zA, z2, yL, yJ, zk, r3]⟩, by simp (disch := first | assumption | decide | omega) only [zB, yc, zC, yM, yd, zl, yN, ye, yf, zD, zE, zm, zn, zF, yg, zo, zG, yh, zH, yi, zI, yj, zc, zJ, zK, yk, yl, zd, ym, yO, xx, yn, yo, zL, yp, zM, zp, zq, ze, zN, yq, zO, yr, zr, zf, zP, yt, zg, yu, zQ, zh, zt, yP, xy, yQ, yR, zu, yS, decide_eq_true_eq, beq_iff_eq, zR, zS, za, String.reduceEq, ↓reduceIte, yv, Glob.val?, xz, yT, yU, yV, yW, yX, yY, xA, xB, xC, xD, yZ, y0, y5, y6, y7, y8, yw, yx, yy, y9, xc, xd, zT, zU, xe, zV, zW, xf, xg, xh, xF, xG, xH, xI, xJ, xK, xL, xM, xi, xj, xk, xl, xm, xn, xo, xp, Glob.isB, and_self, and_true, true_and, zX, yz, yA, zY, Option.map_some, List.length_cons, List.length_nil, Nat.reduceAdd, Nat.zero_add, yB, yC, yD, yE, yF, yG, zb, yK, xr, xv, z9, xt, xu, xq, yI, yH, z0, zw, zZ, z8, xw, zz, zx, xE, z4, ya, z3, z6, z1, yb, z7, zj, z5, zy, zi, zA, z2, yL, yJ, zk, r4], by simp (disch := first | assumption | decide | omega) only [zB, yc, zC, yM, yd, zl, yN, ye, yf, zD, zE, zm, zn, zF, yg, zo, zG, yh, zH, yi, zI, yj, zc, zJ, zK, yk, yl, zd, ym, yO, xx, yn, yo, zL, yp, zM, zp, zq, ze, zN, yq, zO, yr, zr, zf, zP, yt, zg, yu, zQ, zh, zt, yP, xy, yQ, yR, zu, yS, decide_eq_true_eq, beq_iff_eq, zR, zS, za, String.reduceEq, ↓reduceIte, yv, Glob.val?, xz, yT, yU, yV, yW, yX, yY, xA, xB, xC, xD, yZ, y0, y5, y6, y7, y8, yw, yx, yy, y9, xc, xd, zT, zU, xe, zV, zW, xf, xg, xh, xF, xG, xH, xI, xJ, xK, xL, xM, xi, xj, xk, xl, xm, xn, xo, xp, Glob.isB, and_self, and_true, true_and, zX, yz, yA, zY, Option.map_some, List.length_cons, List.length_nil, Nat.reduceAdd, Nat.zero_add, yB, yC, yD, yE, yF, yG, zb, yK, xr, xv, z9, xt, xu, xq, yI, yH, z0, zw, zZ, z8, xw, zz, zx, xE, z4, ya, z3, z6, z1, yb, z7, zj, z5, zy, zi, zA, z2, yL, yJ, zk, r5], by simp (disch := first | assumption | decide | omega) only [zB, yc, zC, yM, yd, zl, yN, ye, yf, zD, zE, zm, zn, zF, yg, zo, zG, yh, zH, yi, zI, yj, zc, zJ, zK, yk, yl, zd, ym, yO, xx, yn, yo, zL, yp, zM, zp, zq, ze, zN, yq, zO, yr, zr, zf, zP, yt, zg, yu, zQ, zh, zt, yP, xy, yQ, yR, zu, yS, decide_eq_true_eq, beq_iff_eq, zR, zS, za, String.reduceEq, ↓reduceIte, yv, Glob.val?, xz, yT, yU, yV, yW, yX, yY, xA, xB, xC, xD, yZ, y0, y5, y6, y7, y8, yw, yx, yy, y9, xc, xd, zT, zU, xe, zV, zW, xf, xg, xh, xF, xG, xH, xI, xJ, xK, xL, xM, xi, xj, xk, xl, xm, xn, xo, xp, Glob.isB, and_self, and_true, true_and, zX, yz, yA, zY, Option.map_some, List.length_cons, List.length_nil, Nat.reduceAdd, Nat.zero_add, yB, yC, yD, yE, yF, yG, zb, yK, xr, xv, z9, xt, xu, xq, yI, yH, z0, zw, zZ, z8, xw, zz, zx, xE, z4, ya, z3, z6, z1, yb, z7, zj, z5, zy, zi, zA, z2, yL, yJ, zk, r6], ?_, ⟨fun q => ?_, fun q hq => ?_, List.mem_append_left _ sp2.first, ?_⟩, ⟨ex ++ [(pr + wr, pc + wc)], by rw [hex, List.append_assoc]⟩, fun j w hj hjw hin' => ?_⟩
          · rw [List.map_append]; rfl
          · rw [mem_rem, sp2.left, List.mem_append, List.mem_singleton]
            simp only [not_or, and_assoc, ne_eq]
          · rcases List.mem_append.mp hq with h | h
            · exact sp2.conn q h
            · rw [List.mem_singleton.mp h]
              exact ⟨hTin.1, .fwd (sp2.conn _ hpT).2 (mem_steps.mpr ⟨(sp2.conn _ hpT).1, hTin.1, (wr, wc), hwm, rfl⟩)⟩
          · have h1 := rem_len hin
            simp only [List.length_append, List.length_cons, List.length_nil]
            omega
          · by_cases q : j = i
            · subst q
              rw [hwi] at hjw; cases hjw
              exact List.mem_append_right _ (.head _)
            · exact List.mem_append_left _ (hcl2 j w (by omega) hjw hin')
        · have hnin : (pr + wr, pc + wc) ∉ T2 := by simpa using hc
          refine out_nil ⟨T2, W2, ⟨by simp (disch := first | assumption | decide | omega) only [zB, yc, zC, yM, yd, zl, yN, ye, yf, zD, zE, zm, zn, zF, yg, zo, zG, yh, zH, yi, zI, yj, zc, zJ, zK, yk, yl, zd, ym, yO, xx, yn, yo, zL, yp, zM, zp, zq, ze, zN, yq, zO, yr, zr, zf, zP, yt, zg, yu, zQ, zh, zt, yP, xy, yQ, yR, zu, yS, decide_eq_true_eq, beq_iff_eq, zR, zS, za, String.reduceEq, ↓reduceIte, yv, Glob.val?, xz, yT, yU, yV, yW, yX, yY, xA, xB, xC, xD, yZ, y0, y5, y6, y7, y8, yw, yx, yy, y9, xc, xd, zT, zU, xe, zV, zW, xf, xg, xh, xF, xG, xH, xI, xJ, xK, xL, xM, xi, xj, xk, xl, xm, xn, xo, xp, Glob.isB, and_self, and_true, true_and, zX, yz, yA, zY, Option.map_some, List.length_cons, List.length_nil, Nat.reduceAdd, Nat.zero_add, yB, yC, yD, yE, yF, yG, zb, yK, xr, xv, z9, xt, xu, xq, yI, yH, z0, zw, zZ, z8, xw, zz, zx, xE, z4, ya, z3, z6, z1, yb, z7, zj, z5, zy, zi, zA, z2, yL, yJ, zk, r1], by simp (disch := first | assumption | decide | omega) only [zB, yc, zC, yM, yd, zl, yN, ye, yf, zD, zE, zm, zn, zF, yg, zo, zG, yh, zH, yi, zI, yj, zc, zJ, zK, yk, yl, zd, ym, yO, xx, yn, yo, zL, yp, zM, zp, zq, ze, zN, yq, zO, yr, zr, zf, zP, yt, zg, yu, zQ, zh, zt, yP, xy, yQ, yR, zu, yS, decide_eq_true_eq, beq_iff_eq, zR, zS, za, String.reduceEq, ↓reduceIte, yv, Glob.val?, xz, yT, yU, yV, yW, yX, yY, xA, xB, xC, xD, yZ, y0, y5, y6, y7, y8, yw, yx, yy, y9, xc, xd, zT, zU, xe, zV, zW, xf, xg, xh, xF, xG, xH, xI, xJ, xK, xL, xM, xi, xj, xk, xl, xm, xn, xo, xp, Glob.isB, and_self, and_true, true_and, zX, yz, yA, zY, Option.map_some, List.length_cons, List.length_nil, Nat.reduceAdd, Nat.zero_add, yB, yC, yD, yE, yF, yG, zb, yK, xr, xv, z9, xt, xu, xq, yI, yH, z0, zw, zZ, z8, xw, zz, zx, xE, z4, ya, z3, z6, z1, yb, z7, zj, z5, zy, zi, zA, z2, yL, yJ, zk, r2], by simp (disch := first | assumption | decide | omega) only [zB, yc, zC, yM, yd, zl, yN, ye, yf, zD, zE, zm, zn, zF, yg, zo, zG, yh, zH, yi, zI, yj, zc, zJ, zK, yk, yl, zd, ym, yO, xx, yn, yo, zL, yp, zM, zp, zq, ze, zN, yq, zO, yr, zr, zf, zP, yt, zg, yu, zQ, zh, zt, yP, xy, yQ, yR, zu, yS, decide_eq_true_eq, beq_iff_eq, zR, zS, za, String.reduceEq, ↓reduceIte, yv, Glob.val?, xz, yT, yU, yV, yW, yX, yY, xA, xB, xC, xD, yZ, y0, y5, y6, y7, y8, yw, yx, yy, y9, xc, xd, zT, zU, xe, zV, zW, xf, xg, xh, xF, xG, xH, xI, xJ, xK, xL, xM, xi, xj, xk, xl, xm, xn, xo, xp, Glob.isB, and_self, and_true, true_and, zX, yz, yA, zY, Option.map_some, List.length_cons, List.length_nil, Nat.reduceAdd, Nat.zero_add, yB, yC, yD, yE, yF, yG, zb, yK, xr, xv, z9, xt, xu, xq, yI, yH, z0, zw, zZ, z8, xw, zz, zx, xE, z4, ya, z3, z6, z1, yb, z7, zj, z5, zy, zi, zA, z2, yL, yJ, zk, r3]⟩, by simp (disch := first | assumption | decide | omega) only [zB, yc, zC, yM, yd, zl, yN, ye, yf, zD, zE, zm, zn, zF, yg, zo, zG, yh, zH, yi, zI, yj, zc, zJ, zK, yk, yl, zd, ym, yO, xx, yn, yo, zL, yp, zM, zp, zq, ze, zN, yq, zO, yr, zr, zf, zP, yt, zg, yu, zQ, zh, zt, yP, xy, yQ, yR, zu, yS, decide_eq_true_eq, beq_iff_eq, zR, zS, za, String.reduceEq, ↓reduceIte, yv, Glob.val?, xz, yT, yU, yV, yW, yX, yY, xA, xB, xC, xD, yZ, y0, y5, y6, y7, y8, yw, yx, yy, y9, xc, xd, zT, zU, xe, zV, zW, xf, xg, xh, xF, xG, xH, xI, xJ, xK, xL, xM, xi, xj, xk, xl, xm, xn, xo, xp, Glob.isB, and_self, and_true, true_and, zX, yz, yA, zY, Option.map_some, List.length_cons, List.length_nil, Nat.reduceAdd, Nat.zero_add, yB, yC, yD, yE, yF, yG, zb, yK, xr, xv, z9, xt, xu, xq, yI, yH, z0, zw, zZ, z8, xw, zz, zx, xE, z4, ya, z3, z6, z1, yb, z7, zj, z5, zy, zi, zA, z2, yL, yJ, zk, r4], by simp (disch := first | assumption | decide | omega) only [zB, yc, zC, yM, yd, zl, yN, ye, yf, zD, zE, zm, zn, zF, yg, zo, zG, yh, zH, yi, zI, yj, zc, zJ, zK, yk, yl, zd, ym, yO, xx, yn, yo, zL, yp, zM, zp, zq, ze, zN, yq, zO, yr, zr, zf, zP, yt, zg, yu, zQ, zh, zt, yP, xy, yQ, yR, zu, yS, decide_eq_true_eq, beq_iff_eq, zR, zS, za, String.reduceEq, ↓reduceIte, yv, Glob.val?, xz, yT, yU, yV, yW, yX, yY, xA, xB, xC, xD, yZ, y0, y5, y6, y7, y8, yw, yx, yy, y9, xc, xd, zT, zU, xe, zV, zW, xf, xg, xh, xF, xG, xH, xI, xJ, xK, xL, xM, xi, xj, xk, xl, xm, xn, xo, xp, Glob.isB, and_self, and_true, true_and, zX, yz, yA, zY, Option.map_some, List.length_cons, List.length_nil, Nat.reduceAdd, Nat.zero_add, yB, yC, yD, yE, yF, yG, zb, yK, xr, xv, z9, xt, xu, xq, yI, yH, z0, zw, zZ, z8, xw, zz, zx, xE, z4, ya, z3, z6, z1, yb, z7, zj, z5, zy, zi, zA, z2, yL, yJ, zk, r5], by simp (disch := first | assumption | decide | omega) only [zB, yc, zC, yM, yd, zl, yN, ye, yf, zD, zE, zm, zn, zF, yg, zo, zG, yh, zH, yi, zI, yj, zc, zJ, zK, yk, yl, zd, ym, yO, xx, yn, yo, zL, yp, zM, zp, zq, ze, zN, yq, zO, yr, zr, zf, zP, yt, zg, yu, zQ, zh, zt, yP, xy, yQ, yR, zu, yS, decide_eq_true_eq, beq_iff_eq, zR, zS, za, String.reduceEq, ↓reduceIte, yv, Glob.val?, xz, yT, yU, yV, yW, yX, yY, xA, xB, xC, xD, yZ, y0, y5, y6, y7, y8, yw, yx, yy, y9, xc, xd, zT, zU, xe, zV, zW, xf, xg, xh, xF, xG, xH, xI, xJ, xK, xL, xM, xi, xj, xk, xl, xm, xn, xo, xp, Glob.isB, and_self, and_true, true_and, zX, yz, yA, zY, Option.map_some, List.length_cons, List.length_nil, Nat.reduceAdd, Nat.zero_add, yB, yC, yD, yE, yF, yG, zb, yK, xr, xv, z9, xt, xu, xq, yI, yH, z0, zw, zZ, z8, xw, zz, zx, xE, z4, ya, z3, z6, z1, yb, z7, zj, z5, zy, zi, zA, z2, yL, yJ, zk, r6], rfl, sp2, ⟨ex, hex⟩, fun j w hj hjw hin' => ?_⟩
          by_cases q : j = i
          · subst q
            rw [hwi] at hjw; cases hjw
            by_cases hW : addP (pr, pc) (wr, wc) ∈ W2
            · exact hW
            · exact absurd ((sp2.left _).mpr ⟨hin', hW⟩) hnin
          · exact hcl2 j w (by omega) hjw hin'
      · rintro ρ τ ⟨T2, W2, h1, h2, _, _, rfl, sp2, ⟨ex, hex⟩, hcl2⟩
        have l2 := sp2.less
        have l0 := sp.less
        refine out_nil ⟨T.length + 1 - (a + 1), by omega, a + 1, T2, W2, h1, h2, rfl, sp2, by rw [hex, List.length_append]; omega, by omega, fun j p hj hjp w hw' hin => ?_⟩
        rw [List.length_map] at hcl2
        by_cases q : j = a
        · subst q
          have : W2[j]? = some (pr, pc) := by rw [hex, List.getElem?_append_left hlt]; exact hWa
          rw [this] at hjp; cases hjp
          obtain ⟨i, hi, e⟩ := List.getElem_of_mem hw'
          exact hcl2 i w hi (by rw [List.getElem?_eq_getElem hi, e]) hin
        · have hj' : j < W.length := by omega
          rw [hex, List.getElem?_append_left hj'] at hjp
          rw [hex]
          exact List.mem_append_left _ (hcl j p (by omega) hjp w hw' hin)
  · intro ρ τ h
    exact out_nil h
end
end Mine

set_option maxRecDepth 100000
namespace Mine
open PySem PySem.Spec PyProof.Rows PySem.Challenge

/-! the classes, one after the other -/
structure Bun (S ways R T : List IP) : Prop where
  sub : ∀ q ∈ T, q ∈ S
  rsub : ∀ r ∈ R, r ∈ S
  cov : ∀ q ∈ S, q ∈ T ∨ ∃ r ∈ R, Cn (stepsOf S ways) q r
  sep : ∀ q ∈ T, ∀ r ∈ R, ¬ Cn (stepsOf S ways) q r
  ind : R.Pairwise (fun a b => ¬ Cn (stepsOf S ways) a b)
theorem steps_mono {T S ways : List IP} (h : ∀ q ∈ T, q ∈ S) : ∀ e ∈ stepsOf T ways, e ∈ stepsOf S ways := by
  rintro ⟨a, b⟩ he
  obtain ⟨h1, h2, w, hw, e⟩ := mem_steps.mp he
  exact mem_steps.mpr ⟨h a h1, h b h2, w, hw, e⟩
theorem steps_sym {S ways : List IP} (hsym : ∀ w ∈ ways, (-w.1, -w.2) ∈ ways) {a b : IP} (h : (a, b) ∈ stepsOf S ways) : (b, a) ∈ stepsOf S ways := by
  obtain ⟨h1, h2, w, hw, e⟩ := mem_steps.mp h
  refine mem_steps.mpr ⟨h2, h1, _, hsym w hw, ?_⟩
  rw [e]
  obtain ⟨a1, a2⟩ := a
  simp only [Prod.mk.injEq]; omega
theorem Bun.next {S ways R T T' W : List IP} {one : IP} (hsym : ∀ w ∈ ways, (-w.1, -w.2) ∈ ways) (b : Bun S ways R T) (ho : one ∈ T) (sp : SpreadTo T ways one T' W) (cl : ∀ p ∈ W, ∀ w ∈ ways, addP p w ∈ T → addP p w ∈ W) : Bun S ways (one :: R) T' := by
  have more : ∀ {p q : IP}, (p, q) ∈ stepsOf S ways → p ∈ W → q ∈ W := fun {p q} h hp => by
    obtain ⟨h1, h2, w, hw, e⟩ := mem_steps.mp h
    have hq : q ∈ T := by
      rcases b.cov q h2 with h' | ⟨r, hr, hc⟩
      · exact h'
      · exact absurd ((Cn.edge h).trans hc) (b.sep p (sp.conn p hp).1 r hr)
    rw [e]
    exact cl p hp w hw (by show (p.1 + w.1, p.2 + w.2) ∈ T; rw [← e]; exact hq)
  have toW : ∀ q, Cn (stepsOf S ways) one q → q ∈ W := fun q h => by
    induction h with
    | refl => exact sp.first
    | fwd _ e ih => exact more e ih
    | bwd _ e ih => exact more (steps_sym hsym e) ih
  have mem : ∀ q, q ∈ T' → q ∈ T ∧ q ∉ W := fun q h => (sp.left q).mp h
  refine ⟨fun q hq => b.sub q (mem q hq).1, fun r hr => ?_, fun q hq => ?_, fun q hq r hr h => ?_, List.pairwise_cons.mpr ⟨fun r hr => b.sep one ho r hr, b.ind⟩⟩
  · rcases List.mem_cons.mp hr with rfl | hr
    · exact b.sub r ho
    · exact b.rsub r hr
  · rcases b.cov q hq with h | ⟨r, hr, hc⟩
    · by_cases hW : q ∈ W
      · exact .inr ⟨one, .head _, ((sp.conn q hW).2.mono (steps_mono b.sub)).symm⟩
      · exact .inl ((sp.left q).mpr ⟨h, hW⟩)
    · exact .inr ⟨r, .tail _ hr, hc⟩
  · obtain ⟨h1, h2⟩ := mem q hq
    rcases List.mem_cons.mp hr with rfl | hr
    · exact h2 (toW q h.symm)
    · exact b.sep q h1 r hr h

theorem dT_put (K : List IP) (p : IP) : (dU K fun q => if q = p then true else true) = dT K := by
  show dU K _ = dU K _
  congr 1
  funext q
  split <;> rfl
theorem st_get {σ : Store} {y : PO} {ex : Store} : (σ ++ y :: ex)[σ.length]? = some y := by
  rw [List.getElem?_append_right (Nat.le_refl _)]; simp
theorem st_s2 {σ : Store} {y y' x : PO} {ex : Store} : S2 (σ ++ y :: ex) σ.length y' x = σ ++ y' :: (ex ++ [x]) := by
  unfold S2
  rw [List.set_append_right _ _ (Nat.le_refl _)]; simp

section
variable {Φ : Fns} {σ : Store}
section
variable (hspr : ∀ (T ways : List IP) (d : Nat) (first : IP) (σ : Store), d < σ.length → σ[d]? = some (dT T) → first ∈ T → T.length ≤ 2000 → ways.length ≤ 20 →
  ∃ T' W, Φ (Str.ofString "spread") [tup2 first, .loc d, .tup (ways.map tup2)] σ = some (.none, S2 σ d (dT T') (.list (W.map tup2))) ∧ SpreadTo T ways first T' W ∧ ∀ p ∈ W, ∀ w ∈ ways, addP p w ∈ T → addP p w ∈ W)
include hspr
theorem bunches_run {ps ways : List IP} {l : Nat} (hσ : σ[l]? = some (.list (ps.map tup2))) (hl : ps.length ≤ 1100) (hw : ways.length ≤ 20) (hsym : ∀ w ∈ ways, (-w.1, -w.2) ∈ ways) :
    ∃ (n : Nat) (τ : Store), interpF Φ Gl (dOf pw "bunches") [.loc l, .tup (ways.map tup2)] σ = some (.int n, τ) ∧ (∃ ex, τ = σ ++ ex) ∧ Reps ps (Cn (stepsOf ps ways)) n := by
  have hs := sz
  let R0 : PV → Store → Prop := fun u τ => ∃ n : Nat, u = .int n ∧ (∃ ex, τ = σ ++ ex) ∧ Reps ps (Cn (stepsOf ps ways)) n
  suffices h : Out (execSs Φ Gl (dOf pw "bunches").body (bindP ((dOf pw "bunches").params.args.map (·.arg)) [.loc l, .tup (ways.map tup2)]) σ) No R0 by
    obtain ⟨v, τ, e, n, rfl, h1, h2⟩ := out_run (by kernel_rfl) h
    exact ⟨n, τ, e, h1, h2⟩
  change Out (execSs Φ Gl (_ :: _ :: _ :: _ :: _ :: _) (bindP [_, _] _) σ) _ _
  rw [bindP2]
  have hlp : (ps.map tup2).length ≤ sizeLine := by rw [List.length_map]; omega
  apply out_next
  · (simp (disch := first | assumption | decide | omega) only [zB, yc, zC, yM, yd, zl, yN, ye, yf, zD, zE, zm, zn, zF, yg, zo, zG, yh, zH, yi, zI, yj, zc, zJ, zK, yk, yl, zd, ym, yO, xx, yn, yo, zL, yp, zM, zp, zq, ze, zN, yq, zO, yr, zr, zf, zP, yt, zg, yu, zQ, zh, zt, yP, xy, yQ, yR, zu, yS, decide_eq_true_eq, beq_iff_eq, zR, zS, za, String.reduceEq, ↓reduceIte, yv, Glob.val?, xz, yT, yU, yV, yW, yX, yY, xA, xB, xC, xD, yZ, y0, y5, y6, y7, y8, yw, yx, yy, y9, xc, xd, zT, zU, xe, zV, zW, xf, xg, xh, xF, xG, xH, xI, xJ, xK, xL, xM, xi, xj, xk, xl, xm, xn, xo, xp, Glob.isB, and_self, and_true, true_and, zX, yz, yA, zY, Option.map_some, List.length_cons, List.length_nil, Nat.reduceAdd, Nat.zero_add, yB, yC, yD, yE, yF, yG, zb, yK, xr, xv, z9, xt, xu, xq, yI, yH, z0, zw, zZ, z8, xw, zz, zx, xE, z4, ya, z3, z6, z1, yb, z7, zj, z5, zy, zi, zA, z2, yL, yJ, zk]) <;> rfl
  let E : Locals → Prop := fun ρ => ρ (Str.ofString "some") = some (.loc l) ∧ ρ (Str.ofString "ways") = some (.tup (ways.map tup2)) ∧ ρ (Str.ofString "there") = some (.loc σ.length)
  refine out_cons (out_mono (out_forLoc (R := R0) (for_loc (l := l) (ds := ps.map tup2) (σ₁ := σ ++ [.dict []]) rfl ?_ (get_append_old hσ _))
    (fun i ρ τ => E ρ ∧ ∃ K : List IP, τ = σ ++ [dT K] ∧ K.length ≤ i ∧ i ≤ ps.length ∧ ∀ q, q ∈ K ↔ q ∈ ps.take i) (fun i ρ τ h => by obtain ⟨_, K, rfl, _⟩ := h; exact get_append_old hσ _) ?_ ?_) ?_ fun _ _ h => h)
  · simp (disch := first | assumption | decide | omega) only [zB, yc, zC, yM, yd, zl, yN, ye, yf, zD, zE, zm, zn, zF, yg, zo, zG, yh, zH, yi, zI, yj, zc, zJ, zK, yk, yl, zd, ym, yO, xx, yn, yo, zL, yp, zM, zp, zq, ze, zN, yq, zO, yr, zr, zf, zP, yt, zg, yu, zQ, zh, zt, yP, xy, yQ, yR, zu, yS, decide_eq_true_eq, beq_iff_eq, zR, zS, za, String.reduceEq, ↓reduceIte, yv, Glob.val?, xz, yT, yU, yV, yW, yX, yY, xA, xB, xC, xD, yZ, y0, y5, y6, y7, y8, yw, yx, yy, y9, xc, xd, zT, zU, xe, zV, zW, xf, xg, xh, xF, xG, xH, xI, xJ, xK, xL, xM, xi, xj, xk, xl, xm, xn, xo, xp, Glob.isB, and_self, and_true, true_and, zX, yz, yA, zY, Option.map_some, List.length_cons, List.length_nil, Nat.reduceAdd, Nat.zero_add, yB, yC, yD, yE, yF, yG, zb, yK, xr, xv, z9, xt, xu, xq, yI, yH, z0, zw, zZ, z8, xw, zz, zx, xE, z4, ya, z3, z6, z1, yb, z7, zj, z5, zy, zi, zA, z2, yL, yJ, zk]
  · exact ⟨⟨by simp (disch := first | assumption | decide | omega) only [zB, yc, zC, yM, yd, zl, yN, ye, yf, zD, zE, zm, zn, zF, yg, zo, zG, yh, zH, yi, zI, yj, zc, zJ, zK, yk, yl, zd, ym, yO, xx, yn, yo, zL, yp, zM, zp, zq, ze, zN, yq, zO, yr, zr, zf, zP, yt, zg, yu, zQ, zh, zt, yP, xy, yQ, yR, zu, yS, decide_eq_true_eq, beq_iff_eq, zR, zS, za, String.reduceEq, ↓reduceIte, yv, Glob.val?, xz, yT, yU, yV, yW, yX, yY, xA, xB, xC, xD, yZ, y0, y5, y6, y7, y8, yw, yx, yy, y9, xc, xd, zT, zU, xe, zV, zW, xf, xg, xh, xF, xG, xH, xI, xJ, xK, xL, xM, xi, xj, xk, xl, xm, xn, xo, xp, Glob.isB, and_self, and_true, true_and, zX, yz, yA, zY, Option.map_some, List.length_cons, List.length_nil, Nat.reduceAdd, Nat.zero_add, yB, yC, yD, yE, yF, yG, zb, yK, xr, xv, z9, xt, xu, xq, yI, yH, z0, zw, zZ, z8, xw, zz, zx, xE, z4, ya, z3, z6, z1, yb, z7, zj, z5, zy, zi, zA, z2, yL, yJ, zk], by simp (disch := first | assumption | decide | omega) only [zB, yc, zC, yM, yd, zl, yN, ye, yf, zD, zE, zm, zn, zF, yg, zo, zG, yh, zH, yi, zI, yj, zc, zJ, zK, yk, yl, zd, ym, yO, xx, yn, yo, zL, yp, zM, zp, zq, ze, zN, yq, zO, yr, zr, zf, zP, yt, zg, yu, zQ, zh, zt, yP, xy, yQ, yR, zu, yS, decide_eq_true_eq, beq_iff_eq, zR, zS, za, String.reduceEq, ↓reduceIte, yv, Glob.val?, xz, yT, yU, yV, yW, yX, yY, xA, xB, xC, xD, yZ, y0, y5, y6, y7, y8, yw, yx, yy, y9, xc, xd, zT, zU, xe, zV, zW, xf, xg, xh, xF, xG, xH, xI, xJ, xK, xL, xM, xi, xj, xk, xl, xm, xn, xo, xp, Glob.isB, and_self, and_true, true_and, zX, yz, yA, zY, Option.map_some, List.length_cons, List.length_nil, Nat.reduceAdd, Nat.zero_add, yB, yC, yD, yE, yF, yG, zb, yK, xr, xv, z9, xt, xu, xq, yI, yH, z0, zw, zZ, z8, xw, zz, zx, xE, z4, ya, z3, z6, z1, yb, z7, zj, z5, zy, zi, zA, z2, yL, yJ, zk], by simp (disch := first | assumption | decide | omega) only [zB, yc, zC, yM, yd, zl, yN, ye, yf, zD, zE, zm, zn, zF, yg, zo, zG, yh, zH, yi, zI, yj, zc, zJ, zK, yk, yl, zd, ym, yO, xx, yn, yo, zL, yp, zM, zp, zq, ze, zN, yq, zO, yr, zr, zf, zP, yt, zg, yu, zQ, zh, zt, yP, xy, yQ, yR, zu, yS, decide_eq_true_eq, beq_iff_eq, zR, zS, za, String.reduceEq, ↓reduceIte, yv, Glob.val?, xz, yT, yU, yV, yW, yX, yY, xA, xB, xC, xD, yZ, y0, y5, y6, y7, y8, yw, yx, yy, y9, xc, xd, zT, zU, xe, zV, zW, xf, xg, xh, xF, xG, xH, xI, xJ, xK, xL, xM, xi, xj, xk, xl, xm, xn, xo, xp, Glob.isB, and_self, and_true, true_and, zX, yz, yA, zY, Option.map_some, List.length_cons, List.length_nil, Nat.reduceAdd, Nat.zero_add, yB, yC, yD, yE, yF, yG, zb, yK, xr, xv, z9, xt, xu, xq, yI, yH, z0, zw, zZ, z8, xw, zz, zx, xE, z4, ya, z3, z6, z1, yb, z7, zj, z5, zy, zi, zA, z2, yL, yJ, zk]⟩, [], rfl, by simp, by simp, fun q => by simp⟩
  · rintro i dv ρ τ hdv ⟨⟨r1, r2, r3⟩, K, rfl, hK, hi, hmem⟩
    obtain ⟨p, hp, rfl⟩ : ∃ p, ps[i]? = some p ∧ dv = tup2 p := by
      rw [List.getElem?_map] at hdv
      obtain ⟨w, h1, h2⟩ := Option.map_eq_some_iff.mp hdv
      exact ⟨w, h1, h2.symm⟩
    have hip := (List.getElem?_eq_some_iff.mp hp)
    refine ⟨_, rfl, ?_⟩
    have sd := set_dU (get_append_new σ (dT K)) p true (by omega)
    rw [dT_put, set_append_new] at sd
    apply out_next
    · (simp (disch := first | assumption | decide | omega) only [zB, yc, zC, yM, yd, zl, yN, ye, yf, zD, zE, zm, zn, zF, yg, zo, zG, yh, zH, yi, zI, yj, zc, zJ, zK, yk, yl, zd, ym, yO, xx, yn, yo, zL, yp, zM, zp, zq, ze, zN, yq, zO, yr, zr, zf, zP, yt, zg, yu, zQ, zh, zt, yP, xy, yQ, yR, zu, yS, decide_eq_true_eq, beq_iff_eq, zR, zS, za, String.reduceEq, ↓reduceIte, yv, Glob.val?, xz, yT, yU, yV, yW, yX, yY, xA, xB, xC, xD, yZ, y0, y5, y6, y7, y8, yw, yx, yy, y9, xc, xd, zT, zU, xe, zV, zW, xf, xg, xh, xF, xG, xH, xI, xJ, xK, xL, xM, xi, xj, xk, xl, xm, xn, xo, xp, Glob.isB, and_self, and_true, true_and, zX, yz, yA, zY, Option.map_some, List.length_cons, List.length_nil, Nat.reduceAdd, Nat.zero_add, yB, yC, yD, yE, yF, yG, zb, yK, xr, xv, z9, xt, xu, xq, yI, yH, z0, zw, zZ, z8, xw, zz, zx, xE, z4, ya, z3, z6, z1, yb, z7, zj, z5, zy, zi, zA, z2, yL, yJ, zk, xs_sub, r3, sd]) <;> rfl
    refine out_nil ⟨⟨by simp (disch := first | assumption | decide | omega) only [zB, yc, zC, yM, yd, zl, yN, ye, yf, zD, zE, zm, zn, zF, yg, zo, zG, yh, zH, yi, zI, yj, zc, zJ, zK, yk, yl, zd, ym, yO, xx, yn, yo, zL, yp, zM, zp, zq, ze, zN, yq, zO, yr, zr, zf, zP, yt, zg, yu, zQ, zh, zt, yP, xy, yQ, yR, zu, yS, decide_eq_true_eq, beq_iff_eq, zR, zS, za, String.reduceEq, ↓reduceIte, yv, Glob.val?, xz, yT, yU, yV, yW, yX, yY, xA, xB, xC, xD, yZ, y0, y5, y6, y7, y8, yw, yx, yy, y9, xc, xd, zT, zU, xe, zV, zW, xf, xg, xh, xF, xG, xH, xI, xJ, xK, xL, xM, xi, xj, xk, xl, xm, xn, xo, xp, Glob.isB, and_self, and_true, true_and, zX, yz, yA, zY, Option.map_some, List.length_cons, List.length_nil, Nat.reduceAdd, Nat.zero_add, yB, yC, yD, yE, yF, yG, zb, yK, xr, xv, z9, xt, xu, xq, yI, yH, z0, zw, zZ, z8, xw, zz, zx, xE, z4, ya, z3, z6, z1, yb, z7, zj, z5, zy, zi, zA, z2, yL, yJ, zk, r1], by simp (disch := first | assumption | decide | omega) only [zB, yc, zC, yM, yd, zl, yN, ye, yf, zD, zE, zm, zn, zF, yg, zo, zG, yh, zH, yi, zI, yj, zc, zJ, zK, yk, yl, zd, ym, yO, xx, yn, yo, zL, yp, zM, zp, zq, ze, zN, yq, zO, yr, zr, zf, zP, yt, zg, yu, zQ, zh, zt, yP, xy, yQ, yR, zu, yS, decide_eq_true_eq, beq_iff_eq, zR, zS, za, String.reduceEq, ↓reduceIte, yv, Glob.val?, xz, yT, yU, yV, yW, yX, yY, xA, xB, xC, xD, yZ, y0, y5, y6, y7, y8, yw, yx, yy, y9, xc, xd, zT, zU, xe, zV, zW, xf, xg, xh, xF, xG, xH, xI, xJ, xK, xL, xM, xi, xj, xk, xl, xm, xn, xo, xp, Glob.isB, and_self, and_true, true_and, zX, yz, yA, zY, Option.map_some, List.length_cons, List.length_nil, Nat.reduceAdd, Nat.zero_add, yB, yC, yD, yE, yF, yG, zb, yK, xr, xv, z9, xt, xu, xq, yI, yH, z0, zw, zZ, z8, xw, zz, zx, xE, z4, ya, z3, z6, z1, yb, z7, zj, z5, zy, zi, zA, z2, yL, yJ, zk, r2], by simp (disch := first | assumption | decide | omega) only [zB, yc, zC, yM, yd, zl, yN, ye, yf, zD, zE, zm, zn, zF, yg, zo, zG, yh, zH, yi, zI, yj, zc, zJ, zK, yk, yl, zd, ym, yO, xx, yn, yo, zL, yp, zM, zp, zq, ze, zN, yq, zO, yr, zr, zf, zP, yt, zg, yu, zQ, zh, zt, yP, xy, yQ, yR, zu, yS, decide_eq_true_eq, beq_iff_eq, zR, zS, za, String.reduceEq, ↓reduceIte, yv, Glob.val?, xz, yT, yU, yV, yW, yX, yY, xA, xB, xC, xD, yZ, y0, y5, y6, y7, y8, yw, yx, yy, y9, xc, xd, zT, zU, xe, zV, zW, xf, xg, xh, xF, xG, xH, xI, xJ, xK, xL, xM, xi, xj, xk, xl, xm, xn, xo, xp, Glob.isB, and_self, and_true, true_and, zX, yz, yA, zY, Option.map_some, List.length_cons, List.length_nil, Nat.reduceAdd, Nat.zero_add, yB, yC, yD, yE, yF, yG, zb, yK, xr, xv, z9, xt, xu, xq, yI, yH, z0, zw, zZ, z8, xw, zz, zx, xE, z4, ya, z3, z6, z1, yb, z7, zj, z5, zy, zi, zA, z2, yL, yJ, zk, r3]⟩, _, rfl, ?_, by have := hip.1; omega, fun q => ?_⟩
    · split
      · omega
      · simp only [List.length_append, List.length_cons, List.length_nil]; omega
    · rw [List.take_add_one, hp, Option.toList_some, List.mem_append, List.mem_singleton, ← hmem]
      split
      · rename_i h
        constructor
        · exact .inl
        · rintro (h' | rfl)
          · exact h'
          · exact h
      · rw [List.mem_append, List.mem_singleton]
  rintro ρ τ ⟨⟨r1, r2, r3⟩, K, rfl, hK, _, hmem⟩
  rw [List.length_map, List.take_length] at hmem
  rw [List.length_map] at hK
  apply out_next
  · (simp (disch := first | assumption | decide | omega) only [zB, yc, zC, yM, yd, zl, yN, ye, yf, zD, zE, zm, zn, zF, yg, zo, zG, yh, zH, yi, zI, yj, zc, zJ, zK, yk, yl, zd, ym, yO, xx, yn, yo, zL, yp, zM, zp, zq, ze, zN, yq, zO, yr, zr, zf, zP, yt, zg, yu, zQ, zh, zt, yP, xy, yQ, yR, zu, yS, decide_eq_true_eq, beq_iff_eq, zR, zS, za, String.reduceEq, ↓reduceIte, yv, Glob.val?, xz, yT, yU, yV, yW, yX, yY, xA, xB, xC, xD, yZ, y0, y5, y6, y7, y8, yw, yx, yy, y9, xc, xd, zT, zU, xe, zV, zW, xf, xg, xh, xF, xG, xH, xI, xJ, xK, xL, xM, xi, xj, xk, xl, xm, xn, xo, xp, Glob.isB, and_self, and_true, true_and, zX, yz, yA, zY, Option.map_some, List.length_cons, List.length_nil, Nat.reduceAdd, Nat.zero_add, yB, yC, yD, yE, yF, yG, zb, yK, xr, xv, z9, xt, xu, xq, yI, yH, z0, zw, zZ, z8, xw, zz, zx, xE, z4, ya, z3, z6, z1, yb, z7, zj, z5, zy, zi, zA, z2, yL, yJ, zk]) <;> rfl
  refine out_cons (out_mono (out_forLoc (R := R0) (for_loc (l := l) (ds := ps.map tup2) (σ₁ := σ ++ [dT K]) rfl ?_ (get_append_old hσ _))
    (fun i ρ τ => E ρ ∧ ∃ (T R : List IP) (ex : Store), τ = σ ++ dT T :: ex ∧ ρ (Str.ofString "many") = some (.int R.length) ∧ T.length ≤ 1100 ∧ Bun ps ways R T ∧ ∀ q ∈ ps.take i, q ∉ T) (fun i ρ τ h => by obtain ⟨_, T, R, ex, rfl, _⟩ := h; exact get_append_old hσ _) ?_ ?_) ?_ fun _ _ h => h)
  · simp (disch := first | assumption | decide | omega) only [zB, yc, zC, yM, yd, zl, yN, ye, yf, zD, zE, zm, zn, zF, yg, zo, zG, yh, zH, yi, zI, yj, zc, zJ, zK, yk, yl, zd, ym, yO, xx, yn, yo, zL, yp, zM, zp, zq, ze, zN, yq, zO, yr, zr, zf, zP, yt, zg, yu, zQ, zh, zt, yP, xy, yQ, yR, zu, yS, decide_eq_true_eq, beq_iff_eq, zR, zS, za, String.reduceEq, ↓reduceIte, yv, Glob.val?, xz, yT, yU, yV, yW, yX, yY, xA, xB, xC, xD, yZ, y0, y5, y6, y7, y8, yw, yx, yy, y9, xc, xd, zT, zU, xe, zV, zW, xf, xg, xh, xF, xG, xH, xI, xJ, xK, xL, xM, xi, xj, xk, xl, xm, xn, xo, xp, Glob.isB, and_self, and_true, true_and, zX, yz, yA, zY, Option.map_some, List.length_cons, List.length_nil, Nat.reduceAdd, Nat.zero_add, yB, yC, yD, yE, yF, yG, zb, yK, xr, xv, z9, xt, xu, xq, yI, yH, z0, zw, zZ, z8, xw, zz, zx, xE, z4, ya, z3, z6, z1, yb, z7, zj, z5, zy, zi, zA, z2, yL, yJ, zk, r1]
  · refine ⟨⟨by simp (disch := first | assumption | decide | omega) only [zB, yc, zC, yM, yd, zl, yN, ye, yf, zD, zE, zm, zn, zF, yg, zo, zG, yh, zH, yi, zI, yj, zc, zJ, zK, yk, yl, zd, ym, yO, xx, yn, yo, zL, yp, zM, zp, zq, ze, zN, yq, zO, yr, zr, zf, zP, yt, zg, yu, zQ, zh, zt, yP, xy, yQ, yR, zu, yS, decide_eq_true_eq, beq_iff_eq, zR, zS, za, String.reduceEq, ↓reduceIte, yv, Glob.val?, xz, yT, yU, yV, yW, yX, yY, xA, xB, xC, xD, yZ, y0, y5, y6, y7, y8, yw, yx, yy, y9, xc, xd, zT, zU, xe, zV, zW, xf, xg, xh, xF, xG, xH, xI, xJ, xK, xL, xM, xi, xj, xk, xl, xm, xn, xo, xp, Glob.isB, and_self, and_true, true_and, zX, yz, yA, zY, Option.map_some, List.length_cons, List.length_nil, Nat.reduceAdd, Nat.zero_add, yB, yC, yD, yE, yF, yG, zb, yK, xr, xv, z9, xt, xu, xq, yI, yH, z0, zw, zZ, z8, xw, zz, zx, xE, z4, ya, z3, z6, z1, yb, z7, zj, z5, zy, zi, zA, z2, yL, yJ, zk, r1], by simp (disch := first | assumption | decide | omega) only [zB, yc, zC, yM, yd, zl, yN, ye, yf, zD, zE, zm, zn, zF, yg, zo, zG, yh, zH, yi, zI, yj, zc, zJ, zK, yk, yl, zd, ym, yO, xx, yn, yo, zL, yp, zM, zp, zq, ze, zN, yq, zO, yr, zr, zf, zP, yt, zg, yu, zQ, zh, zt, yP, xy, yQ, yR, zu, yS, decide_eq_true_eq, beq_iff_eq, zR, zS, za, String.reduceEq, ↓reduceIte, yv, Glob.val?, xz, yT, yU, yV, yW, yX, yY, xA, xB, xC, xD, yZ, y0, y5, y6, y7, y8, yw, yx, yy, y9, xc, xd, zT, zU, xe, zV, zW, xf, xg, xh, xF, xG, xH, xI, xJ, xK, xL, xM, xi, xj, xk, xl, xm, xn, xo, xp, Glob.isB, and_self, and_true, true_and, zX, yz, yA, zY, Option.map_some, List.length_cons, List.length_nil, Nat.reduceAdd, Nat.zero_add, yB, yC, yD, yE, yF, yG, zb, yK, xr, xv, z9, xt, xu, xq, yI, yH, z0, zw, zZ, z8, xw, zz, zx, xE, z4, ya, z3, z6, z1, yb, z7, zj, z5, zy, zi, zA, z2, yL, yJ, zk, r2], by simp (disch := first | assumption | decide | omega) only [zB, yc, zC, yM, yd, zl, yN, ye, yf, zD, zE, zm, zn, zF, yg, zo, zG, yh, zH, yi, zI, yj, zc, zJ, zK, yk, yl, zd, ym, yO, xx, yn, yo, zL, yp, zM, zp, zq, ze, zN, yq, zO, yr, zr, zf, zP, yt, zg, yu, zQ, zh, zt, yP, xy, yQ, yR, zu, yS, decide_eq_true_eq, beq_iff_eq, zR, zS, za, String.reduceEq, ↓reduceIte, yv, Glob.val?, xz, yT, yU, yV, yW, yX, yY, xA, xB, xC, xD, yZ, y0, y5, y6, y7, y8, yw, yx, yy, y9, xc, xd, zT, zU, xe, zV, zW, xf, xg, xh, xF, xG, xH, xI, xJ, xK, xL, xM, xi, xj, xk, xl, xm, xn, xo, xp, Glob.isB, and_self, and_true, true_and, zX, yz, yA, zY, Option.map_some, List.length_cons, List.length_nil, Nat.reduceAdd, Nat.zero_add, yB, yC, yD, yE, yF, yG, zb, yK, xr, xv, z9, xt, xu, xq, yI, yH, z0, zw, zZ, z8, xw, zz, zx, xE, z4, ya, z3, z6, z1, yb, z7, zj, z5, zy, zi, zA, z2, yL, yJ, zk, r3]⟩, K, [], [], rfl, by (simp (disch := first | assumption | decide | omega) only [zB, yc, zC, yM, yd, zl, yN, ye, yf, zD, zE, zm, zn, zF, yg, zo, zG, yh, zH, yi, zI, yj, zc, zJ, zK, yk, yl, zd, ym, yO, xx, yn, yo, zL, yp, zM, zp, zq, ze, zN, yq, zO, yr, zr, zf, zP, yt, zg, yu, zQ, zh, zt, yP, xy, yQ, yR, zu, yS, decide_eq_true_eq, beq_iff_eq, zR, zS, za, String.reduceEq, ↓reduceIte, yv, Glob.val?, xz, yT, yU, yV, yW, yX, yY, xA, xB, xC, xD, yZ, y0, y5, y6, y7, y8, yw, yx, yy, y9, xc, xd, zT, zU, xe, zV, zW, xf, xg, xh, xF, xG, xH, xI, xJ, xK, xL, xM, xi, xj, xk, xl, xm, xn, xo, xp, Glob.isB, and_self, and_true, true_and, zX, yz, yA, zY, Option.map_some, List.length_cons, List.length_nil, Nat.reduceAdd, Nat.zero_add, yB, yC, yD, yE, yF, yG, zb, yK, xr, xv, z9, xt, xu, xq, yI, yH, z0, zw, zZ, z8, xw, zz, zx, xE, z4, ya, z3, z6, z1, yb, z7, zj, z5, zy, zi, zA, z2, yL, yJ, zk]) <;> rfl, by omega, ⟨fun q hq => (hmem q).mp hq, fun r hr => (by cases hr), fun q hq => .inl ((hmem q).mpr hq), fun q _ r hr => (by cases hr), .nil⟩, fun q hq => by simp at hq⟩
  · rintro i dv ρ τ hdv ⟨⟨r1, r2, r3⟩, T, R, ex, rfl, r4, hT, bun, hdone⟩
    obtain ⟨p, hp, rfl⟩ : ∃ p, ps[i]? = some p ∧ dv = tup2 p := by
      rw [List.getElem?_map] at hdv
      obtain ⟨w, h1, h2⟩ := Option.map_eq_some_iff.mp hdv
      exact ⟨w, h1, h2.symm⟩
    have htk : ps.take (i + 1) = ps.take i ++ [p] := by rw [List.take_add_one, hp]; rfl
    refine ⟨_, rfl, ?_⟩
    have gd : (σ ++ dT T :: ex)[σ.length]? = some (dT T) := st_get
    have ci := c_in gd p
    refine out_cons (out_mono (out_if (K := fun ρ τ => E ρ ∧ ∃ (T R : List IP) (ex : Store), τ = σ ++ dT T :: ex ∧ ρ (Str.ofString "many") = some (.int R.length) ∧ T.length ≤ 1100 ∧ Bun ps ways R T ∧ ∀ q ∈ ps.take (i + 1), q ∉ T) (R := R0)
      (c := decide (p ∈ T)) (σ₁ := σ ++ dT T :: ex) ?_ (fun hc => ?_) fun hc => ?_) (fun ρ τ h => out_nil h) fun _ _ h => h)
    · simp (disch := first | assumption | decide | omega) only [zB, yc, zC, yM, yd, zl, yN, ye, yf, zD, zE, zm, zn, zF, yg, zo, zG, yh, zH, yi, zI, yj, zc, zJ, zK, yk, yl, zd, ym, yO, xx, yn, yo, zL, yp, zM, zp, zq, ze, zN, yq, zO, yr, zr, zf, zP, yt, zg, yu, zQ, zh, zt, yP, xy, yQ, yR, zu, yS, decide_eq_true_eq, beq_iff_eq, zR, zS, za, String.reduceEq, ↓reduceIte, yv, Glob.val?, xz, yT, yU, yV, yW, yX, yY, xA, xB, xC, xD, yZ, y0, y5, y6, y7, y8, yw, yx, yy, y9, xc, xd, zT, zU, xe, zV, zW, xf, xg, xh, xF, xG, xH, xI, xJ, xK, xL, xM, xi, xj, xk, xl, xm, xn, xo, xp, Glob.isB, and_self, and_true, true_and, zX, yz, yA, zY, Option.map_some, List.length_cons, List.length_nil, Nat.reduceAdd, Nat.zero_add, yB, yC, yD, yE, yF, yG, zb, yK, xr, xv, z9, xt, xu, xq, yI, yH, z0, zw, zZ, z8, xw, zz, zx, xE, z4, ya, z3, z6, z1, yb, z7, zj, z5, zy, zi, zA, z2, yL, yJ, zk, r3, ci]
    · have hin : p ∈ T := by simpa using hc
      obtain ⟨T', W, e1, sp, cl⟩ := hspr T ways σ.length p (σ ++ dT T :: ex) (by simp) gd hin (by omega) hw
      rw [st_s2] at e1
      have nb := bun.next hsym hin sp cl
      have ll := sp.less
      apply out_next
      · (simp (disch := first | assumption | decide | omega) only [zB, yc, zC, yM, yd, zl, yN, ye, yf, zD, zE, zm, zn, zF, yg, zo, zG, yh, zH, yi, zI, yj, zc, zJ, zK, yk, yl, zd, ym, yO, xx, yn, yo, zL, yp, zM, zp, zq, ze, zN, yq, zO, yr, zr, zf, zP, yt, zg, yu, zQ, zh, zt, yP, xy, yQ, yR, zu, yS, decide_eq_true_eq, beq_iff_eq, zR, zS, za, String.reduceEq, ↓reduceIte, yv, Glob.val?, xz, yT, yU, yV, yW, yX, yY, xA, xB, xC, xD, yZ, y0, y5, y6, y7, y8, yw, yx, yy, y9, xc, xd, zT, zU, xe, zV, zW, xf, xg, xh, xF, xG, xH, xI, xJ, xK, xL, xM, xi, xj, xk, xl, xm, xn, xo, xp, Glob.isB, and_self, and_true, true_and, zX, yz, yA, zY, Option.map_some, List.length_cons, List.length_nil, Nat.reduceAdd, Nat.zero_add, yB, yC, yD, yE, yF, yG, zb, yK, xr, xv, z9, xt, xu, xq, yI, yH, z0, zw, zZ, z8, xw, zz, zx, xE, z4, ya, z3, z6, z1, yb, z7, zj, z5, zy, zi, zA, z2, yL, yJ, zk, r2, r3, e1]) <;> rfl
      apply out_next
      · (simp (disch := first | assumption | decide | omega) only [zB, yc, zC, yM, yd, zl, yN, ye, yf, zD, zE, zm, zn, zF, yg, zo, zG, yh, zH, yi, zI, yj, zc, zJ, zK, yk, yl, zd, ym, yO, xx, yn, yo, zL, yp, zM, zp, zq, ze, zN, yq, zO, yr, zr, zf, zP, yt, zg, yu, zQ, zh, zt, yP, xy, yQ, yR, zu, yS, decide_eq_true_eq, beq_iff_eq, zR, zS, za, String.reduceEq, ↓reduceIte, yv, Glob.val?, xz, yT, yU, yV, yW, yX, yY, xA, xB, xC, xD, yZ, y0, y5, y6, y7, y8, yw, yx, yy, y9, xc, xd, zT, zU, xe, zV, zW, xf, xg, xh, xF, xG, xH, xI, xJ, xK, xL, xM, xi, xj, xk, xl, xm, xn, xo, xp, Glob.isB, and_self, and_true, true_and, zX, yz, yA, zY, Option.map_some, List.length_cons, List.length_nil, Nat.reduceAdd, Nat.zero_add, yB, yC, yD, yE, yF, yG, zb, yK, xr, xv, z9, xt, xu, xq, yI, yH, z0, zw, zZ, z8, xw, zz, zx, xE, z4, ya, z3, z6, z1, yb, z7, zj, z5, zy, zi, zA, z2, yL, yJ, zk, r4]) <;> rfl
      refine out_nil ⟨⟨by simp (disch := first | assumption | decide | omega) only [zB, yc, zC, yM, yd, zl, yN, ye, yf, zD, zE, zm, zn, zF, yg, zo, zG, yh, zH, yi, zI, yj, zc, zJ, zK, yk, yl, zd, ym, yO, xx, yn, yo, zL, yp, zM, zp, zq, ze, zN, yq, zO, yr, zr, zf, zP, yt, zg, yu, zQ, zh, zt, yP, xy, yQ, yR, zu, yS, decide_eq_true_eq, beq_iff_eq, zR, zS, za, String.reduceEq, ↓reduceIte, yv, Glob.val?, xz, yT, yU, yV, yW, yX, yY, xA, xB, xC, xD, yZ, y0, y5, y6, y7, y8, yw, yx, yy, y9, xc, xd, zT, zU, xe, zV, zW, xf, xg, xh, xF, xG, xH, xI, xJ, xK, xL, xM, xi, xj, xk, xl, xm, xn, xo, xp, Glob.isB, and_self, and_true, true_and, zX, yz, yA, zY, Option.map_some, List.length_cons, List.length_nil, Nat.reduceAdd, Nat.zero_add, yB, yC, yD, yE, yF, yG, zb, yK, xr, xv, z9, xt, xu, xq, yI, yH, z0, zw, zZ, z8, xw, zz, zx, xE, z4, ya, z3, z6, z1, yb, z7, zj, z5, zy, zi, zA, z2, yL, yJ, zk, r1], by simp (disch := first | assumption | decide | omega) only [zB, yc, zC, yM, yd, zl, yN, ye, yf, zD, zE, zm, zn, zF, yg, zo, zG, yh, zH, yi, zI, yj, zc, zJ, zK, yk, yl, zd, ym, yO, xx, yn, yo, zL, yp, zM, zp, zq, ze, zN, yq, zO, yr, zr, zf, zP, yt, zg, yu, zQ, zh, zt, yP, xy, yQ, yR, zu, yS, decide_eq_true_eq, beq_iff_eq, zR, zS, za, String.reduceEq, ↓reduceIte, yv, Glob.val?, xz, yT, yU, yV, yW, yX, yY, xA, xB, xC, xD, yZ, y0, y5, y6, y7, y8, yw, yx, yy, y9, xc, xd, zT, zU, xe, zV, zW, xf, xg, xh, xF, xG, xH, xI, xJ, xK, xL, xM, xi, xj, xk, xl, xm, xn, xo, xp, Glob.isB, and_self, and_true, true_and, zX, yz, yA, zY, Option.map_some, List.length_cons, List.length_nil, Nat.reduceAdd, Nat.zero_add, yB, yC, yD, yE, yF, yG, zb, yK, xr, xv, z9, xt, xu, xq, yI, yH, z0, zw, zZ, z8, xw, zz, zx, xE, z4, ya, z3, z6, z1, yb, z7, zj, z5, zy, zi, zA, z2, yL, yJ, zk, r2], by simp (disch := first | assumption | decide | omega) only [zB, yc, zC, yM, yd, zl, yN, ye, yf, zD, zE, zm, zn, zF, yg, zo, zG, yh, zH, yi, zI, yj, zc, zJ, zK, yk, yl, zd, ym, yO, xx, yn, yo, zL, yp, zM, zp, zq, ze, zN, yq, zO, yr, zr, zf, zP, yt, zg, yu, zQ, zh, zt, yP, xy, yQ, yR, zu, yS, decide_eq_true_eq, beq_iff_eq, zR, zS, za, String.reduceEq, ↓reduceIte, yv, Glob.val?, xz, yT, yU, yV, yW, yX, yY, xA, xB, xC, xD, yZ, y0, y5, y6, y7, y8, yw, yx, yy, y9, xc, xd, zT, zU, xe, zV, zW, xf, xg, xh, xF, xG, xH, xI, xJ, xK, xL, xM, xi, xj, xk, xl, xm, xn, xo, xp, Glob.isB, and_self, and_true, true_and, zX, yz, yA, zY, Option.map_some, List.length_cons, List.length_nil, Nat.reduceAdd, Nat.zero_add, yB, yC, yD, yE, yF, yG, zb, yK, xr, xv, z9, xt, xu, xq, yI, yH, z0, zw, zZ, z8, xw, zz, zx, xE, z4, ya, z3, z6, z1, yb, z7, zj, z5, zy, zi, zA, z2, yL, yJ, zk, r3]⟩, T', p :: R, ex ++ [.list (W.map tup2)], rfl, by (simp (disch := first | assumption | decide | omega) only [zB, yc, zC, yM, yd, zl, yN, ye, yf, zD, zE, zm, zn, zF, yg, zo, zG, yh, zH, yi, zI, yj, zc, zJ, zK, yk, yl, zd, ym, yO, xx, yn, yo, zL, yp, zM, zp, zq, ze, zN, yq, zO, yr, zr, zf, zP, yt, zg, yu, zQ, zh, zt, yP, xy, yQ, yR, zu, yS, decide_eq_true_eq, beq_iff_eq, zR, zS, za, String.reduceEq, ↓reduceIte, yv, Glob.val?, xz, yT, yU, yV, yW, yX, yY, xA, xB, xC, xD, yZ, y0, y5, y6, y7, y8, yw, yx, yy, y9, xc, xd, zT, zU, xe, zV, zW, xf, xg, xh, xF, xG, xH, xI, xJ, xK, xL, xM, xi, xj, xk, xl, xm, xn, xo, xp, Glob.isB, and_self, and_true, true_and, zX, yz, yA, zY, Option.map_some, List.length_cons, List.length_nil, Nat.reduceAdd, Nat.zero_add, yB, yC, yD, yE, yF, yG, zb, yK, xr, xv, z9, xt, xu, xq, yI, yH, z0, zw, zZ, z8, xw, zz, zx, xE, z4, ya, z3, z6, z1, yb, z7, zj, z5, zy, zi, zA, z2, yL, yJ, zk, List.length_cons]) <;> rfl, by omega, nb, fun q hq => ?_⟩
      rw [htk, List.mem_append, List.mem_singleton] at hq
      intro h
      obtain ⟨h1, h2⟩ := (sp.left q).mp h
      rcases hq with hq | rfl
      · exact hdone q hq h1
      · exact h2 sp.first
    · have hnin : p ∉ T := by simpa using hc
      refine out_nil ⟨⟨by simp (disch := first | assumption | decide | omega) only [zB, yc, zC, yM, yd, zl, yN, ye, yf, zD, zE, zm, zn, zF, yg, zo, zG, yh, zH, yi, zI, yj, zc, zJ, zK, yk, yl, zd, ym, yO, xx, yn, yo, zL, yp, zM, zp, zq, ze, zN, yq, zO, yr, zr, zf, zP, yt, zg, yu, zQ, zh, zt, yP, xy, yQ, yR, zu, yS, decide_eq_true_eq, beq_iff_eq, zR, zS, za, String.reduceEq, ↓reduceIte, yv, Glob.val?, xz, yT, yU, yV, yW, yX, yY, xA, xB, xC, xD, yZ, y0, y5, y6, y7, y8, yw, yx, yy, y9, xc, xd, zT, zU, xe, zV, zW, xf, xg, xh, xF, xG, xH, xI, xJ, xK, xL, xM, xi, xj, xk, xl, xm, xn, xo, xp, Glob.isB, and_self, and_true, true_and, zX, yz, yA, zY, Option.map_some, List.length_cons, List.length_nil, Nat.reduceAdd, Nat.zero_add, yB, yC, yD, yE, yF, yG, zb, yK, xr, xv, z9, xt, xu, xq, yI, yH, z0, zw, zZ, z8, xw, zz, zx, xE, z4, ya, z3, z6, z1, yb, z7, zj, z5, zy, zi, zA, z2, yL, yJ, zk, r1], by simp (disch := first | assumption | decide | omega) only [zB, yc, zC, yM, yd, zl, yN, ye, yf, zD, zE, zm, zn, zF, yg, zo, zG, yh, zH, yi, zI, yj, zc, zJ, zK, yk, yl, zd, ym, yO, xx, yn, yo, zL, yp, zM, zp, zq, ze, zN, yq, zO, yr, zr, zf, zP, yt, zg, yu, zQ, zh, zt, yP, xy, yQ, yR, zu, yS, decide_eq_true_eq, beq_iff_eq, zR, zS, za, String.reduceEq, ↓reduceIte, yv, Glob.val?, xz, yT, yU, yV, yW, yX, yY, xA, xB, xC, xD, yZ, y0, y5, y6, y7, y8, yw, yx, yy, y9, xc, xd, zT, zU, xe, zV, zW, xf, xg, xh, xF, xG, xH, xI, xJ, xK, xL, xM, xi, xj, xk, xl, xm, xn, xo, xp, Glob.isB, and_self, and_true, true_and, zX, yz, yA, zY, Option.map_some, List.length_cons, List.length_nil, Nat.reduceAdd, Nat.zero_add, yB, yC, yD, yE, yF, yG, zb, yK, xr, xv, z9, xt, xu, xq, yI, yH, z0, zw, zZ, z8, xw, zz, zx, xE, z4, ya, z3, z6, z1, yb, z7, zj, z5, zy, zi, zA, z2, yL, yJ, zk, r2], by simp (disch := first | assumption | decide | omega) only [zB, yc, zC, yM, yd, zl, yN, ye, yf, zD, zE, zm, zn, zF, yg, zo, zG, yh, zH, yi, zI, yj, zc, zJ, zK, yk, yl, zd, ym, yO, xx, yn, yo, zL, yp, zM, zp, zq, ze, zN, yq, zO, yr, zr, zf, zP, yt, zg, yu, zQ, zh, zt, yP, xy, yQ, yR, zu, yS, decide_eq_true_eq, beq_iff_eq, zR, zS, za, String.reduceEq, ↓reduceIte, yv, Glob.val?, xz, yT, yU, yV, yW, yX, yY, xA, xB, xC, xD, yZ, y0, y5, y6, y7, y8, yw, yx, yy, y9, xc, xd, zT, zU, xe, zV, zW, xf, xg, xh, xF, xG, xH, xI, xJ, xK, xL, xM, xi, xj, xk, xl, xm, xn, xo, xp, Glob.isB, and_self, and_true, true_and, zX, yz, yA, zY, Option.map_some, List.length_cons, List.length_nil, Nat.reduceAdd, Nat.zero_add, yB, yC, yD, yE, yF, yG, zb, yK, xr, xv, z9, xt, xu, xq, yI, yH, z0, zw, zZ, z8, xw, zz, zx, xE, z4, ya, z3, z6, z1, yb, z7, zj, z5, zy, zi, zA, z2, yL, yJ, zk, r3]⟩, T, R, ex, rfl, by simp (disch := first | assumption | decide | omega) only [zB, yc, zC, yM, yd, zl, yN, ye, yf, zD, zE, zm, zn, zF, yg, zo, zG, yh, zH, yi, zI, yj, zc, zJ, zK, yk, yl, zd, ym, yO, xx, yn, yo, zL, yp, zM, zp, zq, ze, zN, yq, zO, yr, zr, zf, zP, yt, zg, yu, zQ, zh, zt, yP, xy, yQ, yR, zu, yS, decide_eq_true_eq, beq_iff_eq, zR, zS, za, String.reduceEq, ↓reduceIte, yv, Glob.val?, xz, yT, yU, yV, yW, yX, yY, xA, xB, xC, xD, yZ, y0, y5, y6, y7, y8, yw, yx, yy, y9, xc, xd, zT, zU, xe, zV, zW, xf, xg, xh, xF, xG, xH, xI, xJ, xK, xL, xM, xi, xj, xk, xl, xm, xn, xo, xp, Glob.isB, and_self, and_true, true_and, zX, yz, yA, zY, Option.map_some, List.length_cons, List.length_nil, Nat.reduceAdd, Nat.zero_add, yB, yC, yD, yE, yF, yG, zb, yK, xr, xv, z9, xt, xu, xq, yI, yH, z0, zw, zZ, z8, xw, zz, zx, xE, z4, ya, z3, z6, z1, yb, z7, zj, z5, zy, zi, zA, z2, yL, yJ, zk, r4], hT, bun, fun q hq => ?_⟩
      rw [htk, List.mem_append, List.mem_singleton] at hq
      rcases hq with hq | rfl
      · exact hdone q hq
      · exact hnin
  · rintro ρ τ ⟨⟨r1, r2, r3⟩, T, R, ex, rfl, r4, hT, bun, hdone⟩
    rw [List.length_map, List.take_length] at hdone
    apply out_ret
    · (simp (disch := first | assumption | decide | omega) only [zB, yc, zC, yM, yd, zl, yN, ye, yf, zD, zE, zm, zn, zF, yg, zo, zG, yh, zH, yi, zI, yj, zc, zJ, zK, yk, yl, zd, ym, yO, xx, yn, yo, zL, yp, zM, zp, zq, ze, zN, yq, zO, yr, zr, zf, zP, yt, zg, yu, zQ, zh, zt, yP, xy, yQ, yR, zu, yS, decide_eq_true_eq, beq_iff_eq, zR, zS, za, String.reduceEq, ↓reduceIte, yv, Glob.val?, xz, yT, yU, yV, yW, yX, yY, xA, xB, xC, xD, yZ, y0, y5, y6, y7, y8, yw, yx, yy, y9, xc, xd, zT, zU, xe, zV, zW, xf, xg, xh, xF, xG, xH, xI, xJ, xK, xL, xM, xi, xj, xk, xl, xm, xn, xo, xp, Glob.isB, and_self, and_true, true_and, zX, yz, yA, zY, Option.map_some, List.length_cons, List.length_nil, Nat.reduceAdd, Nat.zero_add, yB, yC, yD, yE, yF, yG, zb, yK, xr, xv, z9, xt, xu, xq, yI, yH, z0, zw, zZ, z8, xw, zz, zx, xE, z4, ya, z3, z6, z1, yb, z7, zj, z5, zy, zi, zA, z2, yL, yJ, zk, r4]) <;> rfl
    · refine ⟨R.length, rfl, ⟨_, rfl⟩, ⟨R, rfl, bun.rsub, bun.ind, fun q hq => ?_⟩⟩
      rcases bun.cov q hq with h | h
      · exact absurd h (hdone q hq)
      · exact h
end
end
end Mine

set_option maxRecDepth 100000
namespace Mine
open PySem PySem.Spec PyProof.Rows PySem.Challenge

noncomputable def cellsL (rows : List Str) : List IP := allPts (onB rows) rows.length (wideOf rows)
theorem cellsL_len {rows : List Str} (hg : Good rows) : (cellsL rows).length ≤ 900 := by
  have h1 := wideOf_le hg
  have h2 := hg.1
  exact Nat.le_trans (allPts_len _ _ _) (Nat.le_trans (Nat.mul_le_mul (show _ ≤ 30 by omega) (show _ ≤ 30 by omega)) (by decide))

theorem rangeQ_len (a b : Int) : (rangeP a b 1).length = (b - a).toNat := by
  simp only [rangeP, List.length_map, List.length_range, Builtin.Range.rangeSize]
  have : (1 : Int) > 0 := by decide
  rw [if_pos this]
  split <;> omega
theorem rangeQ_get {a b : Int} {i : Nat} {d : PV} (h : (rangeP a b 1)[i]? = some d) : d = .int (a + i) ∧ a + (i : Int) < b := by
  have hi := (List.getElem?_eq_some_iff.mp h).1
  have hi' : i < (Builtin.Range.rangeSize a b 1).toNat := by
    simpa [rangeP] using hi
  rw [rangeQ_len] at hi
  simp only [rangeP, List.getElem?_map, List.getElem?_range hi', Option.map_some, Option.some.injEq] at h
  subst h
  exact ⟨by simp, by omega⟩
theorem range2 {a b : Int} (ha : -1000 < a) (hb : b < 1000) (ha' : a < 1000) (hb' : -1000 < b) : rangeArgs [.int a, .int b] = some (rangeP a b 1) := by
  have : rangeOk a b 1 = true := by
    simp only [rangeOk, Bool.and_eq_true, decide_eq_true_eq]; omega
  exact if_pos this

section
variable {Φ : Fns} {σ : Store}
section
variable (hchk : ∀ (rows : List Str) (σ : Store), Good rows → Φ (Str.ofString "checked") [.lst (rows.map .str)] σ = some (.lst (rows.map .str), σ))
variable (hbun : ∀ (ps ways : List IP) (l : Nat) (σ : Store), σ[l]? = some (.list (ps.map tup2)) → ps.length ≤ 1100 → ways.length ≤ 20 → (∀ w ∈ ways, (-w.1, -w.2) ∈ ways) →
  ∃ (n : Nat) (τ : Store), Φ (Str.ofString "bunches") [.loc l, .tup (ways.map tup2)] σ = some (.int n, τ) ∧ (∃ ex, τ = σ ++ ex) ∧ Reps ps (Cn (stepsOf ps ways)) n)
include hchk hbun
theorem parts_run (hcls : ∀ (rows : List Str) (σ : Store), Good rows → Φ (Str.ofString "cells") [.lst (rows.map .str)] σ = some (.loc σ.length, σ ++ [.list ((cellsL rows).map tup2)]))
    {rows : List Str} (hg : Good rows) : ∃ (n : Nat) (τ : Store), interpF Φ Gl (dOf pw "parts") [.lst (rows.map .str)] σ = some (.int n, τ) ∧ (∃ ex, τ = σ ++ ex) ∧ Reps (cellsL rows) (Cn (stepsOf (cellsL rows) four)) n := by
  have hl := cellsL_len hg
  obtain ⟨n, τ, e, ⟨ex, rfl⟩, r⟩ := hbun (cellsL rows) four σ.length (σ ++ [.list ((cellsL rows).map tup2)]) (get_append_new _ _) (by omega) (by decide) (by decide)
  refine ⟨n, σ ++ [.list ((cellsL rows).map tup2)] ++ ex, run_eq (by kernel_rfl) ?_, ⟨[.list ((cellsL rows).map tup2)] ++ ex, List.append_assoc _ _ _⟩, r⟩
  change Out (execSs Φ Gl (_ :: _) (bindP [_] _) σ) _ _
  rw [bindP1]
  have e1 := fun τ => hchk rows τ hg
  have e2 := fun τ => hcls rows τ hg
  have e3 : Φ (Str.ofString "bunches") [.loc σ.length, besideV] (σ ++ [.list ((cellsL rows).map tup2)]) = _ := e
  apply out_ret
  · (simp (disch := first | assumption | decide | omega) only [zB, yc, zC, yM, yd, zl, yN, ye, yf, zD, zE, zm, zn, zF, yg, zo, zG, yh, zH, yi, zI, yj, zc, zJ, zK, yk, yl, zd, ym, yO, xx, yn, yo, zL, yp, zM, zp, zq, ze, zN, yq, zO, yr, zr, zf, zP, yt, zg, yu, zQ, zh, zt, yP, xy, yQ, yR, zu, yS, decide_eq_true_eq, beq_iff_eq, zR, zS, za, String.reduceEq, ↓reduceIte, yv, Glob.val?, xz, yT, yU, yV, yW, yX, yY, xA, xB, xC, xD, yZ, y0, y5, y6, y7, y8, yw, yx, yy, y9, xc, xd, zT, zU, xe, zV, zW, xf, xg, xh, xF, xG, xH, xI, xJ, xK, xL, xM, xi, xj, xk, xl, xm, xn, xo, xp, Glob.isB, and_self, and_true, true_and, zX, yz, yA, zY, Option.map_some, List.length_cons, List.length_nil, Nat.reduceAdd, Nat.zero_add, yB, yC, yD, yE, yF, yG, zb, yK, xr, xv, z9, xt, xu, xq, yI, yH, z0, zw, zZ, z8, xw, zz, zx, xE, z4, ya, z3, z6, z1, yb, z7, zj, z5, zy, zi, zA, z2, yL, yJ, zk, e1, e2, e3]) <;> rfl
  · exact ⟨rfl, rfl⟩
theorem holes_run (hcel : ∀ (rows : List Str) (r c : Int) (σ : Store), Good rows → Φ (Str.ofString "cell") [.lst (rows.map .str), .int r, .int c] σ = some (.bool (onB rows r c), σ))
    (hwid : ∀ (rows : List Str) (σ : Store), Good rows → Φ (Str.ofString "wide") [.lst (rows.map .str)] σ = some (.int (wideOf rows), σ))
    {rows : List Str} (hg : Good rows) : ∃ (n : Nat) (Sb : List IP) (τ : Store), interpF Φ Gl (dOf pw "holes") [.lst (rows.map .str)] σ = some (.int ((n : Int) - 1), τ) ∧ (∃ ex, τ = σ ++ ex) ∧
      (∀ a, a ∈ Sb ↔ bare rows.length (wideOf rows) (onB rows) a) ∧ Reps Sb (Cn (stepsOf Sb eight)) n := by
  have hs := sz
  have hw := wideOf_le hg
  have h30 := hg.1
  let R : PV → Store → Prop := fun u τ => ∃ (n : Nat) (Sb : List IP), u = .int ((n : Int) - 1) ∧ (∃ ex, τ = σ ++ ex) ∧ (∀ a, a ∈ Sb ↔ bare rows.length (wideOf rows) (onB rows) a) ∧ Reps Sb (Cn (stepsOf Sb eight)) n
  suffices h : Out (execSs Φ Gl (dOf pw "holes").body (bindP ((dOf pw "holes").params.args.map (·.arg)) [.lst (rows.map .str)]) σ) No R by
    obtain ⟨v, τ, e, n, Sb, rfl, h1, h2, h3⟩ := out_run (by kernel_rfl) h
    exact ⟨n, Sb, τ, e, h1, h2, h3⟩
  change Out (execSs Φ Gl (_ :: _ :: _ :: _ :: _) (bindP [_] _) σ) _ _
  rw [bindP1]
  have e1 := fun τ => hchk rows τ hg
  have e2 := fun τ => hwid rows τ hg
  have e3 := fun r c τ => hcel rows r c τ hg
  have hl : (rows.map PV.str).length ≤ sizeLine := by rw [List.length_map]; omega
  apply out_next
  · (simp (disch := first | assumption | decide | omega) only [zB, yc, zC, yM, yd, zl, yN, ye, yf, zD, zE, zm, zn, zF, yg, zo, zG, yh, zH, yi, zI, yj, zc, zJ, zK, yk, yl, zd, ym, yO, xx, yn, yo, zL, yp, zM, zp, zq, ze, zN, yq, zO, yr, zr, zf, zP, yt, zg, yu, zQ, zh, zt, yP, xy, yQ, yR, zu, yS, decide_eq_true_eq, beq_iff_eq, zR, zS, za, String.reduceEq, ↓reduceIte, yv, Glob.val?, xz, yT, yU, yV, yW, yX, yY, xA, xB, xC, xD, yZ, y0, y5, y6, y7, y8, yw, yx, yy, y9, xc, xd, zT, zU, xe, zV, zW, xf, xg, xh, xF, xG, xH, xI, xJ, xK, xL, xM, xi, xj, xk, xl, xm, xn, xo, xp, Glob.isB, and_self, and_true, true_and, zX, yz, yA, zY, Option.map_some, List.length_cons, List.length_nil, Nat.reduceAdd, Nat.zero_add, yB, yC, yD, yE, yF, yG, zb, yK, xr, xv, z9, xt, xu, xq, yI, yH, z0, zw, zZ, z8, xw, zz, zx, xE, z4, ya, z3, z6, z1, yb, z7, zj, z5, zy, zi, zA, z2, yL, yJ, zk, e1]) <;> rfl
  apply out_next
  · (simp (disch := first | assumption | decide | omega) only [zB, yc, zC, yM, yd, zl, yN, ye, yf, zD, zE, zm, zn, zF, yg, zo, zG, yh, zH, yi, zI, yj, zc, zJ, zK, yk, yl, zd, ym, yO, xx, yn, yo, zL, yp, zM, zp, zq, ze, zN, yq, zO, yr, zr, zf, zP, yt, zg, yu, zQ, zh, zt, yP, xy, yQ, yR, zu, yS, decide_eq_true_eq, beq_iff_eq, zR, zS, za, String.reduceEq, ↓reduceIte, yv, Glob.val?, xz, yT, yU, yV, yW, yX, yY, xA, xB, xC, xD, yZ, y0, y5, y6, y7, y8, yw, yx, yy, y9, xc, xd, zT, zU, xe, zV, zW, xf, xg, xh, xF, xG, xH, xI, xJ, xK, xL, xM, xi, xj, xk, xl, xm, xn, xo, xp, Glob.isB, and_self, and_true, true_and, zX, yz, yA, zY, Option.map_some, List.length_cons, List.length_nil, Nat.reduceAdd, Nat.zero_add, yB, yC, yD, yE, yF, yG, zb, yK, xr, xv, z9, xt, xu, xq, yI, yH, z0, zw, zZ, z8, xw, zz, zx, xE, z4, ya, z3, z6, z1, yb, z7, zj, z5, zy, zi, zA, z2, yL, yJ, zk]) <;> rfl
  let E : Locals → Prop := fun ρ => ρ (Str.ofString "rows") = some (.lst (rows.map .str)) ∧ ρ (Str.ofString "bare") = some (.loc σ.length) ∧ ρ (Str.ofString "ROUND") = none
  refine out_cons (out_mono (out_for (R := R)
    (for_rng (ds := rangeP (-1) ((rows.length : Int) + 1) 1) (vs := [.int (-1), .int ((rows.length : Int) + 1)]) (σ₁ := σ ++ [.list []]) (by (simp (disch := first | assumption | decide | omega) only [zB, yc, zC, yM, yd, zl, yN, ye, yf, zD, zE, zm, zn, zF, yg, zo, zG, yh, zH, yi, zI, yj, zc, zJ, zK, yk, yl, zd, ym, yO, xx, yn, yo, zL, yp, zM, zp, zq, ze, zN, yq, zO, yr, zr, zf, zP, yt, zg, yu, zQ, zh, zt, yP, xy, yQ, yR, zu, yS, decide_eq_true_eq, beq_iff_eq, zR, zS, za, String.reduceEq, ↓reduceIte, yv, Glob.val?, xz, yT, yU, yV, yW, yX, yY, xA, xB, xC, xD, yZ, y0, y5, y6, y7, y8, yw, yx, yy, y9, xc, xd, zT, zU, xe, zV, zW, xf, xg, xh, xF, xG, xH, xI, xJ, xK, xL, xM, xi, xj, xk, xl, xm, xn, xo, xp, Glob.isB, and_self, and_true, true_and, zX, yz, yA, zY, Option.map_some, List.length_cons, List.length_nil, Nat.reduceAdd, Nat.zero_add, yB, yC, yD, yE, yF, yG, zb, yK, xr, xv, z9, xt, xu, xq, yI, yH, z0, zw, zZ, z8, xw, zz, zx, xE, z4, ya, z3, z6, z1, yb, z7, zj, z5, zy, zi, zA, z2, yL, yJ, zk]) <;> rfl) ?_ (range2 (by omega) (by omega) (by omega) (by omega)))
    (fun i ρ τ => E ρ ∧ i ≤ 32 ∧ ∃ ps : List IP, τ = σ ++ [.list (ps.map tup2)] ∧ ps.length ≤ 32 * i ∧ ∀ x : IP, x ∈ ps ↔ -1 ≤ x.1 ∧ x.1 < -1 + i ∧ -1 ≤ x.2 ∧ x.2 ≤ wideOf rows ∧ onB rows x.1 x.2 = false) ?_ ?_) ?_ fun _ _ h => h)
  · (simp (disch := first | assumption | decide | omega) only [zB, yc, zC, yM, yd, zl, yN, ye, yf, zD, zE, zm, zn, zF, yg, zo, zG, yh, zH, yi, zI, yj, zc, zJ, zK, yk, yl, zd, ym, yO, xx, yn, yo, zL, yp, zM, zp, zq, ze, zN, yq, zO, yr, zr, zf, zP, yt, zg, yu, zQ, zh, zt, yP, xy, yQ, yR, zu, yS, decide_eq_true_eq, beq_iff_eq, zR, zS, za, String.reduceEq, ↓reduceIte, yv, Glob.val?, xz, yT, yU, yV, yW, yX, yY, xA, xB, xC, xD, yZ, y0, y5, y6, y7, y8, yw, yx, yy, y9, xc, xd, zT, zU, xe, zV, zW, xf, xg, xh, xF, xG, xH, xI, xJ, xK, xL, xM, xi, xj, xk, xl, xm, xn, xo, xp, Glob.isB, and_self, and_true, true_and, zX, yz, yA, zY, Option.map_some, List.length_cons, List.length_nil, Nat.reduceAdd, Nat.zero_add, yB, yC, yD, yE, yF, yG, zb, yK, xr, xv, z9, xt, xu, xq, yI, yH, z0, zw, zZ, z8, xw, zz, zx, xE, z4, ya, z3, z6, z1, yb, z7, zj, z5, zy, zi, zA, z2, yL, yJ, zk, List.length_map]) <;> rfl
  · refine ⟨⟨by simp (disch := first | assumption | decide | omega) only [zB, yc, zC, yM, yd, zl, yN, ye, yf, zD, zE, zm, zn, zF, yg, zo, zG, yh, zH, yi, zI, yj, zc, zJ, zK, yk, yl, zd, ym, yO, xx, yn, yo, zL, yp, zM, zp, zq, ze, zN, yq, zO, yr, zr, zf, zP, yt, zg, yu, zQ, zh, zt, yP, xy, yQ, yR, zu, yS, decide_eq_true_eq, beq_iff_eq, zR, zS, za, String.reduceEq, ↓reduceIte, yv, Glob.val?, xz, yT, yU, yV, yW, yX, yY, xA, xB, xC, xD, yZ, y0, y5, y6, y7, y8, yw, yx, yy, y9, xc, xd, zT, zU, xe, zV, zW, xf, xg, xh, xF, xG, xH, xI, xJ, xK, xL, xM, xi, xj, xk, xl, xm, xn, xo, xp, Glob.isB, and_self, and_true, true_and, zX, yz, yA, zY, Option.map_some, List.length_cons, List.length_nil, Nat.reduceAdd, Nat.zero_add, yB, yC, yD, yE, yF, yG, zb, yK, xr, xv, z9, xt, xu, xq, yI, yH, z0, zw, zZ, z8, xw, zz, zx, xE, z4, ya, z3, z6, z1, yb, z7, zj, z5, zy, zi, zA, z2, yL, yJ, zk], by simp (disch := first | assumption | decide | omega) only [zB, yc, zC, yM, yd, zl, yN, ye, yf, zD, zE, zm, zn, zF, yg, zo, zG, yh, zH, yi, zI, yj, zc, zJ, zK, yk, yl, zd, ym, yO, xx, yn, yo, zL, yp, zM, zp, zq, ze, zN, yq, zO, yr, zr, zf, zP, yt, zg, yu, zQ, zh, zt, yP, xy, yQ, yR, zu, yS, decide_eq_true_eq, beq_iff_eq, zR, zS, za, String.reduceEq, ↓reduceIte, yv, Glob.val?, xz, yT, yU, yV, yW, yX, yY, xA, xB, xC, xD, yZ, y0, y5, y6, y7, y8, yw, yx, yy, y9, xc, xd, zT, zU, xe, zV, zW, xf, xg, xh, xF, xG, xH, xI, xJ, xK, xL, xM, xi, xj, xk, xl, xm, xn, xo, xp, Glob.isB, and_self, and_true, true_and, zX, yz, yA, zY, Option.map_some, List.length_cons, List.length_nil, Nat.reduceAdd, Nat.zero_add, yB, yC, yD, yE, yF, yG, zb, yK, xr, xv, z9, xt, xu, xq, yI, yH, z0, zw, zZ, z8, xw, zz, zx, xE, z4, ya, z3, z6, z1, yb, z7, zj, z5, zy, zi, zA, z2, yL, yJ, zk], by simp (disch := first | assumption | decide | omega) only [zB, yc, zC, yM, yd, zl, yN, ye, yf, zD, zE, zm, zn, zF, yg, zo, zG, yh, zH, yi, zI, yj, zc, zJ, zK, yk, yl, zd, ym, yO, xx, yn, yo, zL, yp, zM, zp, zq, ze, zN, yq, zO, yr, zr, zf, zP, yt, zg, yu, zQ, zh, zt, yP, xy, yQ, yR, zu, yS, decide_eq_true_eq, beq_iff_eq, zR, zS, za, String.reduceEq, ↓reduceIte, yv, Glob.val?, xz, yT, yU, yV, yW, yX, yY, xA, xB, xC, xD, yZ, y0, y5, y6, y7, y8, yw, yx, yy, y9, xc, xd, zT, zU, xe, zV, zW, xf, xg, xh, xF, xG, xH, xI, xJ, xK, xL, xM, xi, xj, xk, xl, xm, xn, xo, xp, Glob.isB, and_self, and_true, true_and, zX, yz, yA, zY, Option.map_some, List.length_cons, List.length_nil, Nat.reduceAdd, Nat.zero_add, yB, yC, yD, yE, yF, yG, zb, yK, xr, xv, z9, xt, xu, xq, yI, yH, z0, zw, zZ, z8, xw, zz, zx, xE, z4, ya, z3, z6, z1, yb, z7, zj, z5, zy, zi, zA, z2, yL, yJ, zk]⟩, by omega, [], rfl, by simp, fun x => ?_⟩
    simp only [List.not_mem_nil, false_iff]; omega
  · rintro i v ρ τ hd ⟨⟨r1, r2, r0⟩, hi31, ps, rfl, hlen, hmem⟩
    obtain ⟨rfl, hi⟩ := rangeQ_get hd
    refine ⟨_, rfl, ?_⟩
    refine out_cons (out_mono (out_for (R := R)
      (for_rng (ds := rangeP (-1) ((wideOf rows : Int) + 1) 1) (vs := [.int (-1), .int ((wideOf rows : Int) + 1)]) (σ₁ := σ ++ [.list (ps.map tup2)]) (by (simp (disch := first | assumption | decide | omega) only [zB, yc, zC, yM, yd, zl, yN, ye, yf, zD, zE, zm, zn, zF, yg, zo, zG, yh, zH, yi, zI, yj, zc, zJ, zK, yk, yl, zd, ym, yO, xx, yn, yo, zL, yp, zM, zp, zq, ze, zN, yq, zO, yr, zr, zf, zP, yt, zg, yu, zQ, zh, zt, yP, xy, yQ, yR, zu, yS, decide_eq_true_eq, beq_iff_eq, zR, zS, za, String.reduceEq, ↓reduceIte, yv, Glob.val?, xz, yT, yU, yV, yW, yX, yY, xA, xB, xC, xD, yZ, y0, y5, y6, y7, y8, yw, yx, yy, y9, xc, xd, zT, zU, xe, zV, zW, xf, xg, xh, xF, xG, xH, xI, xJ, xK, xL, xM, xi, xj, xk, xl, xm, xn, xo, xp, Glob.isB, and_self, and_true, true_and, zX, yz, yA, zY, Option.map_some, List.length_cons, List.length_nil, Nat.reduceAdd, Nat.zero_add, yB, yC, yD, yE, yF, yG, zb, yK, xr, xv, z9, xt, xu, xq, yI, yH, z0, zw, zZ, z8, xw, zz, zx, xE, z4, ya, z3, z6, z1, yb, z7, zj, z5, zy, zi, zA, z2, yL, yJ, zk]) <;> rfl) ?_ (range2 (by omega) (by omega) (by omega) (by omega)))
      (fun j ρ τ => E ρ ∧ ρ (Str.ofString "row") = some (.int (-1 + (i : Int))) ∧ j ≤ 32 ∧ ∃ qs : List IP, τ = σ ++ [.list (qs.map tup2)] ∧ qs.length ≤ 32 * i + j ∧
        ∀ x : IP, x ∈ qs ↔ (-1 ≤ x.1 ∧ x.1 < -1 + i ∧ -1 ≤ x.2 ∧ x.2 ≤ wideOf rows ∧ onB rows x.1 x.2 = false) ∨ (x.1 = -1 + i ∧ -1 ≤ x.2 ∧ x.2 < -1 + j ∧ onB rows x.1 x.2 = false)) ?_ ?_) ?_ fun _ _ h => h)
    · (simp (disch := first | assumption | decide | omega) only [zB, yc, zC, yM, yd, zl, yN, ye, yf, zD, zE, zm, zn, zF, yg, zo, zG, yh, zH, yi, zI, yj, zc, zJ, zK, yk, yl, zd, ym, yO, xx, yn, yo, zL, yp, zM, zp, zq, ze, zN, yq, zO, yr, zr, zf, zP, yt, zg, yu, zQ, zh, zt, yP, xy, yQ, yR, zu, yS, decide_eq_true_eq, beq_iff_eq, zR, zS, za, String.reduceEq, ↓reduceIte, yv, Glob.val?, xz, yT, yU, yV, yW, yX, yY, xA, xB, xC, xD, yZ, y0, y5, y6, y7, y8, yw, yx, yy, y9, xc, xd, zT, zU, xe, zV, zW, xf, xg, xh, xF, xG, xH, xI, xJ, xK, xL, xM, xi, xj, xk, xl, xm, xn, xo, xp, Glob.isB, and_self, and_true, true_and, zX, yz, yA, zY, Option.map_some, List.length_cons, List.length_nil, Nat.reduceAdd, Nat.zero_add, yB, yC, yD, yE, yF, yG, zb, yK, xr, xv, z9, xt, xu, xq, yI, yH, z0, zw, zZ, z8, xw, zz, zx, xE, z4, ya, z3, z6, z1, yb, z7, zj, z5, zy, zi, zA, z2, yL, yJ, zk, r1, e2]) <;> rfl
    · refine ⟨⟨by simp (disch := first | assumption | decide | omega) only [zB, yc, zC, yM, yd, zl, yN, ye, yf, zD, zE, zm, zn, zF, yg, zo, zG, yh, zH, yi, zI, yj, zc, zJ, zK, yk, yl, zd, ym, yO, xx, yn, yo, zL, yp, zM, zp, zq, ze, zN, yq, zO, yr, zr, zf, zP, yt, zg, yu, zQ, zh, zt, yP, xy, yQ, yR, zu, yS, decide_eq_true_eq, beq_iff_eq, zR, zS, za, String.reduceEq, ↓reduceIte, yv, Glob.val?, xz, yT, yU, yV, yW, yX, yY, xA, xB, xC, xD, yZ, y0, y5, y6, y7, y8, yw, yx, yy, y9, xc, xd, zT, zU, xe, zV, zW, xf, xg, xh, xF, xG, xH, xI, xJ, xK, xL, xM, xi, xj, xk, xl, xm, xn, xo, xp, Glob.isB, and_self, and_true, true_and, zX, yz, yA, zY, Option.map_some, List.length_cons, List.length_nil, Nat.reduceAdd, Nat.zero_add, yB, yC, yD, yE, yF, yG, zb, yK, xr, xv, z9, xt, xu, xq, yI, yH, z0, zw, zZ, z8, xw, zz, zx, xE, z4, ya, z3, z6, z1, yb, z7, zj, z5, zy, zi, zA, z2, yL, yJ, zk, r1], by simp (disch := first | assumption | decide | omega) only [zB, yc, zC, yM, yd, zl, yN, ye, yf, zD, zE, zm, zn, zF, yg, zo, zG, yh, zH, yi, zI, yj, zc, zJ, zK, yk, yl, zd, ym, yO, xx, yn, yo, zL, yp, zM, zp, zq, ze, zN, yq, zO, yr, zr, zf, zP, yt, zg, yu, zQ, zh, zt, yP, xy, yQ, yR, zu, yS, decide_eq_true_eq, beq_iff_eq, zR, zS, za, String.reduceEq, ↓reduceIte, yv, Glob.val?, xz, yT, yU, yV, yW, yX, yY, xA, xB, xC, xD, yZ, y0, y5, y6, y7, y8, yw, yx, yy, y9, xc, xd, zT, zU, xe, zV, zW, xf, xg, xh, xF, xG, xH, xI, xJ, xK, xL, xM, xi, xj, xk, xl, xm, xn, xo, xp, Glob.isB, and_self, and_true, true_and, zX, yz, yA, zY, Option.map_some, List.length_cons, List.length_nil, Nat.reduceAdd, Nat.zero_add, yB, yC, yD, yE, yF, yG, zb, yK, xr, xv, z9, xt, xu, xq, yI, yH, z0, zw, zZ, z8, xw, zz, zx, xE, z4, ya, z3, z6, z1, yb, z7, zj, z5, zy, zi, zA, z2, yL, yJ, zk, r2], by simp (disch := first | assumption | decide | omega) only [zB, yc, zC, yM, yd, zl, yN, ye, yf, zD, zE, zm, zn, zF, yg, zo, zG, yh, zH, yi, zI, yj, zc, zJ, zK, yk, yl, zd, ym, yO, xx, yn, yo, zL, yp, zM, zp, zq, ze, zN, yq, zO, yr, zr, zf, zP, yt, zg, yu, zQ, zh, zt, yP, xy, yQ, yR, zu, yS, decide_eq_true_eq, beq_iff_eq, zR, zS, za, String.reduceEq, ↓reduceIte, yv, Glob.val?, xz, yT, yU, yV, yW, yX, yY, xA, xB, xC, xD, yZ, y0, y5, y6, y7, y8, yw, yx, yy, y9, xc, xd, zT, zU, xe, zV, zW, xf, xg, xh, xF, xG, xH, xI, xJ, xK, xL, xM, xi, xj, xk, xl, xm, xn, xo, xp, Glob.isB, and_self, and_true, true_and, zX, yz, yA, zY, Option.map_some, List.length_cons, List.length_nil, Nat.reduceAdd, Nat.zero_add, yB, yC, yD, yE, yF, yG, zb, yK, xr, xv, z9, xt, xu, xq, yI, yH, z0, zw, zZ, z8, xw, zz, zx, xE, z4, ya, z3, z6, z1, yb, z7, zj, z5, zy, zi, zA, z2, yL, yJ, zk, r0]⟩, by simp (disch := first | assumption | decide | omega) only [zB, yc, zC, yM, yd, zl, yN, ye, yf, zD, zE, zm, zn, zF, yg, zo, zG, yh, zH, yi, zI, yj, zc, zJ, zK, yk, yl, zd, ym, yO, xx, yn, yo, zL, yp, zM, zp, zq, ze, zN, yq, zO, yr, zr, zf, zP, yt, zg, yu, zQ, zh, zt, yP, xy, yQ, yR, zu, yS, decide_eq_true_eq, beq_iff_eq, zR, zS, za, String.reduceEq, ↓reduceIte, yv, Glob.val?, xz, yT, yU, yV, yW, yX, yY, xA, xB, xC, xD, yZ, y0, y5, y6, y7, y8, yw, yx, yy, y9, xc, xd, zT, zU, xe, zV, zW, xf, xg, xh, xF, xG, xH, xI, xJ, xK, xL, xM, xi, xj, xk, xl, xm, xn, xo, xp, Glob.isB, and_self, and_true, true_and, zX, yz, yA, zY, Option.map_some, List.length_cons, List.length_nil, Nat.reduceAdd, Nat.zero_add, yB, yC, yD, yE, yF, yG, zb, yK, xr, xv, z9, xt, xu, xq, yI, yH, z0, zw, zZ, z8, xw, zz, zx, xE, z4, ya, z3, z6, z1, yb, z7, zj, z5, zy, zi, zA, z2, yL, yJ, zk], by omega, ps, rfl, by omega, fun x => ?_⟩
      rw [hmem]
      constructor
      · exact .inl
      · rintro (h | h)
        · exact h
        · omega
    · rintro j v ρ τ hd ⟨⟨r1, r2, r0⟩, r3, hj31, qs, rfl, hlen', hmem'⟩
      obtain ⟨rfl, hj⟩ := rangeQ_get hd
      refine ⟨_, rfl, ?_⟩
      have hln : (qs.map tup2).length ≤ sizeLine := by rw [List.length_map]; omega
      have hget := get_append_new σ (PO.list (qs.map tup2))
      have hset := fun y => set_append_new σ (PO.list (qs.map tup2)) y
      refine out_cons (out_mono (out_if (K := fun ρ τ => E ρ ∧ ρ (Str.ofString "row") = some (.int (-1 + (i : Int))) ∧ j + 1 ≤ 32 ∧ ∃ qs : List IP, τ = σ ++ [.list (qs.map tup2)] ∧ qs.length ≤ 32 * i + (j + 1) ∧
        ∀ x : IP, x ∈ qs ↔ (-1 ≤ x.1 ∧ x.1 < -1 + i ∧ -1 ≤ x.2 ∧ x.2 ≤ wideOf rows ∧ onB rows x.1 x.2 = false) ∨ (x.1 = -1 + i ∧ -1 ≤ x.2 ∧ x.2 < -1 + ((j + 1 : Nat) : Int) ∧ onB rows x.1 x.2 = false)) (R := R)
        (c := !onB rows (-1 + (i : Int)) (-1 + (j : Int))) (σ₁ := σ ++ [.list (qs.map tup2)]) ?_ (fun hc => ?_) fun hc => ?_) (fun ρ τ h => out_nil h) fun _ _ h => h)
      · simp (disch := first | assumption | decide | omega) only [zB, yc, zC, yM, yd, zl, yN, ye, yf, zD, zE, zm, zn, zF, yg, zo, zG, yh, zH, yi, zI, yj, zc, zJ, zK, yk, yl, zd, ym, yO, xx, yn, yo, zL, yp, zM, zp, zq, ze, zN, yq, zO, yr, zr, zf, zP, yt, zg, yu, zQ, zh, zt, yP, xy, yQ, yR, zu, yS, decide_eq_true_eq, beq_iff_eq, zR, zS, za, String.reduceEq, ↓reduceIte, yv, Glob.val?, xz, yT, yU, yV, yW, yX, yY, xA, xB, xC, xD, yZ, y0, y5, y6, y7, y8, yw, yx, yy, y9, xc, xd, zT, zU, xe, zV, zW, xf, xg, xh, xF, xG, xH, xI, xJ, xK, xL, xM, xi, xj, xk, xl, xm, xn, xo, xp, Glob.isB, and_self, and_true, true_and, zX, yz, yA, zY, Option.map_some, List.length_cons, List.length_nil, Nat.reduceAdd, Nat.zero_add, yB, yC, yD, yE, yF, yG, zb, yK, xr, xv, z9, xt, xu, xq, yI, yH, z0, zw, zZ, z8, xw, zz, zx, xE, z4, ya, z3, z6, z1, yb, z7, zj, z5, zy, zi, zA, z2, yL, yJ, zk, r1, r3, e3]
      · have hf : onB rows (-1 + (i : Int)) (-1 + (j : Int)) = false := by simpa using hc
        apply out_next
        · (simp (disch := first | assumption | decide | omega) only [zB, yc, zC, yM, yd, zl, yN, ye, yf, zD, zE, zm, zn, zF, yg, zo, zG, yh, zH, yi, zI, yj, zc, zJ, zK, yk, yl, zd, ym, yO, xx, yn, yo, zL, yp, zM, zp, zq, ze, zN, yq, zO, yr, zr, zf, zP, yt, zg, yu, zQ, zh, zt, yP, xy, yQ, yR, zu, yS, decide_eq_true_eq, beq_iff_eq, zR, zS, za, String.reduceEq, ↓reduceIte, yv, Glob.val?, xz, yT, yU, yV, yW, yX, yY, xA, xB, xC, xD, yZ, y0, y5, y6, y7, y8, yw, yx, yy, y9, xc, xd, zT, zU, xe, zV, zW, xf, xg, xh, xF, xG, xH, xI, xJ, xK, xL, xM, xi, xj, xk, xl, xm, xn, xo, xp, Glob.isB, and_self, and_true, true_and, zX, yz, yA, zY, Option.map_some, List.length_cons, List.length_nil, Nat.reduceAdd, Nat.zero_add, yB, yC, yD, yE, yF, yG, zb, yK, xr, xv, z9, xt, xu, xq, yI, yH, z0, zw, zZ, z8, xw, zz, zx, xE, z4, ya, z3, z6, z1, yb, z7, zj, z5, zy, zi, zA, z2, yL, yJ, zk, r2, r3, xm hget, xl hget hln, hset]) <;> rfl
        refine out_nil ⟨⟨by simp (disch := first | assumption | decide | omega) only [zB, yc, zC, yM, yd, zl, yN, ye, yf, zD, zE, zm, zn, zF, yg, zo, zG, yh, zH, yi, zI, yj, zc, zJ, zK, yk, yl, zd, ym, yO, xx, yn, yo, zL, yp, zM, zp, zq, ze, zN, yq, zO, yr, zr, zf, zP, yt, zg, yu, zQ, zh, zt, yP, xy, yQ, yR, zu, yS, decide_eq_true_eq, beq_iff_eq, zR, zS, za, String.reduceEq, ↓reduceIte, yv, Glob.val?, xz, yT, yU, yV, yW, yX, yY, xA, xB, xC, xD, yZ, y0, y5, y6, y7, y8, yw, yx, yy, y9, xc, xd, zT, zU, xe, zV, zW, xf, xg, xh, xF, xG, xH, xI, xJ, xK, xL, xM, xi, xj, xk, xl, xm, xn, xo, xp, Glob.isB, and_self, and_true, true_and, zX, yz, yA, zY, Option.map_some, List.length_cons, List.length_nil, Nat.reduceAdd, Nat.zero_add, yB, yC, yD, yE, yF, yG, zb, yK, xr, xv, z9, xt, xu, xq, yI, yH, z0, zw, zZ, z8, xw, zz, zx, xE, z4, ya, z3, z6, z1, yb, z7, zj, z5, zy, zi, zA, z2, yL, yJ, zk, r1], by simp (disch := first | assumption | decide | omega) only [zB, yc, zC, yM, yd, zl, yN, ye, yf, zD, zE, zm, zn, zF, yg, zo, zG, yh, zH, yi, zI, yj, zc, zJ, zK, yk, yl, zd, ym, yO, xx, yn, yo, zL, yp, zM, zp, zq, ze, zN, yq, zO, yr, zr, zf, zP, yt, zg, yu, zQ, zh, zt, yP, xy, yQ, yR, zu, yS, decide_eq_true_eq, beq_iff_eq, zR, zS, za, String.reduceEq, ↓reduceIte, yv, Glob.val?, xz, yT, yU, yV, yW, yX, yY, xA, xB, xC, xD, yZ, y0, y5, y6, y7, y8, yw, yx, yy, y9, xc, xd, zT, zU, xe, zV, zW, xf, xg, xh, xF, xG, xH, xI, xJ, xK, xL, xM, xi, xj, xk, xl, xm, xn, xo, xp, Glob.isB, and_self, and_true, true_and, zX, yz, yA, zY, Option.map_some, List.length_cons, List.length_nil, Nat.reduceAdd, Nat.zero_add, yB, yC, yD, yE, yF, yG, zb, yK, xr, xv, z9, xt, xu, xq, yI, yH, z0, zw, zZ, z8, xw, zz, zx, xE, z4, ya, z3, z6, z1, yb, z7, zj, z5, zy, zi, zA, z2, yL, yJ, zk, r2], by simp (disch := first | assumption | decide | omega) only [zB, yc, zC, yM, yd, zl, yN, ye, yf, zD, zE, zm, zn, zF, yg, zo, zG, yh, zH, yi, zI, yj, zc, zJ, zK, yk, yl, zd, ym, yO, xx, yn, yo, zL, yp, zM, zp, zq, ze, zN, yq, zO, yr, zr, zf, zP, yt, zg, yu, zQ, zh, zt, yP, xy, yQ, yR, zu, yS, decide_eq_true_eq, beq_iff_eq, zR, zS, za, String.reduceEq, ↓reduceIte, yv, Glob.val?, xz, yT, yU, yV, yW, yX, yY, xA, xB, xC, xD, yZ, y0, y5, y6, y7, y8, yw, yx, yy, y9, xc, xd, zT, zU, xe, zV, zW, xf, xg, xh, xF, xG, xH, xI, xJ, xK, xL, xM, xi, xj, xk, xl, xm, xn, xo, xp, Glob.isB, and_self, and_true, true_and, zX, yz, yA, zY, Option.map_some, List.length_cons, List.length_nil, Nat.reduceAdd, Nat.zero_add, yB, yC, yD, yE, yF, yG, zb, yK, xr, xv, z9, xt, xu, xq, yI, yH, z0, zw, zZ, z8, xw, zz, zx, xE, z4, ya, z3, z6, z1, yb, z7, zj, z5, zy, zi, zA, z2, yL, yJ, zk, r0]⟩, by simp (disch := first | assumption | decide | omega) only [zB, yc, zC, yM, yd, zl, yN, ye, yf, zD, zE, zm, zn, zF, yg, zo, zG, yh, zH, yi, zI, yj, zc, zJ, zK, yk, yl, zd, ym, yO, xx, yn, yo, zL, yp, zM, zp, zq, ze, zN, yq, zO, yr, zr, zf, zP, yt, zg, yu, zQ, zh, zt, yP, xy, yQ, yR, zu, yS, decide_eq_true_eq, beq_iff_eq, zR, zS, za, String.reduceEq, ↓reduceIte, yv, Glob.val?, xz, yT, yU, yV, yW, yX, yY, xA, xB, xC, xD, yZ, y0, y5, y6, y7, y8, yw, yx, yy, y9, xc, xd, zT, zU, xe, zV, zW, xf, xg, xh, xF, xG, xH, xI, xJ, xK, xL, xM, xi, xj, xk, xl, xm, xn, xo, xp, Glob.isB, and_self, and_true, true_and, zX, yz, yA, zY, Option.map_some, List.length_cons, List.length_nil, Nat.reduceAdd, Nat.zero_add, yB, yC, yD, yE, yF, yG, zb, yK, xr, xv, z9, xt, xu, xq, yI, yH, z0, zw, zZ, z8, xw, zz, zx, xE, z4, ya, z3, z6, z1, yb, z7, zj, z5, zy, zi, zA, z2, yL, yJ, zk, r3], by omega, qs ++ [(-1 + (i : Int), -1 + (j : Int))], ?_, ?_, fun x => ?_⟩
        · simp only [List.map_append, List.map_cons, List.map_nil]; rfl
        · simp only [List.length_append, List.length_cons, List.length_nil]; omega
        · rw [List.mem_append, hmem', List.mem_singleton]
          constructor
          · rintro ((h | ⟨h1, h2, h3, h4⟩) | rfl)
            · exact .inl h
            · exact .inr ⟨h1, h2, by omega, h4⟩
            · exact .inr ⟨rfl, by simp only; omega, by simp only; omega, hf⟩
          · rintro (h | ⟨h1, h2, h3, h4⟩)
            · exact .inl (.inl h)
            · by_cases q : x.2 = -1 + (j : Int)
              · exact .inr (Prod.ext h1 q)
              · exact .inl (.inr ⟨h1, h2, by omega, h4⟩)
      · have hf : onB rows (-1 + (i : Int)) (-1 + (j : Int)) = true := by simpa using hc
        refine out_nil ⟨⟨by simp (disch := first | assumption | decide | omega) only [zB, yc, zC, yM, yd, zl, yN, ye, yf, zD, zE, zm, zn, zF, yg, zo, zG, yh, zH, yi, zI, yj, zc, zJ, zK, yk, yl, zd, ym, yO, xx, yn, yo, zL, yp, zM, zp, zq, ze, zN, yq, zO, yr, zr, zf, zP, yt, zg, yu, zQ, zh, zt, yP, xy, yQ, yR, zu, yS, decide_eq_true_eq, beq_iff_eq, zR, zS, za, String.reduceEq, ↓reduceIte, yv, Glob.val?, xz, yT, yU, yV, yW, yX, yY, xA, xB, xC, xD, yZ, y0, y5, y6, y7, y8, yw, yx, yy, y9, xc, xd, zT, zU, xe, zV, zW, xf, xg, xh, xF, xG, xH, xI, xJ, xK, xL, xM, xi, xj, xk, xl, xm, xn, xo, xp, Glob.isB, and_self, and_true, true_and, zX, yz, yA, zY, Option.map_some, List.length_cons, List.length_nil, Nat.reduceAdd, Nat.zero_add, yB, yC, yD, yE, yF, yG, zb, yK, xr, xv, z9, xt, xu, xq, yI, yH, z0, zw, zZ, z8, xw, zz, zx, xE, z4, ya, z3, z6, z1, yb, z7, zj, z5, zy, zi, zA, z2, yL, yJ, zk, r1], by simp (disch := first | assumption | decide | omega) only [zB, yc, zC, yM, yd, zl, yN, ye, yf, zD, zE, zm, zn, zF, yg, zo, zG, yh, zH, yi, zI, yj, zc, zJ, zK, yk, yl, zd, ym, yO, xx, yn, yo, zL, yp, zM, zp, zq, ze, zN, yq, zO, yr, zr, zf, zP, yt, zg, yu, zQ, zh, zt, yP, xy, yQ, yR, zu, yS, decide_eq_true_eq, beq_iff_eq, zR, zS, za, String.reduceEq, ↓reduceIte, yv, Glob.val?, xz, yT, yU, yV, yW, yX, yY, xA, xB, xC, xD, yZ, y0, y5, y6, y7, y8, yw, yx, yy, y9, xc, xd, zT, zU, xe, zV, zW, xf, xg, xh, xF, xG, xH, xI, xJ, xK, xL, xM, xi, xj, xk, xl, xm, xn, xo, xp, Glob.isB, and_self, and_true, true_and, zX, yz, yA, zY, Option.map_some, List.length_cons, List.length_nil, Nat.reduceAdd, Nat.zero_add, yB, yC, yD, yE, yF, yG, zb, yK, xr, xv, z9, xt, xu, xq, yI, yH, z0, zw, zZ, z8, xw, zz, zx, xE, z4, ya, z3, z6, z1, yb, z7, zj, z5, zy, zi, zA, z2, yL, yJ, zk, r2], by simp (disch := first | assumption | decide | omega) only [zB, yc, zC, yM, yd, zl, yN, ye, yf, zD, zE, zm, zn, zF, yg, zo, zG, yh, zH, yi, zI, yj, zc, zJ, zK, yk, yl, zd, ym, yO, xx, yn, yo, zL, yp, zM, zp, zq, ze, zN, yq, zO, yr, zr, zf, zP, yt, zg, yu, zQ, zh, zt, yP, xy, yQ, yR, zu, yS, decide_eq_true_eq, beq_iff_eq, zR, zS, za, String.reduceEq, ↓reduceIte, yv, Glob.val?, xz, yT, yU, yV, yW, yX, yY, xA, xB, xC, xD, yZ, y0, y5, y6, y7, y8, yw, yx, yy, y9, xc, xd, zT, zU, xe, zV, zW, xf, xg, xh, xF, xG, xH, xI, xJ, xK, xL, xM, xi, xj, xk, xl, xm, xn, xo, xp, Glob.isB, and_self, and_true, true_and, zX, yz, yA, zY, Option.map_some, List.length_cons, List.length_nil, Nat.reduceAdd, Nat.zero_add, yB, yC, yD, yE, yF, yG, zb, yK, xr, xv, z9, xt, xu, xq, yI, yH, z0, zw, zZ, z8, xw, zz, zx, xE, z4, ya, z3, z6, z1, yb, z7, zj, z5, zy, zi, zA, z2, yL, yJ, zk, r0]⟩, by simp (disch := first | assumption | decide | omega) only [zB, yc, zC, yM, yd, zl, yN, ye, yf, zD, zE, zm, zn, zF, yg, zo, zG, yh, zH, yi, zI, yj, zc, zJ, zK, yk, yl, zd, ym, yO, xx, yn, yo, zL, yp, zM, zp, zq, ze, zN, yq, zO, yr, zr, zf, zP, yt, zg, yu, zQ, zh, zt, yP, xy, yQ, yR, zu, yS, decide_eq_true_eq, beq_iff_eq, zR, zS, za, String.reduceEq, ↓reduceIte, yv, Glob.val?, xz, yT, yU, yV, yW, yX, yY, xA, xB, xC, xD, yZ, y0, y5, y6, y7, y8, yw, yx, yy, y9, xc, xd, zT, zU, xe, zV, zW, xf, xg, xh, xF, xG, xH, xI, xJ, xK, xL, xM, xi, xj, xk, xl, xm, xn, xo, xp, Glob.isB, and_self, and_true, true_and, zX, yz, yA, zY, Option.map_some, List.length_cons, List.length_nil, Nat.reduceAdd, Nat.zero_add, yB, yC, yD, yE, yF, yG, zb, yK, xr, xv, z9, xt, xu, xq, yI, yH, z0, zw, zZ, z8, xw, zz, zx, xE, z4, ya, z3, z6, z1, yb, z7, zj, z5, zy, zi, zA, z2, yL, yJ, zk, r3], by omega, qs, rfl, by omega, fun x => ?_⟩
        rw [hmem']
        constructor
        · rintro (h | ⟨h1, h2, h3, h4⟩)
          · exact .inl h
          · exact .inr ⟨h1, h2, by omega, h4⟩
        · rintro (h | ⟨h1, h2, h3, h4⟩)
          · exact .inl h
          · by_cases q : x.2 = -1 + (j : Int)
            · rw [h1, q, hf] at h4; cases h4
            · exact .inr ⟨h1, h2, by omega, h4⟩
    · rintro ρ τ ⟨h6, h7, h8, qs, rfl, hlen', hmem'⟩
      rw [rangeQ_len] at hlen' hmem' h8
      refine out_nil ⟨h6, by omega, qs, rfl, by omega, fun x => ?_⟩
      rw [hmem']
      constructor
      · rintro (⟨h1, h2, h3⟩ | ⟨h1, h2, h3, h4⟩)
        · exact ⟨h1, by omega, h3⟩
        · exact ⟨by omega, by omega, h2, by omega, h4⟩
      · rintro ⟨h1, h2, h3, h4, h5⟩
        by_cases q : x.1 = -1 + (i : Int)
        · exact .inr ⟨q, h3, by omega, h5⟩
        · exact .inl ⟨h1, by omega, h3, h4, h5⟩
  · rintro ρ τ ⟨⟨r1, r2, r0⟩, h3, ps, rfl, hlen, hmem⟩
    rw [rangeQ_len] at hlen hmem
    obtain ⟨n, τ, e, ⟨ex, rfl⟩, r⟩ := hbun ps eight σ.length (σ ++ [.list (ps.map tup2)]) (get_append_new _ _) (by omega) (by decide) (by decide)
    have e4 : Φ (Str.ofString "bunches") [.loc σ.length, roundV] (σ ++ [.list (ps.map tup2)]) = _ := e
    apply out_ret
    · (simp (disch := first | assumption | decide | omega) only [zB, yc, zC, yM, yd, zl, yN, ye, yf, zD, zE, zm, zn, zF, yg, zo, zG, yh, zH, yi, zI, yj, zc, zJ, zK, yk, yl, zd, ym, yO, xx, yn, yo, zL, yp, zM, zp, zq, ze, zN, yq, zO, yr, zr, zf, zP, yt, zg, yu, zQ, zh, zt, yP, xy, yQ, yR, zu, yS, decide_eq_true_eq, beq_iff_eq, zR, zS, za, String.reduceEq, ↓reduceIte, yv, Glob.val?, xz, yT, yU, yV, yW, yX, yY, xA, xB, xC, xD, yZ, y0, y5, y6, y7, y8, yw, yx, yy, y9, xc, xd, zT, zU, xe, zV, zW, xf, xg, xh, xF, xG, xH, xI, xJ, xK, xL, xM, xi, xj, xk, xl, xm, xn, xo, xp, Glob.isB, and_self, and_true, true_and, zX, yz, yA, zY, Option.map_some, List.length_cons, List.length_nil, Nat.reduceAdd, Nat.zero_add, yB, yC, yD, yE, yF, yG, zb, yK, xr, xv, z9, xt, xu, xq, yI, yH, z0, zw, zZ, z8, xw, zz, zx, xE, z4, ya, z3, z6, z1, yb, z7, zj, z5, zy, zi, zA, z2, yL, yJ, zk, r2, r0, e4]) <;> rfl
    · refine ⟨n, ps, rfl, ⟨_, List.append_assoc _ _ _⟩, fun a => ?_, r⟩
      rw [hmem]
      constructor
      · rintro ⟨h1, h2, h3, h4, h5⟩; exact ⟨h1, by omega, h3, h4, h5⟩
      · rintro ⟨h1, h2, h3, h4, h5⟩; exact ⟨h1, by omega, h3, h4, h5⟩
end
end
end Mine

set_option maxRecDepth 100000
namespace Mine
open PySem PySem.Spec PyProof.Rows PySem.Challenge

/-! the law's own count: what is proved of it without the program -/
structure Vis (K R : List IP) (u : IP → Bool) : Prop where
  rsub : ∀ r ∈ R, r ∈ K
  iff : ∀ q ∈ K, (u q = false ↔ ∃ r ∈ R, Cn (stepsOf K four) q r)
  ind : R.Pairwise (fun a b => ¬ Cn (stepsOf K four) a b)
structure Dfs (K : List IP) (u : IP → Bool) (p : IP) (v : IP → Bool) (Wk : List IP) : Prop where
  le : ∀ q, v q = true → u q = true
  conn : ∀ q ∈ K, u q = true → v q = false → Cn (stepsOf K four) p q
  stk : ∀ q ∈ Wk, q ∈ K → Cn (stepsOf K four) p q
  fro : ∀ q ∈ K, u q = true → v q = false → ∀ w ∈ four, addP q w ∈ K → v (addP q w) = false ∨ addP q w ∈ Wk
  start : v p = false ∨ p ∈ Wk
theorem four_sym : ∀ w ∈ four, (-w.1, -w.2) ∈ four := by decide
theorem le_off {u v : IP → Bool} (h : ∀ q, v q = true → u q = true) {q : IP} (hq : u q = false) : v q = false := by
  cases e : v q with
  | false => rfl
  | true => rw [h q e] at hq; cases hq
theorem Vis.next {K R : List IP} {u v : IP → Bool} {p : IP} (V : Vis K R u) (hp : p ∈ K) (D : Dfs K u p v []) : Vis K (if u p then p :: R else R) v ∧ v p = false := by
  have vp : v p = false := D.start.elim id fun h => by cases h
  refine ⟨?_, vp⟩
  cases hu : u p with
  | false =>
    rw [if_neg (by decide)]
    obtain ⟨r0, hr0, hc0⟩ := (V.iff p hp).mp hu
    refine ⟨V.rsub, fun q hq => ⟨fun h => ?_, fun h => le_off D.le ((V.iff q hq).mpr h)⟩, V.ind⟩
    cases e : u q with
    | false => exact (V.iff q hq).mp e
    | true => exact ⟨r0, hr0, (D.conn q hq e h).symm.trans hc0⟩
  | true =>
    rw [if_pos rfl]
    have far : ∀ r ∈ R, ¬ Cn (stepsOf K four) p r := fun r hr h => by
      have := (V.iff p hp).mpr ⟨r, hr, h⟩
      rw [hu] at this; cases this
    have reach : ∀ q, Cn (stepsOf K four) p q → q = p ∨ q ∈ K → v q = false := fun q h => by
      have go : ∀ {b c : IP}, Cn (stepsOf K four) p b → (b, c) ∈ stepsOf K four → (b = p ∨ b ∈ K → v b = false) → v c = false := fun {b c} hb e ih => by
        obtain ⟨h1, h2, w, hw, ec⟩ := mem_steps.mp e
        have vb := ih (.inr h1)
        cases eb : u b with
        | false =>
          obtain ⟨r, hr, hc⟩ := (V.iff b h1).mp eb
          exact absurd (hb.trans hc) (far r hr)
        | true =>
          have ec' : addP b w = c := ec.symm
          rcases D.fro b h1 eb vb w hw (by rw [ec']; exact h2) with h | h
          · rw [ec'] at h; exact h
          · cases h
      induction h with
      | refl => exact fun _ => vp
      | fwd hb e ih => exact fun _ => go hb e ih
      | bwd hb e ih => exact fun _ => go hb (steps_sym four_sym e) ih
    refine ⟨fun r hr => ?_, fun q hq => ⟨fun h => ?_, ?_⟩, List.pairwise_cons.mpr ⟨far, V.ind⟩⟩
    · rcases List.mem_cons.mp hr with rfl | hr
      · exact hp
      · exact V.rsub r hr
    · cases e : u q with
      | false =>
        obtain ⟨r, hr, hc⟩ := (V.iff q hq).mp e
        exact ⟨r, .tail _ hr, hc⟩
      | true => exact ⟨p, .head _, (D.conn q hq e h).symm⟩
    · rintro ⟨r, hr, hc⟩
      rcases List.mem_cons.mp hr with rfl | hr
      · exact reach q hc.symm (.inr hq)
      · exact le_off D.le ((V.iff q hq).mpr ⟨r, hr, hc⟩)

noncomputable def ways4 : List IP := [(0, 1), (1, 0), (0, -1), (-1, 0)]
theorem ways4_four : ∀ w, w ∈ ways4 ↔ w ∈ four := by
  intro w
  simp only [ways4, four, List.mem_cons, List.not_mem_nil, or_false]
  constructor
  · rintro (h | h | h | h) <;> simp [h]
  · rintro (h | h | h | h) <;> simp [h]
theorem Dfs.push {K Wk : List IP} {u v : IP → Bool} {p h : IP} (D : Dfs K u p v (Wk ++ [h])) (hK : h ∈ K) (hv : v h = true) : Dfs K u p (fun q => if q = h then false else v q) (Wk ++ ways4.map (addP h)) := by
  have hc : Cn (stepsOf K four) p h := D.stk h (List.mem_append_right _ (.head _)) hK
  have off : ∀ q, v q = false → (if q = h then false else v q) = false := fun q e => by split; rfl; exact e
  refine ⟨fun q e => ?_, fun q hq e1 e2 => ?_, fun q hq hqK => ?_, fun q hq e1 e2 w hw hin => ?_, ?_⟩
  · split at e
    · cases e
    · exact D.le q e
  · split at e2
    · rename_i e; rw [e]; exact hc
    · exact D.conn q hq e1 e2
  · rcases List.mem_append.mp hq with h1 | h1
    · exact D.stk q (List.mem_append_left _ h1) hqK
    · obtain ⟨w, hw, rfl⟩ := List.mem_map.mp h1
      exact .fwd hc (mem_steps.mpr ⟨hK, hqK, w, (ways4_four w).mp hw, rfl⟩)
  · split at e2
    · rename_i e
      subst e
      exact .inr (List.mem_append_right _ (List.mem_map.mpr ⟨w, (ways4_four w).mpr hw, rfl⟩))
    · rcases D.fro q hq e1 e2 w hw hin with h1 | h1
      · exact .inl (off _ h1)
      · rcases List.mem_append.mp h1 with h2 | h2
        · exact .inr (List.mem_append_left _ h2)
        · left; rw [List.mem_singleton.mp h2]; exact if_pos rfl
  · rcases D.start with h1 | h1
    · exact .inl (off _ h1)
    · rcases List.mem_append.mp h1 with h2 | h2
      · exact .inr (List.mem_append_left _ h2)
      · left; rw [List.mem_singleton.mp h2]; exact if_pos rfl
theorem Dfs.drop {K Wk : List IP} {u v : IP → Bool} {p h : IP} (D : Dfs K u p v (Wk ++ [h])) (hp : p ∈ K) (hv : h ∈ K → v h = false) : Dfs K u p v Wk := by
  refine ⟨D.le, D.conn, fun q hq => D.stk q (List.mem_append_left _ hq), fun q hq e1 e2 w hw hin => ?_, ?_⟩
  · rcases D.fro q hq e1 e2 w hw hin with h1 | h1
    · exact .inl h1
    · rcases List.mem_append.mp h1 with h2 | h2
      · exact .inr h2
      · rw [List.mem_singleton.mp h2] at hin ⊢; exact .inl (hv hin)
  · rcases D.start with h1 | h1
    · exact .inl h1
    · rcases List.mem_append.mp h1 with h2 | h2
      · exact .inr h2
      · have e := List.mem_singleton.mp h2
        left; rw [e]; exact hv (e ▸ hp)
theorem count_less {K : List IP} {v : IP → Bool} {h : IP} (hK : h ∈ K) (hv : v h = true) : (K.filter fun q => if q = h then false else v q).length + 1 ≤ (K.filter v).length := by
  have e : (K.filter fun q => if q = h then false else v q) = rem h (K.filter v) := by
    unfold rem
    rw [List.filter_filter]
    refine List.filter_congr fun q _ => ?_
    by_cases hq : q = h
    · rw [if_pos hq, decide_eq_true hq]; simp
    · rw [if_neg hq, decide_eq_false hq]; simp
  rw [e]
  exact rem_len (List.mem_filter.mpr ⟨hK, hv⟩)

/-! values -/
noncomputable def ptD (x : IP) : PyData := .tuple [.int x.1, .int x.2]
theorem dats_pts : ∀ ps : List IP, datsOf (ps.map tup2) = some (ps.map ptD)
  | [] => rfl
  | x :: ps => by rw [List.map_cons, datsOf, dats_pts ps]; rfl
theorem lay_pts : ∀ ps : List IP, PyData.canLayAll0 (ps.map ptD) = true ∧ PyData.depthAll (ps.map ptD) ≤ 1
  | [] => ⟨rfl, Nat.zero_le _⟩
  | x :: ps => by
    obtain ⟨a, b⟩ := lay_pts ps
    constructor
    · rw [List.map_cons, PyData.canLayAll0, a, Bool.and_true]; rfl
    · rw [List.map_cons, PyData.depthAll]
      have : (ptD x).depth ≤ 1 := by simp [ptD, PyData.depth, PyData.depthAll]
      omega
theorem c_nepts {σ : Store} {i : Nat} {ps : List IP} (hσ : σ[i]? = some (.list (ps.map tup2))) : cmpP σ .NotEq (.loc i) (.lst []) = some (.bool (!ps.isEmpty)) := by
  have hsh : shapedP (.list (ps.map ptD)) = true := by
    obtain ⟨a, b⟩ := lay_pts ps
    unfold shapedP
    rw [Bool.and_eq_true]
    refine ⟨a, decide_eq_true ?_⟩
    have : (PyData.list (ps.map ptD)).depth = PyData.depthAll (ps.map ptD) + 1 := by simp [PyData.depth]
    omega
  have e : eqP σ (.loc i) (.lst []) = some ps.isEmpty := by
    have s0 : shapedP (.list []) = true := rfl
    simp only [eqP, datP, hσ, datOf, datsOf, dats_pts, Option.map_some, hsh, s0, Bool.and_self, if_true]
    cases ps <;> rfl
  simp only [cmpP, e, Option.map_some]
theorem m_pop {σ : Store} {i : Nat} {ps : List IP} {h : IP} (hσ : σ[i]? = some (.list ((ps ++ [h]).map tup2))) (hl : ps.length + 1 ≤ sizeLine) : methP true (Str.ofString "pop") (.loc i) [] σ = some (tup2 h, σ.set i (.list (ps.map tup2))) := by
  have e : methP true (Str.ofString "pop") (.loc i) [] σ = (match σ[i]? with
        | some (.list ds) => (match ds.getLast? with
          | some d => if ds.length ≤ sizeLine then some (d, σ.set i (.list ds.dropLast)) else none
          | none => none)
        | _ => none) := by
    kernel_rfl
  rw [e, hσ]
  show (match ((ps ++ [h]).map tup2).getLast? with
          | some d => if ((ps ++ [h]).map tup2).length ≤ sizeLine then some (d, σ.set i (.list ((ps ++ [h]).map tup2).dropLast)) else none
          | none => none) = _
  rw [List.map_append, List.map_cons, List.map_nil, List.getLast?_concat, List.dropLast_concat]
  show (if _ then _ else _) = _
  rw [if_pos (by rw [List.length_append, List.length_map]; exact hl)]
theorem k_listd {σ : Store} {d : Nat} {K : List IP} {u : IP → Bool} (hσ : σ[d]? = some (dU K u)) (hl : K.length ≤ sizeLine) : callB (Str.ofString "list") [.loc d] σ = some (.lst (K.map tup2)) := by
  have e : callB (Str.ofString "list") [.loc d] σ = (match items? σ (.loc d) with
      | some ds => if ds.length ≤ sizeLine then some (.lst ds) else none
      | none => match keys? σ (.loc d) with
        | some ks => if ks.length ≤ sizeLine then some (.lst (ks.map fun k => .tup (k.map .int))) else none
        | none => none) := by
    kernel_rfl
  have e1 : items? σ (.loc d) = none := by
    show (match σ[d]? with | some (.list ds) => some ds | _ => none) = _
    rw [hσ]; rfl
  have e2 : keys? σ (.loc d) = some (K.map kp) := by
    show (match σ[d]? with | some (PO.dict es) => some (es.map Prod.fst) | _ => none) = _
    rw [hσ]
    show some ((K.map fun q => (kp q, PV.bool (u q))).map Prod.fst) = _
    rw [List.map_map]; rfl
  rw [e, e1, e2]
  show (if (K.map kp).length ≤ sizeLine then some (PV.lst ((K.map kp).map fun k => .tup (k.map .int))) else none) = _
  rw [if_pos (by rw [List.length_map]; exact hl), List.map_map]
  rfl
/-- a store whose place behind σ is y, with ex and x behind it -/
noncomputable def S3 (σ : Store) (y : PO) (ex : Store) (x : PO) : Store := σ ++ y :: (ex ++ [x])
section
variable {σ ex : Store} {y x : PO}
theorem s3_getd : (S3 σ y ex x)[σ.length]? = some y := st_get
theorem s3_setd (y' : PO) : (S3 σ y ex x).set σ.length y' = S3 σ y' ex x := by
  unfold S3; rw [List.set_append_right _ _ (Nat.le_refl _)]; simp
theorem s3_getn : (S3 σ y ex x)[(σ ++ y :: ex).length]? = some x := by
  unfold S3
  rw [show σ ++ y :: (ex ++ [x]) = (σ ++ y :: ex) ++ [x] by simp]
  exact get_append_new _ _
theorem s3_setn (x' : PO) : (S3 σ y ex x).set (σ ++ y :: ex).length x' = S3 σ y ex x' := by
  unfold S3
  rw [show σ ++ y :: (ex ++ [x]) = (σ ++ y :: ex) ++ [x] by simp, set_append_new]
  simp
end
theorem mem_rowPts {f : Int → Int → Bool} {r m : Nat} {q : IP} : q ∈ rowPts f r m ↔ ∃ c : Nat, c < m ∧ q = ((r : Int), (c : Int)) ∧ f r c = true := by
  simp only [rowPts, List.mem_map, List.mem_filter, List.mem_range]
  constructor
  · rintro ⟨c, ⟨h1, h2⟩, rfl⟩; exact ⟨c, h1, rfl, h2⟩
  · rintro ⟨c, h1, rfl, h2⟩; exact ⟨c, ⟨h1, h2⟩, rfl⟩
theorem mem_allPts {f : Int → Int → Bool} {n m : Nat} {q : IP} : q ∈ allPts f n m ↔ ∃ r c : Nat, r < n ∧ c < m ∧ q = ((r : Int), (c : Int)) ∧ f r c = true := by
  simp only [allPts, List.mem_flatMap, List.mem_range, mem_rowPts]
  constructor
  · rintro ⟨r, h1, c, h2, h3⟩; exact ⟨r, c, h1, h2, h3⟩
  · rintro ⟨r, c, h1, h2, h3⟩; exact ⟨r, h1, c, h2, h3⟩
theorem wide_row {rows : List Str} (hg : Good rows) {i : Nat} (hi : i < rows.length) : (rows[i]'hi).length = wideOf rows := by
  obtain ⟨_, w, _, h⟩ := hg
  rw [(h _ (List.getElem_mem hi)).1]
  cases rows with
  | nil => cases hi
  | cons r rs => exact ((h r (.head _)).1).symm

section
variable {Φ : Fns} {σ : Store}
theorem law_parts_run {rows : List Str} {l : Nat} (hg : Good rows) (hσ : σ[l]? = some (.list (rows.map .str))) :
    ∃ (n : Nat) (τ : Store), interpF Φ Gl (dOf pw "_law_parts") [.loc l] σ = some (.int n, τ) ∧ (∃ ex, τ = σ ++ ex) ∧ Reps (cellsL rows) (Cn (stepsOf (cellsL rows) four)) n := by
  have hs := sz
  have hw := wideOf_le hg
  have h30 := hg.1
  have hKl := cellsL_len hg
  let R0 : PV → Store → Prop := fun u τ => ∃ n : Nat, u = .int n ∧ (∃ ex, τ = σ ++ ex) ∧ Reps (cellsL rows) (Cn (stepsOf (cellsL rows) four)) n
  suffices h : Out (execSs Φ Gl (dOf pw "_law_parts").body (bindP ((dOf pw "_law_parts").params.args.map (·.arg)) [.loc l]) σ) No R0 by
    obtain ⟨v, τ, e, n, rfl, h1, h2⟩ := out_run (by kernel_rfl) h
    exact ⟨n, τ, e, h1, h2⟩
  change Out (execSs Φ Gl (_ :: _ :: _ :: _ :: _ :: _) (bindP [_] _) σ) _ _
  rw [bindP1]
  have hlr : (rows.map PV.str).length ≤ sizeLine := by rw [List.length_map]; omega
  apply out_next
  · (simp (disch := first | assumption | decide | omega) only [zB, yc, zC, yM, yd, zl, yN, ye, yf, zD, zE, zm, zn, zF, yg, zo, zG, yh, zH, yi, zI, yj, zc, zJ, zK, yk, yl, zd, ym, yO, xx, yn, yo, zL, yp, zM, zp, zq, ze, zN, yq, zO, yr, zr, zf, zP, yt, zg, yu, zQ, zh, zt, yP, xy, yQ, yR, zu, yS, decide_eq_true_eq, beq_iff_eq, zR, zS, za, String.reduceEq, ↓reduceIte, yv, Glob.val?, xz, yT, yU, yV, yW, yX, yY, xA, xB, xC, xD, yZ, y0, y5, y6, y7, y8, yw, yx, yy, y9, xc, xd, zT, zU, xe, zV, zW, xf, xg, xh, xF, xG, xH, xI, xJ, xK, xL, xM, xi, xj, xk, xl, xm, xn, xo, xp, Glob.isB, and_self, and_true, true_and, zX, yz, yA, zY, Option.map_some, List.length_cons, List.length_nil, Nat.reduceAdd, Nat.zero_add, yB, yC, yD, yE, yF, yG, zb, yK, xr, xv, z9, xt, xu, xq, yI, yH, z0, zw, zZ, z8, xw, zz, zx, xE, z4, ya, z3, z6, z1, yb, z7, zj, z5, zy, zi, zA, z2, yL, yJ, zk]) <;> rfl
  let f : Int → Int → Bool := onB rows
  let E : Locals → Prop := fun ρ => ρ (Str.ofString "_law_rows") = some (.loc l) ∧ ρ (Str.ofString "_law_left") = some (.loc σ.length)
  have old : ∀ y, (σ ++ [y])[l]? = some (.list (rows.map .str)) := fun y => get_append_old hσ _
  refine out_cons (out_mono (out_for (R := R0)
    (for_rng (ds := rangeP 0 (rows.length : Int) 1) (vs := [.int (rows.length : Int)]) (σ₁ := σ ++ [.dict []]) (by (simp (disch := first | assumption | decide | omega) only [zB, yc, zC, yM, yd, zl, yN, ye, yf, zD, zE, zm, zn, zF, yg, zo, zG, yh, zH, yi, zI, yj, zc, zJ, zK, yk, yl, zd, ym, yO, xx, yn, yo, zL, yp, zM, zp, zq, ze, zN, yq, zO, yr, zr, zf, zP, yt, zg, yu, zQ, zh, zt, yP, xy, yQ, yR, zu, yS, decide_eq_true_eq, beq_iff_eq, zR, zS, za, String.reduceEq, ↓reduceIte, yv, Glob.val?, xz, yT, yU, yV, yW, yX, yY, xA, xB, xC, xD, yZ, y0, y5, y6, y7, y8, yw, yx, yy, y9, xc, xd, zT, zU, xe, zV, zW, xf, xg, xh, xF, xG, xH, xI, xJ, xK, xL, xM, xi, xj, xk, xl, xm, xn, xo, xp, Glob.isB, and_self, and_true, true_and, zX, yz, yA, zY, Option.map_some, List.length_cons, List.length_nil, Nat.reduceAdd, Nat.zero_add, yB, yC, yD, yE, yF, yG, zb, yK, xr, xv, z9, xt, xu, xq, yI, yH, z0, zw, zZ, z8, xw, zz, zx, xE, z4, ya, z3, z6, z1, yb, z7, zj, z5, zy, zi, zA, z2, yL, yJ, zk]) <;> rfl) ?_ (range1 (by omega) (by omega)))
    (fun i ρ τ => E ρ ∧ τ = σ ++ [dT (allPts f i (wideOf rows))]) ?_ ?_) ?_ fun _ _ h => h)
  · (simp (disch := first | assumption | decide | omega) only [zB, yc, zC, yM, yd, zl, yN, ye, yf, zD, zE, zm, zn, zF, yg, zo, zG, yh, zH, yi, zI, yj, zc, zJ, zK, yk, yl, zd, ym, yO, xx, yn, yo, zL, yp, zM, zp, zq, ze, zN, yq, zO, yr, zr, zf, zP, yt, zg, yu, zQ, zh, zt, yP, xy, yQ, yR, zu, yS, decide_eq_true_eq, beq_iff_eq, zR, zS, za, String.reduceEq, ↓reduceIte, yv, Glob.val?, xz, yT, yU, yV, yW, yX, yY, xA, xB, xC, xD, yZ, y0, y5, y6, y7, y8, yw, yx, yy, y9, xc, xd, zT, zU, xe, zV, zW, xf, xg, xh, xF, xG, xH, xI, xJ, xK, xL, xM, xi, xj, xk, xl, xm, xn, xo, xp, Glob.isB, and_self, and_true, true_and, zX, yz, yA, zY, Option.map_some, List.length_cons, List.length_nil, Nat.reduceAdd, Nat.zero_add, yB, yC, yD, yE, yF, yG, zb, yK, xr, xv, z9, xt, xu, xq, yI, yH, z0, zw, zZ, z8, xw, zz, zx, xE, z4, ya, z3, z6, z1, yb, z7, zj, z5, zy, zi, zA, z2, yL, yJ, zk, yy (old _) hlr, List.length_map]) <;> rfl
  · exact ⟨⟨by simp (disch := first | assumption | decide | omega) only [zB, yc, zC, yM, yd, zl, yN, ye, yf, zD, zE, zm, zn, zF, yg, zo, zG, yh, zH, yi, zI, yj, zc, zJ, zK, yk, yl, zd, ym, yO, xx, yn, yo, zL, yp, zM, zp, zq, ze, zN, yq, zO, yr, zr, zf, zP, yt, zg, yu, zQ, zh, zt, yP, xy, yQ, yR, zu, yS, decide_eq_true_eq, beq_iff_eq, zR, zS, za, String.reduceEq, ↓reduceIte, yv, Glob.val?, xz, yT, yU, yV, yW, yX, yY, xA, xB, xC, xD, yZ, y0, y5, y6, y7, y8, yw, yx, yy, y9, xc, xd, zT, zU, xe, zV, zW, xf, xg, xh, xF, xG, xH, xI, xJ, xK, xL, xM, xi, xj, xk, xl, xm, xn, xo, xp, Glob.isB, and_self, and_true, true_and, zX, yz, yA, zY, Option.map_some, List.length_cons, List.length_nil, Nat.reduceAdd, Nat.zero_add, yB, yC, yD, yE, yF, yG, zb, yK, xr, xv, z9, xt, xu, xq, yI, yH, z0, zw, zZ, z8, xw, zz, zx, xE, z4, ya, z3, z6, z1, yb, z7, zj, z5, zy, zi, zA, z2, yL, yJ, zk], by simp (disch := first | assumption | decide | omega) only [zB, yc, zC, yM, yd, zl, yN, ye, yf, zD, zE, zm, zn, zF, yg, zo, zG, yh, zH, yi, zI, yj, zc, zJ, zK, yk, yl, zd, ym, yO, xx, yn, yo, zL, yp, zM, zp, zq, ze, zN, yq, zO, yr, zr, zf, zP, yt, zg, yu, zQ, zh, zt, yP, xy, yQ, yR, zu, yS, decide_eq_true_eq, beq_iff_eq, zR, zS, za, String.reduceEq, ↓reduceIte, yv, Glob.val?, xz, yT, yU, yV, yW, yX, yY, xA, xB, xC, xD, yZ, y0, y5, y6, y7, y8, yw, yx, yy, y9, xc, xd, zT, zU, xe, zV, zW, xf, xg, xh, xF, xG, xH, xI, xJ, xK, xL, xM, xi, xj, xk, xl, xm, xn, xo, xp, Glob.isB, and_self, and_true, true_and, zX, yz, yA, zY, Option.map_some, List.length_cons, List.length_nil, Nat.reduceAdd, Nat.zero_add, yB, yC, yD, yE, yF, yG, zb, yK, xr, xv, z9, xt, xu, xq, yI, yH, z0, zw, zZ, z8, xw, zz, zx, xE, z4, ya, z3, z6, z1, yb, z7, zj, z5, zy, zi, zA, z2, yL, yJ, zk]⟩, rfl⟩
  · rintro i d ρ τ hd ⟨⟨r1, r2⟩, rfl⟩
    obtain ⟨rfl, hi⟩ := rangeP_get hd
    have hi' : i < rows.length := by omega
    refine ⟨_, rfl, ?_⟩
    have gx : (rows.map PV.str)[((i : Int)).toNat]? = some (.str (rows[i]'hi')) := by rw [List.getElem?_map, show ((i : Int)).toNat = i by omega, List.getElem?_eq_getElem hi']; rfl
    have hx := wide_row hg hi'
    have ob : ∀ c : Nat, c < (rows[i]'hi').length → onB rows i c = ((rows[i]'hi').cps.getD c 0 == 35) := fun c hc => by
      unfold onB
      have gd : rows.getD ((i : Int)).toNat ⟨#[]⟩ = rows[i]'hi' := by simp [List.getD, List.getElem?_eq_getElem hi']
      rw [if_pos ⟨by omega, by omega⟩, gd, if_pos ⟨by omega, by omega⟩]
      simp
    generalize rows[i]'hi' = x at *
    have lx : x.length ≤ sizeLine := by omega
    have sl := fun y => xj (a := (i : Int)) (old y) (by omega) (by rw [List.length_map]; omega) hlr
    simp only [gx] at sl
    refine out_cons (out_mono (out_for (R := R0)
      (for_rng (ds := rangeP 0 (wideOf rows : Int) 1) (vs := [.int (wideOf rows : Int)]) (σ₁ := σ ++ [dT (allPts f i (wideOf rows))]) (by (simp (disch := first | assumption | decide | omega) only [zB, yc, zC, yM, yd, zl, yN, ye, yf, zD, zE, zm, zn, zF, yg, zo, zG, yh, zH, yi, zI, yj, zc, zJ, zK, yk, yl, zd, ym, yO, xx, yn, yo, zL, yp, zM, zp, zq, ze, zN, yq, zO, yr, zr, zf, zP, yt, zg, yu, zQ, zh, zt, yP, xy, yQ, yR, zu, yS, decide_eq_true_eq, beq_iff_eq, zR, zS, za, String.reduceEq, ↓reduceIte, yv, Glob.val?, xz, yT, yU, yV, yW, yX, yY, xA, xB, xC, xD, yZ, y0, y5, y6, y7, y8, yw, yx, yy, y9, xc, xd, zT, zU, xe, zV, zW, xf, xg, xh, xF, xG, xH, xI, xJ, xK, xL, xM, xi, xj, xk, xl, xm, xn, xo, xp, Glob.isB, and_self, and_true, true_and, zX, yz, yA, zY, Option.map_some, List.length_cons, List.length_nil, Nat.reduceAdd, Nat.zero_add, yB, yC, yD, yE, yF, yG, zb, yK, xr, xv, z9, xt, xu, xq, yI, yH, z0, zw, zZ, z8, xw, zz, zx, xE, z4, ya, z3, z6, z1, yb, z7, zj, z5, zy, zi, zA, z2, yL, yJ, zk]) <;> rfl) ?_ (range1 (by omega) (by omega)))
      (fun j ρ τ => E ρ ∧ ρ (Str.ofString "_law_row") = some (.int i) ∧ τ = σ ++ [dT (allPts f i (wideOf rows) ++ rowPts f i j)]) ?_ ?_) ?_ fun _ _ h => h)
    · rw [← hx]
      (simp (disch := first | assumption | decide | omega) only [zB, yc, zC, yM, yd, zl, yN, ye, yf, zD, zE, zm, zn, zF, yg, zo, zG, yh, zH, yi, zI, yj, zc, zJ, zK, yk, yl, zd, ym, yO, xx, yn, yo, zL, yp, zM, zp, zq, ze, zN, yq, zO, yr, zr, zf, zP, yt, zg, yu, zQ, zh, zt, yP, xy, yQ, yR, zu, yS, decide_eq_true_eq, beq_iff_eq, zR, zS, za, String.reduceEq, ↓reduceIte, yv, Glob.val?, xz, yT, yU, yV, yW, yX, yY, xA, xB, xC, xD, yZ, y0, y5, y6, y7, y8, yw, yx, yy, y9, xc, xd, zT, zU, xe, zV, zW, xf, xg, xh, xF, xG, xH, xI, xJ, xK, xL, xM, xi, xj, xk, xl, xm, xn, xo, xp, Glob.isB, and_self, and_true, true_and, zX, yz, yA, zY, Option.map_some, List.length_cons, List.length_nil, Nat.reduceAdd, Nat.zero_add, yB, yC, yD, yE, yF, yG, zb, yK, xr, xv, z9, xt, xu, xq, yI, yH, z0, zw, zZ, z8, xw, zz, zx, xE, z4, ya, z3, z6, z1, yb, z7, zj, z5, zy, zi, zA, z2, yL, yJ, zk, r1, sl]) <;> rfl
    · refine ⟨⟨by simp (disch := first | assumption | decide | omega) only [zB, yc, zC, yM, yd, zl, yN, ye, yf, zD, zE, zm, zn, zF, yg, zo, zG, yh, zH, yi, zI, yj, zc, zJ, zK, yk, yl, zd, ym, yO, xx, yn, yo, zL, yp, zM, zp, zq, ze, zN, yq, zO, yr, zr, zf, zP, yt, zg, yu, zQ, zh, zt, yP, xy, yQ, yR, zu, yS, decide_eq_true_eq, beq_iff_eq, zR, zS, za, String.reduceEq, ↓reduceIte, yv, Glob.val?, xz, yT, yU, yV, yW, yX, yY, xA, xB, xC, xD, yZ, y0, y5, y6, y7, y8, yw, yx, yy, y9, xc, xd, zT, zU, xe, zV, zW, xf, xg, xh, xF, xG, xH, xI, xJ, xK, xL, xM, xi, xj, xk, xl, xm, xn, xo, xp, Glob.isB, and_self, and_true, true_and, zX, yz, yA, zY, Option.map_some, List.length_cons, List.length_nil, Nat.reduceAdd, Nat.zero_add, yB, yC, yD, yE, yF, yG, zb, yK, xr, xv, z9, xt, xu, xq, yI, yH, z0, zw, zZ, z8, xw, zz, zx, xE, z4, ya, z3, z6, z1, yb, z7, zj, z5, zy, zi, zA, z2, yL, yJ, zk, r1], by simp (disch := first | assumption | decide | omega) only [zB, yc, zC, yM, yd, zl, yN, ye, yf, zD, zE, zm, zn, zF, yg, zo, zG, yh, zH, yi, zI, yj, zc, zJ, zK, yk, yl, zd, ym, yO, xx, yn, yo, zL, yp, zM, zp, zq, ze, zN, yq, zO, yr, zr, zf, zP, yt, zg, yu, zQ, zh, zt, yP, xy, yQ, yR, zu, yS, decide_eq_true_eq, beq_iff_eq, zR, zS, za, String.reduceEq, ↓reduceIte, yv, Glob.val?, xz, yT, yU, yV, yW, yX, yY, xA, xB, xC, xD, yZ, y0, y5, y6, y7, y8, yw, yx, yy, y9, xc, xd, zT, zU, xe, zV, zW, xf, xg, xh, xF, xG, xH, xI, xJ, xK, xL, xM, xi, xj, xk, xl, xm, xn, xo, xp, Glob.isB, and_self, and_true, true_and, zX, yz, yA, zY, Option.map_some, List.length_cons, List.length_nil, Nat.reduceAdd, Nat.zero_add, yB, yC, yD, yE, yF, yG, zb, yK, xr, xv, z9, xt, xu, xq, yI, yH, z0, zw, zZ, z8, xw, zz, zx, xE, z4, ya, z3, z6, z1, yb, z7, zj, z5, zy, zi, zA, z2, yL, yJ, zk, r2]⟩, by simp (disch := first | assumption | decide | omega) only [zB, yc, zC, yM, yd, zl, yN, ye, yf, zD, zE, zm, zn, zF, yg, zo, zG, yh, zH, yi, zI, yj, zc, zJ, zK, yk, yl, zd, ym, yO, xx, yn, yo, zL, yp, zM, zp, zq, ze, zN, yq, zO, yr, zr, zf, zP, yt, zg, yu, zQ, zh, zt, yP, xy, yQ, yR, zu, yS, decide_eq_true_eq, beq_iff_eq, zR, zS, za, String.reduceEq, ↓reduceIte, yv, Glob.val?, xz, yT, yU, yV, yW, yX, yY, xA, xB, xC, xD, yZ, y0, y5, y6, y7, y8, yw, yx, yy, y9, xc, xd, zT, zU, xe, zV, zW, xf, xg, xh, xF, xG, xH, xI, xJ, xK, xL, xM, xi, xj, xk, xl, xm, xn, xo, xp, Glob.isB, and_self, and_true, true_and, zX, yz, yA, zY, Option.map_some, List.length_cons, List.length_nil, Nat.reduceAdd, Nat.zero_add, yB, yC, yD, yE, yF, yG, zb, yK, xr, xv, z9, xt, xu, xq, yI, yH, z0, zw, zZ, z8, xw, zz, zx, xE, z4, ya, z3, z6, z1, yb, z7, zj, z5, zy, zi, zA, z2, yL, yJ, zk], ?_⟩
      show _ = σ ++ [dT (_ ++ [])]; rw [List.append_nil]
    · rintro j d ρ τ hd ⟨⟨r1, r2⟩, r3, rfl⟩
      obtain ⟨rfl, hj⟩ := rangeP_get hd
      refine ⟨_, rfl, ?_⟩
      have hjx : j < x.length := by omega
      have hct : ((j : Int)).toNat < x.cps.size := by show ((j : Int)).toNat < x.length; omega
      have hval : ((x.cps[((j : Int)).toNat]'hct) == 35) = onB rows i j := by
        rw [ob j hjx]
        have : x.cps.getD j 0 = x.cps[((j : Int)).toNat]'hct := by simp [show j < x.cps.size from hjx]
        rw [this]
      have ss := xk (σ := σ ++ [dT (allPts f i (wideOf rows) ++ rowPts f i j)]) (x := x) (a := (j : Int)) (by omega) (by omega) lx
      simp only [Array.getElem?_eq_getElem hct, Option.map_some] at ss
      have hnot : ((i : Int), (j : Int)) ∉ allPts f i (wideOf rows) ++ rowPts f i j := by
        rw [List.mem_append, mem_allPts, mem_rowPts]
        rintro (⟨r, c, h1, h2, h3, _⟩ | ⟨c, h1, h3, _⟩)
        · have := (Prod.mk.inj h3).1; omega
        · have := (Prod.mk.inj h3).2; omega
      have hlen : (allPts f i (wideOf rows) ++ rowPts f i j).length ≤ sizeLine := by
        have h1 := allPts_len f (wideOf rows) i
        have h2 := rowPts_len f i j
        have h3 : i * wideOf rows ≤ 31 * 31 := Nat.mul_le_mul (by omega) (by omega)
        rw [List.length_append]; omega
      have sd := set_dU (get_append_new σ (dT (allPts f i (wideOf rows) ++ rowPts f i j))) ((i : Int), (j : Int)) true hlen
      rw [dT_put, set_append_new, if_neg hnot] at sd
      simp only [tup2] at sd
      refine out_cons (out_mono (out_if (K := fun ρ τ => E ρ ∧ ρ (Str.ofString "_law_row") = some (.int i) ∧ τ = σ ++ [dT (allPts f i (wideOf rows) ++ rowPts f i (j + 1))]) (R := R0) (c := (x.cps[((j : Int)).toNat]'hct) == 35) (σ₁ := σ ++ [dT (allPts f i (wideOf rows) ++ rowPts f i j)]) ?_ (fun hc => ?_) fun hc => ?_) (fun ρ τ h => out_nil h) fun _ _ h => h)
      · simp (disch := first | assumption | decide | omega) only [zB, yc, zC, yM, yd, zl, yN, ye, yf, zD, zE, zm, zn, zF, yg, zo, zG, yh, zH, yi, zI, yj, zc, zJ, zK, yk, yl, zd, ym, yO, xx, yn, yo, zL, yp, zM, zp, zq, ze, zN, yq, zO, yr, zr, zf, zP, yt, zg, yu, zQ, zh, zt, yP, xy, yQ, yR, zu, yS, decide_eq_true_eq, beq_iff_eq, zR, zS, za, String.reduceEq, ↓reduceIte, yv, Glob.val?, xz, yT, yU, yV, yW, yX, yY, xA, xB, xC, xD, yZ, y0, y5, y6, y7, y8, yw, yx, yy, y9, xc, xd, zT, zU, xe, zV, zW, xf, xg, xh, xF, xG, xH, xI, xJ, xK, xL, xM, xi, xj, xk, xl, xm, xn, xo, xp, Glob.isB, and_self, and_true, true_and, zX, yz, yA, zY, Option.map_some, List.length_cons, List.length_nil, Nat.reduceAdd, Nat.zero_add, yB, yC, yD, yE, yF, yG, zb, yK, xr, xv, z9, xt, xu, xq, yI, yH, z0, zw, zZ, z8, xw, zz, zx, xE, z4, ya, z3, z6, z1, yb, z7, zj, z5, zy, zi, zA, z2, yL, yJ, zk, r1, r3, sl, ss, str_hash]
      · rw [hval] at hc
        apply out_next
        · (simp (disch := first | assumption | decide | omega) only [zB, yc, zC, yM, yd, zl, yN, ye, yf, zD, zE, zm, zn, zF, yg, zo, zG, yh, zH, yi, zI, yj, zc, zJ, zK, yk, yl, zd, ym, yO, xx, yn, yo, zL, yp, zM, zp, zq, ze, zN, yq, zO, yr, zr, zf, zP, yt, zg, yu, zQ, zh, zt, yP, xy, yQ, yR, zu, yS, decide_eq_true_eq, beq_iff_eq, zR, zS, za, String.reduceEq, ↓reduceIte, yv, Glob.val?, xz, yT, yU, yV, yW, yX, yY, xA, xB, xC, xD, yZ, y0, y5, y6, y7, y8, yw, yx, yy, y9, xc, xd, zT, zU, xe, zV, zW, xf, xg, xh, xF, xG, xH, xI, xJ, xK, xL, xM, xi, xj, xk, xl, xm, xn, xo, xp, Glob.isB, and_self, and_true, true_and, zX, yz, yA, zY, Option.map_some, List.length_cons, List.length_nil, Nat.reduceAdd, Nat.zero_add, yB, yC, yD, yE, yF, yG, zb, yK, xr, xv, z9, xt, xu, xq, yI, yH, z0, zw, zZ, z8, xw, zz, zx, xE, z4, ya, z3, z6, z1, yb, z7, zj, z5, zy, zi, zA, z2, yL, yJ, zk, xs_sub, r2, r3, sd]) <;> rfl
        refine out_nil ⟨⟨by simp (disch := first | assumption | decide | omega) only [zB, yc, zC, yM, yd, zl, yN, ye, yf, zD, zE, zm, zn, zF, yg, zo, zG, yh, zH, yi, zI, yj, zc, zJ, zK, yk, yl, zd, ym, yO, xx, yn, yo, zL, yp, zM, zp, zq, ze, zN, yq, zO, yr, zr, zf, zP, yt, zg, yu, zQ, zh, zt, yP, xy, yQ, yR, zu, yS, decide_eq_true_eq, beq_iff_eq, zR, zS, za, String.reduceEq, ↓reduceIte, yv, Glob.val?, xz, yT, yU, yV, yW, yX, yY, xA, xB, xC, xD, yZ, y0, y5, y6, y7, y8, yw, yx, yy, y9, xc, xd, zT, zU, xe, zV, zW, xf, xg, xh, xF, xG, xH, xI, xJ, xK, xL, xM, xi, xj, xk, xl, xm, xn, xo, xp, Glob.isB, and_self, and_true, true_and, zX, yz, yA, zY, Option.map_some, List.length_cons, List.length_nil, Nat.reduceAdd, Nat.zero_add, yB, yC, yD, yE, yF, yG, zb, yK, xr, xv, z9, xt, xu, xq, yI, yH, z0, zw, zZ, z8, xw, zz, zx, xE, z4, ya, z3, z6, z1, yb, z7, zj, z5, zy, zi, zA, z2, yL, yJ, zk, r1], by simp (disch := first | assumption | decide | omega) only [zB, yc, zC, yM, yd, zl, yN, ye, yf, zD, zE, zm, zn, zF, yg, zo, zG, yh, zH, yi, zI, yj, zc, zJ, zK, yk, yl, zd, ym, yO, xx, yn, yo, zL, yp, zM, zp, zq, ze, zN, yq, zO, yr, zr, zf, zP, yt, zg, yu, zQ, zh, zt, yP, xy, yQ, yR, zu, yS, decide_eq_true_eq, beq_iff_eq, zR, zS, za, String.reduceEq, ↓reduceIte, yv, Glob.val?, xz, yT, yU, yV, yW, yX, yY, xA, xB, xC, xD, yZ, y0, y5, y6, y7, y8, yw, yx, yy, y9, xc, xd, zT, zU, xe, zV, zW, xf, xg, xh, xF, xG, xH, xI, xJ, xK, xL, xM, xi, xj, xk, xl, xm, xn, xo, xp, Glob.isB, and_self, and_true, true_and, zX, yz, yA, zY, Option.map_some, List.length_cons, List.length_nil, Nat.reduceAdd, Nat.zero_add, yB, yC, yD, yE, yF, yG, zb, yK, xr, xv, z9, xt, xu, xq, yI, yH, z0, zw, zZ, z8, xw, zz, zx, xE, z4, ya, z3, z6, z1, yb, z7, zj, z5, zy, zi, zA, z2, yL, yJ, zk, r2]⟩, by simp (disch := first | assumption | decide | omega) only [zB, yc, zC, yM, yd, zl, yN, ye, yf, zD, zE, zm, zn, zF, yg, zo, zG, yh, zH, yi, zI, yj, zc, zJ, zK, yk, yl, zd, ym, yO, xx, yn, yo, zL, yp, zM, zp, zq, ze, zN, yq, zO, yr, zr, zf, zP, yt, zg, yu, zQ, zh, zt, yP, xy, yQ, yR, zu, yS, decide_eq_true_eq, beq_iff_eq, zR, zS, za, String.reduceEq, ↓reduceIte, yv, Glob.val?, xz, yT, yU, yV, yW, yX, yY, xA, xB, xC, xD, yZ, y0, y5, y6, y7, y8, yw, yx, yy, y9, xc, xd, zT, zU, xe, zV, zW, xf, xg, xh, xF, xG, xH, xI, xJ, xK, xL, xM, xi, xj, xk, xl, xm, xn, xo, xp, Glob.isB, and_self, and_true, true_and, zX, yz, yA, zY, Option.map_some, List.length_cons, List.length_nil, Nat.reduceAdd, Nat.zero_add, yB, yC, yD, yE, yF, yG, zb, yK, xr, xv, z9, xt, xu, xq, yI, yH, z0, zw, zZ, z8, xw, zz, zx, xE, z4, ya, z3, z6, z1, yb, z7, zj, z5, zy, zi, zA, z2, yL, yJ, zk, r3], ?_⟩
        rw [rowPts_succ, if_pos hc, ← List.append_assoc]
      · rw [hval] at hc
        refine out_nil ⟨⟨by simp (disch := first | assumption | decide | omega) only [zB, yc, zC, yM, yd, zl, yN, ye, yf, zD, zE, zm, zn, zF, yg, zo, zG, yh, zH, yi, zI, yj, zc, zJ, zK, yk, yl, zd, ym, yO, xx, yn, yo, zL, yp, zM, zp, zq, ze, zN, yq, zO, yr, zr, zf, zP, yt, zg, yu, zQ, zh, zt, yP, xy, yQ, yR, zu, yS, decide_eq_true_eq, beq_iff_eq, zR, zS, za, String.reduceEq, ↓reduceIte, yv, Glob.val?, xz, yT, yU, yV, yW, yX, yY, xA, xB, xC, xD, yZ, y0, y5, y6, y7, y8, yw, yx, yy, y9, xc, xd, zT, zU, xe, zV, zW, xf, xg, xh, xF, xG, xH, xI, xJ, xK, xL, xM, xi, xj, xk, xl, xm, xn, xo, xp, Glob.isB, and_self, and_true, true_and, zX, yz, yA, zY, Option.map_some, List.length_cons, List.length_nil, Nat.reduceAdd, Nat.zero_add, yB, yC, yD, yE, yF, yG, zb, yK, xr, xv, z9, xt, xu, xq, yI, yH, z0, zw, zZ, z8, xw, zz, zx, xE, z4, ya, z3, z6, z1, yb, z7, zj, z5, zy, zi, zA, z2, yL, yJ, zk, r1], by simp (disch := first | assumption | decide | omega) only [zB, yc, zC, yM, yd, zl, yN, ye, yf, zD, zE, zm, zn, zF, yg, zo, zG, yh, zH, yi, zI, yj, zc, zJ, zK, yk, yl, zd, ym, yO, xx, yn, yo, zL, yp, zM, zp, zq, ze, zN, yq, zO, yr, zr, zf, zP, yt, zg, yu, zQ, zh, zt, yP, xy, yQ, yR, zu, yS, decide_eq_true_eq, beq_iff_eq, zR, zS, za, String.reduceEq, ↓reduceIte, yv, Glob.val?, xz, yT, yU, yV, yW, yX, yY, xA, xB, xC, xD, yZ, y0, y5, y6, y7, y8, yw, yx, yy, y9, xc, xd, zT, zU, xe, zV, zW, xf, xg, xh, xF, xG, xH, xI, xJ, xK, xL, xM, xi, xj, xk, xl, xm, xn, xo, xp, Glob.isB, and_self, and_true, true_and, zX, yz, yA, zY, Option.map_some, List.length_cons, List.length_nil, Nat.reduceAdd, Nat.zero_add, yB, yC, yD, yE, yF, yG, zb, yK, xr, xv, z9, xt, xu, xq, yI, yH, z0, zw, zZ, z8, xw, zz, zx, xE, z4, ya, z3, z6, z1, yb, z7, zj, z5, zy, zi, zA, z2, yL, yJ, zk, r2]⟩, by simp (disch := first | assumption | decide | omega) only [zB, yc, zC, yM, yd, zl, yN, ye, yf, zD, zE, zm, zn, zF, yg, zo, zG, yh, zH, yi, zI, yj, zc, zJ, zK, yk, yl, zd, ym, yO, xx, yn, yo, zL, yp, zM, zp, zq, ze, zN, yq, zO, yr, zr, zf, zP, yt, zg, yu, zQ, zh, zt, yP, xy, yQ, yR, zu, yS, decide_eq_true_eq, beq_iff_eq, zR, zS, za, String.reduceEq, ↓reduceIte, yv, Glob.val?, xz, yT, yU, yV, yW, yX, yY, xA, xB, xC, xD, yZ, y0, y5, y6, y7, y8, yw, yx, yy, y9, xc, xd, zT, zU, xe, zV, zW, xf, xg, xh, xF, xG, xH, xI, xJ, xK, xL, xM, xi, xj, xk, xl, xm, xn, xo, xp, Glob.isB, and_self, and_true, true_and, zX, yz, yA, zY, Option.map_some, List.length_cons, List.length_nil, Nat.reduceAdd, Nat.zero_add, yB, yC, yD, yE, yF, yG, zb, yK, xr, xv, z9, xt, xu, xq, yI, yH, z0, zw, zZ, z8, xw, zz, zx, xE, z4, ya, z3, z6, z1, yb, z7, zj, z5, zy, zi, zA, z2, yL, yJ, zk, r3], ?_⟩
        rw [rowPts_succ, if_neg (by show ¬ onB rows i j = true; rw [hc]; decide), List.append_nil]
    · rintro ρ τ ⟨h1, h2, h3⟩
      refine out_nil ⟨h1, ?_⟩
      rw [h3, rangeP_len, allPts_succ, show ((wideOf rows : Int)).toNat = wideOf rows by omega]
  rintro ρ τ ⟨⟨r1, r2⟩, h3⟩
  rw [rangeP_len, show ((rows.length : Int)).toNat = rows.length by omega] at h3
  have h3 : τ = σ ++ [dT (cellsL rows)] := h3
  subst h3
  generalize hKe : cellsL rows = K at *
  apply out_next
  · (simp (disch := first | assumption | decide | omega) only [zB, yc, zC, yM, yd, zl, yN, ye, yf, zD, zE, zm, zn, zF, yg, zo, zG, yh, zH, yi, zI, yj, zc, zJ, zK, yk, yl, zd, ym, yO, xx, yn, yo, zL, yp, zM, zp, zq, ze, zN, yq, zO, yr, zr, zf, zP, yt, zg, yu, zQ, zh, zt, yP, xy, yQ, yR, zu, yS, decide_eq_true_eq, beq_iff_eq, zR, zS, za, String.reduceEq, ↓reduceIte, yv, Glob.val?, xz, yT, yU, yV, yW, yX, yY, xA, xB, xC, xD, yZ, y0, y5, y6, y7, y8, yw, yx, yy, y9, xc, xd, zT, zU, xe, zV, zW, xf, xg, xh, xF, xG, xH, xI, xJ, xK, xL, xM, xi, xj, xk, xl, xm, xn, xo, xp, Glob.isB, and_self, and_true, true_and, zX, yz, yA, zY, Option.map_some, List.length_cons, List.length_nil, Nat.reduceAdd, Nat.zero_add, yB, yC, yD, yE, yF, yG, zb, yK, xr, xv, z9, xt, xu, xq, yI, yH, z0, zw, zZ, z8, xw, zz, zx, xE, z4, ya, z3, z6, z1, yb, z7, zj, z5, zy, zi, zA, z2, yL, yJ, zk]) <;> rfl
  have gK : (σ ++ [dT K])[σ.length]? = some (dT K) := get_append_new _ _
  refine out_cons (out_mono (out_for (R := R0) (for_lst (ds := K.map tup2) (σ₁ := σ ++ [dT K]) (by kernel_rfl) ?_)
    (fun i ρ τ => ρ (Str.ofString "_law_left") = some (.loc σ.length) ∧ ∃ (R : List IP) (u : IP → Bool) (ex : Store), τ = σ ++ dU K u :: ex ∧ ρ (Str.ofString "_law_many") = some (.int R.length) ∧ Vis K R u ∧ ∀ q ∈ K.take i, u q = false) ?_ ?_) ?_ fun _ _ h => h)
  · (simp (disch := first | assumption | decide | omega) only [zB, yc, zC, yM, yd, zl, yN, ye, yf, zD, zE, zm, zn, zF, yg, zo, zG, yh, zH, yi, zI, yj, zc, zJ, zK, yk, yl, zd, ym, yO, xx, yn, yo, zL, yp, zM, zp, zq, ze, zN, yq, zO, yr, zr, zf, zP, yt, zg, yu, zQ, zh, zt, yP, xy, yQ, yR, zu, yS, decide_eq_true_eq, beq_iff_eq, zR, zS, za, String.reduceEq, ↓reduceIte, yv, Glob.val?, xz, yT, yU, yV, yW, yX, yY, xA, xB, xC, xD, yZ, y0, y5, y6, y7, y8, yw, yx, yy, y9, xc, xd, zT, zU, xe, zV, zW, xf, xg, xh, xF, xG, xH, xI, xJ, xK, xL, xM, xi, xj, xk, xl, xm, xn, xo, xp, Glob.isB, and_self, and_true, true_and, zX, yz, yA, zY, Option.map_some, List.length_cons, List.length_nil, Nat.reduceAdd, Nat.zero_add, yB, yC, yD, yE, yF, yG, zb, yK, xr, xv, z9, xt, xu, xq, yI, yH, z0, zw, zZ, z8, xw, zz, zx, xE, z4, ya, z3, z6, z1, yb, z7, zj, z5, zy, zi, zA, z2, yL, yJ, zk, r2, k_listd gK (by omega)]) <;> rfl
  · refine ⟨by simp (disch := first | assumption | decide | omega) only [zB, yc, zC, yM, yd, zl, yN, ye, yf, zD, zE, zm, zn, zF, yg, zo, zG, yh, zH, yi, zI, yj, zc, zJ, zK, yk, yl, zd, ym, yO, xx, yn, yo, zL, yp, zM, zp, zq, ze, zN, yq, zO, yr, zr, zf, zP, yt, zg, yu, zQ, zh, zt, yP, xy, yQ, yR, zu, yS, decide_eq_true_eq, beq_iff_eq, zR, zS, za, String.reduceEq, ↓reduceIte, yv, Glob.val?, xz, yT, yU, yV, yW, yX, yY, xA, xB, xC, xD, yZ, y0, y5, y6, y7, y8, yw, yx, yy, y9, xc, xd, zT, zU, xe, zV, zW, xf, xg, xh, xF, xG, xH, xI, xJ, xK, xL, xM, xi, xj, xk, xl, xm, xn, xo, xp, Glob.isB, and_self, and_true, true_and, zX, yz, yA, zY, Option.map_some, List.length_cons, List.length_nil, Nat.reduceAdd, Nat.zero_add, yB, yC, yD, yE, yF, yG, zb, yK, xr, xv, z9, xt, xu, xq, yI, yH, z0, zw, zZ, z8, xw, zz, zx, xE, z4, ya, z3, z6, z1, yb, z7, zj, z5, zy, zi, zA, z2, yL, yJ, zk, r2], [], fun _ => true, [], rfl, by (simp (disch := first | assumption | decide | omega) only [zB, yc, zC, yM, yd, zl, yN, ye, yf, zD, zE, zm, zn, zF, yg, zo, zG, yh, zH, yi, zI, yj, zc, zJ, zK, yk, yl, zd, ym, yO, xx, yn, yo, zL, yp, zM, zp, zq, ze, zN, yq, zO, yr, zr, zf, zP, yt, zg, yu, zQ, zh, zt, yP, xy, yQ, yR, zu, yS, decide_eq_true_eq, beq_iff_eq, zR, zS, za, String.reduceEq, ↓reduceIte, yv, Glob.val?, xz, yT, yU, yV, yW, yX, yY, xA, xB, xC, xD, yZ, y0, y5, y6, y7, y8, yw, yx, yy, y9, xc, xd, zT, zU, xe, zV, zW, xf, xg, xh, xF, xG, xH, xI, xJ, xK, xL, xM, xi, xj, xk, xl, xm, xn, xo, xp, Glob.isB, and_self, and_true, true_and, zX, yz, yA, zY, Option.map_some, List.length_cons, List.length_nil, Nat.reduceAdd, Nat.zero_add, yB, yC, yD, yE, yF, yG, zb, yK, xr, xv, z9, xt, xu, xq, yI, yH, z0, zw, zZ, z8, xw, zz, zx, xE, z4, ya, z3, z6, z1, yb, z7, zj, z5, zy, zi, zA, z2, yL, yJ, zk]) <;> rfl, ⟨fun r hr => (by cases hr), fun q hq => ⟨fun h => (by cases h), fun ⟨r, hr, _⟩ => (by cases hr)⟩, .nil⟩, fun q hq => by simp at hq⟩
  · rintro i dv ρ τ hdv ⟨r2, R, u, ex, rfl, r4, vis, hdone⟩
    obtain ⟨p, hp, rfl⟩ : ∃ p, K[i]? = some p ∧ dv = tup2 p := by
      rw [List.getElem?_map] at hdv
      obtain ⟨w, h1, h2⟩ := Option.map_eq_some_iff.mp hdv
      exact ⟨w, h1, h2.symm⟩
    have hpK := List.mem_of_getElem? hp
    have htk : K.take (i + 1) = K.take i ++ [p] := by rw [List.take_add_one, hp]; rfl
    refine ⟨_, rfl, ?_⟩
    have sd := s_dict (σ := σ ++ dU K u :: ex) st_get hpK
    apply out_next
    · (simp (disch := first | assumption | decide | omega) only [zB, yc, zC, yM, yd, zl, yN, ye, yf, zD, zE, zm, zn, zF, yg, zo, zG, yh, zH, yi, zI, yj, zc, zJ, zK, yk, yl, zd, ym, yO, xx, yn, yo, zL, yp, zM, zp, zq, ze, zN, yq, zO, yr, zr, zf, zP, yt, zg, yu, zQ, zh, zt, yP, xy, yQ, yR, zu, yS, decide_eq_true_eq, beq_iff_eq, zR, zS, za, String.reduceEq, ↓reduceIte, yv, Glob.val?, xz, yT, yU, yV, yW, yX, yY, xA, xB, xC, xD, yZ, y0, y5, y6, y7, y8, yw, yx, yy, y9, xc, xd, zT, zU, xe, zV, zW, xf, xg, xh, xF, xG, xH, xI, xJ, xK, xL, xM, xi, xj, xk, xl, xm, xn, xo, xp, Glob.isB, and_self, and_true, true_and, zX, yz, yA, zY, Option.map_some, List.length_cons, List.length_nil, Nat.reduceAdd, Nat.zero_add, yB, yC, yD, yE, yF, yG, zb, yK, xr, xv, z9, xt, xu, xq, yI, yH, z0, zw, zZ, z8, xw, zz, zx, xE, z4, ya, z3, z6, z1, yb, z7, zj, z5, zy, zi, zA, z2, yL, yJ, zk, r2, r4, sd]) <;> rfl
    apply out_next
    · (simp (disch := first | assumption | decide | omega) only [zB, yc, zC, yM, yd, zl, yN, ye, yf, zD, zE, zm, zn, zF, yg, zo, zG, yh, zH, yi, zI, yj, zc, zJ, zK, yk, yl, zd, ym, yO, xx, yn, yo, zL, yp, zM, zp, zq, ze, zN, yq, zO, yr, zr, zf, zP, yt, zg, yu, zQ, zh, zt, yP, xy, yQ, yR, zu, yS, decide_eq_true_eq, beq_iff_eq, zR, zS, za, String.reduceEq, ↓reduceIte, yv, Glob.val?, xz, yT, yU, yV, yW, yX, yY, xA, xB, xC, xD, yZ, y0, y5, y6, y7, y8, yw, yx, yy, y9, xc, xd, zT, zU, xe, zV, zW, xf, xg, xh, xF, xG, xH, xI, xJ, xK, xL, xM, xi, xj, xk, xl, xm, xn, xo, xp, Glob.isB, and_self, and_true, true_and, zX, yz, yA, zY, Option.map_some, List.length_cons, List.length_nil, Nat.reduceAdd, Nat.zero_add, yB, yC, yD, yE, yF, yG, zb, yK, xr, xv, z9, xt, xu, xq, yI, yH, z0, zw, zZ, z8, xw, zz, zx, xE, z4, ya, z3, z6, z1, yb, z7, zj, z5, zy, zi, zA, z2, yL, yJ, zk]) <;> rfl
    have e0 : σ ++ dU K u :: ex ++ [PO.list [tup2 p]] = S3 σ (dU K u) ex (.list ([p].map tup2)) := by unfold S3; simp
    rw [e0]
    have hcnt : (K.filter u).length ≤ 900 := Nat.le_trans (List.length_filter_le _ _) hKl
    let J : Locals → Prop := fun ρ => ρ (Str.ofString "_law_left") = some (.loc σ.length) ∧ ρ (Str.ofString "_law_waiting") = some (.loc (σ ++ dU K u :: ex).length) ∧ ρ (Str.ofString "_law_many") = some (.int ((R.length : Int) + if u p then 1 else 0))
    refine out_cons (out_mono (out_while (R := R0) (K := fun ρ τ => J ρ ∧ ∃ v, τ = S3 σ (dU K v) ex (.list []) ∧ Dfs K u p v [])
      (fun m ρ τ => J ρ ∧ ∃ (v : IP → Bool) (Wk : List IP), τ = S3 σ (dU K v) ex (.list (Wk.map tup2)) ∧ Dfs K u p v Wk ∧ 5 * (K.filter v).length + Wk.length ≤ m ∧ m ≤ 4501) (5 * (K.filter u).length + 1) ?_ (by omega) ?_) ?_ fun _ _ h => h)
    · refine ⟨⟨by simp (disch := first | assumption | decide | omega) only [zB, yc, zC, yM, yd, zl, yN, ye, yf, zD, zE, zm, zn, zF, yg, zo, zG, yh, zH, yi, zI, yj, zc, zJ, zK, yk, yl, zd, ym, yO, xx, yn, yo, zL, yp, zM, zp, zq, ze, zN, yq, zO, yr, zr, zf, zP, yt, zg, yu, zQ, zh, zt, yP, xy, yQ, yR, zu, yS, decide_eq_true_eq, beq_iff_eq, zR, zS, za, String.reduceEq, ↓reduceIte, yv, Glob.val?, xz, yT, yU, yV, yW, yX, yY, xA, xB, xC, xD, yZ, y0, y5, y6, y7, y8, yw, yx, yy, y9, xc, xd, zT, zU, xe, zV, zW, xf, xg, xh, xF, xG, xH, xI, xJ, xK, xL, xM, xi, xj, xk, xl, xm, xn, xo, xp, Glob.isB, and_self, and_true, true_and, zX, yz, yA, zY, Option.map_some, List.length_cons, List.length_nil, Nat.reduceAdd, Nat.zero_add, yB, yC, yD, yE, yF, yG, zb, yK, xr, xv, z9, xt, xu, xq, yI, yH, z0, zw, zZ, z8, xw, zz, zx, xE, z4, ya, z3, z6, z1, yb, z7, zj, z5, zy, zi, zA, z2, yL, yJ, zk, r2], by simp (disch := first | assumption | decide | omega) only [zB, yc, zC, yM, yd, zl, yN, ye, yf, zD, zE, zm, zn, zF, yg, zo, zG, yh, zH, yi, zI, yj, zc, zJ, zK, yk, yl, zd, ym, yO, xx, yn, yo, zL, yp, zM, zp, zq, ze, zN, yq, zO, yr, zr, zf, zP, yt, zg, yu, zQ, zh, zt, yP, xy, yQ, yR, zu, yS, decide_eq_true_eq, beq_iff_eq, zR, zS, za, String.reduceEq, ↓reduceIte, yv, Glob.val?, xz, yT, yU, yV, yW, yX, yY, xA, xB, xC, xD, yZ, y0, y5, y6, y7, y8, yw, yx, yy, y9, xc, xd, zT, zU, xe, zV, zW, xf, xg, xh, xF, xG, xH, xI, xJ, xK, xL, xM, xi, xj, xk, xl, xm, xn, xo, xp, Glob.isB, and_self, and_true, true_and, zX, yz, yA, zY, Option.map_some, List.length_cons, List.length_nil, Nat.reduceAdd, Nat.zero_add, yB, yC, yD, yE, yF, yG, zb, yK, xr, xv, z9, xt, xu, xq, yI, yH, z0, zw, zZ, z8, xw, zz, zx, xE, z4, ya, z3, z6, z1, yb, z7, zj, z5, zy, zi, zA, z2, yL, yJ, zk], by simp (disch := first | assumption | decide | omega) only [zB, yc, zC, yM, yd, zl, yN, ye, yf, zD, zE, zm, zn, zF, yg, zo, zG, yh, zH, yi, zI, yj, zc, zJ, zK, yk, yl, zd, ym, yO, xx, yn, yo, zL, yp, zM, zp, zq, ze, zN, yq, zO, yr, zr, zf, zP, yt, zg, yu, zQ, zh, zt, yP, xy, yQ, yR, zu, yS, decide_eq_true_eq, beq_iff_eq, zR, zS, za, String.reduceEq, ↓reduceIte, yv, Glob.val?, xz, yT, yU, yV, yW, yX, yY, xA, xB, xC, xD, yZ, y0, y5, y6, y7, y8, yw, yx, yy, y9, xc, xd, zT, zU, xe, zV, zW, xf, xg, xh, xF, xG, xH, xI, xJ, xK, xL, xM, xi, xj, xk, xl, xm, xn, xo, xp, Glob.isB, and_self, and_true, true_and, zX, yz, yA, zY, Option.map_some, List.length_cons, List.length_nil, Nat.reduceAdd, Nat.zero_add, yB, yC, yD, yE, yF, yG, zb, yK, xr, xv, z9, xt, xu, xq, yI, yH, z0, zw, zZ, z8, xw, zz, zx, xE, z4, ya, z3, z6, z1, yb, z7, zj, z5, zy, zi, zA, z2, yL, yJ, zk]⟩, u, [p], rfl, ⟨fun _ h => h, fun q _ h1 h2 => ?_, fun q hq _ => ?_, fun q _ h1 h2 => ?_, .inr (.head _)⟩, by simp, by omega⟩
      · rw [h1] at h2; cases h2
      · rw [List.mem_singleton.mp hq]; exact .refl _
      · rw [h1] at h2; cases h2
    · rintro m ρ τ ⟨⟨j1, j2, j3⟩, v, Wk, rfl, dfs, hm, hm2⟩
      have lm : (σ ++ dU K u :: ex).length = (σ ++ dU K v :: ex).length := by simp
      have gn := s3_getn (σ := σ) (y := dU K v) (ex := ex) (x := .list (Wk.map tup2))
      rw [← lm] at gn
      have cn := c_nepts gn
      refine ⟨!Wk.isEmpty, S3 σ (dU K v) ex (.list (Wk.map tup2)), ?_, fun hb => ?_, fun hb => ?_⟩
      · simp (disch := first | assumption | decide | omega) only [zB, yc, zC, yM, yd, zl, yN, ye, yf, zD, zE, zm, zn, zF, yg, zo, zG, yh, zH, yi, zI, yj, zc, zJ, zK, yk, yl, zd, ym, yO, xx, yn, yo, zL, yp, zM, zp, zq, ze, zN, yq, zO, yr, zr, zf, zP, yt, zg, yu, zQ, zh, zt, yP, xy, yQ, yR, zu, yS, decide_eq_true_eq, beq_iff_eq, zR, zS, za, String.reduceEq, ↓reduceIte, yv, Glob.val?, xz, yT, yU, yV, yW, yX, yY, xA, xB, xC, xD, yZ, y0, y5, y6, y7, y8, yw, yx, yy, y9, xc, xd, zT, zU, xe, zV, zW, xf, xg, xh, xF, xG, xH, xI, xJ, xK, xL, xM, xi, xj, xk, xl, xm, xn, xo, xp, Glob.isB, and_self, and_true, true_and, zX, yz, yA, zY, Option.map_some, List.length_cons, List.length_nil, Nat.reduceAdd, Nat.zero_add, yB, yC, yD, yE, yF, yG, zb, yK, xr, xv, z9, xt, xu, xq, yI, yH, z0, zw, zZ, z8, xw, zz, zx, xE, z4, ya, z3, z6, z1, yb, z7, zj, z5, zy, zi, zA, z2, yL, yJ, zk, j2, cn]
      · have : Wk = [] := by simpa using hb
        subst this
        exact ⟨⟨j1, j2, j3⟩, v, rfl, dfs⟩
      · have hne : Wk ≠ [] := by simpa using hb
        obtain ⟨Wk', h, rfl⟩ : ∃ Wk' h, Wk = Wk' ++ [h] := ⟨Wk.dropLast, Wk.getLast hne, (List.dropLast_concat_getLast hne).symm⟩
        simp only [List.length_append, List.length_cons, List.length_nil] at hm
        obtain ⟨hr, hc'⟩ := h
        have mp := m_pop gn (by omega)
        rw [lm, s3_setn, ← lm] at mp
        simp only [tup2] at mp
        have gd := s3_getd (σ := σ) (y := dU K v) (ex := ex) (x := .list (Wk'.map tup2))
        have mg := m_dget gd (hr, hc')
        simp only [tup2] at mg
        apply out_next
        · (simp (disch := first | assumption | decide | omega) only [zB, yc, zC, yM, yd, zl, yN, ye, yf, zD, zE, zm, zn, zF, yg, zo, zG, yh, zH, yi, zI, yj, zc, zJ, zK, yk, yl, zd, ym, yO, xx, yn, yo, zL, yp, zM, zp, zq, ze, zN, yq, zO, yr, zr, zf, zP, yt, zg, yu, zQ, zh, zt, yP, xy, yQ, yR, zu, yS, decide_eq_true_eq, beq_iff_eq, zR, zS, za, String.reduceEq, ↓reduceIte, yv, Glob.val?, xz, yT, yU, yV, yW, yX, yY, xA, xB, xC, xD, yZ, y0, y5, y6, y7, y8, yw, yx, yy, y9, xc, xd, zT, zU, xe, zV, zW, xf, xg, xh, xF, xG, xH, xI, xJ, xK, xL, xM, xi, xj, xk, xl, xm, xn, xo, xp, Glob.isB, and_self, and_true, true_and, zX, yz, yA, zY, Option.map_some, List.length_cons, List.length_nil, Nat.reduceAdd, Nat.zero_add, yB, yC, yD, yE, yF, yG, zb, yK, xr, xv, z9, xt, xu, xq, yI, yH, z0, zw, zZ, z8, xw, zz, zx, xE, z4, ya, z3, z6, z1, yb, z7, zj, z5, zy, zi, zA, z2, yL, yJ, zk, j2, xm gn, mp]) <;> rfl
        refine out_cons (out_mono (out_if (K := fun ρ τ => ∃ m', m' < m ∧ J ρ ∧ ∃ (v : IP → Bool) (Wk : List IP), τ = S3 σ (dU K v) ex (.list (Wk.map tup2)) ∧ Dfs K u p v Wk ∧ 5 * (K.filter v).length + Wk.length ≤ m' ∧ m' ≤ 4501) (R := R0)
          (c := decide ((hr, hc') ∈ K) && v (hr, hc')) (σ₁ := S3 σ (dU K v) ex (.list (Wk'.map tup2))) ?_ (fun hc => ?_) fun hc => ?_) (fun ρ τ h => out_nil h) fun _ _ h => h)
        · simp (disch := first | assumption | decide | omega) only [zB, yc, zC, yM, yd, zl, yN, ye, yf, zD, zE, zm, zn, zF, yg, zo, zG, yh, zH, yi, zI, yj, zc, zJ, zK, yk, yl, zd, ym, yO, xx, yn, yo, zL, yp, zM, zp, zq, ze, zN, yq, zO, yr, zr, zf, zP, yt, zg, yu, zQ, zh, zt, yP, xy, yQ, yR, zu, yS, decide_eq_true_eq, beq_iff_eq, zR, zS, za, String.reduceEq, ↓reduceIte, yv, Glob.val?, xz, yT, yU, yV, yW, yX, yY, xA, xB, xC, xD, yZ, y0, y5, y6, y7, y8, yw, yx, yy, y9, xc, xd, zT, zU, xe, zV, zW, xf, xg, xh, xF, xG, xH, xI, xJ, xK, xL, xM, xi, xj, xk, xl, xm, xn, xo, xp, Glob.isB, and_self, and_true, true_and, zX, yz, yA, zY, Option.map_some, List.length_cons, List.length_nil, Nat.reduceAdd, Nat.zero_add, yB, yC, yD, yE, yF, yG, zb, yK, xr, xv, z9, xt, xu, xq, yI, yH, z0, zw, zZ, z8, xw, zz, zx, xE, z4, ya, z3, z6, z1, yb, z7, zj, z5, zy, zi, zA, z2, yL, yJ, zk, j1, r_dict gd, mg]
        · rw [Bool.and_eq_true, decide_eq_true_eq] at hc
          obtain ⟨hK, hv⟩ := hc
          have sd2 := set_dU gd (hr, hc') false (by omega)
          rw [if_pos hK, s3_setd] at sd2
          simp only [tup2] at sd2
          have cl := count_less hK hv
          have dfs2 := dfs.push hK hv
          apply out_next
          · (simp (disch := first | assumption | decide | omega) only [zB, yc, zC, yM, yd, zl, yN, ye, yf, zD, zE, zm, zn, zF, yg, zo, zG, yh, zH, yi, zI, yj, zc, zJ, zK, yk, yl, zd, ym, yO, xx, yn, yo, zL, yp, zM, zp, zq, ze, zN, yq, zO, yr, zr, zf, zP, yt, zg, yu, zQ, zh, zt, yP, xy, yQ, yR, zu, yS, decide_eq_true_eq, beq_iff_eq, zR, zS, za, String.reduceEq, ↓reduceIte, yv, Glob.val?, xz, yT, yU, yV, yW, yX, yY, xA, xB, xC, xD, yZ, y0, y5, y6, y7, y8, yw, yx, yy, y9, xc, xd, zT, zU, xe, zV, zW, xf, xg, xh, xF, xG, xH, xI, xJ, xK, xL, xM, xi, xj, xk, xl, xm, xn, xo, xp, Glob.isB, and_self, and_true, true_and, zX, yz, yA, zY, Option.map_some, List.length_cons, List.length_nil, Nat.reduceAdd, Nat.zero_add, yB, yC, yD, yE, yF, yG, zb, yK, xr, xv, z9, xt, xu, xq, yI, yH, z0, zw, zZ, z8, xw, zz, zx, xE, z4, ya, z3, z6, z1, yb, z7, zj, z5, zy, zi, zA, z2, yL, yJ, zk, xs_sub, j1, sd2]) <;> rfl
          generalize hv' : (fun q => if q = (hr, hc') then false else v q) = v' at *
          refine out_cons (out_mono (out_for (R := R0) (for_lst (ds := ways4.map tup2) (σ₁ := S3 σ (dU K v') ex (.list (Wk'.map tup2))) rfl ?_)
            (fun i ρ τ => J ρ ∧ ρ (Str.ofString "_law_here") = some (.tup [.int hr, .int hc']) ∧ i ≤ 4 ∧ τ = S3 σ (dU K v') ex (.list ((Wk' ++ (ways4.take i).map (addP (hr, hc'))).map tup2))) ?_ ?_) ?_ fun _ _ h => h)
          · (simp (disch := first | assumption | decide | omega) only [zB, yc, zC, yM, yd, zl, yN, ye, yf, zD, zE, zm, zn, zF, yg, zo, zG, yh, zH, yi, zI, yj, zc, zJ, zK, yk, yl, zd, ym, yO, xx, yn, yo, zL, yp, zM, zp, zq, ze, zN, yq, zO, yr, zr, zf, zP, yt, zg, yu, zQ, zh, zt, yP, xy, yQ, yR, zu, yS, decide_eq_true_eq, beq_iff_eq, zR, zS, za, String.reduceEq, ↓reduceIte, yv, Glob.val?, xz, yT, yU, yV, yW, yX, yY, xA, xB, xC, xD, yZ, y0, y5, y6, y7, y8, yw, yx, yy, y9, xc, xd, zT, zU, xe, zV, zW, xf, xg, xh, xF, xG, xH, xI, xJ, xK, xL, xM, xi, xj, xk, xl, xm, xn, xo, xp, Glob.isB, and_self, and_true, true_and, zX, yz, yA, zY, Option.map_some, List.length_cons, List.length_nil, Nat.reduceAdd, Nat.zero_add, yB, yC, yD, yE, yF, yG, zb, yK, xr, xv, z9, xt, xu, xq, yI, yH, z0, zw, zZ, z8, xw, zz, zx, xE, z4, ya, z3, z6, z1, yb, z7, zj, z5, zy, zi, zA, z2, yL, yJ, zk]) <;> rfl
          · refine ⟨⟨by simp (disch := first | assumption | decide | omega) only [zB, yc, zC, yM, yd, zl, yN, ye, yf, zD, zE, zm, zn, zF, yg, zo, zG, yh, zH, yi, zI, yj, zc, zJ, zK, yk, yl, zd, ym, yO, xx, yn, yo, zL, yp, zM, zp, zq, ze, zN, yq, zO, yr, zr, zf, zP, yt, zg, yu, zQ, zh, zt, yP, xy, yQ, yR, zu, yS, decide_eq_true_eq, beq_iff_eq, zR, zS, za, String.reduceEq, ↓reduceIte, yv, Glob.val?, xz, yT, yU, yV, yW, yX, yY, xA, xB, xC, xD, yZ, y0, y5, y6, y7, y8, yw, yx, yy, y9, xc, xd, zT, zU, xe, zV, zW, xf, xg, xh, xF, xG, xH, xI, xJ, xK, xL, xM, xi, xj, xk, xl, xm, xn, xo, xp, Glob.isB, and_self, and_true, true_and, zX, yz, yA, zY, Option.map_some, List.length_cons, List.length_nil, Nat.reduceAdd, Nat.zero_add, yB, yC, yD, yE, yF, yG, zb, yK, xr, xv, z9, xt, xu, xq, yI, yH, z0, zw, zZ, z8, xw, zz, zx, xE, z4, ya, z3, z6, z1, yb, z7, zj, z5, zy, zi, zA, z2, yL, yJ, zk, j1], by simp (disch := first | assumption | decide | omega) only [zB, yc, zC, yM, yd, zl, yN, ye, yf, zD, zE, zm, zn, zF, yg, zo, zG, yh, zH, yi, zI, yj, zc, zJ, zK, yk, yl, zd, ym, yO, xx, yn, yo, zL, yp, zM, zp, zq, ze, zN, yq, zO, yr, zr, zf, zP, yt, zg, yu, zQ, zh, zt, yP, xy, yQ, yR, zu, yS, decide_eq_true_eq, beq_iff_eq, zR, zS, za, String.reduceEq, ↓reduceIte, yv, Glob.val?, xz, yT, yU, yV, yW, yX, yY, xA, xB, xC, xD, yZ, y0, y5, y6, y7, y8, yw, yx, yy, y9, xc, xd, zT, zU, xe, zV, zW, xf, xg, xh, xF, xG, xH, xI, xJ, xK, xL, xM, xi, xj, xk, xl, xm, xn, xo, xp, Glob.isB, and_self, and_true, true_and, zX, yz, yA, zY, Option.map_some, List.length_cons, List.length_nil, Nat.reduceAdd, Nat.zero_add, yB, yC, yD, yE, yF, yG, zb, yK, xr, xv, z9, xt, xu, xq, yI, yH, z0, zw, zZ, z8, xw, zz, zx, xE, z4, ya, z3, z6, z1, yb, z7, zj, z5, zy, zi, zA, z2, yL, yJ, zk, j2], by simp (disch := first | assumption | decide | omega) only [zB, yc, zC, yM, yd, zl, yN, ye, yf, zD, zE, zm, zn, zF, yg, zo, zG, yh, zH, yi, zI, yj, zc, zJ, zK, yk, yl, zd, ym, yO, xx, yn, yo, zL, yp, zM, zp, zq, ze, zN, yq, zO, yr, zr, zf, zP, yt, zg, yu, zQ, zh, zt, yP, xy, yQ, yR, zu, yS, decide_eq_true_eq, beq_iff_eq, zR, zS, za, String.reduceEq, ↓reduceIte, yv, Glob.val?, xz, yT, yU, yV, yW, yX, yY, xA, xB, xC, xD, yZ, y0, y5, y6, y7, y8, yw, yx, yy, y9, xc, xd, zT, zU, xe, zV, zW, xf, xg, xh, xF, xG, xH, xI, xJ, xK, xL, xM, xi, xj, xk, xl, xm, xn, xo, xp, Glob.isB, and_self, and_true, true_and, zX, yz, yA, zY, Option.map_some, List.length_cons, List.length_nil, Nat.reduceAdd, Nat.zero_add, yB, yC, yD, yE, yF, yG, zb, yK, xr, xv, z9, xt, xu, xq, yI, yH, z0, zw, zZ, z8, xw, zz, zx, xE, z4, ya, z3, z6, z1, yb, z7, zj, z5, zy, zi, zA, z2, yL, yJ, zk, j3]⟩, by simp (disch := first | assumption | decide | omega) only [zB, yc, zC, yM, yd, zl, yN, ye, yf, zD, zE, zm, zn, zF, yg, zo, zG, yh, zH, yi, zI, yj, zc, zJ, zK, yk, yl, zd, ym, yO, xx, yn, yo, zL, yp, zM, zp, zq, ze, zN, yq, zO, yr, zr, zf, zP, yt, zg, yu, zQ, zh, zt, yP, xy, yQ, yR, zu, yS, decide_eq_true_eq, beq_iff_eq, zR, zS, za, String.reduceEq, ↓reduceIte, yv, Glob.val?, xz, yT, yU, yV, yW, yX, yY, xA, xB, xC, xD, yZ, y0, y5, y6, y7, y8, yw, yx, yy, y9, xc, xd, zT, zU, xe, zV, zW, xf, xg, xh, xF, xG, xH, xI, xJ, xK, xL, xM, xi, xj, xk, xl, xm, xn, xo, xp, Glob.isB, and_self, and_true, true_and, zX, yz, yA, zY, Option.map_some, List.length_cons, List.length_nil, Nat.reduceAdd, Nat.zero_add, yB, yC, yD, yE, yF, yG, zb, yK, xr, xv, z9, xt, xu, xq, yI, yH, z0, zw, zZ, z8, xw, zz, zx, xE, z4, ya, z3, z6, z1, yb, z7, zj, z5, zy, zi, zA, z2, yL, yJ, zk], by omega, ?_⟩
            show _ = S3 σ (dU K v') ex (.list ((Wk' ++ []).map tup2)); rw [List.append_nil]
          · rintro i dv ρ τ hdv ⟨⟨j1, j2, j3⟩, j4, hi4, rfl⟩
            obtain ⟨⟨wr, wc⟩, hwi, rfl⟩ : ∃ w, ways4[i]? = some w ∧ dv = tup2 w := by
              rw [List.getElem?_map] at hdv
              obtain ⟨w, h1, h2⟩ := Option.map_eq_some_iff.mp hdv
              exact ⟨w, h1, h2.symm⟩
            have hi : i < 4 := (List.getElem?_eq_some_iff.mp hwi).1
            refine ⟨_, rfl, ?_⟩
            have lm2 : (σ ++ dU K u :: ex).length = (σ ++ dU K v' :: ex).length := by simp
            have gn2 := s3_getn (σ := σ) (y := dU K v') (ex := ex) (x := .list ((Wk' ++ (ways4.take i).map (addP (hr, hc'))).map tup2))
            rw [← lm2] at gn2
            have ma := xl (d := .tup [.int (hr + wr), .int (hc' + wc)]) gn2 (by simp only [List.length_map, List.length_append, List.length_take]; omega)
            rw [lm2, s3_setn, ← lm2] at ma
            apply out_next
            · (simp (disch := first | assumption | decide | omega) only [zB, yc, zC, yM, yd, zl, yN, ye, yf, zD, zE, zm, zn, zF, yg, zo, zG, yh, zH, yi, zI, yj, zc, zJ, zK, yk, yl, zd, ym, yO, xx, yn, yo, zL, yp, zM, zp, zq, ze, zN, yq, zO, yr, zr, zf, zP, yt, zg, yu, zQ, zh, zt, yP, xy, yQ, yR, zu, yS, decide_eq_true_eq, beq_iff_eq, zR, zS, za, String.reduceEq, ↓reduceIte, yv, Glob.val?, xz, yT, yU, yV, yW, yX, yY, xA, xB, xC, xD, yZ, y0, y5, y6, y7, y8, yw, yx, yy, y9, xc, xd, zT, zU, xe, zV, zW, xf, xg, xh, xF, xG, xH, xI, xJ, xK, xL, xM, xi, xj, xk, xl, xm, xn, xo, xp, Glob.isB, and_self, and_true, true_and, zX, yz, yA, zY, Option.map_some, List.length_cons, List.length_nil, Nat.reduceAdd, Nat.zero_add, yB, yC, yD, yE, yF, yG, zb, yK, xr, xv, z9, xt, xu, xq, yI, yH, z0, zw, zZ, z8, xw, zz, zx, xE, z4, ya, z3, z6, z1, yb, z7, zj, z5, zy, zi, zA, z2, yL, yJ, zk, j2, j4, tup2, xm gn2, ma]) <;> rfl
            refine out_nil ⟨⟨by simp (disch := first | assumption | decide | omega) only [zB, yc, zC, yM, yd, zl, yN, ye, yf, zD, zE, zm, zn, zF, yg, zo, zG, yh, zH, yi, zI, yj, zc, zJ, zK, yk, yl, zd, ym, yO, xx, yn, yo, zL, yp, zM, zp, zq, ze, zN, yq, zO, yr, zr, zf, zP, yt, zg, yu, zQ, zh, zt, yP, xy, yQ, yR, zu, yS, decide_eq_true_eq, beq_iff_eq, zR, zS, za, String.reduceEq, ↓reduceIte, yv, Glob.val?, xz, yT, yU, yV, yW, yX, yY, xA, xB, xC, xD, yZ, y0, y5, y6, y7, y8, yw, yx, yy, y9, xc, xd, zT, zU, xe, zV, zW, xf, xg, xh, xF, xG, xH, xI, xJ, xK, xL, xM, xi, xj, xk, xl, xm, xn, xo, xp, Glob.isB, and_self, and_true, true_and, zX, yz, yA, zY, Option.map_some, List.length_cons, List.length_nil, Nat.reduceAdd, Nat.zero_add, yB, yC, yD, yE, yF, yG, zb, yK, xr, xv, z9, xt, xu, xq, yI, yH, z0, zw, zZ, z8, xw, zz, zx, xE, z4, ya, z3, z6, z1, yb, z7, zj, z5, zy, zi, zA, z2, yL, yJ, zk, j1], by simp (disch := first | assumption | decide | omega) only [zB, yc, zC, yM, yd, zl, yN, ye, yf, zD, zE, zm, zn, zF, yg, zo, zG, yh, zH, yi, zI, yj, zc, zJ, zK, yk, yl, zd, ym, yO, xx, yn, yo, zL, yp, zM, zp, zq, ze, zN, yq, zO, yr, zr, zf, zP, yt, zg, yu, zQ, zh, zt, yP, xy, yQ, yR, zu, yS, decide_eq_true_eq, beq_iff_eq, zR, zS, za, String.reduceEq, ↓reduceIte, yv, Glob.val?, xz, yT, yU, yV, yW, yX, yY, xA, xB, xC, xD, yZ, y0, y5, y6, y7, y8, yw, yx, yy, y9, xc, xd, zT, zU, xe, zV, zW, xf, xg, xh, xF, xG, xH, xI, xJ, xK, xL, xM, xi, xj, xk, xl, xm, xn, xo, xp, Glob.isB, and_self, and_true, true_and, zX, yz, yA, zY, Option.map_some, List.length_cons, List.length_nil, Nat.reduceAdd, Nat.zero_add, yB, yC, yD, yE, yF, yG, zb, yK, xr, xv, z9, xt, xu, xq, yI, yH, z0, zw, zZ, z8, xw, zz, zx, xE, z4, ya, z3, z6, z1, yb, z7, zj, z5, zy, zi, zA, z2, yL, yJ, zk, j2], by simp (disch := first | assumption | decide | omega) only [zB, yc, zC, yM, yd, zl, yN, ye, yf, zD, zE, zm, zn, zF, yg, zo, zG, yh, zH, yi, zI, yj, zc, zJ, zK, yk, yl, zd, ym, yO, xx, yn, yo, zL, yp, zM, zp, zq, ze, zN, yq, zO, yr, zr, zf, zP, yt, zg, yu, zQ, zh, zt, yP, xy, yQ, yR, zu, yS, decide_eq_true_eq, beq_iff_eq, zR, zS, za, String.reduceEq, ↓reduceIte, yv, Glob.val?, xz, yT, yU, yV, yW, yX, yY, xA, xB, xC, xD, yZ, y0, y5, y6, y7, y8, yw, yx, yy, y9, xc, xd, zT, zU, xe, zV, zW, xf, xg, xh, xF, xG, xH, xI, xJ, xK, xL, xM, xi, xj, xk, xl, xm, xn, xo, xp, Glob.isB, and_self, and_true, true_and, zX, yz, yA, zY, Option.map_some, List.length_cons, List.length_nil, Nat.reduceAdd, Nat.zero_add, yB, yC, yD, yE, yF, yG, zb, yK, xr, xv, z9, xt, xu, xq, yI, yH, z0, zw, zZ, z8, xw, zz, zx, xE, z4, ya, z3, z6, z1, yb, z7, zj, z5, zy, zi, zA, z2, yL, yJ, zk, j3]⟩, by simp (disch := first | assumption | decide | omega) only [zB, yc, zC, yM, yd, zl, yN, ye, yf, zD, zE, zm, zn, zF, yg, zo, zG, yh, zH, yi, zI, yj, zc, zJ, zK, yk, yl, zd, ym, yO, xx, yn, yo, zL, yp, zM, zp, zq, ze, zN, yq, zO, yr, zr, zf, zP, yt, zg, yu, zQ, zh, zt, yP, xy, yQ, yR, zu, yS, decide_eq_true_eq, beq_iff_eq, zR, zS, za, String.reduceEq, ↓reduceIte, yv, Glob.val?, xz, yT, yU, yV, yW, yX, yY, xA, xB, xC, xD, yZ, y0, y5, y6, y7, y8, yw, yx, yy, y9, xc, xd, zT, zU, xe, zV, zW, xf, xg, xh, xF, xG, xH, xI, xJ, xK, xL, xM, xi, xj, xk, xl, xm, xn, xo, xp, Glob.isB, and_self, and_true, true_and, zX, yz, yA, zY, Option.map_some, List.length_cons, List.length_nil, Nat.reduceAdd, Nat.zero_add, yB, yC, yD, yE, yF, yG, zb, yK, xr, xv, z9, xt, xu, xq, yI, yH, z0, zw, zZ, z8, xw, zz, zx, xE, z4, ya, z3, z6, z1, yb, z7, zj, z5, zy, zi, zA, z2, yL, yJ, zk, j4], by omega, ?_⟩
            rw [List.take_add_one, hwi, Option.toList_some, List.map_append, List.map_append, List.map_append, List.map_append, List.append_assoc]
            rfl
          · rintro ρ τ ⟨hJ, _, _, rfl⟩
            refine out_nil ⟨m - 1, by omega, hJ, v', Wk' ++ ways4.map (addP (hr, hc')), ?_, dfs2, ?_, by omega⟩
            · rw [List.length_map, List.take_length]
            · simp only [List.length_append, List.length_map]
              have : ways4.length = 4 := rfl
              omega
        · have hno : (hr, hc') ∈ K → v (hr, hc') = false := fun hK => by
            rw [decide_eq_true hK, Bool.true_and] at hc; exact hc
          exact out_nil ⟨m - 1, by omega, ⟨by simp (disch := first | assumption | decide | omega) only [zB, yc, zC, yM, yd, zl, yN, ye, yf, zD, zE, zm, zn, zF, yg, zo, zG, yh, zH, yi, zI, yj, zc, zJ, zK, yk, yl, zd, ym, yO, xx, yn, yo, zL, yp, zM, zp, zq, ze, zN, yq, zO, yr, zr, zf, zP, yt, zg, yu, zQ, zh, zt, yP, xy, yQ, yR, zu, yS, decide_eq_true_eq, beq_iff_eq, zR, zS, za, String.reduceEq, ↓reduceIte, yv, Glob.val?, xz, yT, yU, yV, yW, yX, yY, xA, xB, xC, xD, yZ, y0, y5, y6, y7, y8, yw, yx, yy, y9, xc, xd, zT, zU, xe, zV, zW, xf, xg, xh, xF, xG, xH, xI, xJ, xK, xL, xM, xi, xj, xk, xl, xm, xn, xo, xp, Glob.isB, and_self, and_true, true_and, zX, yz, yA, zY, Option.map_some, List.length_cons, List.length_nil, Nat.reduceAdd, Nat.zero_add, yB, yC, yD, yE, yF, yG, zb, yK, xr, xv, z9, xt, xu, xq, yI, yH, z0, zw, zZ, z8, xw, zz, zx, xE, z4, ya, z3, z6, z1, yb, z7, zj, z5, zy, zi, zA, z2, yL, yJ, zk, j1], by simp (disch := first | assumption | decide | omega) only [zB, yc, zC, yM, yd, zl, yN, ye, yf, zD, zE, zm, zn, zF, yg, zo, zG, yh, zH, yi, zI, yj, zc, zJ, zK, yk, yl, zd, ym, yO, xx, yn, yo, zL, yp, zM, zp, zq, ze, zN, yq, zO, yr, zr, zf, zP, yt, zg, yu, zQ, zh, zt, yP, xy, yQ, yR, zu, yS, decide_eq_true_eq, beq_iff_eq, zR, zS, za, String.reduceEq, ↓reduceIte, yv, Glob.val?, xz, yT, yU, yV, yW, yX, yY, xA, xB, xC, xD, yZ, y0, y5, y6, y7, y8, yw, yx, yy, y9, xc, xd, zT, zU, xe, zV, zW, xf, xg, xh, xF, xG, xH, xI, xJ, xK, xL, xM, xi, xj, xk, xl, xm, xn, xo, xp, Glob.isB, and_self, and_true, true_and, zX, yz, yA, zY, Option.map_some, List.length_cons, List.length_nil, Nat.reduceAdd, Nat.zero_add, yB, yC, yD, yE, yF, yG, zb, yK, xr, xv, z9, xt, xu, xq, yI, yH, z0, zw, zZ, z8, xw, zz, zx, xE, z4, ya, z3, z6, z1, yb, z7, zj, z5, zy, zi, zA, z2, yL, yJ, zk, j2], by simp (disch := first | assumption | decide | omega) only [zB, yc, zC, yM, yd, zl, yN, ye, yf, zD, zE, zm, zn, zF, yg, zo, zG, yh, zH, yi, zI, yj, zc, zJ, zK, yk, yl, zd, ym, yO, xx, yn, yo, zL, yp, zM, zp, zq, ze, zN, yq, zO, yr, zr, zf, zP, yt, zg, yu, zQ, zh, zt, yP, xy, yQ, yR, zu, yS, decide_eq_true_eq, beq_iff_eq, zR, zS, za, String.reduceEq, ↓reduceIte, yv, Glob.val?, xz, yT, yU, yV, yW, yX, yY, xA, xB, xC, xD, yZ, y0, y5, y6, y7, y8, yw, yx, yy, y9, xc, xd, zT, zU, xe, zV, zW, xf, xg, xh, xF, xG, xH, xI, xJ, xK, xL, xM, xi, xj, xk, xl, xm, xn, xo, xp, Glob.isB, and_self, and_true, true_and, zX, yz, yA, zY, Option.map_some, List.length_cons, List.length_nil, Nat.reduceAdd, Nat.zero_add, yB, yC, yD, yE, yF, yG, zb, yK, xr, xv, z9, xt, xu, xq, yI, yH, z0, zw, zZ, z8, xw, zz, zx, xE, z4, ya, z3, z6, z1, yb, z7, zj, z5, zy, zi, zA, z2, yL, yJ, zk, j3]⟩, v, Wk', rfl, dfs.drop hpK hno, by omega, by omega⟩
    · rintro ρ τ ⟨⟨j1, j2, j3⟩, v, rfl, dfs⟩
      obtain ⟨vis', vp⟩ := vis.next hpK dfs
      refine out_nil ⟨j1, _, v, ex ++ [.list []], rfl, ?_, vis', fun q hq => ?_⟩
      · rw [j3]
        cases u p
        · simp
        · simp
      · rw [htk, List.mem_append, List.mem_singleton] at hq
        rcases hq with hq | rfl
        · exact le_off dfs.le (hdone q hq)
        · exact vp
  · rintro ρ τ ⟨r2, R, u, ex, rfl, r4, vis, hdone⟩
    rw [List.length_map, List.take_length] at hdone
    apply out_ret
    · (simp (disch := first | assumption | decide | omega) only [zB, yc, zC, yM, yd, zl, yN, ye, yf, zD, zE, zm, zn, zF, yg, zo, zG, yh, zH, yi, zI, yj, zc, zJ, zK, yk, yl, zd, ym, yO, xx, yn, yo, zL, yp, zM, zp, zq, ze, zN, yq, zO, yr, zr, zf, zP, yt, zg, yu, zQ, zh, zt, yP, xy, yQ, yR, zu, yS, decide_eq_true_eq, beq_iff_eq, zR, zS, za, String.reduceEq, ↓reduceIte, yv, Glob.val?, xz, yT, yU, yV, yW, yX, yY, xA, xB, xC, xD, yZ, y0, y5, y6, y7, y8, yw, yx, yy, y9, xc, xd, zT, zU, xe, zV, zW, xf, xg, xh, xF, xG, xH, xI, xJ, xK, xL, xM, xi, xj, xk, xl, xm, xn, xo, xp, Glob.isB, and_self, and_true, true_and, zX, yz, yA, zY, Option.map_some, List.length_cons, List.length_nil, Nat.reduceAdd, Nat.zero_add, yB, yC, yD, yE, yF, yG, zb, yK, xr, xv, z9, xt, xu, xq, yI, yH, z0, zw, zZ, z8, xw, zz, zx, xE, z4, ya, z3, z6, z1, yb, z7, zj, z5, zy, zi, zA, z2, yL, yJ, zk, r4]) <;> rfl
    · refine ⟨R.length, rfl, ⟨_, rfl⟩, ?_⟩
      rw [hKe]
      exact ⟨R, rfl, vis.rsub, vis.ind, fun q hq => (vis.iff q hq).mp (hdone q hq)⟩
end
end Mine

set_option maxRecDepth 100000
namespace Mine
open PySem PySem.Spec PyProof.Rows PySem.Challenge

/-! the sum over the points -/
noncomputable def sameB (rows : List Str) (q : IP) : Bool := onB rows q.1 q.2 == onB rows (q.1 - 1) (q.2 - 1)
noncomputable def sumV (rows : List Str) : Int := ((ptsOf rows 1).length : Int) - (ptsOf rows 3).length + 2 * (((ptsOf rows 2).filter (sameB rows)).length : Int)

theorem rowPts_grid (f : Int → Int → Bool) (r m : Nat) : rowPts f r m = ((((List.range m).map fun j => (r, j)).filter fun t : Pt => f t.1 t.2).map ip) := by
  rw [List.filter_map, List.map_map]
  rfl
theorem allPts_grid (f : Int → Int → Bool) (m : Nat) : ∀ n, allPts f n m = ((grid n m).filter fun t => f t.1 t.2).map ip
  | 0 => rfl
  | n + 1 => by rw [allPts_succ, grid_succ, List.filter_append, List.map_append, allPts_grid f m n, rowPts_grid]
theorem around_quad (rows : List Str) (t : Pt) : aroundN rows t.1 t.2 = quad (onB rows) t := by
  unfold aroundN quad
  generalize onB rows ((t.1 : Int) - 1) ((t.2 : Int) - 1) = a
  generalize onB rows ((t.1 : Int) - 1) t.2 = b
  generalize onB rows t.1 ((t.2 : Int) - 1) = c
  generalize onB rows t.1 t.2 = d
  revert a b c d
  decide
theorem pts_len (rows : List Str) (k : Int) : (ptsOf rows k).length = ((grid (rows.length + 1) (wideOf rows + 1)).filter fun t => quad (onB rows) t == k).length := by
  unfold ptsOf
  rw [allPts_grid, List.length_map]
  refine congrArg List.length (List.filter_congr fun t _ => ?_)
  rw [around_quad]
theorem pts_same (rows : List Str) : ((ptsOf rows 2).filter (sameB rows)).length = ((grid (rows.length + 1) (wideOf rows + 1)).filter fun t => quad (onB rows) t == 2 && onB rows t.1 t.2 == onB rows ((t.1 : Int) - 1) ((t.2 : Int) - 1)).length := by
  unfold ptsOf
  rw [allPts_grid, List.filter_map, List.length_map, List.filter_filter]
  refine congrArg List.length (List.filter_congr fun t _ => ?_)
  rw [around_quad, Bool.and_comm]
  rfl
theorem onB_in {rows : List Str} (hg : Good rows) : ∀ r c, onB rows r c = true → 0 ≤ r ∧ r < (rows.length : Nat) ∧ 0 ≤ c ∧ c < (wideOf rows : Nat) := by
  intro r c h
  unfold onB at h
  split at h
  · rename_i h1
    split at h
    · rename_i h2
      have ht : r.toNat < rows.length := by omega
      have gd : rows.getD r.toNat ⟨#[]⟩ = rows[r.toNat]'ht := by simp [List.getD, List.getElem?_eq_getElem ht]
      rw [gd, wide_row hg ht] at h2
      exact ⟨h1.1, h1.2, h2.1, h2.2⟩
    · cases h
  · cases h
theorem mem_cellsL {rows : List Str} (hg : Good rows) (a : IP) : a ∈ cellsL rows ↔ onB rows a.1 a.2 = true := by
  unfold cellsL
  rw [mem_allPts]
  constructor
  · rintro ⟨r, c, _, _, rfl, h⟩; exact h
  · intro h
    obtain ⟨h1, h2, h3, h4⟩ := onB_in hg _ _ h
    obtain ⟨a1, a2⟩ := a
    simp only at h h1 h2 h3 h4
    refine ⟨a1.toNat, a2.toNat, by omega, by omega, ?_, ?_⟩
    · rw [Int.toNat_of_nonneg h1, Int.toNat_of_nonneg h3]
    · rw [Int.toNat_of_nonneg h1, Int.toNat_of_nonneg h3]; exact h
theorem sum_is {rows : List Str} (hg : Good rows) {Sb : List IP} (hb : ∀ a, a ∈ Sb ↔ bare rows.length (wideOf rows) (onB rows) a) {n4 n8 : Nat} (r4 : Reps (cellsL rows) (Cn (stepsOf (cellsL rows) four)) n4) (r8 : Reps Sb (Cn (stepsOf Sb eight)) n8) :
    (sumV rows).fdiv 4 = (n4 : Int) - ((n8 : Int) - 1) := by
  have h := parts_holes (onB_in hg) (mem_cellsL hg) hb r4 r8
  unfold sumV
  rw [pts_len, pts_len, pts_same, h, Int.mul_fdiv_cancel_left _ (by decide)]

theorem c_nerows {σ : Store} {i : Nat} {rows : List Str} {w : Nat} (hσ : σ[i]? = some (.list (rows.map .str))) (h : ∀ r ∈ rows, Row w r) : cmpP σ .NotEq (.lst (rows.map .str)) (.loc i) = some (.bool false) := by
  have e : eqP σ (.lst (rows.map .str)) (.loc i) = some true := by
    simp only [eqP, datP, hσ, datOf, dats_strs, Option.map_some, shaped_strs h, Bool.and_self, if_true]
    show some (PyData.eqvAll (rows.map PyData.str) (rows.map PyData.str)) = some true
    rw [eqv_strs]
  simp only [cmpP, e, Option.map_some, Bool.not_true]

section
variable {Φ : Fns} {σ : Store}
section
variable (hon : ∀ (rows : List Str) (i : Nat) (r c : Int) (σ : Store), Good rows → σ[i]? = some (.list (rows.map .str)) → Φ (Str.ofString "_law_on") [.loc i, .int r, .int c] σ = some (.bool (onB rows r c), σ))
variable (hpts : ∀ (rows : List Str) (l : Nat) (many : Int) (σ : Store), Good rows → σ[l]? = some (.list (rows.map .str)) → Φ (Str.ofString "_law_points") [.loc l, .int many] σ = some (.loc σ.length, σ ++ [.list ((ptsOf rows many).map tup2)]))
include hon hpts
theorem sum_run {rows : List Str} {l : Nat} (hg : Good rows) (hσ : σ[l]? = some (.list (rows.map .str))) : ∃ τ, interpF Φ Gl (dOf pw "_law_sum") [.loc l] σ = some (.int ((sumV rows).fdiv 4), τ) ∧ ∃ ex, τ = σ ++ ex := by
  have hs := sz
  let R0 : PV → Store → Prop := fun u τ => u = .int ((sumV rows).fdiv 4) ∧ ∃ ex, τ = σ ++ ex
  suffices h : Out (execSs Φ Gl (dOf pw "_law_sum").body (bindP ((dOf pw "_law_sum").params.args.map (·.arg)) [.loc l]) σ) No R0 by
    obtain ⟨v, τ, e, rfl, h1⟩ := out_run (by kernel_rfl) h
    exact ⟨τ, e, h1⟩
  change Out (execSs Φ Gl (_ :: _ :: _ :: _) (bindP [_] _) σ) _ _
  rw [bindP1]
  have l1 : ((ptsOf rows 1).map tup2).length ≤ sizeLine := by have := ptsOf_len hg 1; rw [List.length_map]; omega
  have l3 : ((ptsOf rows 3).map tup2).length ≤ sizeLine := by have := ptsOf_len hg 3; rw [List.length_map]; omega
  have l2 := ptsOf_len hg 2
  have s1 : (σ ++ [PO.list ((ptsOf rows 1).map tup2)])[l]? = some (.list (rows.map .str)) := get_append_old hσ _
  have s2 : (σ ++ [PO.list ((ptsOf rows 1).map tup2)] ++ [PO.list ((ptsOf rows 3).map tup2)])[l]? = some (.list (rows.map .str)) := get_append_old s1 _
  have e1 := hpts rows l 1 σ hg hσ
  have e3 := hpts rows l 3 _ hg s1
  have e2 := hpts rows l 2 _ hg s2
  have k1 := yy (get_append_new σ (PO.list ((ptsOf rows 1).map tup2))) l1
  have k3 := yy (get_append_new (σ ++ [PO.list ((ptsOf rows 1).map tup2)]) (PO.list ((ptsOf rows 3).map tup2))) l3
  apply out_next
  · (simp (disch := first | assumption | decide | omega) only [zB, yc, zC, yM, yd, zl, yN, ye, yf, zD, zE, zm, zn, zF, yg, zo, zG, yh, zH, yi, zI, yj, zc, zJ, zK, yk, yl, zd, ym, yO, xx, yn, yo, zL, yp, zM, zp, zq, ze, zN, yq, zO, yr, zr, zf, zP, yt, zg, yu, zQ, zh, zt, yP, xy, yQ, yR, zu, yS, decide_eq_true_eq, beq_iff_eq, zR, zS, za, String.reduceEq, ↓reduceIte, yv, Glob.val?, xz, yT, yU, yV, yW, yX, yY, xA, xB, xC, xD, yZ, y0, y5, y6, y7, y8, yw, yx, yy, y9, xc, xd, zT, zU, xe, zV, zW, xf, xg, xh, xF, xG, xH, xI, xJ, xK, xL, xM, xi, xj, xk, xl, xm, xn, xo, xp, Glob.isB, and_self, and_true, true_and, zX, yz, yA, zY, Option.map_some, List.length_cons, List.length_nil, Nat.reduceAdd, Nat.zero_add, yB, yC, yD, yE, yF, yG, zb, yK, xr, xv, z9, xt, xu, xq, yI, yH, z0, zw, zZ, z8, xw, zz, zx, xE, z4, ya, z3, z6, z1, yb, z7, zj, z5, zy, zi, zA, z2, yL, yJ, zk, e1, e3, k1, k3]) <;> rfl
  generalize hσ2 : σ ++ [PO.list ((ptsOf rows 1).map tup2)] ++ [PO.list ((ptsOf rows 3).map tup2)] = σ2 at *
  have s3 : (σ2 ++ [PO.list ((ptsOf rows 2).map tup2)])[l]? = some (.list (rows.map .str)) := get_append_old s2 _
  refine out_cons (out_mono (out_forLoc (R := R0) (for_loc (l := σ2.length) (ds := (ptsOf rows 2).map tup2) (σ₁ := σ2 ++ [.list ((ptsOf rows 2).map tup2)]) (by kernel_rfl) ?_ (get_append_new _ _))
    (fun i ρ τ => τ = σ2 ++ [.list ((ptsOf rows 2).map tup2)] ∧ ρ (Str.ofString "_law_rows") = some (.loc l) ∧ ρ (Str.ofString "_law_found") = some (.int (((ptsOf rows 1).length : Int) - (ptsOf rows 3).length + 2 * ((((ptsOf rows 2).take i).filter (sameB rows)).length : Int))))
    (fun i ρ τ h => h.1 ▸ get_append_new _ _) ?_ ?_) ?_ fun _ _ h => h)
  · (simp (disch := first | assumption | decide | omega) only [zB, yc, zC, yM, yd, zl, yN, ye, yf, zD, zE, zm, zn, zF, yg, zo, zG, yh, zH, yi, zI, yj, zc, zJ, zK, yk, yl, zd, ym, yO, xx, yn, yo, zL, yp, zM, zp, zq, ze, zN, yq, zO, yr, zr, zf, zP, yt, zg, yu, zQ, zh, zt, yP, xy, yQ, yR, zu, yS, decide_eq_true_eq, beq_iff_eq, zR, zS, za, String.reduceEq, ↓reduceIte, yv, Glob.val?, xz, yT, yU, yV, yW, yX, yY, xA, xB, xC, xD, yZ, y0, y5, y6, y7, y8, yw, yx, yy, y9, xc, xd, zT, zU, xe, zV, zW, xf, xg, xh, xF, xG, xH, xI, xJ, xK, xL, xM, xi, xj, xk, xl, xm, xn, xo, xp, Glob.isB, and_self, and_true, true_and, zX, yz, yA, zY, Option.map_some, List.length_cons, List.length_nil, Nat.reduceAdd, Nat.zero_add, yB, yC, yD, yE, yF, yG, zb, yK, xr, xv, z9, xt, xu, xq, yI, yH, z0, zw, zZ, z8, xw, zz, zx, xE, z4, ya, z3, z6, z1, yb, z7, zj, z5, zy, zi, zA, z2, yL, yJ, zk, e2]) <;> rfl
  · refine ⟨rfl, by simp (disch := first | assumption | decide | omega) only [zB, yc, zC, yM, yd, zl, yN, ye, yf, zD, zE, zm, zn, zF, yg, zo, zG, yh, zH, yi, zI, yj, zc, zJ, zK, yk, yl, zd, ym, yO, xx, yn, yo, zL, yp, zM, zp, zq, ze, zN, yq, zO, yr, zr, zf, zP, yt, zg, yu, zQ, zh, zt, yP, xy, yQ, yR, zu, yS, decide_eq_true_eq, beq_iff_eq, zR, zS, za, String.reduceEq, ↓reduceIte, yv, Glob.val?, xz, yT, yU, yV, yW, yX, yY, xA, xB, xC, xD, yZ, y0, y5, y6, y7, y8, yw, yx, yy, y9, xc, xd, zT, zU, xe, zV, zW, xf, xg, xh, xF, xG, xH, xI, xJ, xK, xL, xM, xi, xj, xk, xl, xm, xn, xo, xp, Glob.isB, and_self, and_true, true_and, zX, yz, yA, zY, Option.map_some, List.length_cons, List.length_nil, Nat.reduceAdd, Nat.zero_add, yB, yC, yD, yE, yF, yG, zb, yK, xr, xv, z9, xt, xu, xq, yI, yH, z0, zw, zZ, z8, xw, zz, zx, xE, z4, ya, z3, z6, z1, yb, z7, zj, z5, zy, zi, zA, z2, yL, yJ, zk], ?_⟩
    simp (disch := first | assumption | decide | omega) only [zB, yc, zC, yM, yd, zl, yN, ye, yf, zD, zE, zm, zn, zF, yg, zo, zG, yh, zH, yi, zI, yj, zc, zJ, zK, yk, yl, zd, ym, yO, xx, yn, yo, zL, yp, zM, zp, zq, ze, zN, yq, zO, yr, zr, zf, zP, yt, zg, yu, zQ, zh, zt, yP, xy, yQ, yR, zu, yS, decide_eq_true_eq, beq_iff_eq, zR, zS, za, String.reduceEq, ↓reduceIte, yv, Glob.val?, xz, yT, yU, yV, yW, yX, yY, xA, xB, xC, xD, yZ, y0, y5, y6, y7, y8, yw, yx, yy, y9, xc, xd, zT, zU, xe, zV, zW, xf, xg, xh, xF, xG, xH, xI, xJ, xK, xL, xM, xi, xj, xk, xl, xm, xn, xo, xp, Glob.isB, and_self, and_true, true_and, zX, yz, yA, zY, Option.map_some, List.length_cons, List.length_nil, Nat.reduceAdd, Nat.zero_add, yB, yC, yD, yE, yF, yG, zb, yK, xr, xv, z9, xt, xu, xq, yI, yH, z0, zw, zZ, z8, xw, zz, zx, xE, z4, ya, z3, z6, z1, yb, z7, zj, z5, zy, zi, zA, z2, yL, yJ, zk, List.length_map]
    simp
  · rintro i dv ρ τ hdv ⟨rfl, r1, r2⟩
    obtain ⟨p, hp, rfl⟩ : ∃ p, (ptsOf rows 2)[i]? = some p ∧ dv = tup2 p := by
      rw [List.getElem?_map] at hdv
      obtain ⟨w, h1, h2⟩ := Option.map_eq_some_iff.mp hdv
      exact ⟨w, h1, h2.symm⟩
    have htk : (ptsOf rows 2).take (i + 1) = (ptsOf rows 2).take i ++ [p] := by rw [List.take_add_one, hp]; rfl
    obtain ⟨pr, pc⟩ := p
    have o1 := hon rows l pr pc _ hg s3
    have o2 := hon rows l (pr - 1) (pc - 1) _ hg s3
    refine ⟨_, rfl, ?_⟩
    refine out_cons (out_mono (out_if (K := fun ρ τ => τ = σ2 ++ [.list ((ptsOf rows 2).map tup2)] ∧ ρ (Str.ofString "_law_rows") = some (.loc l) ∧ ρ (Str.ofString "_law_found") = some (.int (((ptsOf rows 1).length : Int) - (ptsOf rows 3).length + 2 * ((((ptsOf rows 2).take (i + 1)).filter (sameB rows)).length : Int)))) (R := R0)
      (c := onB rows pr pc == onB rows (pr - 1) (pc - 1)) (σ₁ := σ2 ++ [.list ((ptsOf rows 2).map tup2)]) ?_ (fun hc => ?_) fun hc => ?_) (fun ρ τ h => out_nil h) fun _ _ h => h)
    · simp (disch := first | assumption | decide | omega) only [zB, yc, zC, yM, yd, zl, yN, ye, yf, zD, zE, zm, zn, zF, yg, zo, zG, yh, zH, yi, zI, yj, zc, zJ, zK, yk, yl, zd, ym, yO, xx, yn, yo, zL, yp, zM, zp, zq, ze, zN, yq, zO, yr, zr, zf, zP, yt, zg, yu, zQ, zh, zt, yP, xy, yQ, yR, zu, yS, decide_eq_true_eq, beq_iff_eq, zR, zS, za, String.reduceEq, ↓reduceIte, yv, Glob.val?, xz, yT, yU, yV, yW, yX, yY, xA, xB, xC, xD, yZ, y0, y5, y6, y7, y8, yw, yx, yy, y9, xc, xd, zT, zU, xe, zV, zW, xf, xg, xh, xF, xG, xH, xI, xJ, xK, xL, xM, xi, xj, xk, xl, xm, xn, xo, xp, Glob.isB, and_self, and_true, true_and, zX, yz, yA, zY, Option.map_some, List.length_cons, List.length_nil, Nat.reduceAdd, Nat.zero_add, yB, yC, yD, yE, yF, yG, zb, yK, xr, xv, z9, xt, xu, xq, yI, yH, z0, zw, zZ, z8, xw, zz, zx, xE, z4, ya, z3, z6, z1, yb, z7, zj, z5, zy, zi, zA, z2, yL, yJ, zk, r1, tup2, o1, o2]
    · apply out_next
      · (simp (disch := first | assumption | decide | omega) only [zB, yc, zC, yM, yd, zl, yN, ye, yf, zD, zE, zm, zn, zF, yg, zo, zG, yh, zH, yi, zI, yj, zc, zJ, zK, yk, yl, zd, ym, yO, xx, yn, yo, zL, yp, zM, zp, zq, ze, zN, yq, zO, yr, zr, zf, zP, yt, zg, yu, zQ, zh, zt, yP, xy, yQ, yR, zu, yS, decide_eq_true_eq, beq_iff_eq, zR, zS, za, String.reduceEq, ↓reduceIte, yv, Glob.val?, xz, yT, yU, yV, yW, yX, yY, xA, xB, xC, xD, yZ, y0, y5, y6, y7, y8, yw, yx, yy, y9, xc, xd, zT, zU, xe, zV, zW, xf, xg, xh, xF, xG, xH, xI, xJ, xK, xL, xM, xi, xj, xk, xl, xm, xn, xo, xp, Glob.isB, and_self, and_true, true_and, zX, yz, yA, zY, Option.map_some, List.length_cons, List.length_nil, Nat.reduceAdd, Nat.zero_add, yB, yC, yD, yE, yF, yG, zb, yK, xr, xv, z9, xt, xu, xq, yI, yH, z0, zw, zZ, z8, xw, zz, zx, xE, z4, ya, z3, z6, z1, yb, z7, zj, z5, zy, zi, zA, z2, yL, yJ, zk, r2]) <;> rfl
      refine out_nil ⟨rfl, by simp (disch := first | assumption | decide | omega) only [zB, yc, zC, yM, yd, zl, yN, ye, yf, zD, zE, zm, zn, zF, yg, zo, zG, yh, zH, yi, zI, yj, zc, zJ, zK, yk, yl, zd, ym, yO, xx, yn, yo, zL, yp, zM, zp, zq, ze, zN, yq, zO, yr, zr, zf, zP, yt, zg, yu, zQ, zh, zt, yP, xy, yQ, yR, zu, yS, decide_eq_true_eq, beq_iff_eq, zR, zS, za, String.reduceEq, ↓reduceIte, yv, Glob.val?, xz, yT, yU, yV, yW, yX, yY, xA, xB, xC, xD, yZ, y0, y5, y6, y7, y8, yw, yx, yy, y9, xc, xd, zT, zU, xe, zV, zW, xf, xg, xh, xF, xG, xH, xI, xJ, xK, xL, xM, xi, xj, xk, xl, xm, xn, xo, xp, Glob.isB, and_self, and_true, true_and, zX, yz, yA, zY, Option.map_some, List.length_cons, List.length_nil, Nat.reduceAdd, Nat.zero_add, yB, yC, yD, yE, yF, yG, zb, yK, xr, xv, z9, xt, xu, xq, yI, yH, z0, zw, zZ, z8, xw, zz, zx, xE, z4, ya, z3, z6, z1, yb, z7, zj, z5, zy, zi, zA, z2, yL, yJ, zk, r1], ?_⟩
      have hc' : sameB rows (pr, pc) = true := hc
      simp (disch := first | assumption | decide | omega) only [zB, yc, zC, yM, yd, zl, yN, ye, yf, zD, zE, zm, zn, zF, yg, zo, zG, yh, zH, yi, zI, yj, zc, zJ, zK, yk, yl, zd, ym, yO, xx, yn, yo, zL, yp, zM, zp, zq, ze, zN, yq, zO, yr, zr, zf, zP, yt, zg, yu, zQ, zh, zt, yP, xy, yQ, yR, zu, yS, decide_eq_true_eq, beq_iff_eq, zR, zS, za, String.reduceEq, ↓reduceIte, yv, Glob.val?, xz, yT, yU, yV, yW, yX, yY, xA, xB, xC, xD, yZ, y0, y5, y6, y7, y8, yw, yx, yy, y9, xc, xd, zT, zU, xe, zV, zW, xf, xg, xh, xF, xG, xH, xI, xJ, xK, xL, xM, xi, xj, xk, xl, xm, xn, xo, xp, Glob.isB, and_self, and_true, true_and, zX, yz, yA, zY, Option.map_some, List.length_cons, List.length_nil, Nat.reduceAdd, Nat.zero_add, yB, yC, yD, yE, yF, yG, zb, yK, xr, xv, z9, xt, xu, xq, yI, yH, z0, zw, zZ, z8, xw, zz, zx, xE, z4, ya, z3, z6, z1, yb, z7, zj, z5, zy, zi, zA, z2, yL, yJ, zk]
      rw [htk, List.filter_append, List.filter_cons_of_pos hc', List.length_append]
      simp only [List.filter_nil, List.length_cons, List.length_nil]
      refine congrArg (fun z => some (PV.int z)) ?_
      omega
    · have hc' : ¬ sameB rows (pr, pc) = true := by
        show ¬ (onB rows pr pc == onB rows (pr - 1) (pc - 1)) = true
        rw [hc]; decide
      refine out_nil ⟨rfl, by simp (disch := first | assumption | decide | omega) only [zB, yc, zC, yM, yd, zl, yN, ye, yf, zD, zE, zm, zn, zF, yg, zo, zG, yh, zH, yi, zI, yj, zc, zJ, zK, yk, yl, zd, ym, yO, xx, yn, yo, zL, yp, zM, zp, zq, ze, zN, yq, zO, yr, zr, zf, zP, yt, zg, yu, zQ, zh, zt, yP, xy, yQ, yR, zu, yS, decide_eq_true_eq, beq_iff_eq, zR, zS, za, String.reduceEq, ↓reduceIte, yv, Glob.val?, xz, yT, yU, yV, yW, yX, yY, xA, xB, xC, xD, yZ, y0, y5, y6, y7, y8, yw, yx, yy, y9, xc, xd, zT, zU, xe, zV, zW, xf, xg, xh, xF, xG, xH, xI, xJ, xK, xL, xM, xi, xj, xk, xl, xm, xn, xo, xp, Glob.isB, and_self, and_true, true_and, zX, yz, yA, zY, Option.map_some, List.length_cons, List.length_nil, Nat.reduceAdd, Nat.zero_add, yB, yC, yD, yE, yF, yG, zb, yK, xr, xv, z9, xt, xu, xq, yI, yH, z0, zw, zZ, z8, xw, zz, zx, xE, z4, ya, z3, z6, z1, yb, z7, zj, z5, zy, zi, zA, z2, yL, yJ, zk, r1], ?_⟩
      rw [htk, List.filter_append, List.filter_cons_of_neg hc', List.filter_nil, List.append_nil]
      simp (disch := first | assumption | decide | omega) only [zB, yc, zC, yM, yd, zl, yN, ye, yf, zD, zE, zm, zn, zF, yg, zo, zG, yh, zH, yi, zI, yj, zc, zJ, zK, yk, yl, zd, ym, yO, xx, yn, yo, zL, yp, zM, zp, zq, ze, zN, yq, zO, yr, zr, zf, zP, yt, zg, yu, zQ, zh, zt, yP, xy, yQ, yR, zu, yS, decide_eq_true_eq, beq_iff_eq, zR, zS, za, String.reduceEq, ↓reduceIte, yv, Glob.val?, xz, yT, yU, yV, yW, yX, yY, xA, xB, xC, xD, yZ, y0, y5, y6, y7, y8, yw, yx, yy, y9, xc, xd, zT, zU, xe, zV, zW, xf, xg, xh, xF, xG, xH, xI, xJ, xK, xL, xM, xi, xj, xk, xl, xm, xn, xo, xp, Glob.isB, and_self, and_true, true_and, zX, yz, yA, zY, Option.map_some, List.length_cons, List.length_nil, Nat.reduceAdd, Nat.zero_add, yB, yC, yD, yE, yF, yG, zb, yK, xr, xv, z9, xt, xu, xq, yI, yH, z0, zw, zZ, z8, xw, zz, zx, xE, z4, ya, z3, z6, z1, yb, z7, zj, z5, zy, zi, zA, z2, yL, yJ, zk, r2]
  · rintro ρ τ ⟨rfl, r1, r2⟩
    rw [List.length_map, List.take_length] at r2
    apply out_ret
    · (simp (disch := first | assumption | decide | omega) only [zB, yc, zC, yM, yd, zl, yN, ye, yf, zD, zE, zm, zn, zF, yg, zo, zG, yh, zH, yi, zI, yj, zc, zJ, zK, yk, yl, zd, ym, yO, xx, yn, yo, zL, yp, zM, zp, zq, ze, zN, yq, zO, yr, zr, zf, zP, yt, zg, yu, zQ, zh, zt, yP, xy, yQ, yR, zu, yS, decide_eq_true_eq, beq_iff_eq, zR, zS, za, String.reduceEq, ↓reduceIte, yv, Glob.val?, xz, yT, yU, yV, yW, yX, yY, xA, xB, xC, xD, yZ, y0, y5, y6, y7, y8, yw, yx, yy, y9, xc, xd, zT, zU, xe, zV, zW, xf, xg, xh, xF, xG, xH, xI, xJ, xK, xL, xM, xi, xj, xk, xl, xm, xn, xo, xp, Glob.isB, and_self, and_true, true_and, zX, yz, yA, zY, Option.map_some, List.length_cons, List.length_nil, Nat.reduceAdd, Nat.zero_add, yB, yC, yD, yE, yF, yG, zb, yK, xr, xv, z9, xt, xu, xq, yI, yH, z0, zw, zZ, z8, xw, zz, zx, xE, z4, ya, z3, z6, z1, yb, z7, zj, z5, zy, zi, zA, z2, yL, yJ, zk, r2]) <;> rfl
    · exact ⟨rfl, _, by rw [← hσ2, List.append_assoc, List.append_assoc]⟩
end

section
variable (hflo : ∀ (ns : List Int) (σ : Store), ns.length ≤ 63 → ∃ (bs : List (Int × Int × Int × Int)) (rows : List Str), Φ (Str.ofString "_law_floor") [.lst (ns.map .int), .int 30] σ = some (.loc (σ.length + 1), σ ++ [.list (bs.map tup4), .list (rows.map .str)]) ∧ Good rows)
variable (hpar : ∀ (rows : List Str) (σ : Store), Good rows → ∃ (n : Nat) (τ : Store), Φ (Str.ofString "parts") [.lst (rows.map .str)] σ = some (.int n, τ) ∧ (∃ ex, τ = σ ++ ex) ∧ Reps (cellsL rows) (Cn (stepsOf (cellsL rows) four)) n)
variable (hhol : ∀ (rows : List Str) (σ : Store), Good rows → ∃ (n : Nat) (Sb : List IP) (τ : Store), Φ (Str.ofString "holes") [.lst (rows.map .str)] σ = some (.int ((n : Int) - 1), τ) ∧ (∃ ex, τ = σ ++ ex) ∧
      (∀ a, a ∈ Sb ↔ bare rows.length (wideOf rows) (onB rows) a) ∧ Reps Sb (Cn (stepsOf Sb eight)) n)
variable (hwho : ∀ (i : Int) (σ : Store), Φ (Str.ofString "_law_whole") [.int i] σ = some (.bool true, σ))
variable (hlpa : ∀ (rows : List Str) (l : Nat) (σ : Store), Good rows → σ[l]? = some (.list (rows.map .str)) → ∃ (n : Nat) (τ : Store), Φ (Str.ofString "_law_parts") [.loc l] σ = some (.int n, τ) ∧ (∃ ex, τ = σ ++ ex) ∧ Reps (cellsL rows) (Cn (stepsOf (cellsL rows) four)) n)
variable (hsum : ∀ (rows : List Str) (l : Nat) (σ : Store), Good rows → σ[l]? = some (.list (rows.map .str)) → ∃ τ, Φ (Str.ofString "_law_sum") [.loc l] σ = some (.int ((sumV rows).fdiv 4), τ) ∧ ∃ ex, τ = σ ++ ex)
include hflo hpar hhol hwho hlpa hsum
theorem law_run {ns : List Int} (hl : ns.length ≤ 63) : ∃ σ', interpF Φ Gl (dOf pw "law") [.lst (ns.map .int)] [] = some (.bool true, σ') := by
  have hs := sz
  suffices h : Out (execSs Φ Gl (dOf pw "law").body (bindP ((dOf pw "law").params.args.map (·.arg)) [.lst (ns.map .int)]) []) No (fun u τ => u = .bool true) by
    obtain ⟨v, τ, e, rfl⟩ := out_run (by kernel_rfl) h
    exact ⟨τ, e⟩
  change Out (execSs Φ Gl (_ :: _ :: _ :: _ :: _ :: _) (bindP [_] _) []) _ _
  rw [bindP1]
  obtain ⟨bs, rows, e1, hg⟩ := hflo ns [] hl
  simp only [List.nil_append, List.length_nil, Nat.zero_add] at e1
  have hg' := hg
  obtain ⟨h30, w, w30, hrow⟩ := hg'
  have lr : (rows.map PV.str).length ≤ sizeLine := by rw [List.length_map]; omega
  have g1 : ([PO.list (bs.map tup4), PO.list (rows.map .str)] : Store)[1]? = some (.list (rows.map .str)) := rfl
  have kl := zU g1 lr
  generalize hσ0 : ([PO.list (bs.map tup4), PO.list (rows.map .str)] : Store) = σ0 at *
  obtain ⟨n4, τ1, e2, ⟨x1, rfl⟩, r4⟩ := hpar rows σ0 hg
  have g2 := get_append_old g1 x1
  obtain ⟨n8, Sb, τ2, e3, ⟨x2, rfl⟩, hb, r8⟩ := hhol rows (σ0 ++ x1) hg
  have g3 := get_append_old g2 x2
  obtain ⟨nP, τ3, e4, ⟨x3, rfl⟩, rP⟩ := hlpa rows 1 _ hg g3
  have g4 := get_append_old g3 x3
  obtain ⟨τ4, e5, x4, rfl⟩ := hsum rows 1 _ hg g4
  have hnP : nP = n4 := Reps.unique (fun a b h => h.symm) (fun a b c h g => h.trans g) rP r4
  subst hnP
  rw [sum_is hg hb r4 r8] at e5
  have ce := c_nerows g3 hrow
  apply out_next
  · (simp (disch := first | assumption | decide | omega) only [zB, yc, zC, yM, yd, zl, yN, ye, yf, zD, zE, zm, zn, zF, yg, zo, zG, yh, zH, yi, zI, yj, zc, zJ, zK, yk, yl, zd, ym, yO, xx, yn, yo, zL, yp, zM, zp, zq, ze, zN, yq, zO, yr, zr, zf, zP, yt, zg, yu, zQ, zh, zt, yP, xy, yQ, yR, zu, yS, decide_eq_true_eq, beq_iff_eq, zR, zS, za, String.reduceEq, ↓reduceIte, yv, Glob.val?, xz, yT, yU, yV, yW, yX, yY, xA, xB, xC, xD, yZ, y0, y5, y6, y7, y8, yw, yx, yy, y9, xc, xd, zT, zU, xe, zV, zW, xf, xg, xh, xF, xG, xH, xI, xJ, xK, xL, xM, xi, xj, xk, xl, xm, xn, xo, xp, Glob.isB, and_self, and_true, true_and, zX, yz, yA, zY, Option.map_some, List.length_cons, List.length_nil, Nat.reduceAdd, Nat.zero_add, yB, yC, yD, yE, yF, yG, zb, yK, xr, xv, z9, xt, xu, xq, yI, yH, z0, zw, zZ, z8, xw, zz, zx, xE, z4, ya, z3, z6, z1, yb, z7, zj, z5, zy, zi, zA, z2, yL, yJ, zk, e1]) <;> rfl
  apply out_next
  · (simp (disch := first | assumption | decide | omega) only [zB, yc, zC, yM, yd, zl, yN, ye, yf, zD, zE, zm, zn, zF, yg, zo, zG, yh, zH, yi, zI, yj, zc, zJ, zK, yk, yl, zd, ym, yO, xx, yn, yo, zL, yp, zM, zp, zq, ze, zN, yq, zO, yr, zr, zf, zP, yt, zg, yu, zQ, zh, zt, yP, xy, yQ, yR, zu, yS, decide_eq_true_eq, beq_iff_eq, zR, zS, za, String.reduceEq, ↓reduceIte, yv, Glob.val?, xz, yT, yU, yV, yW, yX, yY, xA, xB, xC, xD, yZ, y0, y5, y6, y7, y8, yw, yx, yy, y9, xc, xd, zT, zU, xe, zV, zW, xf, xg, xh, xF, xG, xH, xI, xJ, xK, xL, xM, xi, xj, xk, xl, xm, xn, xo, xp, Glob.isB, and_self, and_true, true_and, zX, yz, yA, zY, Option.map_some, List.length_cons, List.length_nil, Nat.reduceAdd, Nat.zero_add, yB, yC, yD, yE, yF, yG, zb, yK, xr, xv, z9, xt, xu, xq, yI, yH, z0, zw, zZ, z8, xw, zz, zx, xE, z4, ya, z3, z6, z1, yb, z7, zj, z5, zy, zi, zA, z2, yL, yJ, zk, kl]) <;> rfl
  apply out_next
  · (simp (disch := first | assumption | decide | omega) only [zB, yc, zC, yM, yd, zl, yN, ye, yf, zD, zE, zm, zn, zF, yg, zo, zG, yh, zH, yi, zI, yj, zc, zJ, zK, yk, yl, zd, ym, yO, xx, yn, yo, zL, yp, zM, zp, zq, ze, zN, yq, zO, yr, zr, zf, zP, yt, zg, yu, zQ, zh, zt, yP, xy, yQ, yR, zu, yS, decide_eq_true_eq, beq_iff_eq, zR, zS, za, String.reduceEq, ↓reduceIte, yv, Glob.val?, xz, yT, yU, yV, yW, yX, yY, xA, xB, xC, xD, yZ, y0, y5, y6, y7, y8, yw, yx, yy, y9, xc, xd, zT, zU, xe, zV, zW, xf, xg, xh, xF, xG, xH, xI, xJ, xK, xL, xM, xi, xj, xk, xl, xm, xn, xo, xp, Glob.isB, and_self, and_true, true_and, zX, yz, yA, zY, Option.map_some, List.length_cons, List.length_nil, Nat.reduceAdd, Nat.zero_add, yB, yC, yD, yE, yF, yG, zb, yK, xr, xv, z9, xt, xu, xq, yI, yH, z0, zw, zZ, z8, xw, zz, zx, xE, z4, ya, z3, z6, z1, yb, z7, zj, z5, zy, zi, zA, z2, yL, yJ, zk, e2]) <;> rfl
  apply out_next
  · (simp (disch := first | assumption | decide | omega) only [zB, yc, zC, yM, yd, zl, yN, ye, yf, zD, zE, zm, zn, zF, yg, zo, zG, yh, zH, yi, zI, yj, zc, zJ, zK, yk, yl, zd, ym, yO, xx, yn, yo, zL, yp, zM, zp, zq, ze, zN, yq, zO, yr, zr, zf, zP, yt, zg, yu, zQ, zh, zt, yP, xy, yQ, yR, zu, yS, decide_eq_true_eq, beq_iff_eq, zR, zS, za, String.reduceEq, ↓reduceIte, yv, Glob.val?, xz, yT, yU, yV, yW, yX, yY, xA, xB, xC, xD, yZ, y0, y5, y6, y7, y8, yw, yx, yy, y9, xc, xd, zT, zU, xe, zV, zW, xf, xg, xh, xF, xG, xH, xI, xJ, xK, xL, xM, xi, xj, xk, xl, xm, xn, xo, xp, Glob.isB, and_self, and_true, true_and, zX, yz, yA, zY, Option.map_some, List.length_cons, List.length_nil, Nat.reduceAdd, Nat.zero_add, yB, yC, yD, yE, yF, yG, zb, yK, xr, xv, z9, xt, xu, xq, yI, yH, z0, zw, zZ, z8, xw, zz, zx, xE, z4, ya, z3, z6, z1, yb, z7, zj, z5, zy, zi, zA, z2, yL, yJ, zk, e3]) <;> rfl
  apply out_next
  · (simp (disch := first | assumption | decide | omega) only [zB, yc, zC, yM, yd, zl, yN, ye, yf, zD, zE, zm, zn, zF, yg, zo, zG, yh, zH, yi, zI, yj, zc, zJ, zK, yk, yl, zd, ym, yO, xx, yn, yo, zL, yp, zM, zp, zq, ze, zN, yq, zO, yr, zr, zf, zP, yt, zg, yu, zQ, zh, zt, yP, xy, yQ, yR, zu, yS, decide_eq_true_eq, beq_iff_eq, zR, zS, za, String.reduceEq, ↓reduceIte, yv, Glob.val?, xz, yT, yU, yV, yW, yX, yY, xA, xB, xC, xD, yZ, y0, y5, y6, y7, y8, yw, yx, yy, y9, xc, xd, zT, zU, xe, zV, zW, xf, xg, xh, xF, xG, xH, xI, xJ, xK, xL, xM, xi, xj, xk, xl, xm, xn, xo, xp, Glob.isB, and_self, and_true, true_and, zX, yz, yA, zY, Option.map_some, List.length_cons, List.length_nil, Nat.reduceAdd, Nat.zero_add, yB, yC, yD, yE, yF, yG, zb, yK, xr, xv, z9, xt, xu, xq, yI, yH, z0, zw, zZ, z8, xw, zz, zx, xE, z4, ya, z3, z6, z1, yb, z7, zj, z5, zy, zi, zA, z2, yL, yJ, zk, hwho, ce, Bool.not_true, Bool.false_eq_true]) <;> rfl
  apply out_ret
  · (simp (disch := first | assumption | decide | omega) only [zB, yc, zC, yM, yd, zl, yN, ye, yf, zD, zE, zm, zn, zF, yg, zo, zG, yh, zH, yi, zI, yj, zc, zJ, zK, yk, yl, zd, ym, yO, xx, yn, yo, zL, yp, zM, zp, zq, ze, zN, yq, zO, yr, zr, zf, zP, yt, zg, yu, zQ, zh, zt, yP, xy, yQ, yR, zu, yS, decide_eq_true_eq, beq_iff_eq, zR, zS, za, String.reduceEq, ↓reduceIte, yv, Glob.val?, xz, yT, yU, yV, yW, yX, yY, xA, xB, xC, xD, yZ, y0, y5, y6, y7, y8, yw, yx, yy, y9, xc, xd, zT, zU, xe, zV, zW, xf, xg, xh, xF, xG, xH, xI, xJ, xK, xL, xM, xi, xj, xk, xl, xm, xn, xo, xp, Glob.isB, and_self, and_true, true_and, zX, yz, yA, zY, Option.map_some, List.length_cons, List.length_nil, Nat.reduceAdd, Nat.zero_add, yB, yC, yD, yE, yF, yG, zb, yK, xr, xv, z9, xt, xu, xq, yI, yH, z0, zw, zZ, z8, xw, zz, zx, xE, z4, ya, z3, z6, z1, yb, z7, zj, z5, zy, zi, zA, z2, yL, yJ, zk, e4, e5, BEq.rfl]) <;> rfl
  · rfl
end
end

/-! the table -/
theorem phi_law : ∀ ns : List Int, ns.length ≤ 63 → ∃ σ', Phi Gl pw fnNames (Str.ofString "law") [.lst (ns.map .int)] [] = some (.bool true, σ') := by
  intro ns hl
  unfold fnNames
  rw [show Phi Gl pw ["law", "_law_parts", "_law_sum", "_law_points", "_law_around", "_law_on", "_law_floor", "_law_sizes", "_law_drawn", "_law_is_in", "_law_boxes", "_law_whole", "_law_mixed", "_law_cell_at", "holes", "parts", "bunches", "spread", "cells", "wide", "cell", "checked"] (Str.ofString "law") = interpF (Phi Gl pw ["_law_parts", "_law_sum", "_law_points", "_law_around", "_law_on", "_law_floor", "_law_sizes", "_law_drawn", "_law_is_in", "_law_boxes", "_law_whole", "_law_mixed", "_law_cell_at", "holes", "parts", "bunches", "spread", "cells", "wide", "cell", "checked"]) Gl (dOf pw "law") from phi_at [] "law" ["_law_parts", "_law_sum", "_law_points", "_law_around", "_law_on", "_law_floor", "_law_sizes", "_law_drawn", "_law_is_in", "_law_boxes", "_law_whole", "_law_mixed", "_law_cell_at", "holes", "parts", "bunches", "spread", "cells", "wide", "cell", "checked"] rfl]
  refine law_run ?_ ?_ ?_ ?_ ?_ ?_ hl
  · intro ns σ hl
    rw [show Phi Gl pw ["_law_parts", "_law_sum", "_law_points", "_law_around", "_law_on", "_law_floor", "_law_sizes", "_law_drawn", "_law_is_in", "_law_boxes", "_law_whole", "_law_mixed", "_law_cell_at", "holes", "parts", "bunches", "spread", "cells", "wide", "cell", "checked"] (Str.ofString "_law_floor") = interpF (Phi Gl pw ["_law_sizes", "_law_drawn", "_law_is_in", "_law_boxes", "_law_whole", "_law_mixed", "_law_cell_at", "holes", "parts", "bunches", "spread", "cells", "wide", "cell", "checked"]) Gl (dOf pw "_law_floor") from phi_at ["_law_parts", "_law_sum", "_law_points", "_law_around", "_law_on"] "_law_floor" ["_law_sizes", "_law_drawn", "_law_is_in", "_law_boxes", "_law_whole", "_law_mixed", "_law_cell_at", "holes", "parts", "bunches", "spread", "cells", "wide", "cell", "checked"] rfl]
    refine floor_run ?_ ?_ ?_ ?_ ?_ ?_ hl
    · intro ns k σ hk hl
      rw [show Phi Gl pw ["_law_sizes", "_law_drawn", "_law_is_in", "_law_boxes", "_law_whole", "_law_mixed", "_law_cell_at", "holes", "parts", "bunches", "spread", "cells", "wide", "cell", "checked"] (Str.ofString "_law_cell_at") = interpF (Phi Gl pw ["holes", "parts", "bunches", "spread", "cells", "wide", "cell", "checked"]) Gl (dOf pw "_law_cell_at") from phi_at ["_law_sizes", "_law_drawn", "_law_is_in", "_law_boxes", "_law_whole", "_law_mixed"] "_law_cell_at" ["holes", "parts", "bunches", "spread", "cells", "wide", "cell", "checked"] rfl]
      exact cell_at_run hk hl
    · intro c k σ h0 h4
      rw [show Phi Gl pw ["_law_sizes", "_law_drawn", "_law_is_in", "_law_boxes", "_law_whole", "_law_mixed", "_law_cell_at", "holes", "parts", "bunches", "spread", "cells", "wide", "cell", "checked"] (Str.ofString "_law_mixed") = interpF (Phi Gl pw ["_law_cell_at", "holes", "parts", "bunches", "spread", "cells", "wide", "cell", "checked"]) Gl (dOf pw "_law_mixed") from phi_at ["_law_sizes", "_law_drawn", "_law_is_in", "_law_boxes", "_law_whole"] "_law_mixed" ["_law_cell_at", "holes", "parts", "bunches", "spread", "cells", "wide", "cell", "checked"] rfl]
      exact mixed_run h0 h4
    · intro ns high wide σ hl
      rw [show Phi Gl pw ["_law_sizes", "_law_drawn", "_law_is_in", "_law_boxes", "_law_whole", "_law_mixed", "_law_cell_at", "holes", "parts", "bunches", "spread", "cells", "wide", "cell", "checked"] (Str.ofString "_law_boxes") = interpF (Phi Gl pw ["_law_whole", "_law_mixed", "_law_cell_at", "holes", "parts", "bunches", "spread", "cells", "wide", "cell", "checked"]) Gl (dOf pw "_law_boxes") from phi_at ["_law_sizes", "_law_drawn", "_law_is_in"] "_law_boxes" ["_law_whole", "_law_mixed", "_law_cell_at", "holes", "parts", "bunches", "spread", "cells", "wide", "cell", "checked"] rfl]
      refine boxes_run ?_ hl
      intro c k σ h0 h4
      rw [show Phi Gl pw ["_law_whole", "_law_mixed", "_law_cell_at", "holes", "parts", "bunches", "spread", "cells", "wide", "cell", "checked"] (Str.ofString "_law_mixed") = interpF (Phi Gl pw ["_law_cell_at", "holes", "parts", "bunches", "spread", "cells", "wide", "cell", "checked"]) Gl (dOf pw "_law_mixed") from phi_at ["_law_whole"] "_law_mixed" ["_law_cell_at", "holes", "parts", "bunches", "spread", "cells", "wide", "cell", "checked"] rfl]
      exact mixed_run h0 h4
    · intro bs i r c σ hσ
      rw [show Phi Gl pw ["_law_sizes", "_law_drawn", "_law_is_in", "_law_boxes", "_law_whole", "_law_mixed", "_law_cell_at", "holes", "parts", "bunches", "spread", "cells", "wide", "cell", "checked"] (Str.ofString "_law_is_in") = interpF (Phi Gl pw ["_law_boxes", "_law_whole", "_law_mixed", "_law_cell_at", "holes", "parts", "bunches", "spread", "cells", "wide", "cell", "checked"]) Gl (dOf pw "_law_is_in") from phi_at ["_law_sizes", "_law_drawn"] "_law_is_in" ["_law_boxes", "_law_whole", "_law_mixed", "_law_cell_at", "holes", "parts", "bunches", "spread", "cells", "wide", "cell", "checked"] rfl]
      exact is_in_run hσ
    · intro ns r c σ hl hr
      rw [show Phi Gl pw ["_law_sizes", "_law_drawn", "_law_is_in", "_law_boxes", "_law_whole", "_law_mixed", "_law_cell_at", "holes", "parts", "bunches", "spread", "cells", "wide", "cell", "checked"] (Str.ofString "_law_drawn") = interpF (Phi Gl pw ["_law_is_in", "_law_boxes", "_law_whole", "_law_mixed", "_law_cell_at", "holes", "parts", "bunches", "spread", "cells", "wide", "cell", "checked"]) Gl (dOf pw "_law_drawn") from phi_at ["_law_sizes"] "_law_drawn" ["_law_is_in", "_law_boxes", "_law_whole", "_law_mixed", "_law_cell_at", "holes", "parts", "bunches", "spread", "cells", "wide", "cell", "checked"] rfl]
      refine drawn_run ?_ ?_ hl hr
      · intro ns k σ hk hl
        rw [show Phi Gl pw ["_law_is_in", "_law_boxes", "_law_whole", "_law_mixed", "_law_cell_at", "holes", "parts", "bunches", "spread", "cells", "wide", "cell", "checked"] (Str.ofString "_law_cell_at") = interpF (Phi Gl pw ["holes", "parts", "bunches", "spread", "cells", "wide", "cell", "checked"]) Gl (dOf pw "_law_cell_at") from phi_at ["_law_is_in", "_law_boxes", "_law_whole", "_law_mixed"] "_law_cell_at" ["holes", "parts", "bunches", "spread", "cells", "wide", "cell", "checked"] rfl]
        exact cell_at_run hk hl
      · intro c k σ h0 h4
        rw [show Phi Gl pw ["_law_is_in", "_law_boxes", "_law_whole", "_law_mixed", "_law_cell_at", "holes", "parts", "bunches", "spread", "cells", "wide", "cell", "checked"] (Str.ofString "_law_mixed") = interpF (Phi Gl pw ["_law_cell_at", "holes", "parts", "bunches", "spread", "cells", "wide", "cell", "checked"]) Gl (dOf pw "_law_mixed") from phi_at ["_law_is_in", "_law_boxes", "_law_whole"] "_law_mixed" ["_law_cell_at", "holes", "parts", "bunches", "spread", "cells", "wide", "cell", "checked"] rfl]
        exact mixed_run h0 h4
    · intro ns σ hl
      rw [show Phi Gl pw ["_law_sizes", "_law_drawn", "_law_is_in", "_law_boxes", "_law_whole", "_law_mixed", "_law_cell_at", "holes", "parts", "bunches", "spread", "cells", "wide", "cell", "checked"] (Str.ofString "_law_sizes") = interpF (Phi Gl pw ["_law_drawn", "_law_is_in", "_law_boxes", "_law_whole", "_law_mixed", "_law_cell_at", "holes", "parts", "bunches", "spread", "cells", "wide", "cell", "checked"]) Gl (dOf pw "_law_sizes") from phi_at [] "_law_sizes" ["_law_drawn", "_law_is_in", "_law_boxes", "_law_whole", "_law_mixed", "_law_cell_at", "holes", "parts", "bunches", "spread", "cells", "wide", "cell", "checked"] rfl]
      refine sizes_run ?_ ?_ hl
      · intro ns k σ hk hl
        rw [show Phi Gl pw ["_law_drawn", "_law_is_in", "_law_boxes", "_law_whole", "_law_mixed", "_law_cell_at", "holes", "parts", "bunches", "spread", "cells", "wide", "cell", "checked"] (Str.ofString "_law_cell_at") = interpF (Phi Gl pw ["holes", "parts", "bunches", "spread", "cells", "wide", "cell", "checked"]) Gl (dOf pw "_law_cell_at") from phi_at ["_law_drawn", "_law_is_in", "_law_boxes", "_law_whole", "_law_mixed"] "_law_cell_at" ["holes", "parts", "bunches", "spread", "cells", "wide", "cell", "checked"] rfl]
        exact cell_at_run hk hl
      · intro c k σ h0 h4
        rw [show Phi Gl pw ["_law_drawn", "_law_is_in", "_law_boxes", "_law_whole", "_law_mixed", "_law_cell_at", "holes", "parts", "bunches", "spread", "cells", "wide", "cell", "checked"] (Str.ofString "_law_mixed") = interpF (Phi Gl pw ["_law_cell_at", "holes", "parts", "bunches", "spread", "cells", "wide", "cell", "checked"]) Gl (dOf pw "_law_mixed") from phi_at ["_law_drawn", "_law_is_in", "_law_boxes", "_law_whole"] "_law_mixed" ["_law_cell_at", "holes", "parts", "bunches", "spread", "cells", "wide", "cell", "checked"] rfl]
        exact mixed_run h0 h4
  · intro rows σ hg
    rw [show Phi Gl pw ["_law_parts", "_law_sum", "_law_points", "_law_around", "_law_on", "_law_floor", "_law_sizes", "_law_drawn", "_law_is_in", "_law_boxes", "_law_whole", "_law_mixed", "_law_cell_at", "holes", "parts", "bunches", "spread", "cells", "wide", "cell", "checked"] (Str.ofString "parts") = interpF (Phi Gl pw ["bunches", "spread", "cells", "wide", "cell", "checked"]) Gl (dOf pw "parts") from phi_at ["_law_parts", "_law_sum", "_law_points", "_law_around", "_law_on", "_law_floor", "_law_sizes", "_law_drawn", "_law_is_in", "_law_boxes", "_law_whole", "_law_mixed", "_law_cell_at", "holes"] "parts" ["bunches", "spread", "cells", "wide", "cell", "checked"] rfl]
    refine parts_run ?_ ?_ ?_ hg
    · intro rows σ hg
      rw [show Phi Gl pw ["bunches", "spread", "cells", "wide", "cell", "checked"] (Str.ofString "checked") = interpF (Phi Gl pw []) Gl (dOf pw "checked") from phi_at ["bunches", "spread", "cells", "wide", "cell"] "checked" [] rfl]
      exact checked_run hg
    · intro ps ways l σ h1 h2 h3 h4
      rw [show Phi Gl pw ["bunches", "spread", "cells", "wide", "cell", "checked"] (Str.ofString "bunches") = interpF (Phi Gl pw ["spread", "cells", "wide", "cell", "checked"]) Gl (dOf pw "bunches") from phi_at [] "bunches" ["spread", "cells", "wide", "cell", "checked"] rfl]
      refine bunches_run ?_ h1 h2 h3 h4
      intro T ways d first σ h1 h2 h3 h4 h5
      rw [show Phi Gl pw ["spread", "cells", "wide", "cell", "checked"] (Str.ofString "spread") = interpF (Phi Gl pw ["cells", "wide", "cell", "checked"]) Gl (dOf pw "spread") from phi_at [] "spread" ["cells", "wide", "cell", "checked"] rfl]
      exact spread_run h1 h2 h3 h4 h5
    · intro rows σ hg
      rw [show Phi Gl pw ["bunches", "spread", "cells", "wide", "cell", "checked"] (Str.ofString "cells") = interpF (Phi Gl pw ["wide", "cell", "checked"]) Gl (dOf pw "cells") from phi_at ["bunches", "spread"] "cells" ["wide", "cell", "checked"] rfl]
      refine cells_run ?_ ?_ hg
      · intro rows r c σ hg
        rw [show Phi Gl pw ["wide", "cell", "checked"] (Str.ofString "cell") = interpF (Phi Gl pw ["checked"]) Gl (dOf pw "cell") from phi_at ["wide"] "cell" ["checked"] rfl]
        exact cell_run hg
      · intro rows σ hg
        rw [show Phi Gl pw ["wide", "cell", "checked"] (Str.ofString "wide") = interpF (Phi Gl pw ["cell", "checked"]) Gl (dOf pw "wide") from phi_at [] "wide" ["cell", "checked"] rfl]
        exact wide_run hg
  · intro rows σ hg
    rw [show Phi Gl pw ["_law_parts", "_law_sum", "_law_points", "_law_around", "_law_on", "_law_floor", "_law_sizes", "_law_drawn", "_law_is_in", "_law_boxes", "_law_whole", "_law_mixed", "_law_cell_at", "holes", "parts", "bunches", "spread", "cells", "wide", "cell", "checked"] (Str.ofString "holes") = interpF (Phi Gl pw ["parts", "bunches", "spread", "cells", "wide", "cell", "checked"]) Gl (dOf pw "holes") from phi_at ["_law_parts", "_law_sum", "_law_points", "_law_around", "_law_on", "_law_floor", "_law_sizes", "_law_drawn", "_law_is_in", "_law_boxes", "_law_whole", "_law_mixed", "_law_cell_at"] "holes" ["parts", "bunches", "spread", "cells", "wide", "cell", "checked"] rfl]
    refine holes_run ?_ ?_ ?_ ?_ hg
    · intro rows σ hg
      rw [show Phi Gl pw ["parts", "bunches", "spread", "cells", "wide", "cell", "checked"] (Str.ofString "checked") = interpF (Phi Gl pw []) Gl (dOf pw "checked") from phi_at ["parts", "bunches", "spread", "cells", "wide", "cell"] "checked" [] rfl]
      exact checked_run hg
    · intro ps ways l σ h1 h2 h3 h4
      rw [show Phi Gl pw ["parts", "bunches", "spread", "cells", "wide", "cell", "checked"] (Str.ofString "bunches") = interpF (Phi Gl pw ["spread", "cells", "wide", "cell", "checked"]) Gl (dOf pw "bunches") from phi_at ["parts"] "bunches" ["spread", "cells", "wide", "cell", "checked"] rfl]
      refine bunches_run ?_ h1 h2 h3 h4
      intro T ways d first σ h1 h2 h3 h4 h5
      rw [show Phi Gl pw ["spread", "cells", "wide", "cell", "checked"] (Str.ofString "spread") = interpF (Phi Gl pw ["cells", "wide", "cell", "checked"]) Gl (dOf pw "spread") from phi_at [] "spread" ["cells", "wide", "cell", "checked"] rfl]
      exact spread_run h1 h2 h3 h4 h5
    · intro rows r c σ hg
      rw [show Phi Gl pw ["parts", "bunches", "spread", "cells", "wide", "cell", "checked"] (Str.ofString "cell") = interpF (Phi Gl pw ["checked"]) Gl (dOf pw "cell") from phi_at ["parts", "bunches", "spread", "cells", "wide"] "cell" ["checked"] rfl]
      exact cell_run hg
    · intro rows σ hg
      rw [show Phi Gl pw ["parts", "bunches", "spread", "cells", "wide", "cell", "checked"] (Str.ofString "wide") = interpF (Phi Gl pw ["cell", "checked"]) Gl (dOf pw "wide") from phi_at ["parts", "bunches", "spread", "cells"] "wide" ["cell", "checked"] rfl]
      exact wide_run hg
  · intro i σ
    rw [show Phi Gl pw ["_law_parts", "_law_sum", "_law_points", "_law_around", "_law_on", "_law_floor", "_law_sizes", "_law_drawn", "_law_is_in", "_law_boxes", "_law_whole", "_law_mixed", "_law_cell_at", "holes", "parts", "bunches", "spread", "cells", "wide", "cell", "checked"] (Str.ofString "_law_whole") = interpF (Phi Gl pw ["_law_mixed", "_law_cell_at", "holes", "parts", "bunches", "spread", "cells", "wide", "cell", "checked"]) Gl (dOf pw "_law_whole") from phi_at ["_law_parts", "_law_sum", "_law_points", "_law_around", "_law_on", "_law_floor", "_law_sizes", "_law_drawn", "_law_is_in", "_law_boxes"] "_law_whole" ["_law_mixed", "_law_cell_at", "holes", "parts", "bunches", "spread", "cells", "wide", "cell", "checked"] rfl]
    exact whole_run
  · intro rows l σ hg hσ
    rw [show Phi Gl pw ["_law_parts", "_law_sum", "_law_points", "_law_around", "_law_on", "_law_floor", "_law_sizes", "_law_drawn", "_law_is_in", "_law_boxes", "_law_whole", "_law_mixed", "_law_cell_at", "holes", "parts", "bunches", "spread", "cells", "wide", "cell", "checked"] (Str.ofString "_law_parts") = interpF (Phi Gl pw ["_law_sum", "_law_points", "_law_around", "_law_on", "_law_floor", "_law_sizes", "_law_drawn", "_law_is_in", "_law_boxes", "_law_whole", "_law_mixed", "_law_cell_at", "holes", "parts", "bunches", "spread", "cells", "wide", "cell", "checked"]) Gl (dOf pw "_law_parts") from phi_at [] "_law_parts" ["_law_sum", "_law_points", "_law_around", "_law_on", "_law_floor", "_law_sizes", "_law_drawn", "_law_is_in", "_law_boxes", "_law_whole", "_law_mixed", "_law_cell_at", "holes", "parts", "bunches", "spread", "cells", "wide", "cell", "checked"] rfl]
    exact law_parts_run hg hσ
  · intro rows l σ hg hσ
    rw [show Phi Gl pw ["_law_parts", "_law_sum", "_law_points", "_law_around", "_law_on", "_law_floor", "_law_sizes", "_law_drawn", "_law_is_in", "_law_boxes", "_law_whole", "_law_mixed", "_law_cell_at", "holes", "parts", "bunches", "spread", "cells", "wide", "cell", "checked"] (Str.ofString "_law_sum") = interpF (Phi Gl pw ["_law_points", "_law_around", "_law_on", "_law_floor", "_law_sizes", "_law_drawn", "_law_is_in", "_law_boxes", "_law_whole", "_law_mixed", "_law_cell_at", "holes", "parts", "bunches", "spread", "cells", "wide", "cell", "checked"]) Gl (dOf pw "_law_sum") from phi_at ["_law_parts"] "_law_sum" ["_law_points", "_law_around", "_law_on", "_law_floor", "_law_sizes", "_law_drawn", "_law_is_in", "_law_boxes", "_law_whole", "_law_mixed", "_law_cell_at", "holes", "parts", "bunches", "spread", "cells", "wide", "cell", "checked"] rfl]
    refine sum_run ?_ ?_ hg hσ
    · intro rows i r c σ hg hσ
      rw [show Phi Gl pw ["_law_points", "_law_around", "_law_on", "_law_floor", "_law_sizes", "_law_drawn", "_law_is_in", "_law_boxes", "_law_whole", "_law_mixed", "_law_cell_at", "holes", "parts", "bunches", "spread", "cells", "wide", "cell", "checked"] (Str.ofString "_law_on") = interpF (Phi Gl pw ["_law_floor", "_law_sizes", "_law_drawn", "_law_is_in", "_law_boxes", "_law_whole", "_law_mixed", "_law_cell_at", "holes", "parts", "bunches", "spread", "cells", "wide", "cell", "checked"]) Gl (dOf pw "_law_on") from phi_at ["_law_points", "_law_around"] "_law_on" ["_law_floor", "_law_sizes", "_law_drawn", "_law_is_in", "_law_boxes", "_law_whole", "_law_mixed", "_law_cell_at", "holes", "parts", "bunches", "spread", "cells", "wide", "cell", "checked"] rfl]
      exact on_run hg hσ
    · intro rows l many σ hg hσ
      rw [show Phi Gl pw ["_law_points", "_law_around", "_law_on", "_law_floor", "_law_sizes", "_law_drawn", "_law_is_in", "_law_boxes", "_law_whole", "_law_mixed", "_law_cell_at", "holes", "parts", "bunches", "spread", "cells", "wide", "cell", "checked"] (Str.ofString "_law_points") = interpF (Phi Gl pw ["_law_around", "_law_on", "_law_floor", "_law_sizes", "_law_drawn", "_law_is_in", "_law_boxes", "_law_whole", "_law_mixed", "_law_cell_at", "holes", "parts", "bunches", "spread", "cells", "wide", "cell", "checked"]) Gl (dOf pw "_law_points") from phi_at [] "_law_points" ["_law_around", "_law_on", "_law_floor", "_law_sizes", "_law_drawn", "_law_is_in", "_law_boxes", "_law_whole", "_law_mixed", "_law_cell_at", "holes", "parts", "bunches", "spread", "cells", "wide", "cell", "checked"] rfl]
      refine points_run ?_ hg hσ
      intro rows i r c σ hg hσ
      rw [show Phi Gl pw ["_law_around", "_law_on", "_law_floor", "_law_sizes", "_law_drawn", "_law_is_in", "_law_boxes", "_law_whole", "_law_mixed", "_law_cell_at", "holes", "parts", "bunches", "spread", "cells", "wide", "cell", "checked"] (Str.ofString "_law_around") = interpF (Phi Gl pw ["_law_on", "_law_floor", "_law_sizes", "_law_drawn", "_law_is_in", "_law_boxes", "_law_whole", "_law_mixed", "_law_cell_at", "holes", "parts", "bunches", "spread", "cells", "wide", "cell", "checked"]) Gl (dOf pw "_law_around") from phi_at [] "_law_around" ["_law_on", "_law_floor", "_law_sizes", "_law_drawn", "_law_is_in", "_law_boxes", "_law_whole", "_law_mixed", "_law_cell_at", "holes", "parts", "bunches", "spread", "cells", "wide", "cell", "checked"] rfl]
      refine law_around_run ?_ hg hσ
      intro rows i r c σ hg hσ
      rw [show Phi Gl pw ["_law_on", "_law_floor", "_law_sizes", "_law_drawn", "_law_is_in", "_law_boxes", "_law_whole", "_law_mixed", "_law_cell_at", "holes", "parts", "bunches", "spread", "cells", "wide", "cell", "checked"] (Str.ofString "_law_on") = interpF (Phi Gl pw ["_law_floor", "_law_sizes", "_law_drawn", "_law_is_in", "_law_boxes", "_law_whole", "_law_mixed", "_law_cell_at", "holes", "parts", "bunches", "spread", "cells", "wide", "cell", "checked"]) Gl (dOf pw "_law_on") from phi_at [] "_law_on" ["_law_floor", "_law_sizes", "_law_drawn", "_law_is_in", "_law_boxes", "_law_whole", "_law_mixed", "_law_cell_at", "holes", "parts", "bunches", "spread", "cells", "wide", "cell", "checked"] rfl]
      exact on_run hg hσ
end Mine

end

set_option Elab.async false
set_option maxRecDepth 100000
namespace Mine
open PySem PySem.Spec PyProof.Rows PySem.W PySem.Challenge

theorem lit_pts {R : WRecords} {cl : Str → Option Addr} {B h : Heap} {η : List Addr} (x : Ext B h) (nb : ∀ b o, B.get? b = some o → b ∉ η) : ∀ {vs : List Value} {ps : List IP} {as : List Addr}, ReadsAllW R cl B vs (ps.map fun p => WData.tuple [.int p.1, .int p.2]) as → RepAll h η vs (ps.map tup2)
  | _, [], _, r => by cases r; exact .nil
  | _, p :: ps, _, r => by
    cases r with
    | cons a r =>
      refine .cons ?_ (lit_pts x nb r)
      cases a with
      | tuple e1 e2 e3 q =>
        rename_i ad o vs n
        generalize hL : vs.toList = L at q
        cases q with
        | cons a1 q =>
          cases a1
          cases q with
          | cons a2 q =>
            cases a2
            cases q
            rename_i t1 t2
            have hv : vs = [Value.int p.1 t1, Value.int p.2 t2].toArray := by
              apply Array.toList_inj.mp
              simpa using hL
            subst hv
            exact .tup (nb _ _ e1) ⟨o, x _ _ e1, e2, n, e3⟩ (.cons (.int _ _) (.cons (.int _ _) .nil))
theorem lit_tup {R : WRecords} {cl : Str → Option Addr} {B h : Heap} {η : List Addr} (x : Ext B h) (nb : ∀ b o, B.get? b = some o → b ∉ η) {v : Value} {ps : List IP} {as : List Addr} (r : ReadsW R cl B v (.tuple (ps.map fun p => WData.tuple [.int p.1, .int p.2])) as) : Rep h η v (.tup (ps.map tup2)) := by
  cases r with
  | tuple e1 e2 e3 q =>
    rename_i ad o vs n
    exact .tup (nb _ _ e1) (vs := vs.toList) ⟨o, x _ _ e1, e2, n, by simpa using e3⟩ (lit_pts x nb q)

set_option maxHeartbeats 8000000 in
theorem main04 : PySem.Challenge.rw_uf040012_04.Holds := by
  w_on
  o_law
  o_head Hook.none
  case hw => w_witness2
  intro w s₀ s₁ mg mb G Y fa o pm cd doc dV kV ho hd hcd hD hmg hg args vals as hpre hlay hrd hwl hlo
  refine Ground.open G ?_
  intro T B D TE TW
  clear hd hcd hD ho B D TE Y G
  wrow_args hpre hlay hrd hwl hlo
  rename_i ns _ _ _ _ _ _ _ a vs _ hL _ hW _ hI _ hlen _
  have C : Cx s₁.heap mg mb Gl := by
    refine ⟨T.g, T.b, T.nolimit, T.builtins, fun x hx => ?_, fun x d hx => ?_⟩
    · have hm : biNames.any (fun f => x == Str.ofString f) = true := by
        unfold Gl at hx
        split at hx
        · cases hx
        · split at hx
          · assumption
          · split at hx
            · cases hx
            · split at hx
              · cases hx
              · split at hx
                · cases hx
                · split at hx <;> cases hx
      obtain ⟨f, hf, hxf⟩ := List.any_eq_true.mp hm
      have hxf := beq_iff_eq.mp hxf
      subst hxf
      simp only [biNames, List.mem_cons, List.not_mem_nil, or_false] at hf
      rcases hf with rfl | rfl | rfl | rfl | rfl | rfl | rfl | rfl | rfl <;> exact ⟨T.free _ (by decide +kernel) (by decide +kernel) (by decide +kernel) (by decide +kernel) (by decide +kernel), by decide +kernel⟩
    · have : (x = Str.ofString "MOST" ∧ d = .int 30) ∨ (x = Str.ofString "SIGNS" ∧ d = .str "#.") ∨ (x = Str.ofString "BESIDE" ∧ d = .tup (four.map tup2)) ∨ (x = Str.ofString "ROUND" ∧ d = .tup (eight.map tup2)) := by
        unfold Gl at hx
        split at hx
        · cases hx
        · split at hx
          · cases hx
          · split at hx
            · rename_i q; cases hx; exact .inl ⟨beq_iff_eq.mp q, rfl⟩
            · split at hx
              · rename_i q; cases hx; exact .inr (.inl ⟨beq_iff_eq.mp q, rfl⟩)
              · split at hx
                · rename_i q; cases hx; exact .inr (.inr (.inl ⟨beq_iff_eq.mp q, rfl⟩))
                · split at hx
                  · rename_i q; cases hx; exact .inr (.inr (.inr ⟨beq_iff_eq.mp q, rfl⟩))
                  · cases hx
      rcases this with ⟨rfl, rfl⟩ | ⟨rfl, rfl⟩ | ⟨rfl, rfl⟩ | ⟨rfl, rfl⟩
      · obtain ⟨v, hv, hr⟩ := T.const (Str.ofString "MOST") (.int 30) (by kernel_rfl)
        exact ⟨v, hv, fun h η _ _ => by cases hr h; exact .int _ _⟩
      · obtain ⟨v, hv, hr⟩ := T.const (Str.ofString "SIGNS") (.str "#.") (by kernel_rfl)
        exact ⟨v, hv, fun h η _ _ => by cases hr h; exact .str _ _⟩
      · obtain ⟨v, hv, hr⟩ := TW.lits (Str.ofString "BESIDE", .tuple (four.map fun p => WData.tuple [.int p.1, .int p.2])) (List.mem_of_getElem? (i := 0) (by kernel_rfl))
        exact ⟨v, hv, fun h η hx nb => lit_tup hx nb hr⟩
      · obtain ⟨v, hv, hr⟩ := TW.lits (Str.ofString "ROUND", .tuple (eight.map fun p => WData.tuple [.int p.1, .int p.2])) (List.mem_of_getElem? (i := 1) (by kernel_rfl))
        exact ⟨v, hv, fun h η hx nb => lit_tup hx nb hr⟩
  obtain ⟨σ', hΦ⟩ := phi_law ns (by omega)
  have Fn := phi_ok (prog := PySem.Challenge.rw_uf040012_04.row.prog) (w := w) (p := pw) C T fnNames (by
    refine List.forall_mem_cons.mpr ⟨⟨by kernel_rfl, by kernel_rfl, bind1 (by kernel_rfl) fun a pm code doc => by kernel_rfl⟩, ?_⟩
    refine List.forall_mem_cons.mpr ⟨⟨by kernel_rfl, by kernel_rfl, bind1 (by kernel_rfl) fun a pm code doc => by kernel_rfl⟩, ?_⟩
    refine List.forall_mem_cons.mpr ⟨⟨by kernel_rfl, by kernel_rfl, bind1 (by kernel_rfl) fun a pm code doc => by kernel_rfl⟩, ?_⟩
    refine List.forall_mem_cons.mpr ⟨⟨by kernel_rfl, by kernel_rfl, bind2 (by kernel_rfl) fun a b pm code doc => by kernel_rfl⟩, ?_⟩
    refine List.forall_mem_cons.mpr ⟨⟨by kernel_rfl, by kernel_rfl, bind3 (by kernel_rfl) fun a b c pm code doc => by kernel_rfl⟩, ?_⟩
    refine List.forall_mem_cons.mpr ⟨⟨by kernel_rfl, by kernel_rfl, bind3 (by kernel_rfl) fun a b c pm code doc => by kernel_rfl⟩, ?_⟩
    refine List.forall_mem_cons.mpr ⟨⟨by kernel_rfl, by kernel_rfl, bind2 (by kernel_rfl) fun a b pm code doc => by kernel_rfl⟩, ?_⟩
    refine List.forall_mem_cons.mpr ⟨⟨by kernel_rfl, by kernel_rfl, bind2 (by kernel_rfl) fun a b pm code doc => by kernel_rfl⟩, ?_⟩
    refine List.forall_mem_cons.mpr ⟨⟨by kernel_rfl, by kernel_rfl, bind3 (by kernel_rfl) fun a b c pm code doc => by kernel_rfl⟩, ?_⟩
    refine List.forall_mem_cons.mpr ⟨⟨by kernel_rfl, by kernel_rfl, bind3 (by kernel_rfl) fun a b c pm code doc => by kernel_rfl⟩, ?_⟩
    refine List.forall_mem_cons.mpr ⟨⟨by kernel_rfl, by kernel_rfl, bind3 (by kernel_rfl) fun a b c pm code doc => by kernel_rfl⟩, ?_⟩
    refine List.forall_mem_cons.mpr ⟨⟨by kernel_rfl, by kernel_rfl, bind1 (by kernel_rfl) fun a pm code doc => by kernel_rfl⟩, ?_⟩
    refine List.forall_mem_cons.mpr ⟨⟨by kernel_rfl, by kernel_rfl, bind2 (by kernel_rfl) fun a b pm code doc => by kernel_rfl⟩, ?_⟩
    refine List.forall_mem_cons.mpr ⟨⟨by kernel_rfl, by kernel_rfl, bind2 (by kernel_rfl) fun a b pm code doc => by kernel_rfl⟩, ?_⟩
    refine List.forall_mem_cons.mpr ⟨⟨by kernel_rfl, by kernel_rfl, bind1 (by kernel_rfl) fun a pm code doc => by kernel_rfl⟩, ?_⟩
    refine List.forall_mem_cons.mpr ⟨⟨by kernel_rfl, by kernel_rfl, bind1 (by kernel_rfl) fun a pm code doc => by kernel_rfl⟩, ?_⟩
    refine List.forall_mem_cons.mpr ⟨⟨by kernel_rfl, by kernel_rfl, bind2 (by kernel_rfl) fun a b pm code doc => by kernel_rfl⟩, ?_⟩
    refine List.forall_mem_cons.mpr ⟨⟨by kernel_rfl, by kernel_rfl, bind3 (by kernel_rfl) fun a b c pm code doc => by kernel_rfl⟩, ?_⟩
    refine List.forall_mem_cons.mpr ⟨⟨by kernel_rfl, by kernel_rfl, bind1 (by kernel_rfl) fun a pm code doc => by kernel_rfl⟩, ?_⟩
    refine List.forall_mem_cons.mpr ⟨⟨by kernel_rfl, by kernel_rfl, bind1 (by kernel_rfl) fun a pm code doc => by kernel_rfl⟩, ?_⟩
    refine List.forall_mem_cons.mpr ⟨⟨by kernel_rfl, by kernel_rfl, bind3 (by kernel_rfl) fun a b c pm code doc => by kernel_rfl⟩, ?_⟩
    refine List.forall_mem_cons.mpr ⟨⟨by kernel_rfl, by kernel_rfl, bind1 (by kernel_rfl) fun a pm code doc => by kernel_rfl⟩, ?_⟩
    exact fun _ h => by cases h)
  refine run_law C Fn (by decide) hΦ hmg hL hW hI fun h' tk x => ?_
  exact law_good hg (fun cls => rfl) (by kernel_rfl) x
end Mine

theorem PySem.Challenge.cw_uf040012_04_holds : PySem.Challenge.rw_uf040012_04.Holds := by
  exact Mine.main04
