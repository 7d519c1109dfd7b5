import PyProof.Rows.All
import Wide.All
import Open.Line
import PySem.Challenge.RW_uf040012_03
set_option Elab.async false
set_option linter.unusedVariables false
set_option linter.unusedSimpArgs false

noncomputable section

set_option maxRecDepth 100000
namespace Mine
open PySem

/-- plain values -/
inductive PV where
  | none
  | bool (b : Bool)
  | int (i : Int)
  | str (x : Str)
  | ty (n : String)
  | tup (ds : List PV)
  | lst (ds : List PV)
  | loc (i : Nat)

/-- plain objects that change -/
inductive PO where
  | list (ds : List PV)
  | dict (es : List (List Int × PV))

abbrev Store := List PO
abbrev Locals := Str → Option PV

mutual
inductive Rep (h : Heap) (η : List Addr) : Value → PV → Prop
  | none : Rep h η Value.none PV.none
  | bool (b : Bool) : Rep h η (Value.bool b) (PV.bool b)
  | int (i : Int) (t : Tok) : Rep h η (Value.int i t) (PV.int i)
  | str (x : Str) (t : Tok) : Rep h η (Value.str x t) (PV.str x)
  | ty (n : String) : Rep h η (Value.type n) (PV.ty n)
  | tup {a : Addr} {vs : List Value} {ds : List PV} : a ∉ η → h.IsTuple a vs.toArray → RepAll h η vs ds → Rep h η (Value.ref a) (PV.tup ds)
  | lst {a : Addr} {vs : List Value} {ds : List PV} : a ∉ η → h.PlainList a vs.toArray → RepAll h η vs ds → Rep h η (Value.ref a) (PV.lst ds)
  | loc {a : Addr} {i : Nat} : η[i]? = some a → Rep h η (Value.ref a) (PV.loc i)
inductive RepAll (h : Heap) (η : List Addr) : List Value → List PV → Prop
  | nil : RepAll h η [] []
  | cons {v : Value} {vs : List Value} {d : PV} {ds : List PV} : Rep h η v d → RepAll h η vs ds → RepAll h η (v :: vs) (d :: ds)
end

/-- what a stretch of the run leaves as it was: all but the mutable places η and what P names -/
structure Step (P : Addr → Prop) (η η' : List Addr) (h h' : Heap) : Prop where
  grow : ∃ ex, η' = η ++ ex
  keep : ∀ b o, h.get? b = some o → b ∉ η → ¬ P b → h'.get? b = some o ∧ b ∉ η'

/-- P names no tuple and no list -/
noncomputable def NoSeq (P : Addr → Prop) (h : Heap) : Prop := ∀ b o, P b → h.get? b = some o → ∀ items n, o.data ≠ .seq items n

theorem NoSeq.bot (h : Heap) : NoSeq (fun _ => False) h := fun _ _ hf => hf.elim

theorem Step.refl {P : Addr → Prop} {η : List Addr} {h : Heap} : Step P η η h h := ⟨⟨[], by simp⟩, fun _ _ e n _ => ⟨e, n⟩⟩

theorem Step.trans {P P' : Addr → Prop} {η η₁ η₂ : List Addr} {h h₁ h₂ : Heap} (a : Step P η η₁ h h₁) (b : Step P' η₁ η₂ h₁ h₂) (hP : ∀ x, P' x → P x ∨ h.get? x = none) : Step P η η₂ h h₂ := by
  obtain ⟨e1, he1⟩ := a.grow
  obtain ⟨e2, he2⟩ := b.grow
  refine ⟨⟨e1 ++ e2, by rw [he2, he1, List.append_assoc]⟩, fun x o e n p => ?_⟩
  obtain ⟨q1, q2⟩ := a.keep x o e n p
  refine b.keep x o q1 q2 fun hp' => ?_
  rcases hP x hp' with r | r
  · exact p r
  · rw [r] at e; cases e

theorem Step.trans0 {P : Addr → Prop} {η η₁ η₂ : List Addr} {h h₁ h₂ : Heap} (a : Step P η η₁ h h₁) (b : Step (fun _ => False) η₁ η₂ h₁ h₂) : Step P η η₂ h h₂ := a.trans b fun _ f => f.elim
theorem Step.transS {P : Addr → Prop} {η η₁ η₂ : List Addr} {h h₁ h₂ : Heap} (a : Step P η η₁ h h₁) (b : Step P η₁ η₂ h₁ h₂) : Step P η η₂ h h₂ := a.trans b fun _ f => .inl f
theorem Step.weaken {P P' : Addr → Prop} {η η₁ : List Addr} {h h₁ : Heap} (a : Step P η η₁ h h₁) (hP : ∀ x, P x → P' x ∨ h.get? x = none) : Step P' η η₁ h h₁ :=
  ⟨a.grow, fun b o e n p => a.keep b o e n fun q => (hP b q).elim p fun r => by rw [r] at e; cases e⟩

theorem Step.getη {P : Addr → Prop} {η η' : List Addr} {h h' : Heap} (a : Step P η η' h h') {i : Nat} {x : Addr} (e : η[i]? = some x) : η'[i]? = some x := by
  obtain ⟨ex, rfl⟩ := a.grow
  rw [List.getElem?_append_left (List.getElem?_eq_some_iff.mp e).1]; exact e

/-- a push -/
theorem Step.push {P : Addr → Prop} {η : List Addr} {h : Heap} (o : Obj) : Step P η η h (h.push o) :=
  ⟨⟨[], by simp⟩, fun _ _ e n _ => ⟨Heap.get?_push_of_some o e, n⟩⟩
/-- a push whose object is a new mutable place -/
theorem Step.pushη {P : Addr → Prop} {η : List Addr} {h : Heap} (o : Obj) : Step P η (η ++ [h.objs.size]) h (h.push o) :=
  ⟨⟨[h.objs.size], rfl⟩, fun b _ e n _ => ⟨Heap.get?_push_of_some o e, fun hm => by
    rcases List.mem_append.mp hm with hm | hm
    · exact n hm
    · have h1 := Heap.lt_size e
      rw [List.mem_singleton.mp hm] at h1; exact Nat.lt_irrefl _ h1⟩⟩
theorem Step.ext {η : List Addr} {h h' : Heap} (hk : ∀ b o, h.get? b = some o → h'.get? b = some o) {P : Addr → Prop} : Step P η η h h' :=
  ⟨⟨[], by simp⟩, fun b o e n _ => ⟨hk b o e, n⟩⟩
theorem Step.extBut {η : List Addr} {h h' : Heap} {a : Addr} (hk : Heap.ExtBut a h h') : Step (fun b => b = a) η η h h' :=
  ⟨⟨[], by simp⟩, fun b o e n p => ⟨hk b o p e, n⟩⟩
theorem Step.extNew {η : List Addr} {h h' : Heap} {a : Addr} (hk : Heap.ExtBut a h h') (hn : h.get? a = none) {P : Addr → Prop} : Step P η η h h' :=
  ⟨⟨[], by simp⟩, fun b o e n _ => ⟨hk b o (fun q => by rw [q, hn] at e; cases e) e, n⟩⟩
theorem Step.sameη {η : List Addr} {h h' : Heap} {a : Addr} (hk : Heap.SameBut a h h') (ha : a ∈ η) {P : Addr → Prop} : Step P η η h h' :=
  ⟨⟨[], by simp⟩, fun b o e n _ => ⟨hk.extBut b o (fun q => n (q ▸ ha)) e, n⟩⟩

mutual
theorem Rep.step {P : Addr → Prop} {η η' : List Addr} {h h' : Heap} (st : Step P η η' h h') (ns : NoSeq P h) : ∀ {v : Value} {d : PV}, Rep h η v d → Rep h' η' v d
  | _, _, .none => .none
  | _, _, .bool b => .bool b
  | _, _, .int i t => .int i t
  | _, _, .str x t => .str x t
  | _, _, .ty n => .ty n
  | _, _, .tup (a := a) hn ⟨o, ho, hc, n, hd⟩ r => by
    have k := st.keep a o ho hn fun p => ns a o p ho _ _ hd
    exact .tup k.2 ⟨o, k.1, hc, n, hd⟩ (RepAll.step st ns r)
  | _, _, .lst (a := a) hn ⟨n, ho⟩ r => by
    have k := st.keep a _ ho hn fun p => ns a _ p ho _ _ rfl
    exact .lst k.2 ⟨n, k.1⟩ (RepAll.step st ns r)
  | _, _, .loc e => .loc (st.getη e)
theorem RepAll.step {P : Addr → Prop} {η η' : List Addr} {h h' : Heap} (st : Step P η η' h h') (ns : NoSeq P h) : ∀ {vs : List Value} {ds : List PV}, RepAll h η vs ds → RepAll h' η' vs ds
  | _, _, .nil => .nil
  | _, _, .cons a r => .cons (Rep.step st ns a) (RepAll.step st ns r)
end

section
variable {h : Heap} {η : List Addr}
theorem RepAll.length {vs : List Value} {ds : List PV} (r : RepAll h η vs ds) : vs.length = ds.length := by
  induction vs generalizing ds with
  | nil => cases r; rfl
  | cons v vs ih => cases r with | cons a r => rw [List.length_cons, List.length_cons, ih r]
theorem RepAll.append {vs ws : List Value} {ds es : List PV} (r : RepAll h η vs ds) (q : RepAll h η ws es) : RepAll h η (vs ++ ws) (ds ++ es) := by
  induction vs generalizing ds with
  | nil => cases r; exact q
  | cons v vs ih => cases r with | cons a r => exact .cons a (ih r)
theorem RepAll.get {vs : List Value} {ds : List PV} (r : RepAll h η vs ds) {k : Nat} {d : PV} (e : ds[k]? = some d) : ∃ v, vs[k]? = some v ∧ Rep h η v d := by
  induction vs generalizing ds k with
  | nil => cases r; cases e
  | cons v vs ih =>
    cases r with
    | cons a r =>
      cases k with
      | zero => cases e; exact ⟨v, rfl, a⟩
      | succ k => exact ih r e
theorem RepAll.getV {vs : List Value} {ds : List PV} (r : RepAll h η vs ds) {k : Nat} {v : Value} (e : vs[k]? = some v) : ∃ d, ds[k]? = some d ∧ Rep h η v d := by
  induction vs generalizing ds k with
  | nil => cases e
  | cons w vs ih =>
    cases r with
    | cons a r =>
      cases k with
      | zero => cases e; exact ⟨_, rfl, a⟩
      | succ k => exact ih r e
theorem RepAll.take {vs : List Value} {ds : List PV} (r : RepAll h η vs ds) (n : Nat) : RepAll h η (vs.take n) (ds.take n) := by
  induction vs generalizing ds n with
  | nil => cases r; simp; exact .nil
  | cons w vs ih =>
    cases r with
    | cons a r =>
      cases n with
      | zero => exact .nil
      | succ n => exact .cons a (ih r n)
theorem RepAll.drop {vs : List Value} {ds : List PV} (r : RepAll h η vs ds) (n : Nat) : RepAll h η (vs.drop n) (ds.drop n) := by
  induction vs generalizing ds n with
  | nil => cases r; simp; exact .nil
  | cons w vs ih =>
    cases r with
    | cons a r =>
      cases n with
      | zero => exact .cons a r
      | succ n => exact ih r n
end

variable (prog : Program) (w : World)

/-- the kind of the dicts' keys: tuples of ints -/
abbrev tk : HeapKind prog w (List Int) := tupleKind (intKind prog w)

/-- what stands at a mutable place -/
noncomputable def RepObj (h : Heap) (η : List Addr) (a : Addr) : PO → Prop
  | .list ds => ∃ vs : List Value, h.PlainList a vs.toArray ∧ RepAll h η vs ds
  | .dict es => ∃ xs : List (List Int × Addr × Value), h.DictOfH (tk prog w) a xs ∧ xs.map (·.1) = es.map (·.1) ∧ (∀ x ∈ xs, x.2.1 ∉ η) ∧ RepAll h η (xs.map (·.2.2)) (es.map (·.2))

structure Ok (B : Heap) (η : List Addr) (σ : Store) (h : Heap) : Prop where
  base : ∀ b o, B.get? b = some o → h.get? b = some o ∧ b ∉ η
  nodup : η.Nodup
  len : η.length = σ.length
  stat : ∃ o, B.get? cStatics = some o
  low : ∀ a ∈ η, cStatics < a
  objs : ∀ (i : Nat) (a : Addr) (o : PO), η[i]? = some a → σ[i]? = some o → RepObj prog w h η a o

end Mine

set_option maxRecDepth 100000
namespace Mine
open PySem

/-- what a global name stands for -/
inductive GK where
  | no
  | fn
  | builtin
  | val (d : PV)

abbrev Glob := Str → GK
/-- the functions that have been shown: name, arguments, store to answer, store -/
abbrev Fns := Str → List PV → Store → Option (PV × Store)

noncomputable def tyOf (x : Str) : Option PV :=
  if x = "list" then some (.ty "list") else if x = "tuple" then some (.ty "tuple") else if x = "str" then some (.ty "str") else if x = "bool" then some (.ty "bool")
  else if x = "int" then some (.ty "int") else none
noncomputable def Glob.val? (G : Glob) (x : Str) : Option PV := match G x with | .val d => some d | .builtin => tyOf x | _ => none
noncomputable def Glob.isB (G : Glob) (x : Str) : Bool := match G x with | .builtin => true | _ => false
noncomputable def Glob.isF (G : Glob) (x : Str) : Bool := match G x with | .fn => true | _ => false

noncomputable def upd (ρ : Locals) (x : Str) (d : PV) : Locals := fun y => if y = x then some d else ρ y

/-- the items of a list, whichever kind -/
noncomputable def items? (σ : Store) : PV → Option (List PV)
  | .lst ds => some ds
  | .loc i => match σ[i]? with
    | some (.list ds) => some ds
    | _ => none
  | _ => none

noncomputable def constP : Const → Option PV
  | .none => some .none
  | .bool b => some (.bool b)
  | .int i => some (.int i)
  | .str x => some (.str x)
  | _ => none

/-- an index that lies in a sequence -/
noncomputable def idxP (i : Int) (n : Nat) : Option Nat :=
  if 0 ≤ i ∧ i < n ∧ i < 2 ^ 63 then some i.toNat else none

noncomputable def binP : Operator → PV → PV → Option PV
  | .Add, .int a, .int b => some (.int (a + b))
  | .Sub, .int a, .int b => some (.int (a - b))
  | .Mult, .int a, .int b => if a.natAbs < 2 ^ 62 ∨ b.natAbs < 2 ^ 62 then some (.int (a * b)) else none
  | .FloorDiv, .int a, .int b => if b ≠ 0 ∧ b.natAbs < 1073741824 then some (.int (a.fdiv b)) else none
  | .Mod, .int a, .int b => if b ≠ 0 then some (.int (a.fmod b)) else none
  | .Pow, .int a, .int b => if 0 ≤ b ∧ b ≤ 1000000 ∧ a.natAbs < 2 ^ 64 then some (.int (a ^ b.toNat)) else none
  | .Add, .str x, .str y => if x.length + y.length ≤ sizeLine then some (.str (x ++ y)) else none
  | .Add, .lst x, .lst y => if 0 < x.length ∧ 0 < y.length ∧ x.length + y.length ≤ sizeLine then some (.lst (x ++ y)) else none
  | _, _, _ => none

mutual
noncomputable def datOf : PV → Option PyData
  | .none => some .none
  | .bool b => some (.bool b)
  | .int i => some (.int i)
  | .str x => some (.str x)
  | .tup ds => (datsOf ds).map .tuple
  | .lst ds => (datsOf ds).map .list
  | .loc _ => none
  | .ty _ => none
noncomputable def datsOf : List PV → Option (List PyData)
  | [] => some []
  | d :: ds => match datOf d, datsOf ds with
    | some x, some xs => some (x :: xs)
    | _, _ => none
end

noncomputable def datP (σ : Store) : PV → Option PyData
  | .loc i => match σ[i]? with
    | some (.list ds) => (datsOf ds).map .list
    | _ => none
  | d => datOf d

/-- what the kit's comparison serves -/
noncomputable def shapedP (d : PyData) : Bool := d.canLay0 && decide (d.depth ≤ 16)

noncomputable def eqP (σ : Store) : PV → PV → Option Bool
  | .int a, .int b => some (a == b)
  | .bool a, .bool b => some (a == b)
  | .str x, .str y => some (x == y)
  | a, b => match datP σ a, datP σ b with
    | some x, some y => if shapedP x && shapedP y then some (PyData.eqv x y) else none
    | _, _ => none

noncomputable def keyOf : List PV → Option (List Int)
  | [] => some []
  | .int i :: r => (keyOf r).map (i :: ·)
  | _ => none

noncomputable def find (k : List Int) (es : List (List Int × PV)) : Option PV := (es.find? fun e => decide (e.1 = k)).map (·.2)
noncomputable def put (k : List Int) (d : PV) (es : List (List Int × PV)) : List (List Int × PV) :=
  if (find k es).isSome then es.map (fun e => if e.1 = k then (e.1, d) else e) else es ++ [(k, d)]

/-- x in a container -/
noncomputable def inP (σ : Store) : PV → PV → Option Bool
  | .str y, .str x => some !(Builtin.Str.occurrences x y 0 x.length 1).isEmpty
  | .tup ks, .loc i => match σ[i]?, keyOf ks with
    | some (.dict es), some k => some (find k es).isSome
    | some (.list ds), _ => match datsOf ds, datsOf ks with
      | some xs, some y => if PyData.canLayAll0 xs && PyData.canLayAll0 y && decide (PyData.depthAll y ≤ 8) then some (xs.any fun x => PyData.eqv x (.tuple y)) else none
      | _, _ => none
    | _, _ => none
  | _, _ => none

noncomputable def cmpP (σ : Store) : CmpOp → PV → PV → Option PV
  | .Lt, .int a, .int b => some (.bool (decide (a < b)))
  | .LtE, .int a, .int b => some (.bool (decide (a ≤ b)))
  | .Gt, .int a, .int b => some (.bool (decide (b < a)))
  | .GtE, .int a, .int b => some (.bool (decide (b ≤ a)))
  | .Eq, a, b => (eqP σ a b).map .bool
  | .NotEq, a, b => (eqP σ a b).map fun c => .bool (!c)
  | .Is, .bool a, .bool b => some (.bool (a == b))
  | .In, a, b => (inP σ a b).map .bool
  | .NotIn, .str a, .str b => (inP σ (.str a) (.str b)).map fun c => .bool (!c)
  | _, _, _ => none

/-- isinstance, where the texts ask it -/
noncomputable def isiP (σ : Store) (d : PV) (t : String) : Option Bool :=
  if t = "list" then (match items? σ d with | some _ => some true | none => none)
  else if t = "tuple" then (match d with | .tup _ => some true | _ => none)
  else if t = "str" then (match d with | .str _ => some true | _ => none)
  else if t = "bool" then (match d with | .bool _ => some true | .int _ => some false | _ => none)
  else if t = "int" then (match d with | .int _ => some true | _ => none)
  else none

/-- the built-in functions that are served -/
noncomputable def callB (f : Str) (vs : List PV) (σ : Store) : Option PV :=
  if f = "len" then
    match vs with
    | [.str x] => if x.length ≤ sizeLine then some (.int x.length) else none
    | [.tup ds] => if ds.length ≤ sizeLine then some (.int ds.length) else none
    | [d] => match items? σ d with
      | some ds => if ds.length ≤ sizeLine then some (.int ds.length) else none
      | none => none
    | _ => none
  else if f = "max" then
    match vs with
    | [.int a, .int b] => some (.int (if b > a then b else a))
    | _ => none
  else if f = "min" then
    match vs with
    | [.int a, .int b] => some (.int (if b < a then b else a))
    | _ => none
  else if f = "int" then
    match vs with
    | [.bool b] => some (.int (if b then 1 else 0))
    | _ => none
  else if f = "list" then
    match vs with
    | [d] => match items? σ d with
      | some ds => if ds.length ≤ sizeLine then some (.lst ds) else none
      | none => none
    | _ => none
  else if f = "isinstance" then
    match vs with
    | [d, .ty T] => (isiP σ d T).map .bool
    | _ => none
  else none

noncomputable def boolsOf : List PV → Option (List Bool)
  | [] => some []
  | .bool b :: r => (boolsOf r).map (b :: ·)
  | _ => none

/-- the type of what a method is asked of -/
noncomputable def recvT (σ : Store) : PV → Option Bool
  | .lst _ => some true
  | .loc i => match σ[i]? with
    | some (.list _) => some true
    | some (.dict _) => some false
    | none => none
  | _ => none

/-- the methods that are served: of a list (true), of a dict (false) -/
noncomputable def methP (T : Bool) (name : Str) (o : PV) (vs : List PV) (σ : Store) : Option (PV × Store) :=
  match T with
  | true =>
    if name = "append" then
      match o, vs with
      | .loc i, [d] => match σ[i]? with
        | some (.list ds) => if ds.length ≤ sizeLine then some (.none, σ.set i (.list (ds ++ [d]))) else none
        | _ => none
      | _, _ => none
    else if name = "count" then
      match o, vs with
      | .lst ds, [.bool b] => match boolsOf ds with
        | some bs => some (.int (bs.count b), σ)
        | none => none
      | _, _ => none
    else none
  | false => none

noncomputable def subP (σ : Store) : PV → PV → Option PV
  | .str x, .int i => match idxP i x.length with
    | some j => (x.cps[j]?).map fun c => .str ⟨#[c]⟩
    | none => none
  | .tup ds, .int i => match idxP i ds.length with
    | some j => ds[j]?
    | none => none
  | .lst ds, .int i => match idxP i ds.length with
    | some j => ds[j]?
    | none => none
  | .loc l, .int i => match σ[l]? with
    | some (.list ds) => (match idxP i ds.length with
      | some j => ds[j]?
      | none => none)
    | _ => none
  | .loc l, .tup ks => match σ[l]?, keyOf ks with
    | some (.dict es), some k => find k es
    | _, _ => none
  | _, _ => none

/-- an item stored -/
noncomputable def setP (σ : Store) : PV → PV → PV → Option Store
  | .loc l, .tup ks, d => match σ[l]?, keyOf ks with
    | some (.dict es), some k => if es.length ≤ sizeLine then some (σ.set l (.dict (put k d es))) else none
    | _, _ => none
  | _, _, _ => none

/-- a slice from a written place to a written place -/
noncomputable def sliceP : PV → Const → Const → Option PV
  | .lst ds, .int lo, .int hi => if 0 ≤ lo ∧ lo ≤ hi ∧ ds.length ≤ sizeLine then some (.lst ((ds.take hi.toNat).drop lo.toNat)) else none
  | _, _, _ => none

noncomputable def truthP : PV → Option Bool
  | .bool b => some b
  | _ => none

section
variable (Φ : Fns) (G : Glob)
mutual
noncomputable def evalE : Expr → Locals → Store → Option (PV × Store)
  | .Constant c _ _, _, σ => match constP c with
    | some d => some (d, σ)
    | none => none
  | .Name x _, ρ, σ => match ρ x with
    | some d => some (d, σ)
    | none => match G.val? x with
      | some d => some (d, σ)
      | none => none
  | .BinOp l op r _, ρ, σ => match evalE l ρ σ with
    | none => none
    | some (a, σ₁) => match evalE r ρ σ₁ with
      | none => none
      | some (b, σ₂) => match binP op a b with
        | some d => some (d, σ₂)
        | none => none
  | .UnaryOp .Not x _, ρ, σ => match evalE x ρ σ with
    | some (.bool b, σ₁) => some (.bool (!b), σ₁)
    | _ => none
  | .UnaryOp .USub x _, ρ, σ => match evalE x ρ σ with
    | some (.int i, σ₁) => some (.int (-i), σ₁)
    | _ => none
  | .BoolOp op vs _, ρ, σ => evalB op vs ρ σ
  | .Compare l [op] [r] _, ρ, σ => match evalE l ρ σ with
    | none => none
    | some (a, σ₁) => match evalE r ρ σ₁ with
      | none => none
      | some (b, σ₂) => match cmpP σ₂ op a b with
        | some d => some (d, σ₂)
        | none => none
  | .Call (.Name f _) args [] _, ρ, σ =>
    match evalEs args ρ σ with
      | none => none
      | some (vs, σ₁) => match G f with
        | .fn => Φ f vs σ₁
        | .builtin => match callB f vs σ₁ with
          | some d => some (d, σ₁)
          | none => none
        | _ => none
  | .Call (.Attribute (.Name x p) name _) args [] _, ρ, σ => match ρ x with
    | none => none
    | some o => match recvT σ o with
      | none => none
      | some T => match evalEs args ρ σ with
        | none => none
        | some (vs, σ₁) => methP T name o vs σ₁
  | .Subscript v (.Slice (some (.Constant lo _ _)) (some (.Constant hi _ _)) none _) _, ρ, σ => match evalE v ρ σ with
    | none => none
    | some (a, σ₁) => match sliceP a lo hi with
      | some d => some (d, σ₁)
      | none => none
  | .Subscript v i _, ρ, σ => match evalE v ρ σ with
    | none => none
    | some (a, σ₁) => match evalE i ρ σ₁ with
      | none => none
      | some (b, σ₂) => match subP σ₂ a b with
        | some d => some (d, σ₂)
        | none => none
  | .List elts _, ρ, σ => match evalEs elts ρ σ with
    | some (ds, σ₁) => if ds.length ≤ sizeLine then some (.lst ds, σ₁) else none
    | none => none
  | .Tuple elts _ _, ρ, σ => match evalEs elts ρ σ with
    | some (ds, σ₁) => if ds.length ≤ sizeLine then some (.tup ds, σ₁) else none
    | none => none
  | _, _, _ => none
noncomputable def evalEs : List Expr → Locals → Store → Option (List PV × Store)
  | [], _, σ => some ([], σ)
  | e :: es, ρ, σ => match evalE e ρ σ with
    | none => none
    | some (d, σ₁) => match evalEs es ρ σ₁ with
      | none => none
      | some (ds, σ₂) => some (d :: ds, σ₂)
noncomputable def evalB : BoolOp → List Expr → Locals → Store → Option (PV × Store)
  | _, [], _, _ => none
  | _, [e], ρ, σ => evalE e ρ σ
  | op, e :: es, ρ, σ => match evalE e ρ σ with
    | some (.bool b, σ₁) => match op, b with
      | .And, false => some (.bool false, σ₁)
      | .Or, true => some (.bool true, σ₁)
      | _, _ => evalB op es ρ σ₁
    | _ => none
end
mutual
/-- a test, as the machine takes it -/
noncomputable def evalT : Expr → Locals → Store → Option (Bool × Store)
  | .UnaryOp .Not x _, ρ, σ => match evalT x ρ σ with
    | some (b, σ₁) => some (!b, σ₁)
    | none => none
  | .BoolOp op vs _, ρ, σ => evalTs op vs ρ σ
  | .IfExp .., _, _ => none
  | e, ρ, σ => match evalE Φ G e ρ σ with
    | some (.bool b, σ₁) => some (b, σ₁)
    | _ => none
noncomputable def evalTs : BoolOp → List Expr → Locals → Store → Option (Bool × Store)
  | op, [], _, σ => some (op == .And, σ)
  | op, e :: es, ρ, σ => match evalT e ρ σ with
    | none => none
    | some (b, σ₁) => match op, b with
      | .And, false => some (false, σ₁)
      | .Or, true => some (true, σ₁)
      | _, _ => evalTs op es ρ σ₁
end

end

noncomputable def isSlice : Expr → Bool
  | .Slice .. => true
  | _ => false
noncomputable def isName : Expr → Bool
  | .Name .. => true
  | _ => false

/-! what the text's names must be -/
section
variable (G : Glob) (kd : Str → Option NameKind)
noncomputable def chkN (x : Str) : Bool := !(x == ("__debug__" : Str)) && (match kd x with
  | some .local => (G.val? x).isNone
  | some .cell => (G.val? x).isNone
  | some .globalImplicit => true
  | _ => false)
noncomputable def chkG (x : Str) : Bool := !(x == ("__debug__" : Str)) && (match kd x with
  | some .globalImplicit => true
  | _ => false)
noncomputable def chkL (x : Str) : Bool := (match kd x with
  | some .local => true
  | some .cell => true
  | _ => false)
mutual
noncomputable def chkE : Expr → Bool
  | .Constant .. => true
  | .Name x _ => chkN G kd x
  | .BinOp l _ r _ => chkE l && chkE r
  | .UnaryOp _ x _ => chkE x
  | .BoolOp _ vs _ => chkEs vs
  | .Compare l _ rs _ => chkE l && chkEs rs
  | .Call (.Name f _) args [] _ => chkG kd f && chkEs args
  | .Call (.Attribute (.Name x _) _ apos) args [] pos => chkN G kd x && (apos.endLine == pos.line) && chkEs args
  | .Subscript v i _ => if isSlice i then isName v && chkE v else chkE v && chkE i
  | .List elts _ => chkEs elts
  | .Tuple elts _ _ => chkEs elts
  | .Dict [] [] _ => true
  | _ => false
noncomputable def chkEs : List Expr → Bool
  | [] => true
  | e :: es => chkE e && chkEs es
end
noncomputable def chkNm : Expr → Bool
  | .Name x _ => chkL kd x
  | _ => false
noncomputable def chkT : Expr → Bool
  | .Name x _ => chkL kd x
  | .Tuple es _ _ => es.all (chkNm kd)
  | .Subscript v i _ => chkE G kd v && chkE G kd i
  | _ => false
mutual
noncomputable def chkS : Stmt → Bool
  | .Expr e _ => chkE G kd e
  | .Return (some e) _ => chkE G kd e
  | .If t b o _ => chkE G kd t && chkSs b && chkSs o
  | .Assign [.Subscript ..] _ _ => false
  | .Assign [t] e _ => chkT G kd t && chkE G kd e
  | .For (.Name x _) e b o _ => chkL kd x && chkE G kd e && chkSs b && chkSs o
  | .While t b o _ => chkE G kd t && chkSs b && chkSs o
  | .Raise .. => true
  | _ => false
noncomputable def chkSs : List Stmt → Bool
  | [] => true
  | s :: r => chkS s && chkSs r
end
end

section
variable (Φ : Fns) (G : Glob)
inductive Fl where
  | next
  | ret (d : PV)

abbrev Run := Locals → Store → Option (Fl × Locals × Store)

/-- bind a target -/
noncomputable def bindNames : List Expr → List PV → Locals → Option Locals
  | [], [], ρ => some ρ
  | .Name x _ :: es, d :: ds, ρ => bindNames es ds (upd ρ x d)
  | _, _, _ => none
noncomputable def bindT : Expr → PV → Locals → Option Locals
  | .Name x _, d, ρ => some (upd ρ x d)
  | .Tuple es _ _, .tup ds, ρ => bindNames es ds ρ
  | _, _, _ => none

noncomputable def forL (bind : PV → Locals → Option Locals) (run : Run) : List PV → Locals → Store → Option (Fl × Locals × Store)
  | [], ρ, σ => some (.next, ρ, σ)
  | d :: ds, ρ, σ => match bind d ρ with
    | none => none
    | some ρ₁ => match run ρ₁ σ with
      | none => none
      | some (.next, ρ₂, σ₂) => forL bind run ds ρ₂ σ₂
      | some (.ret v, ρ₂, σ₂) => some (.ret v, ρ₂, σ₂)

noncomputable def forLoc (bind : PV → Locals → Option Locals) (run : Run) (l : Nat) : Nat → Nat → Locals → Store → Option (Fl × Locals × Store)
  | 0, _, _, _ => none
  | n + 1, i, ρ, σ => match σ[l]? with
    | some (.list ds) => match ds[i]? with
      | none => some (.next, ρ, σ)
      | some d => match bind d ρ with
        | none => none
        | some ρ₁ => match run ρ₁ σ with
          | none => none
          | some (.next, ρ₂, σ₂) => forLoc bind run l n (i + 1) ρ₂ σ₂
          | some (.ret v, ρ₂, σ₂) => some (.ret v, ρ₂, σ₂)
    | _ => none


/-- the ints of a range -/
noncomputable def rangeP (a b st : Int) : List PV := (List.range (Builtin.Range.rangeSize a b st).toNat).map fun (i : Nat) => .int (a + (i : Int) * st)

noncomputable def rangeOk (a b st : Int) : Bool := decide (a.natAbs < 2 ^ 61) && decide (b.natAbs < 2 ^ 61) && decide (0 < st) && decide (st < 1000)
noncomputable def rangeArgs : List PV → Option (List PV)
  | [.int b] => if rangeOk 0 b 1 then some (rangeP 0 b 1) else none
  | [.int a, .int b] => if rangeOk a b 1 then some (rangeP a b 1) else none
  | [.int a, .int b, .int st] => if rangeOk a b st then some (rangeP a b st) else none
  | _ => none


/-- the arguments of a call of range -/
noncomputable def rangeOf (G : Glob) : Expr → Option (List Expr)
  | .Call (.Name f _) args [] _ => if f = "range" ∧ G.isB f = true then some args else none
  | _ => none

mutual
noncomputable def execS : Stmt → Run
  | .Expr (.Call f args kws p) _, ρ, σ => match evalE Φ G (.Call f args kws p) ρ σ with
    | some (_, σ₁) => some (.next, ρ, σ₁)
    | none => none
  | .Return (some e) _, ρ, σ => match evalE Φ G e ρ σ with
    | some (d, σ₁) => some (.ret d, ρ, σ₁)
    | none => none
  | .If test body orelse _, ρ, σ => match evalT Φ G test ρ σ with
    | none => none
    | some (b, σ₁) => if b then execSs body ρ σ₁ else execSs orelse ρ σ₁
  | .Assign [.Name x _] (.List [] _) _, ρ, σ => some (.next, upd ρ x (.loc σ.length), σ ++ [.list []])
  | .Assign [.Name x _] (.List [e] _) _, ρ, σ => match evalE Φ G e ρ σ with
    | some (d, σ₁) => some (.next, upd ρ x (.loc σ₁.length), σ₁ ++ [.list [d]])
    | none => none
  | .Assign [.Name x _] (.Dict [] [] _) _, ρ, σ => some (.next, upd ρ x (.loc σ.length), σ ++ [.dict []])
  | .Assign [.Name x _] e _, ρ, σ => match evalE Φ G e ρ σ with
    | some (d, σ₁) => some (.next, upd ρ x d, σ₁)
    | none => none
  | .Assign [.Tuple ts k p] (.Tuple ..) _, _, _ => none
  | .Assign [.Tuple ts k p] e _, ρ, σ => match evalE Φ G e ρ σ with
    | some (d, σ₁) => match bindT (.Tuple ts k p) d ρ with
      | some ρ₁ => some (.next, ρ₁, σ₁)
      | none => none
    | none => none
  | .Assign [.Subscript o i _] e _, ρ, σ => match evalE Φ G e ρ σ with
    | none => none
    | some (d, σ₁) => match evalE Φ G o ρ σ₁ with
      | none => none
      | some (a, σ₂) => match evalE Φ G i ρ σ₂ with
        | none => none
        | some (b, σ₃) => match setP σ₃ a b d with
          | some σ₄ => some (.next, ρ, σ₄)
          | none => none
  | .For t e body [] _, ρ, σ => match rangeOf G e with
    | some args => match evalEs Φ G args ρ σ with
      | none => none
      | some (vs, σ₁) => match rangeArgs vs with
        | some ds => forL (bindT t) (fun ρ σ => execSs body ρ σ) ds ρ σ₁
        | none => none
    | none => match evalE Φ G e ρ σ with
      | some (.lst ds, σ₁) => forL (bindT t) (fun ρ σ => execSs body ρ σ) ds ρ σ₁
      | some (.tup ds, σ₁) => forL (bindT t) (fun ρ σ => execSs body ρ σ) ds ρ σ₁
      | some (.str x, σ₁) => forL (bindT t) (fun ρ σ => execSs body ρ σ) (x.cps.toList.map fun c => .str ⟨#[c]⟩) ρ σ₁
      | some (.loc l, σ₁) => match items? σ₁ (.loc l) with
        | some ds => forLoc (bindT t) (fun ρ σ => execSs body ρ σ) l (ds.length + 1) 0 ρ σ₁
        | none => none
      | _ => none
  | _, _, _ => none
noncomputable def execSs : List Stmt → Run
  | [], ρ, σ => some (.next, ρ, σ)
  | st :: rest, ρ, σ => match execS st ρ σ with
    | none => none
    | some (.next, ρ₁, σ₁) => execSs rest ρ₁ σ₁
    | some (f, ρ₁, σ₁) => some (f, ρ₁, σ₁)
end
end

/-! unfolding, one row a shape -/
section
variable {Φ : Fns} {G : Glob} {ρ : Locals} {σ : Store} {p pos : Pos} {x y : Str} {e l r v : Expr} {es args : List Expr} {n k : Nat}
theorem e_const {c : Const} : evalE Φ G (.Constant c k pos) ρ σ = match constP c with
    | some d => some (d, σ)
    | none => none := rfl
theorem e_name : evalE Φ G (.Name x pos) ρ σ = match ρ x with
    | some d => some (d, σ)
    | none => match G.val? x with
      | some d => some (d, σ)
      | none => none := rfl
theorem e_binop {op : Operator} : evalE Φ G (.BinOp l op r pos) ρ σ = match evalE Φ G l ρ σ with
    | none => none
    | some (a, σ₁) => match evalE Φ G r ρ σ₁ with
      | none => none
      | some (b, σ₂) => match binP op a b with
        | some d => some (d, σ₂)
        | none => none := rfl
theorem e_not : evalE Φ G (.UnaryOp .Not e pos) ρ σ = match evalE Φ G e ρ σ with
    | some (.bool b, σ₁) => some (.bool (!b), σ₁)
    | _ => none := rfl
theorem e_usub : evalE Φ G (.UnaryOp .USub e pos) ρ σ = match evalE Φ G e ρ σ with
    | some (.int i, σ₁) => some (.int (-i), σ₁)
    | _ => none := rfl
theorem e_boolop {op : BoolOp} : evalE Φ G (.BoolOp op es pos) ρ σ = evalB Φ G op es ρ σ := rfl
theorem e_cmp {op : CmpOp} : evalE Φ G (.Compare l [op] [r] pos) ρ σ = match evalE Φ G l ρ σ with
    | none => none
    | some (a, σ₁) => match evalE Φ G r ρ σ₁ with
      | none => none
      | some (b, σ₂) => match cmpP σ₂ op a b with
        | some d => some (d, σ₂)
        | none => none := rfl
theorem e_call : evalE Φ G (.Call (.Name x p) args [] pos) ρ σ = match evalEs Φ G args ρ σ with
      | none => none
      | some (vs, σ₁) => match G x with
        | .fn => Φ x vs σ₁
        | .builtin => match callB x vs σ₁ with
          | some d => some (d, σ₁)
          | none => none
        | _ => none := rfl
theorem e_meth {ap : Pos} : evalE Φ G (.Call (.Attribute (.Name x p) y ap) args [] pos) ρ σ = match ρ x with
    | none => none
    | some o => match recvT σ o with
      | none => none
      | some T => match evalEs Φ G args ρ σ with
        | none => none
        | some (vs, σ₁) => methP T y o vs σ₁ := rfl
theorem e_slice {lo hi : Const} {k1 k2 : Nat} {p1 p2 p3 : Pos} : evalE Φ G (.Subscript v (.Slice (some (.Constant lo k1 p1)) (some (.Constant hi k2 p2)) none p3) pos) ρ σ = match evalE Φ G v ρ σ with
    | none => none
    | some (a, σ₁) => match sliceP a lo hi with
      | some d => some (d, σ₁)
      | none => none := rfl
/-- an item read, whatever the index -/
noncomputable def subE (Φ : Fns) (G : Glob) (v i : Expr) (ρ : Locals) (σ : Store) : Option (PV × Store) := match evalE Φ G v ρ σ with
    | none => none
    | some (a, σ₁) => match evalE Φ G i ρ σ₁ with
      | none => none
      | some (b, σ₂) => match subP σ₂ a b with
        | some d => some (d, σ₂)
        | none => none
theorem subE_eq : subE Φ G v e ρ σ = match evalE Φ G v ρ σ with
    | none => none
    | some (a, σ₁) => match evalE Φ G e ρ σ₁ with
      | none => none
      | some (b, σ₂) => match subP σ₂ a b with
        | some d => some (d, σ₂)
        | none => none := rfl
theorem es_name : evalE Φ G (.Subscript v (.Name x p) pos) ρ σ = subE Φ G v (.Name x p) ρ σ := rfl
theorem es_const {c : Const} : evalE Φ G (.Subscript v (.Constant c k p) pos) ρ σ = subE Φ G v (.Constant c k p) ρ σ := rfl
theorem es_binop {op : Operator} : evalE Φ G (.Subscript v (.BinOp l op r p) pos) ρ σ = subE Φ G v (.BinOp l op r p) ρ σ := rfl
theorem es_call {ks : List Keyword} : evalE Φ G (.Subscript v (.Call e args ks p) pos) ρ σ = subE Φ G v (.Call e args ks p) ρ σ := rfl
theorem es_sub {e' : Expr} : evalE Φ G (.Subscript v (.Subscript e e' p) pos) ρ σ = subE Φ G v (.Subscript e e' p) ρ σ := rfl
theorem es_tuple : evalE Φ G (.Subscript v (.Tuple es k p) pos) ρ σ = subE Φ G v (.Tuple es k p) ρ σ := rfl
theorem e_list : evalE Φ G (.List es pos) ρ σ = match evalEs Φ G es ρ σ with
    | some (ds, σ₁) => if ds.length ≤ sizeLine then some (.lst ds, σ₁) else none
    | none => none := rfl
theorem e_tuple : evalE Φ G (.Tuple es k pos) ρ σ = match evalEs Φ G es ρ σ with
    | some (ds, σ₁) => if ds.length ≤ sizeLine then some (.tup ds, σ₁) else none
    | none => none := rfl
theorem el_nil : evalEs Φ G [] ρ σ = some ([], σ) := rfl
theorem el_cons : evalEs Φ G (e :: es) ρ σ = match evalE Φ G e ρ σ with
    | none => none
    | some (d, σ₁) => match evalEs Φ G es ρ σ₁ with
      | none => none
      | some (ds, σ₂) => some (d :: ds, σ₂) := rfl
theorem eb_nil {op : BoolOp} : evalB Φ G op [] ρ σ = none := rfl
theorem eb_one {op : BoolOp} : evalB Φ G op [e] ρ σ = evalE Φ G e ρ σ := rfl
theorem eb_cons {op : BoolOp} : evalB Φ G op (e :: l :: es) ρ σ = match evalE Φ G e ρ σ with
    | some (.bool b, σ₁) => match op, b with
      | .And, false => some (.bool false, σ₁)
      | .Or, true => some (.bool true, σ₁)
      | _, _ => evalB Φ G op (l :: es) ρ σ₁
    | _ => none := rfl
theorem et_not : evalT Φ G (.UnaryOp .Not e pos) ρ σ = match evalT Φ G e ρ σ with
    | some (b, σ₁) => some (!b, σ₁)
    | none => none := rfl
theorem et_boolop {op : BoolOp} : evalT Φ G (.BoolOp op es pos) ρ σ = evalTs Φ G op es ρ σ := rfl
/-- a test by its value -/
noncomputable def valT (r : Option (PV × Store)) : Option (Bool × Store) := match r with
    | some (.bool b, σ₁) => some (b, σ₁)
    | _ => none
theorem valT_some {b : Bool} : valT (some (.bool b, σ)) = some (b, σ) := rfl
theorem et_name : evalT Φ G (.Name x pos) ρ σ = valT (evalE Φ G (.Name x pos) ρ σ) := rfl
theorem et_call {ks : List Keyword} : evalT Φ G (.Call e args ks pos) ρ σ = valT (evalE Φ G (.Call e args ks pos) ρ σ) := rfl
theorem et_cmp {ops : List CmpOp} : evalT Φ G (.Compare l ops es pos) ρ σ = valT (evalE Φ G (.Compare l ops es pos) ρ σ) := rfl
theorem et_sub : evalT Φ G (.Subscript l r pos) ρ σ = valT (evalE Φ G (.Subscript l r pos) ρ σ) := rfl
theorem ets_nil {op : BoolOp} : evalTs Φ G op [] ρ σ = some (op == .And, σ) := rfl
theorem ets_cons {op : BoolOp} : evalTs Φ G op (e :: es) ρ σ = match evalT Φ G e ρ σ with
    | none => none
    | some (b, σ₁) => match op, b with
      | .And, false => some (false, σ₁)
      | .Or, true => some (true, σ₁)
      | _, _ => evalTs Φ G op es ρ σ₁ := rfl
end
section
variable {Φ : Fns} {G : Glob} {ρ : Locals} {σ : Store} {p q pos : Pos} {x y : Str} {e e' l r v t : Expr} {es args : List Expr} {k : Nat} {b o : List Stmt} {s : Stmt}
theorem x_expr {ks : List Keyword} : execS Φ G (.Expr (.Call e args ks p) pos) ρ σ = match evalE Φ G (.Call e args ks p) ρ σ with
    | some (_, σ₁) => some (.next, ρ, σ₁)
    | none => none := rfl
theorem x_ret : execS Φ G (.Return (some e) pos) ρ σ = match evalE Φ G e ρ σ with
    | some (d, σ₁) => some (.ret d, ρ, σ₁)
    | none => none := rfl
theorem x_if : execS Φ G (.If t b o pos) ρ σ = match evalT Φ G t ρ σ with
    | none => none
    | some (c, σ₁) => if c then execSs Φ G b ρ σ₁ else execSs Φ G o ρ σ₁ := rfl
theorem xa_nil : execS Φ G (.Assign [.Name x p] (.List [] q) pos) ρ σ = some (.next, upd ρ x (.loc σ.length), σ ++ [.list []]) := rfl
theorem xa_one : execS Φ G (.Assign [.Name x p] (.List [e] q) pos) ρ σ = match evalE Φ G e ρ σ with
    | some (d, σ₁) => some (.next, upd ρ x (.loc σ₁.length), σ₁ ++ [.list [d]])
    | none => none := rfl
theorem xa_dict : execS Φ G (.Assign [.Name x p] (.Dict [] [] q) pos) ρ σ = some (.next, upd ρ x (.loc σ.length), σ ++ [.dict []]) := rfl
/-- a name stored -/
noncomputable def setN (ρ : Locals) (x : Str) (r : Option (PV × Store)) : Option (Fl × Locals × Store) := match r with
    | some (d, σ₁) => some (.next, upd ρ x d, σ₁)
    | none => none
theorem setN_some {d : PV} : setN ρ x (some (d, σ)) = some (.next, upd ρ x d, σ) := rfl
theorem xa_two : execS Φ G (.Assign [.Name x p] (.List (e :: e' :: es) q) pos) ρ σ = setN ρ x (evalE Φ G (.List (e :: e' :: es) q) ρ σ) := rfl
theorem xa_name : execS Φ G (.Assign [.Name x p] (.Name y q) pos) ρ σ = setN ρ x (evalE Φ G (.Name y q) ρ σ) := rfl
theorem xa_const {c : Const} : execS Φ G (.Assign [.Name x p] (.Constant c k q) pos) ρ σ = setN ρ x (evalE Φ G (.Constant c k q) ρ σ) := rfl
theorem xa_binop {op : Operator} : execS Φ G (.Assign [.Name x p] (.BinOp l op r q) pos) ρ σ = setN ρ x (evalE Φ G (.BinOp l op r q) ρ σ) := rfl
theorem xa_boolop {op : BoolOp} : execS Φ G (.Assign [.Name x p] (.BoolOp op es q) pos) ρ σ = setN ρ x (evalE Φ G (.BoolOp op es q) ρ σ) := rfl
theorem xa_unop {op : UnaryOp} : execS Φ G (.Assign [.Name x p] (.UnaryOp op e q) pos) ρ σ = setN ρ x (evalE Φ G (.UnaryOp op e q) ρ σ) := rfl
theorem xa_cmp {ops : List CmpOp} : execS Φ G (.Assign [.Name x p] (.Compare l ops es q) pos) ρ σ = setN ρ x (evalE Φ G (.Compare l ops es q) ρ σ) := rfl
theorem xa_call {ks : List Keyword} : execS Φ G (.Assign [.Name x p] (.Call e args ks q) pos) ρ σ = setN ρ x (evalE Φ G (.Call e args ks q) ρ σ) := rfl
theorem xa_sub : execS Φ G (.Assign [.Name x p] (.Subscript l r q) pos) ρ σ = setN ρ x (evalE Φ G (.Subscript l r q) ρ σ) := rfl
theorem xa_tuple : execS Φ G (.Assign [.Name x p] (.Tuple es k q) pos) ρ σ = setN ρ x (evalE Φ G (.Tuple es k q) ρ σ) := rfl
/-- names stored at once -/
noncomputable def setT (ρ : Locals) (t : Expr) (r : Option (PV × Store)) : Option (Fl × Locals × Store) := match r with
    | some (d, σ₁) => match bindT t d ρ with
      | some ρ₁ => some (.next, ρ₁, σ₁)
      | none => none
    | none => none
theorem xt_call {ks : List Keyword} : execS Φ G (.Assign [.Tuple es k p] (.Call e args ks q) pos) ρ σ = setT ρ (.Tuple es k p) (evalE Φ G (.Call e args ks q) ρ σ) := rfl
theorem xt_sub : execS Φ G (.Assign [.Tuple es k p] (.Subscript l r q) pos) ρ σ = setT ρ (.Tuple es k p) (evalE Φ G (.Subscript l r q) ρ σ) := rfl
theorem setT_some {d : PV} : setT ρ t (some (d, σ)) = match bindT t d ρ with
      | some ρ₁ => some (.next, ρ₁, σ)
      | none => none := rfl
theorem bn_nil : bindNames [] [] ρ = some ρ := rfl
theorem bn_cons {d : PV} {ds : List PV} : bindNames (.Name x p :: es) (d :: ds) ρ = bindNames es ds (upd ρ x d) := rfl
theorem bt_name {d : PV} : bindT (.Name x p) d ρ = some (upd ρ x d) := rfl
theorem bt_tup {ds : List PV} : bindT (.Tuple es k p) (.tup ds) ρ = bindNames es ds ρ := rfl
theorem x_for : execS Φ G (.For t e b [] pos) ρ σ = match rangeOf G e with
    | some args => match evalEs Φ G args ρ σ with
      | none => none
      | some (vs, σ₁) => match rangeArgs vs with
        | some ds => forL (bindT t) (fun ρ σ => execSs Φ G b ρ σ) ds ρ σ₁
        | none => none
    | none => match evalE Φ G e ρ σ with
      | some (.lst ds, σ₁) => forL (bindT t) (fun ρ σ => execSs Φ G b ρ σ) ds ρ σ₁
      | some (.tup ds, σ₁) => forL (bindT t) (fun ρ σ => execSs Φ G b ρ σ) ds ρ σ₁
      | some (.str x, σ₁) => forL (bindT t) (fun ρ σ => execSs Φ G b ρ σ) (x.cps.toList.map fun c => .str ⟨#[c]⟩) ρ σ₁
      | some (.loc l, σ₁) => match items? σ₁ (.loc l) with
        | some ds => forLoc (bindT t) (fun ρ σ => execSs Φ G b ρ σ) l (ds.length + 1) 0 ρ σ₁
        | none => none
      | _ => none := rfl
theorem xs_nil : execSs Φ G [] ρ σ = some (.next, ρ, σ) := rfl
theorem xs_cons : execSs Φ G (s :: b) ρ σ = match execS Φ G s ρ σ with
    | none => none
    | some (.next, ρ₁, σ₁) => execSs Φ G b ρ₁ σ₁
    | some (f, ρ₁, σ₁) => some (f, ρ₁, σ₁) := rfl
end
section
variable {G : Glob} {kd : Str → Option NameKind} {p q pos : Pos} {x y : Str} {e l r v t : Expr} {es args : List Expr} {k : Nat} {b o : List Stmt} {s : Stmt}
theorem ck_name : chkE G kd (.Name x pos) = chkN G kd x := rfl
theorem ck_binop {op : Operator} : chkE G kd (.BinOp l op r pos) = (chkE G kd l && chkE G kd r) := rfl
theorem ck_unop {op : UnaryOp} : chkE G kd (.UnaryOp op e pos) = chkE G kd e := rfl
theorem ck_boolop {op : BoolOp} : chkE G kd (.BoolOp op es pos) = chkEs G kd es := rfl
theorem ck_cmp {ops : List CmpOp} : chkE G kd (.Compare l ops es pos) = (chkE G kd l && chkEs G kd es) := rfl
theorem ck_call : chkE G kd (.Call (.Name x p) args [] pos) = (chkG kd x && chkEs G kd args) := rfl
theorem ck_meth {ap : Pos} : chkE G kd (.Call (.Attribute (.Name x p) y ap) args [] pos) = (chkN G kd x && (ap.endLine == pos.line) && chkEs G kd args) := rfl
theorem ck_slice {a b c : Option Expr} : chkE G kd (.Subscript (.Name x p) (.Slice a b c q) pos) = chkN G kd x := rfl
theorem ck_sub : chkE G kd (.Subscript v e pos) = if isSlice e then isName v && chkE G kd v else chkE G kd v && chkE G kd e := rfl
theorem ck_list : chkE G kd (.List es pos) = chkEs G kd es := rfl
theorem ck_tuple : chkE G kd (.Tuple es k pos) = chkEs G kd es := rfl
theorem ck_nil : chkEs G kd [] = true := rfl
theorem ck_cons : chkEs G kd (e :: es) = (chkE G kd e && chkEs G kd es) := rfl
theorem ct_name : chkT G kd (.Name x pos) = chkL kd x := rfl
theorem ct_tuple : chkT G kd (.Tuple es k pos) = es.all (chkNm kd) := rfl
theorem cn_name : chkNm kd (.Name x pos) = chkL kd x := rfl
theorem cs_expr : chkS G kd (.Expr e pos) = chkE G kd e := rfl
theorem cs_ret : chkS G kd (.Return (some e) pos) = chkE G kd e := rfl
theorem cs_if : chkS G kd (.If t b o pos) = (chkE G kd t && chkSs G kd b && chkSs G kd o) := rfl
theorem cs_name : chkS G kd (.Assign [.Name x p] e pos) = (chkT G kd (.Name x p) && chkE G kd e) := rfl
theorem cs_tuple : chkS G kd (.Assign [.Tuple es k p] e pos) = (chkT G kd (.Tuple es k p) && chkE G kd e) := rfl
theorem cs_for : chkS G kd (.For (.Name x p) e b o pos) = (chkL kd x && chkE G kd e && chkSs G kd b && chkSs G kd o) := rfl
theorem cs_while : chkS G kd (.While t b o pos) = (chkE G kd t && chkSs G kd b && chkSs G kd o) := rfl
theorem cs_nil : chkSs G kd [] = true := rfl
theorem cs_cons : chkSs G kd (s :: b) = (chkS G kd s && chkSs G kd b) := rfl
end

end Mine

set_option maxRecDepth 100000
namespace Mine
open PySem

variable {prog : Program} {w : World}

theorem keyKeep {h h' : Heap} {ks : List Int} {a : Addr} (x : (tk prog w).is h ks a) (hk : ∀ o, h.get? a = some o → h'.get? a = some o) : (tk prog w).is h' ks a := by
  obtain ⟨o, items, n, e, r⟩ := x
  exact ⟨o, items, n, hk _ e, r⟩

theorem keyTup {h : Heap} {ks : List Int} {a : Addr} (x : (tk prog w).is h ks a) : ∃ o items n, h.get? a = some o ∧ o.data = .seq items n := by
  obtain ⟨o, items, n, e, _, d, _⟩ := x
  exact ⟨o, items, n, e, d⟩

/-- an object at a mutable place, over a stretch that leaves that place alone -/
theorem RepObj.step {P : Addr → Prop} {η η' : List Addr} {h h' : Heap} (st : Step P η η' h h') (ns : NoSeq P h) {a : Addr} {o : PO} (ha : ∀ ob, h.get? a = some ob → h'.get? a = some ob)
    (r : RepObj prog w h η a o) : RepObj prog w h' η' a o := by
  cases o with
  | list ds =>
    obtain ⟨vs, p, q⟩ := r
    exact ⟨vs, p.at ha, q.step st ns⟩
  | dict es =>
    obtain ⟨xs, ⟨ob, ea, ep, e1, e2, e3, e4, e5, e6⟩, k, n, q⟩ := r
    have kk : ∀ x ∈ xs, (tk prog w).is h' x.1 x.2.1 ∧ x.2.1 ∉ η' := fun x hx => by
      obtain ⟨o', items, n', g, d⟩ := keyTup (e5 x hx)
      have s1 := st.keep x.2.1 o' g (n x hx) fun p => ns _ _ p g _ _ d
      exact ⟨keyKeep (e5 x hx) fun o'' g' => by rw [g] at g'; cases g'; exact s1.1, s1.2⟩
    exact ⟨xs, ⟨ob, ea, ep, ha _ e1, e2, e3, e4, fun x hx => (kk x hx).1, e6⟩, k, fun x hx => (kk x hx).2, q.step st ns⟩

/-- nothing that the store knows is touched -/
theorem Ok.keep {P : Addr → Prop} {B : Heap} {η : List Addr} {σ : Store} {h h' : Heap} (k : Ok prog w B η σ h) (hk : ∀ b o, h.get? b = some o → ¬ P b → h'.get? b = some o) (ns : NoSeq P h)
    (hP : ∀ b, P b → b ∉ η ∧ B.get? b = none) : Ok prog w B η σ h' := by
  refine ⟨fun b o e => ⟨hk b o (k.base b o e).1 fun p => ?_, (k.base b o e).2⟩, k.nodup, k.len, k.stat, k.low, fun i a o e1 e2 => ?_⟩
  · rw [(hP b p).2] at e; cases e
  · exact RepObj.step (P := P) ⟨⟨[], by simp⟩, fun b o e n p => ⟨hk b o e p, n⟩⟩ ns (fun ob e => hk a ob e fun p => (hP a p).1 (List.mem_of_getElem? e1)) (k.objs i a o e1 e2)
theorem Ok.ext {B : Heap} {η : List Addr} {σ : Store} {h h' : Heap} (k : Ok prog w B η σ h) (hk : ∀ b o, h.get? b = some o → h'.get? b = some o) : Ok prog w B η σ h' :=
  k.keep (P := fun _ => False) (fun b o e _ => hk b o e) (NoSeq.bot h) fun _ f => f.elim

theorem Ok.fresh {B : Heap} {η : List Addr} {σ : Store} {h : Heap} (k : Ok prog w B η σ h) : h.objs.size ∉ η := fun hm => by
  obtain ⟨i, hi, e⟩ := List.getElem_of_mem hm
  have e1 : η[i]? = some h.objs.size := by rw [List.getElem?_eq_getElem hi, e]
  have hi' : i < σ.length := by rw [← k.len]; exact hi
  have r := k.objs i _ (σ[i]'hi') e1 (List.getElem?_eq_getElem hi')
  have : ∃ o, h.get? h.objs.size = some o := by
    cases q : σ[i]'hi' with
    | list ds => rw [q] at r; obtain ⟨vs, ⟨n, p⟩, _⟩ := r; exact ⟨_, p⟩
    | dict es => rw [q] at r; obtain ⟨xs, ⟨ob, _, _, p, _⟩, _⟩ := r; exact ⟨_, p⟩
  obtain ⟨o, g⟩ := this
  exact Nat.lt_irrefl _ (Heap.lt_size g)

/-- a new mutable object -/
theorem Ok.alloc {B : Heap} {η : List Addr} {σ : Store} {h : Heap} (k : Ok prog w B η σ h) (ob : Obj) (o : PO) (ho : RepObj prog w (h.push ob) (η ++ [h.objs.size]) h.objs.size o) :
    Ok prog w B (η ++ [h.objs.size]) (σ ++ [o]) (h.push ob) := by
  have st : Step (fun _ => False) η (η ++ [h.objs.size]) h (h.push ob) := Step.pushη ob
  refine ⟨fun b x e => st.keep b x (k.base b x e).1 (k.base b x e).2 id, ?_, by simp [k.len], k.stat, fun a ha => ?_, fun i a o' e1 e2 => ?_⟩
  · refine List.nodup_append.mpr ⟨k.nodup, by simp, ?_⟩
    rintro a ha b hb rfl
    exact k.fresh (by simpa using (List.mem_singleton.mp hb) ▸ ha)
  · rcases List.mem_append.mp ha with ha | ha
    · exact k.low a ha
    · obtain ⟨x, hx⟩ := k.stat
      rw [List.mem_singleton.mp ha]
      exact Heap.lt_size (k.base _ _ hx).1
  · by_cases hi : i < η.length
    · rw [List.getElem?_append_left hi] at e1
      rw [List.getElem?_append_left (by rw [← k.len]; exact hi)] at e2
      exact RepObj.step st (NoSeq.bot h) (fun x e => Heap.get?_push_of_some ob e) (k.objs i a o' e1 e2)
    · have hi' : i = η.length := by
        have := (List.getElem?_eq_some_iff.mp e1).1
        simp at this; omega
      subst hi'
      rw [List.getElem?_append_right (Nat.le_refl _)] at e1
      rw [List.getElem?_append_right (by rw [k.len]; exact Nat.le_refl _), k.len] at e2
      simp at e1 e2
      subst e1 e2
      exact ho

/-- a mutable object is changed -/
theorem Ok.set {B : Heap} {η : List Addr} {σ : Store} {h h' : Heap} (k : Ok prog w B η σ h) {i : Nat} {a : Addr} (ha : η[i]? = some a) (hs : Heap.SameBut a h h') {o : PO} (ho : RepObj prog w h' η a o) :
    Ok prog w B η (σ.set i o) h' := by
  have hm : a ∈ η := List.mem_of_getElem? ha
  have st : Step (fun _ => False) η η h h' := Step.sameη hs hm
  refine ⟨fun b x e => st.keep b x (k.base b x e).1 (k.base b x e).2 id, k.nodup, by simp [k.len], k.stat, k.low, fun j b o' e1 e2 => ?_⟩
  by_cases hj : j = i
  · subst hj
    rw [ha] at e1; cases e1
    have : j < σ.length := by
      have := (List.getElem?_eq_some_iff.mp e2).1
      simpa using this
    rw [List.getElem?_set_self this] at e2
    cases e2
    exact ho
  · have hne : b ≠ a := fun q => by
      subst q
      have h1 := (List.getElem?_eq_some_iff.mp ha).1
      exact hj ((List.getElem?_inj h1 k.nodup).mp (ha.trans e1.symm)).symm
    rw [List.getElem?_set_ne (Ne.symm hj)] at e2
    exact RepObj.step st (NoSeq.bot h) (fun x e => (hs.2 b hne).trans e) (k.objs j b o' e1 e2)

theorem RepObj.lst {B : Heap} {η : List Addr} {σ : Store} {h : Heap} (k : Ok prog w B η σ h) {i : Nat} {a : Addr} {ds : List PV} (ha : η[i]? = some a) (hs : σ[i]? = some (.list ds)) :
    ∃ vs : List Value, h.PlainList a vs.toArray ∧ RepAll h η vs ds := k.objs i a _ ha hs
theorem loc_addr {B : Heap} {η : List Addr} {σ : Store} {h : Heap} (k : Ok prog w B η σ h) {i : Nat} {o : PO} (hs : σ[i]? = some o) : ∃ a, η[i]? = some a := by
  have := (List.getElem?_eq_some_iff.mp hs).1
  rw [← k.len] at this
  exact ⟨_, List.getElem?_eq_getElem this⟩

/-- the items of a list value, as the heap holds them -/
theorem items_of {B : Heap} {η : List Addr} {σ : Store} {h : Heap} (k : Ok prog w B η σ h) {v : Value} {d : PV} {ds : List PV} (r : Rep h η v d) (e : items? σ d = some ds) :
    ∃ a vs, v = .ref a ∧ h.PlainList a (List.toArray vs) ∧ RepAll h η vs ds := by
  cases r with
  | lst hn p q => simp only [items?, Option.some.injEq] at e; subst e; exact ⟨_, _, rfl, p, q⟩
  | loc ha =>
    simp only [items?] at e
    split at e
    · rename_i hs
      cases e
      obtain ⟨vs, p, q⟩ := RepObj.lst k ha hs
      exact ⟨_, vs, rfl, p, q⟩
    · cases e
  | _ => simp [items?] at e

end Mine

set_option maxRecDepth 100000
namespace Mine
open PySem PySem.Spec PyProof.Rows

variable {prog : Program} {w : World} {A : Around} {E : Value → Shared → Prop} {s : Shared} {B : Heap} {η : List Addr} {σ : Store}

abbrev Ext (h h' : Heap) : Prop := ∀ b o, h.get? b = some o → h'.get? b = some o
theorem Ext.refl (h : Heap) : Ext h h := fun _ _ e => e
theorem Ext.push (h : Heap) (o : Obj) : Ext h (h.push o) := fun _ _ e => Heap.get?_push_of_some o e

theorem Rep.ext {h h' : Heap} {v : Value} {d : PV} (r : Rep h η v d) (x : Ext h h') : Rep h' η v d := r.step (P := fun _ => False) (Step.ext x) (NoSeq.bot h)
theorem RepAll.ext {h h' : Heap} {vs : List Value} {ds : List PV} (r : RepAll h η vs ds) (x : Ext h h') : RepAll h' η vs ds := r.step (P := fun _ => False) (Step.ext x) (NoSeq.bot h)

/-- a new list that nothing may change -/
theorem rep_newList {h : Heap} (k : Ok prog w B η σ h) {vs : List Value} {ds : List PV} (r : RepAll h η vs ds) {n : Nat} : Rep (h.push { cls := .type "list", data := .seq vs.toArray n }) η (.ref h.objs.size) (.lst ds) :=
  .lst k.fresh ⟨n, Heap.get?_push_size _ rfl⟩ (r.ext (Ext.push _ _))
theorem rep_newTup {h : Heap} (k : Ok prog w B η σ h) {vs : List Value} {ds : List PV} (r : RepAll h η vs ds) {n : Nat} : Rep (h.push { cls := .type "tuple", data := .seq vs.toArray n }) η (.ref h.objs.size) (.tup ds) :=
  .tup k.fresh ⟨_, Heap.get?_push_size _ rfl, rfl, n, rfl⟩ (r.ext (Ext.push _ _))

theorem mulOk {a b : Int} (h : a.natAbs < 2 ^ 62 ∨ b.natAbs < 2 ^ 62) : IntMulOk a b := by
  have key : ∀ x : Int, x.natAbs < 2 ^ 62 → ¬ Builtin.Int.intBits x > shortFactorBits := fun x hx hb => by
    have : Builtin.Int.intBits x ≤ 63 := by
      unfold Builtin.Int.intBits
      split
      · omega
      · rename_i h0
        have h1 : x.natAbs.log2 < 62 := (Nat.log2_lt (by simpa using h0)).mpr hx
        omega
    have e : shortFactorBits = 64 := rfl
    omega
  intro hc
  simp only [Bool.and_eq_true, decide_eq_true_eq] at hc
  rcases h with h | h
  · exact key a h hc.1.1
  · exact key b h hc.1.2

theorem bin_ok {op : Operator} {a b : Value} {x y d : PV} {Q : Value → Shared → Prop} (k : Ok prog w B η σ s.heap) (ra : Rep s.heap η a x) (rb : Rep s.heap η b y) (e : binP op x y = some d)
    (hQ : ∀ v h' tk, Ext s.heap h' → Rep h' η v d → Q v { s with heap := h', toks := tk }) : wpAny (model prog w) A (binaryOp op a b) Q E s := by
  unfold binP at e
  split at e
  · cases ra; cases rb; cases e; exact add_int (hQ _ s.heap _ (Ext.refl _) (.int _ _))
  · cases ra; cases rb; cases e; exact sub_int (hQ _ s.heap _ (Ext.refl _) (.int _ _))
  · split at e
    · rename_i hc
      cases ra; cases rb; cases e; exact mul_int (hQ _ s.heap _ (Ext.refl _) (.int _ _)) (mulOk hc)
    · cases e
  · split at e
    · rename_i hc
      cases ra; cases rb; cases e; exact floordiv_int hc.1 (hQ _ s.heap _ (Ext.refl _) (.int _ _)) (.inl (PyProof.noPylong_small hc.2))
    · cases e
  · split at e
    · rename_i hc
      cases ra; cases rb; cases e; exact mod_int' hc (hQ _ s.heap _ (Ext.refl _) (.int _ _))
    · cases e
  · split at e
    · rename_i hc
      cases ra; cases rb; cases e; exact pow_int_small hc.1 hc.2.1 hc.2.2 (hQ _ s.heap _ (Ext.refl _) (.int _ _))
    · cases e
  · split at e
    · rename_i hc
      cases ra; cases rb; cases e; exact add_str (fun t' tk => hQ _ s.heap _ (Ext.refl _) (.str _ _)) hc
    · cases e
  · split at e
    · rename_i hc
      cases ra with
      | lst n1 p1 r1 =>
        cases rb with
        | lst n2 p2 r2 =>
          cases e
          obtain ⟨k1, p1⟩ := p1
          obtain ⟨k2, p2⟩ := p2
          have l1 := r1.length
          have l2 := r2.length
          refine P.add_list p1 p2 ?_ (by simp [l1, l2]; omega)
          refine hQ _ _ s.toks (Ext.push _ _) ?_
          simp only [List.append_toArray]
          exact rep_newList k (r1.append r2)
    · cases e
  · cases e

-- a plain value, as the kit reads it
mutual
theorem rep_reads {h : Heap} : ∀ {v : Value} {d : PV} {x : PyData}, Rep h η v d → datOf d = some x → ∃ as, Reads h v x as
  | _, _, _, .none, e => by cases e; exact ⟨_, .none⟩
  | _, _, _, .bool b, e => by cases e; exact ⟨_, .bool b⟩
  | _, _, _, .int i t, e => by cases e; exact ⟨_, .int i t⟩
  | _, _, _, .str x t, e => by cases e; exact ⟨_, .str x t⟩
  | _, _, _, .tup _ ⟨o, ho, hc, n, hd⟩ r, e => by
    simp only [datOf, Option.map_eq_some_iff] at e
    obtain ⟨xs, e1, rfl⟩ := e
    obtain ⟨as, q⟩ := reps_reads r e1
    exact ⟨_, .tuple ho hc hd (by simpa using q)⟩
  | _, _, _, .lst _ ⟨n, ho⟩ r, e => by
    simp only [datOf, Option.map_eq_some_iff] at e
    obtain ⟨xs, e1, rfl⟩ := e
    obtain ⟨as, q⟩ := reps_reads r e1
    exact ⟨_, .list ho rfl rfl (by simpa using q)⟩
  | _, _, _, .loc _, e => by cases e
  | _, _, _, .ty _, e => by cases e
theorem reps_reads {h : Heap} : ∀ {vs : List Value} {ds : List PV} {xs : List PyData}, RepAll h η vs ds → datsOf ds = some xs → ∃ as, ReadsAll h vs xs as
  | _, _, _, .nil, e => by cases e; exact ⟨_, .nil⟩
  | _, _, _, .cons a r, e => by
    simp only [datsOf] at e
    split at e
    · rename_i x xs e1 e2
      cases e
      obtain ⟨as, q⟩ := rep_reads a e1
      obtain ⟨bs, p⟩ := reps_reads r e2
      exact ⟨_, .cons q p⟩
    · cases e
end

theorem dat_reads (k : Ok prog w B η σ s.heap) {v : Value} {d : PV} {x : PyData} (r : Rep s.heap η v d) (e : datP σ d = some x) : ∃ as, Reads s.heap v x as := by
  cases r with
  | loc ha =>
    simp only [datP] at e
    split at e
    · rename_i ds hs
      simp only [Option.map_eq_some_iff] at e
      obtain ⟨xs, e1, rfl⟩ := e
      obtain ⟨vs, ⟨n, p⟩, q⟩ := RepObj.lst k ha hs
      obtain ⟨as, q⟩ := reps_reads q e1
      exact ⟨_, .list p rfl rfl (by simpa using q)⟩
    · cases e
  | none => exact rep_reads (η := η) .none (by simpa [datP] using e)
  | bool b => exact rep_reads (η := η) (.bool b) (by simpa [datP] using e)
  | int i t => exact rep_reads (η := η) (.int i t) (by simpa [datP] using e)
  | str y t => exact rep_reads (η := η) (.str y t) (by simpa [datP] using e)
  | ty n => simp [datP, datOf] at e
  | tup h1 h2 h3 => exact rep_reads (.tup h1 h2 h3) (by simpa [datP] using e)
  | lst h1 h2 h3 => exact rep_reads (.lst h1 h2 h3) (by simpa [datP] using e)

theorem shaped_of {d : PyData} (h : shapedP d = true) : SeqAt.shaped d = true := by
  unfold shapedP at h
  unfold SeqAt.shaped
  simp only [Bool.and_eq_true, decide_eq_true_eq] at h ⊢
  exact ⟨h.1, by omega⟩

theorem eq_ok {a b : Value} {x y : PV} {c : Bool} {Q : Value → Shared → Prop} (k : Ok prog w B η σ s.heap) (hu : A.units + 64 < cLine) (ra : Rep s.heap η a x) (rb : Rep s.heap η b y) (e : eqP σ x y = some c)
    (hQ : Q (.bool c) s) : wpAny (model prog w) A (compareOp .Eq a b) Q E s := by
  unfold eqP at e
  split at e
  · cases ra; cases rb; cases e; exact eq_int hQ
  · cases ra; cases rb; cases e; exact eq_bool hQ
  · cases ra; cases rb; cases e; exact eq_str hQ
  · split at e
    · rename_i u v e1 e2
      split at e
      · rename_i hs
        simp only [Bool.and_eq_true] at hs
        cases e
        obtain ⟨as, q⟩ := dat_reads k ra e1
        obtain ⟨bs, p⟩ := dat_reads k rb e2
        exact SeqAt.compareEq_shaped q p (shaped_of hs.1) (shaped_of hs.2) hu hQ
      · cases e
    · cases e

theorem ne_ok {a b : Value} {x y : PV} {c : Bool} {Q : Value → Shared → Prop} (k : Ok prog w B η σ s.heap) (hu : A.units + 64 < cLine) (ra : Rep s.heap η a x) (rb : Rep s.heap η b y) (e : eqP σ x y = some c)
    (hQ : Q (.bool (!c)) s) : wpAny (model prog w) A (compareOp .NotEq a b) Q E s := by
  unfold eqP at e
  split at e
  · cases ra; cases rb; cases e; exact ne_int hQ
  · cases ra; cases rb; cases e; exact ne_bool hQ
  · cases ra; cases rb; cases e; exact ne_str hQ
  · split at e
    · rename_i u v e1 e2
      split at e
      · rename_i hs
        simp only [Bool.and_eq_true] at hs
        cases e
        obtain ⟨as, q⟩ := dat_reads k ra e1
        obtain ⟨bs, p⟩ := dat_reads k rb e2
        exact SeqAt.compareNe_shaped q p (shaped_of hs.1) (shaped_of hs.2) hu hQ
      · cases e
    · cases e

end Mine

set_option maxRecDepth 100000
namespace Mine
open PySem PySem.Spec PyProof.Rows

variable {prog : Program} {w : World} {A : Around} {E : Value → Shared → Prop} {s : Shared} {B : Heap} {η : List Addr} {σ : Store}

/-! keys -/
theorem key_items {h : Heap} {vs : List Value} {ds : List PV} {ks : List Int} (r : RepAll h η vs ds) (e : keyOf ds = some ks) : ItemsAre (intKind prog w) ks vs := by
  induction vs generalizing ds ks with
  | nil => cases r; cases e; exact .nil
  | cons v vs ih =>
    cases r with
    | cons a r =>
      cases a with
      | int i t =>
        simp only [keyOf, Option.map_eq_some_iff] at e
        obtain ⟨l, e1, rfl⟩ := e
        exact .cons (by show Value.isInt i (.int i t) = true; simp [Value.isInt]) (ih r e1)
      | _ => simp [keyOf] at e
theorem key_is {h : Heap} {a : Addr} {vs : List Value} {ds : List PV} {ks : List Int} (ht : h.IsTuple a vs.toArray) (r : RepAll h η vs ds) (e : keyOf ds = some ks) : (tk prog w).is h ks a := by
  obtain ⟨o, ho, hc, n, hd⟩ := ht
  exact ⟨o, _, n, ho, hc, hd, by simpa using key_items r e⟩

theorem find_at {xs : List (List Int × Addr × Value)} {es : List (List Int × PV)} {h : Heap} (k : List Int) (e : xs.map (·.1) = es.map (·.1)) (r : RepAll h η (xs.map (·.2.2)) (es.map (·.2))) :
    (find k es = none ∧ atKey xs k = none) ∨ ∃ d p, find k es = some d ∧ atKey xs k = some p ∧ Rep h η p.2 d := by
  induction xs generalizing es with
  | nil =>
    cases es with
    | nil => exact .inl ⟨rfl, rfl⟩
    | cons => cases e
  | cons x xs ih =>
    cases es with
    | nil => cases e
    | cons y es =>
      simp only [List.map_cons, List.cons.injEq] at e
      cases r with
      | cons a r =>
        by_cases hk : x.1 = k
        · refine .inr ⟨y.2, x.2, ?_, ?_, a⟩
          · unfold find; rw [List.find?_cons_of_pos (by simp [← e.1, hk])]; rfl
          · unfold atKey; rw [List.find?_cons_of_pos (by simp [hk])]; rfl
        · have h1 : find k (y :: es) = find k es := by unfold find; rw [List.find?_cons_of_neg (by simp [← e.1, hk])]
          have h2 : atKey (x :: xs) k = atKey xs k := by unfold atKey; rw [List.find?_cons_of_neg (by simp [hk])]
          rw [h1, h2]; exact ih e.2 r

theorem low_ne {a : Addr} (k : Ok prog w B η σ s.heap) (ha : a ∈ η) : (a == sysModules) = false := by
  have h1 := k.low a ha
  exact beq_eq_false_iff_ne.mpr fun q => absurd (q ▸ h1 : cStatics < sysModules) (by decide)

/-! comparisons -/
theorem in_ok {a b : Value} {x y : PV} {c : Bool} {Q : Value → Shared → Prop} (k : Ok prog w B η σ s.heap) (hu : A.units + 64 < cLine) (ra : Rep s.heap η a x) (rb : Rep s.heap η b y) (e : inP σ x y = some c)
    (hQ : ∀ tk, Q (.bool c) { s with toks := tk }) : wpAny (model prog w) A (compareOp .In a b) Q E s := by
  unfold inP at e
  split at e
  · cases ra; cases rb; cases e; exact in_str (hQ s.toks)
  · cases ra with
    | tup n1 t1 r1 =>
      cases rb with
      | loc hb =>
        split at e
        · rename_i es ks hs hk
          cases e
          obtain ⟨xs, hD, e1, n, r⟩ := (k.objs _ _ _ hb hs : ∃ xs, _)
          have hm := List.mem_of_getElem? hb
          refine wpAny_in_heap (knd := tk prog w) (tupleKind_room_in1 (by omega)) (key_is t1 r1 hk) (low_ne k hm) hD ?_
          rcases find_at ks e1 r with ⟨q1, q2⟩ | ⟨d, p, q1, q2, _⟩
          · rw [q2]; rw [q1] at hQ; exact hQ _
          · rw [q2]; rw [q1] at hQ; exact hQ _
        · rename_i ds _ hs
          split at e
          · rename_i xs y e1 e2
            split at e
            · rename_i hc
              simp only [Bool.and_eq_true, decide_eq_true_eq] at hc
              cases e
              obtain ⟨vs, ⟨n, p⟩, q⟩ := RepObj.lst k hb hs
              obtain ⟨as, q⟩ := reps_reads q e1
              obtain ⟨bs, q'⟩ := reps_reads r1 e2
              obtain ⟨o, ho, hcl, n', hd⟩ := t1
              refine SeqAt.in_list_reads (d := .tuple y) (.list p rfl rfl (by simpa using q)) (.tuple ho hcl hd (by simpa using q')) hc.1.1 (by simpa [PyData.canLay0] using hc.1.2) ?_ (hQ s.toks)
              have h1 := Nat.min_le_right (PyData.depthAll xs) (PyData.tuple y).depth
              have h2 : (PyData.tuple y).depth = PyData.depthAll y + 1 := rfl
              omega
            · cases e
          · cases e
        · cases e
  · cases e

theorem notIn_ok {a b : Value} {x y : Str} {c : Bool} {Q : Value → Shared → Prop} (ra : Rep s.heap η a (.str x)) (rb : Rep s.heap η b (.str y)) (e : inP σ (.str x) (.str y) = some c)
    (hQ : ∀ tk, Q (.bool (!c)) { s with toks := tk }) : wpAny (model prog w) A (compareOp .NotIn a b) Q E s := by
  cases ra; cases rb; cases e; exact notIn_str (hQ s.toks)

theorem vbool_beq (a b : Bool) : (Value.bool a == Value.bool b) = (a == b) := by cases a <;> cases b <;> rfl

theorem cmp_ok {op : CmpOp} {a b : Value} {x y d : PV} {Q : Value → Shared → Prop} (k : Ok prog w B η σ s.heap) (hu : A.units + 64 < cLine) (ra : Rep s.heap η a x) (rb : Rep s.heap η b y) (e : cmpP σ op x y = some d)
    (hQ : ∀ c tk, d = .bool c → Q (.bool c) { s with toks := tk }) : wpAny (model prog w) A (compareOp op a b) Q E s := by
  unfold cmpP at e
  split at e
  · cases ra; cases rb; cases e; exact lt_int (hQ _ s.toks rfl)
  · cases ra; cases rb; cases e; exact le_int (hQ _ s.toks rfl)
  · cases ra; cases rb; cases e; exact gt_int (hQ _ s.toks rfl)
  · cases ra; cases rb; cases e; exact ge_int (hQ _ s.toks rfl)
  · obtain ⟨c, e1, rfl⟩ := Option.map_eq_some_iff.mp e; exact eq_ok k hu ra rb e1 (hQ _ s.toks rfl)
  · obtain ⟨c, e1, rfl⟩ := Option.map_eq_some_iff.mp e; exact ne_ok k hu ra rb e1 (hQ _ s.toks rfl)
  · cases ra; cases rb; cases e; exact wpAny_is_plain rfl (by rw [vbool_beq]; exact hQ _ s.toks rfl)
  · obtain ⟨c, e1, rfl⟩ := Option.map_eq_some_iff.mp e; exact in_ok k hu ra rb e1 fun tk => hQ _ tk rfl
  · obtain ⟨c, e1, rfl⟩ := Option.map_eq_some_iff.mp e; exact notIn_ok ra rb e1 fun tk => hQ _ tk rfl
  · cases e

theorem isi_ok {v : Value} {d : PV} {t : String} {b : Bool} {Q : Value → Shared → Prop} (k : Ok prog w B η σ s.heap) (r : Rep s.heap η v d) (e : isiP σ d t = some b)
    (hQ : ∀ tk, Q (.bool b) { s with toks := tk }) : wpAny (model prog w) A (call (.builtin "isinstance") [v, .type t]) Q E s := by
  unfold isiP at e
  split at e
  · rename_i ht
    subst ht
    split at e
    · rename_i ds hi
      cases e
      obtain ⟨x, vs, rfl, ⟨n, p⟩, q⟩ := items_of k r hi
      exact IsiPair.list_list p rfl (hQ s.toks)
    · cases e
  · split at e
    · rename_i ht
      subst ht
      split at e
      · cases e
        cases r with
        | tup n1 t1 r1 =>
          obtain ⟨o, ho, hc, n, hd⟩ := t1
          exact IsiPair.tuple_tuple ho hc (hQ s.toks)
      · cases e
    · split at e
      · rename_i ht
        subst ht
        split at e
        · cases e; cases r; exact IsiPair.str_str (hQ s.toks)
        · cases e
      · split at e
        · rename_i ht
          subst ht
          split at e
          · cases e; cases r; exact IsiPair.bool_bool (hQ s.toks)
          · cases e; cases r; exact IsiPair.int_bool (hQ _)
          · cases e
        · split at e
          · rename_i ht
            subst ht
            split at e
            · cases e; cases r; exact IsiPair.int_int (hQ s.toks)
            · cases e
          · cases e

/-! the built-in functions -/
noncomputable def bval (f : Str) : Value :=
  if f = "len" then .builtin "len" else if f = "max" then .builtin "max" else if f = "min" then .builtin "min" else if f = "int" then .type "int" else if f = "isinstance" then .builtin "isinstance" else .type "list"

theorem two24 : sizeLine = 16777216 := rfl

theorem callB_ok {f : Str} {vs : List PV} {ws : List Value} {d : PV} {Q : Value → Shared → Prop} (k : Ok prog w B η σ s.heap) (hh : A.handled = none) (r : RepAll s.heap η ws vs) (e : callB f vs σ = some d)
    (hQ : ∀ v h' tk, Ext s.heap h' → Rep h' η v d → Q v { s with heap := h', toks := tk }) : wpAny (model prog w) A (call (bval f) ws) Q E s := by
  have hs := two24
  unfold callB at e
  split at e
  · rename_i hf
    subst hf
    show wpAny (model prog w) A (call (.builtin "len") ws) Q E s
    split at e
    · split at e
      · rename_i hc
        cases e
        cases r with | cons a r => cases r; cases a with | str x t => exact len_str (by omega) (hQ _ s.heap _ (Ext.refl _) (.int _ _))
      · cases e
    · split at e
      · rename_i hc
        cases e
        cases r with
        | cons a r =>
          cases r
          cases a with
          | tup n1 t1 r1 =>
            have l1 := r1.length
            refine len_tuple t1 (by simp; omega) ?_
            rw [List.size_toArray, l1]
            exact hQ _ s.heap _ (Ext.refl _) (.int _ _)
      · cases e
    · split at e
      · rename_i ds hi
        split at e
        · rename_i hc
          cases e
          cases r with
          | cons a r =>
            cases r
            obtain ⟨x, vs, rfl, p, q⟩ := items_of k a hi
            have l1 := q.length
            refine Calls.call_len_list p.isList (by simp; omega) ?_
            have : ((List.toArray vs).size : Int) = (ds.length : Int) := by simp [l1]
            rw [this]
            exact hQ _ s.heap _ (Ext.refl _) (.int _ _)
        · cases e
      · cases e
    · cases e
  · split at e
    · rename_i hf
      subst hf
      show wpAny (model prog w) A (call (.builtin "max") ws) Q E s
      split at e
      · cases e
        cases r with
        | cons a r => cases r with | cons b r => cases r; cases a with | int i t => cases b with | int j u =>
          refine max_two_ints hh fun h' tk hk => ?_
          split
          · rename_i hc; exact hQ _ h' tk hk (by rw [if_pos hc]; exact .int _ _)
          · rename_i hc; exact hQ _ h' tk hk (by rw [if_neg hc]; exact .int _ _)
      · cases e
    · split at e
      · rename_i hf
        subst hf
        show wpAny (model prog w) A (call (.builtin "min") ws) Q E s
        split at e
        · cases e
          cases r with
          | cons a r => cases r with | cons b r => cases r; cases a with | int i t => cases b with | int j u =>
            refine min_two_ints hh fun h' tk hk => ?_
            split
            · rename_i hc; exact hQ _ h' tk hk (by rw [if_pos hc]; exact .int _ _)
            · rename_i hc; exact hQ _ h' tk hk (by rw [if_neg hc]; exact .int _ _)
        · cases e
      · split at e
        · rename_i hf
          subst hf
          show wpAny (model prog w) A (call (.type "int") ws) Q E s
          split at e
          · cases e
            cases r with
            | cons a r => cases r; cases a with | bool b => exact call_int_bool (hQ _ s.heap _ (Ext.refl _) (.int _ _))
          · cases e
        · split at e
          · rename_i hf
            subst hf
            show wpAny (model prog w) A (call (.type "list") ws) Q E s
            split at e
            · split at e
              · rename_i ds hi
                split at e
                · rename_i hc
                  cases e
                  cases r with
                  | cons a r =>
                    cases r
                    obtain ⟨x, vs, rfl, ⟨n, p⟩, q⟩ := items_of k a hi
                    have l1 := q.length
                    refine call_list_seq x (.inl rfl) p rfl rfl (fun h' c' hk hn => ?_) (by simp; omega)
                    exact hQ _ h' s.toks hk (.lst k.fresh ⟨c', hn⟩ (q.ext hk))
                · cases e
              · cases e
            · cases e
          · split at e
            · rename_i hf
              subst hf
              show wpAny (model prog w) A (call (.builtin "isinstance") ws) Q E s
              split at e
              · obtain ⟨b, e1, rfl⟩ := Option.map_eq_some_iff.mp e
                cases r with
                | cons a r => cases r with | cons b r => cases r; cases b with | ty T =>
                  exact isi_ok k a e1 fun tk => hQ _ s.heap tk (Ext.refl _) (.bool _)
              · cases e
            · cases e

/-! items -/
theorem idx_facts {i : Int} {n j : Nat} (h : idxP i n = some j) : 0 ≤ i ∧ i < n ∧ i < 2 ^ 63 ∧ j = i.toNat := by
  unfold idxP at h
  split at h
  · rename_i hi; cases h; exact ⟨hi.1, hi.2.1, hi.2.2, rfl⟩
  · cases h
theorem seqIndex_of {i : Int} {n : Nat} (h0 : 0 ≤ i) (h1 : i < n) : seqIndex? i n = some i.toNat := by
  unfold seqIndex?
  have h2 : ¬ i < 0 := by omega
  simp only [h2, if_false]
  simp [h0, h1]

theorem sub_ok {value slice : Expr} {a b : Value} {x y d : PV} {Q : Value → Shared → Prop} (k : Ok prog w B η σ s.heap) (hu : A.units + 64 < cLine) (ra : Rep s.heap η a x) (rb : Rep s.heap η b y) (e : subP σ x y = some d)
    (hs : subscripted slice false a b = operate [a, b] (getItem a b))
    (hQ : ∀ v tk, Rep s.heap η v d → Q v { s with toks := tk }) : wpAny (model prog w) A (subscriptTail value slice a b) Q E s := by
  unfold subP at e
  split at e
  · split at e
    · rename_i j hj
      obtain ⟨c, hc, rfl⟩ := Option.map_eq_some_iff.mp e
      cases ra; cases rb
      obtain ⟨h0, h1, h2, rfl⟩ := idx_facts hj
      refine tail_any (T := "str") (id := "str.__getitem__") rfl F.slot_str_getitem.lookup (getItem_str (c := c) ?_ ?_ (hQ _ _ (.str _ _))) hs
      · simp; omega
      · rw [seqIndex_of h0 h1]; exact hc
    · cases e
  · split at e
    · rename_i j hj
      cases ra with
      | tup n1 t1 r1 =>
        cases rb
        obtain ⟨h0, h1, h2, rfl⟩ := idx_facts hj
        obtain ⟨v, hv, rv⟩ := r1.get e
        have l1 := r1.length
        obtain ⟨o, ho, hc, n, hd⟩ := id t1
        refine tail_any (T := "tuple") (id := "tuple.__getitem__") ⟨o, ho, hc⟩ F.slot_tuple_getitem.lookup (getItem_tuple t1 (by omega) h2 (seqIndex_of h0 (by simp; omega)) (by simpa using hv) (hQ v s.toks rv)) hs
    · cases e
  · split at e
    · rename_i j hj
      cases ra with
      | lst n1 t1 r1 =>
        cases rb
        obtain ⟨h0, h1, h2, rfl⟩ := idx_facts hj
        obtain ⟨v, hv, rv⟩ := r1.get e
        exact tail_any (T := "list") (id := "list.__getitem__") t1.isList.typeIs F.slot_list_getitem.lookup (wpAny_getItem_list t1.isList h0 h2 (by simpa using hv) (hQ v s.toks rv)) hs
    · cases e
  · split at e
    · rename_i ds hσ
      split at e
      · rename_i j hj
        cases ra with
        | loc ha =>
          cases rb
          obtain ⟨vs, t1, r1⟩ := RepObj.lst k ha hσ
          obtain ⟨h0, h1, h2, rfl⟩ := idx_facts hj
          obtain ⟨v, hv, rv⟩ := r1.get e
          exact tail_any (T := "list") (id := "list.__getitem__") t1.isList.typeIs F.slot_list_getitem.lookup (wpAny_getItem_list t1.isList h0 h2 (by simpa using hv) (hQ v s.toks rv)) hs
      · cases e
    · cases e
  · split at e
    · rename_i es ks hσ hk
      cases ra with
      | loc ha =>
        cases rb with
        | tup n1 t1 r1 =>
          obtain ⟨xs, hD, e1, n, r⟩ := (k.objs _ _ _ ha hσ : ∃ xs, _)
          rcases find_at ks e1 r with ⟨q1, q2⟩ | ⟨d', p, q1, q2, rp⟩
          · rw [q1] at e; cases e
          · rw [q1] at e; cases e
            obtain ⟨o, ea, ep, ho, hx, _⟩ := id hD
            exact tail_any (T := "dict") (id := "dict.__getitem__") ⟨o, ho, hx.1⟩ F.slot_dict_getitem.lookup (wpAny_getItem_heap (knd := tk prog w) (tupleKind_room_in1 (by omega)) (key_is t1 r1 hk) hD q2 (hQ _ _ rp)) hs
    · cases e
  · cases e

end Mine

set_option maxRecDepth 100000
namespace Mine
open PySem PySem.Spec PyProof.Rows

/-- the law's ground: the base heap and its names -/
structure Cx (B : Heap) (mg mb : Str → Option Value) (G : Glob) : Prop where
  g : B.Ns mainGlobals mg
  b : B.Ns builtinsNs mb
  nolimit : B.NoLimit
  builtins : ∀ x : Str, x ≠ "__name__" → mb x = bootBuiltins x
  isB : ∀ x, G x = .builtin → mg x = none ∧ x ≠ "__name__"
  isV : ∀ x d, G x = .val d → ∃ v, mg x = some v ∧ ∀ h η, Ext B h → (∀ b o, B.get? b = some o → b ∉ η) → Rep h η v d

/-- room below the machine's lines for n more frames -/
structure Room (n : Nat) (A : Around) : Prop where
  handled : A.handled = none
  depth : A.depth + n < recursionLimit
  units : A.units + 3 * n + 100 < cLine

structure EnvOk (env : Env) : Prop where
  kind : env.scope.kind = .function
  globals : env.globals = mainGlobals
  builtins : env.builtins = builtinsNs

noncomputable def Own (env : Env) (b : Addr) : Prop := b = env.locals ∨ ∃ x, env.cells.lookup x = some b

/-- the frame at hand holds ρ -/
structure Fm (B : Heap) (env : Env) (ρ : Locals) (η : List Addr) (h : Heap) : Prop where
  ns : ∃ m, h.Ns env.locals m ∧ ∀ x d, env.kindOf x = some .local → ρ x = some d → ∃ v, m x = some v ∧ Rep h η v d
  cell : ∀ x d, env.kindOf x = some .cell → ρ x = some d → ∃ c v, env.cells.lookup x = some c ∧ h.IsCell c (some v) ∧ Rep h η v d
  cells : ∀ x, env.kindOf x = some .cell → ∃ c v, env.cells.lookup x = some c ∧ h.IsCell c v
  kinds : ∀ x d, ρ x = some d → env.kindOf x = some .local ∨ env.kindOf x = some .cell
  off : ∀ b, Own env b → b ∉ η ∧ B.get? b = none
  live : ∀ b, Own env b → ∃ o, h.get? b = some o ∧ ∀ items n, o.data ≠ .seq items n
  cellNe : ∀ x c, env.cells.lookup x = some c → c ≠ env.locals
  cellInj : ∀ x y c, env.cells.lookup x = some c → env.cells.lookup y = some c → x = y

section
variable {prog : Program} {w : World} {B : Heap} {env : Env} {ρ : Locals} {η η' : List Addr} {h h' : Heap}
theorem Fm.step (F : Fm B env ρ η h) (st : Step (fun _ => False) η η' h h') : Fm B env ρ η' h' := by
  have up : ∀ b o, Own env b → h.get? b = some o → h'.get? b = some o ∧ b ∉ η' := fun b o hb e => st.keep b o e (F.off b hb).1 id
  refine ⟨?_, fun x d hk hr => ?_, fun x hk => ?_, F.kinds, fun b hb => ?_, fun b hb => ?_, F.cellNe, F.cellInj⟩
  · obtain ⟨m, ⟨o, es, ep, ho, r⟩, hm⟩ := F.ns
    refine ⟨m, ⟨o, es, ep, (up _ o (.inl rfl) ho).1, r⟩, fun x d hk hr => ?_⟩
    obtain ⟨v, e, rv⟩ := hm x d hk hr
    exact ⟨v, e, rv.step st (NoSeq.bot h)⟩
  · obtain ⟨c, v, hc, ⟨o, ho, hd⟩, rv⟩ := F.cell x d hk hr
    exact ⟨c, v, hc, ⟨o, (up c o (.inr ⟨x, hc⟩) ho).1, hd⟩, rv.step st (NoSeq.bot h)⟩
  · obtain ⟨c, v, hc, ⟨o, ho, hd⟩⟩ := F.cells x hk
    exact ⟨c, v, hc, ⟨o, (up c o (.inr ⟨x, hc⟩) ho).1, hd⟩⟩
  · obtain ⟨o, ho, _⟩ := F.live b hb
    exact ⟨(up b o hb ho).2, (F.off b hb).2⟩
  · obtain ⟨o, ho, hn⟩ := F.live b hb
    exact ⟨o, (up b o hb ho).1, hn⟩
theorem Fm.noSeq (F : Fm B env ρ η h) : NoSeq (Own env) h := fun b o hb e items n hd => by
  obtain ⟨o', ho, hn⟩ := F.live b hb
  rw [ho] at e; cases e
  exact hn items n hd
end

/-- the functions of Φ do what it says -/
noncomputable def FnsOk (prog : Program) (w : World) (B : Heap) (mg : Str → Option Value) (Φ : Fns) (n : Nat) : Prop :=
  ∀ f vs σ d σ', Φ f vs σ = some (d, σ') → ∃ a o fd, mg f = some (.ref a) ∧ B.get? a = some o ∧ o.data = .func fd ∧
    ∀ (A : Around) (s : Shared) (η : List Addr) (E : Value → Shared → Prop) (Q : Value → Shared → Prop) (ws : List Value), Room n A → Ok prog w B η σ s.heap → RepAll s.heap η ws vs →
      (∀ v η' h' tk, Step (fun _ => False) η η' s.heap h' → Ok prog w B η' σ' h' → Rep h' η' v d → Q v { s with heap := h', toks := tk }) →
      wpAny (model prog w) A (call (.ref a) ws) Q E s

section
variable {prog : Program} {w : World} {A : Around} {E : Value → Shared → Prop} {s : Shared} {B : Heap} {η : List Addr} {σ : Store} {env : Env} {ρ : Locals} {mg mb : Str → Option Value} {G : Glob} {Φ : Fns} {n : Nat}

theorem Ok.extB {h : Heap} (k : Ok prog w B η σ h) : Ext B h := fun b o e => (k.base b o e).1

theorem name_global {x : Str} {pos : Pos} {v : Value} {Q : Value → Shared → Prop} (C : Cx B mg mb G) (k : Ok prog w B η σ s.heap) (eo : EnvOk env) (hc : chkG env.kindOf x = true) (hv : mg x = some v) (h : Q v s) :
    wpAny (model prog w) A (eval (.Name x pos) env) Q E s := by
  unfold chkG at hc
  simp only [Bool.and_eq_true, Bool.not_eq_true'] at hc
  have hx : env.kindOf x = some .globalImplicit := by
    have := hc.2
    split at this
    · assumption
    · cases this
  exact Calls.Name_function_global eo.kind hx (Calls.loadGlobal_global (by rw [eo.globals]; exact C.g.keeps k.extB) hv h) hc.1

theorem name_builtin {x : Str} {pos : Pos} {v : Value} {Q : Value → Shared → Prop} (C : Cx B mg mb G) (k : Ok prog w B η σ s.heap) (eo : EnvOk env) (hc : chkG env.kindOf x = true) (hb : G x = .builtin) (hv : bootBuiltins x = some v) (h : Q v s) :
    wpAny (model prog w) A (eval (.Name x pos) env) Q E s := by
  unfold chkG at hc
  simp only [Bool.and_eq_true, Bool.not_eq_true'] at hc
  have hx : env.kindOf x = some .globalImplicit := by
    have := hc.2
    split at this
    · assumption
    · cases this
  have q := C.isB x hb
  exact Calls.Name_function_global eo.kind hx (Calls.loadGlobal_builtin (by rw [eo.globals]; exact C.g.keeps k.extB) q.1 (by rw [eo.builtins]; exact C.b.keeps k.extB) ((C.builtins x q.2).trans hv) h) hc.1

theorem name_local {x : Str} {pos : Pos} {d : PV} {Q : Value → Shared → Prop} (eo : EnvOk env) (F : Fm B env ρ η s.heap) (hc : chkN G env.kindOf x = true) (hr : ρ x = some d) (h : ∀ v, Rep s.heap η v d → Q v s) :
    wpAny (model prog w) A (eval (.Name x pos) env) Q E s := by
  unfold chkN at hc
  simp only [Bool.and_eq_true, Bool.not_eq_true'] at hc
  rcases F.kinds x d hr with hk | hk
  · obtain ⟨m, hns, hm⟩ := F.ns
    obtain ⟨v, e, rv⟩ := hm x d hk hr
    exact wpAny_Name (wpAny_loadName_local eo.kind hk hns e (h v rv)) hc.1
  · obtain ⟨c, v, hc', hv, rv⟩ := F.cell x d hk hr
    exact wpAny_Name (wpAny_loadName_cell eo.kind hk hc' hv (h v rv)) hc.1

/-- an expression does what the interpreter says -/
noncomputable def ES (prog : Program) (w : World) (B : Heap) (env : Env) (Φ : Fns) (G : Glob) (n : Nat) (e : Expr) : Prop :=
  ∀ ρ σ d σ', chkE G env.kindOf e = true → evalE Φ G e ρ σ = some (d, σ') → ∀ (A : Around) (s : Shared) (η : List Addr) (E : Value → Shared → Prop) (Q : Value → Shared → Prop),
    Room n A → Ok prog w B η σ s.heap → Fm B env ρ η s.heap →
    (∀ v η' h' tk, Step (fun _ => False) η η' s.heap h' → Ok prog w B η' σ' h' → Rep h' η' v d → Q v { s with heap := h', toks := tk }) →
    wpAny (model prog w) A (eval e env) Q E s
noncomputable def ESs (prog : Program) (w : World) (B : Heap) (env : Env) (Φ : Fns) (G : Glob) (n : Nat) (es : List Expr) : Prop :=
  ∀ ρ σ ds σ', chkEs G env.kindOf es = true → evalEs Φ G es ρ σ = some (ds, σ') → ∀ (pos : Pos) (A : Around) (s : Shared) (η : List Addr) (E : Value → Shared → Prop) (Q : List Value → Shared → Prop),
    Room n A → Ok prog w B η σ s.heap → Fm B env ρ η s.heap →
    (∀ vs η' h' tk, Step (fun _ => False) η η' s.heap h' → Ok prog w B η' σ' h' → RepAll h' η' vs ds → Q vs { s with heap := h', toks := tk }) →
    wpAny (model prog w) A (spliced (backTo pos (starEach es env))) Q E s

theorem ES.constant (c : Const) (kk : Nat) (pos : Pos) : ES prog w B env Φ G n (.Constant c kk pos) := by
  intro ρ σ d σ' hc he A s η E Q R k F hQ
  simp only [e_const, e_name, e_binop, e_not, e_usub, e_boolop, e_cmp, e_call, e_meth, e_list, e_tuple] at he
  split at he
  · rename_i d' hd
    cases he
    cases c with
    | none => cases hd; exact wpAny_Constant_none (hQ _ η s.heap s.toks Step.refl k .none)
    | bool b => cases hd; exact wpAny_Constant_bool (hQ _ η s.heap s.toks Step.refl k (.bool _))
    | int i => cases hd; exact wpAny_Constant_int (hQ _ η s.heap _ Step.refl k (.int _ _))
    | str x => cases hd; exact wpAny_Constant_str (hQ _ η s.heap _ Step.refl k (.str _ _))
    | _ => cases hd
  · cases he

theorem ty_boot {x : Str} {d : PV} (h : tyOf x = some d) : ∃ T, bootBuiltins x = some (.type T) ∧ d = .ty T := by
  unfold tyOf at h
  split at h
  · rename_i q; subst q; cases h; exact ⟨_, by decide +kernel, rfl⟩
  · split at h
    · rename_i q; subst q; cases h; exact ⟨_, by decide +kernel, rfl⟩
    · split at h
      · rename_i q; subst q; cases h; exact ⟨_, by decide +kernel, rfl⟩
      · split at h
        · rename_i q; subst q; cases h; exact ⟨_, by decide +kernel, rfl⟩
        · split at h
          · rename_i q; subst q; cases h; exact ⟨_, by decide +kernel, rfl⟩
          · cases h

theorem ES.name (C : Cx B mg mb G) (eo : EnvOk env) (x : Str) (pos : Pos) : ES prog w B env Φ G n (.Name x pos) := by
  intro ρ σ d σ' hc he A s η E Q R k F hQ
  simp only [e_const, e_name, e_binop, e_not, e_usub, e_boolop, e_cmp, e_call, e_meth, e_list, e_tuple] at he
  simp only [ck_name, ck_binop, ck_unop, ck_boolop, ck_cmp, ck_call, ck_meth, ck_slice, ck_list, ck_tuple] at hc
  split at he
  · rename_i d' hd
    cases he
    exact name_local eo F hc hd fun v rv => hQ v η s.heap s.toks Step.refl k rv
  · rename_i hn
    split at he
    · rename_i d' hd
      cases he
      have hcg : chkG env.kindOf x = true := by
        unfold chkN at hc
        unfold chkG
        simp only [Bool.and_eq_true] at hc ⊢
        refine ⟨hc.1, ?_⟩
        have h2 := hc.2
        split at h2
        · rw [hd] at h2; cases h2
        · rw [hd] at h2; cases h2
        · rename_i q; rw [q]
        · cases h2
      unfold Glob.val? at hd
      split at hd
      · rename_i hg
        cases hd
        obtain ⟨v, hv, rv⟩ := C.isV x d hg
        exact name_global C k eo hcg hv (hQ v η s.heap s.toks Step.refl k (rv _ _ k.extB fun b o e => (k.base b o e).2))
      · rename_i hg
        obtain ⟨T, hT, rfl⟩ := ty_boot hd
        exact name_builtin C k eo hcg hg hT (hQ _ η s.heap s.toks Step.refl k (.ty T))
      · cases hd
    · cases he

theorem ES.binop {l r : Expr} {op : Operator} {pos : Pos} (hl : ES prog w B env Φ G n l) (hr : ES prog w B env Φ G n r) : ES prog w B env Φ G n (.BinOp l op r pos) := by
  intro ρ σ d σ' hc he A s η E Q R k F hQ
  simp only [e_const, e_name, e_binop, e_not, e_usub, e_boolop, e_cmp, e_call, e_meth, e_list, e_tuple] at he
  simp only [ck_name, ck_binop, ck_unop, ck_boolop, ck_cmp, ck_call, ck_meth, ck_slice, ck_list, ck_tuple, Bool.and_eq_true] at hc
  split at he
  · cases he
  · rename_i a σ₁ h1
    split at he
    · cases he
    · rename_i b σ₂ h2
      split at he
      · rename_i d' h3
        cases he
        refine wpAny_BinOp (hl ρ σ a σ₁ hc.1 h1 A s η E _ R k F fun va η₁ H₁ t₁ s1 k1 r1 => ?_)
        refine hr ρ σ₁ b _ hc.2 h2 A _ η₁ E _ R k1 (F.step s1) fun vb η₂ H₂ t₂ s2 k2 r2 => ?_
        refine bin_ok k2 (r1.step s2 (NoSeq.bot _)) r2 h3 fun v H₃ t₃ x3 r3 => ?_
        exact hQ v η₂ H₃ t₃ ((s1.trans0 s2).trans0 (Step.ext x3)) (k2.ext x3) r3
      · cases he

theorem ES.unop {x : Expr} {op : UnaryOp} {pos : Pos} (hx : ES prog w B env Φ G n x) : ES prog w B env Φ G n (.UnaryOp op x pos) := by
  intro ρ σ d σ' hc he A s η E Q R k F hQ
  simp only [ck_name, ck_binop, ck_unop, ck_boolop, ck_cmp, ck_call, ck_meth, ck_slice, ck_list, ck_tuple] at hc
  cases op with
  | Not =>
    simp only [e_const, e_name, e_binop, e_not, e_usub, e_boolop, e_cmp, e_call, e_meth, e_list, e_tuple] at he
    split at he
    · rename_i b σ₁ h1
      cases he
      refine wpAny_UnaryOp (hx ρ σ _ _ hc h1 A s η E _ R k F fun v η₁ H₁ t₁ s1 k1 r1 => ?_)
      cases r1
      exact not_value (wpAny_truthy_bool (hQ _ η₁ H₁ t₁ s1 k1 (.bool _)))
    · cases he
  | USub =>
    simp only [e_const, e_name, e_binop, e_not, e_usub, e_boolop, e_cmp, e_call, e_meth, e_list, e_tuple] at he
    split at he
    · rename_i i σ₁ h1
      cases he
      refine wpAny_UnaryOp (hx ρ σ _ _ hc h1 A s η E _ R k F fun v η₁ H₁ t₁ s1 k1 r1 => ?_)
      cases r1
      exact P.neg_int (hQ _ η₁ H₁ _ s1 k1 (.int _ _))
    · cases he
  | _ => exact nomatch (show (none : Option (PV × Store)) = some _ from he)

theorem marks_none {op : CmpOp} {r : Expr} {ρ : Locals} {σ : Store} {x : PV × Store} (h : evalE Φ G r ρ σ = some x) : behindInMarks op r = false := by
  cases r <;> first | rfl | (exact nomatch (show (none : Option (PV × Store)) = some _ from h))

theorem ES.compare {l r : Expr} {op : CmpOp} {pos : Pos} (hl : ES prog w B env Φ G n l) (hr : ES prog w B env Φ G n r) : ES prog w B env Φ G n (.Compare l [op] [r] pos) := by
  intro ρ σ d σ' hc he A s η E Q R k F hQ
  simp only [e_const, e_name, e_binop, e_not, e_usub, e_boolop, e_cmp, e_call, e_meth, e_list, e_tuple] at he
  simp only [ck_name, ck_binop, ck_unop, ck_boolop, ck_cmp, ck_call, ck_meth, ck_slice, ck_list, ck_tuple, ck_nil, ck_cons, Bool.and_eq_true] at hc
  split at he
  · cases he
  · rename_i a σ₁ h1
    split at he
    · cases he
    · rename_i b σ₂ h2
      split at he
      · rename_i d' h3
        cases he
        refine wpAny_Compare1 (hl ρ σ a σ₁ hc.1 h1 A s η E _ R k F fun va η₁ H₁ t₁ s1 k1 r1 => ?_) (marks_none h2)
        refine hr ρ σ₁ b _ hc.2.1 h2 A _ η₁ E _ R k1 (F.step s1) fun vb η₂ H₂ t₂ s2 k2 r2 => ?_
        refine cmp_ok k2 (by have := R.units; omega) (r1.step s2 (NoSeq.bot _)) r2 h3 fun c tk hd => ?_
        subst hd
        exact hQ _ η₂ H₂ tk (s1.trans0 s2) k2 (.bool _)
      · cases he

theorem star_one {e : Expr} {es : List Expr} {ρ : Locals} {σ : Store} {x : PV × Store} (h : evalE Φ G e ρ σ = some x) : starEach (e :: es) env = (false, eval e env) :: starEach es env := by
  cases e <;> first | rfl | (exact nomatch (show (none : Option (PV × Store)) = some _ from h))

theorem ESs.nil : ESs prog w B env Φ G n [] := by
  intro ρ σ ds σ' hc he pos A s η E Q R k F hQ
  simp only [el_nil, el_cons, Option.some.injEq, Prod.mk.injEq] at he
  obtain ⟨rfl, rfl⟩ := he
  exact Calls.spliced_nil (hQ [] η s.heap s.toks Step.refl k .nil)
theorem ESs.cons {e : Expr} {es : List Expr} (h1 : ES prog w B env Φ G n e) (h2 : ESs prog w B env Φ G n es) : ESs prog w B env Φ G n (e :: es) := by
  intro ρ σ ds σ' hc he pos A s η E Q R k F hQ
  simp only [el_nil, el_cons] at he
  simp only [ck_nil, ck_cons, Bool.and_eq_true] at hc
  split at he
  · cases he
  · rename_i d σ₁ e1
    split at he
    · cases he
    · rename_i ds' σ₂ e2
      cases he
      rw [star_one e1]
      refine Calls.spliced_cons (h1 ρ σ d σ₁ hc.1 e1 A s η E _ R k F fun v η₁ H₁ t₁ s1 k1 r1 => ?_)
      refine h2 ρ σ₁ ds' _ hc.2 e2 pos A _ η₁ E _ R k1 (F.step s1) fun vs η₂ H₂ t₂ s2 k2 r2 => ?_
      exact hQ _ η₂ H₂ t₂ (s1.trans0 s2) k2 (.cons (r1.step s2 (NoSeq.bot _)) r2)

/-- the arguments of a call -/
theorem ESs.args {es : List Expr} (h : ESs prog w B env Φ G n es) {σ' : Store} {ds : List PV} (hc : chkEs G env.kindOf es = true) (he : evalEs Φ G es ρ σ = some (ds, σ')) {pos : Pos} {f : Value} {Q : Args → Shared → Prop}
    (R : Room n A) (k : Ok prog w B η σ s.heap) (F : Fm B env ρ η s.heap)
    (hQ : ∀ vs η' h' tk, Step (fun _ => False) η η' s.heap h' → Ok prog w B η' σ' h' → RepAll h' η' vs ds → Q ⟨vs, []⟩ { s with heap := h', toks := tk }) :
    wpAny (model prog w) A (evalArgs f true (backTo pos (starEach es env)) []) Q E s ∧ (backTo pos (starEach es env)).any (·.1) = false ∧ es.length = ds.length := by
  have star : ∀ (es : List Expr) (σ σ' : Store) (ds : List PV), evalEs Φ G es ρ σ = some (ds, σ') → (backTo pos (starEach es env)).any (·.1) = false ∧ es.length = ds.length := by
    intro es
    induction es with
    | nil => intro σ σ' ds he; simp only [el_nil, el_cons, Option.some.injEq, Prod.mk.injEq] at he; obtain ⟨rfl, rfl⟩ := he; exact ⟨rfl, rfl⟩
    | cons e es ih =>
      intro σ σ' ds he
      simp only [el_nil, el_cons] at he
      split at he
      · cases he
      · rename_i d σ₁ e1
        split at he
        · cases he
        · rename_i ds' σ₂ e2
          cases he
          have q := ih _ _ _ e2
          rw [star_one e1]
          exact ⟨by simpa [backTo] using q.1, by simp [q.2]⟩
  refine ⟨?_, star es _ _ _ he⟩
  cases es with
  | nil =>
    simp only [el_nil, el_cons, Option.some.injEq, Prod.mk.injEq] at he
    obtain ⟨rfl, rfl⟩ := he
    exact PySem.evalArgs_none (hQ [] η s.heap s.toks Step.refl k .nil)
  | cons e es =>
    have e1 : ∃ x, evalE Φ G e ρ σ = some x := by
      simp only [el_nil, el_cons] at he
      split at he
      · cases he
      · rename_i d σ₁ e1; exact ⟨_, e1⟩
    obtain ⟨x, e1⟩ := e1
    have hw := h ρ σ ds σ' hc he pos A s η E (fun vs s' => Q ⟨vs, []⟩ s') R k F hQ
    rw [star_one e1] at hw ⊢
    exact Calls.evalArgs_plain hw
end

end Mine

set_option maxRecDepth 100000
namespace Mine
open PySem PySem.Spec PyProof.Rows

section
variable {prog : Program} {w : World} {A : Around} {E : Value → Shared → Prop} {s : Shared} {B : Heap} {η : List Addr} {σ : Store} {env : Env} {ρ : Locals} {mg mb : Str → Option Value} {G : Glob} {Φ : Fns} {n : Nat}

theorem boot_of {f : Str} {vs : List PV} {σ : Store} {d : PV} (e : callB f vs σ = some d) : bootBuiltins f = some (bval f) := by
  unfold callB at e
  split at e
  · rename_i h; subst h; decide +kernel
  · split at e
    · rename_i h; subst h; decide +kernel
    · split at e
      · rename_i h; subst h; decide +kernel
      · split at e
        · rename_i h; subst h; decide +kernel
        · split at e
          · rename_i h; subst h; decide +kernel
          · split at e
            · rename_i h; subst h; decide +kernel
            · cases e

theorem callWith_bval {f : Str} {pos : Pos} {args : List (Bool × Sem Value)} {Q : Value → Shared → Prop} (hplain : args.any (·.1) = false)
    (h : wpAny (model prog w) A (evalArgs (bval f) true args []) (fun a s₁ => wpAny (model prog w) A (call (bval f) a.pos a.kw) Q E s₁) E s) :
    wpAny (model prog w) A (callWith pos (bval f) [] args []) Q E s := by
  unfold bval at h ⊢
  split at h
  · rename_i c; rw [if_pos c]; exact Calls.callWith_builtin hplain h
  · rename_i c; rw [if_neg c]
    split at h
    · rename_i c; rw [if_pos c]; exact Calls.callWith_builtin hplain h
    · rename_i c; rw [if_neg c]
      split at h
      · rename_i c; rw [if_pos c]; exact Calls.callWith_builtin hplain h
      · rename_i c; rw [if_neg c]
        split at h
        · rename_i c; rw [if_pos c]; exact PySem.callWith_type hplain h
        · rename_i c; rw [if_neg c]
          split at h
          · rename_i c; rw [if_pos c]; exact Calls.callWith_builtin hplain h
          · rename_i c; rw [if_neg c]; exact PySem.callWith_type hplain h

theorem ES.call (C : Cx B mg mb G) (Fn : FnsOk prog w B mg Φ n) (eo : EnvOk env) {f : Str} {p pos : Pos} {args : List Expr} (ha : ESs prog w B env Φ G n args) :
    ES prog w B env Φ G n (.Call (.Name f p) args [] pos) := by
  intro ρ σ d σ' hc he A s η E Q R k F hQ
  simp only [e_const, e_name, e_binop, e_not, e_usub, e_boolop, e_cmp, e_call, e_meth, e_list, e_tuple] at he
  simp only [ck_name, ck_binop, ck_unop, ck_boolop, ck_cmp, ck_call, ck_meth, ck_slice, ck_list, ck_tuple, Bool.and_eq_true] at hc
  refine wpAny_Call_Name_kw ?_
  show wpAny (model prog w) A (eval (.Name f p) env) (fun f s₁ => wpAny (model prog w) A (callWith pos f [] (backTo pos (starEach args env)) []) Q E s₁) E s
  split at he
  · cases he
  · rename_i vs σ₁ e1
    split at he
    · obtain ⟨a, o, fd, m1, m2, m3, hcall⟩ := Fn f vs σ₁ d σ' he
      refine name_global C k eo hc.1 m1 ?_
      have hA := fun Q => ha.args (A := A) (s := s) (E := E) (Q := Q) hc.2 e1 (pos := pos) (f := .ref a) R k F
      refine Calls.callWith_function (o := o) (fd := fd) ((hA _ fun ws η₁ H₁ t₁ s1 k1 r1 => ?_).1)
      refine ⟨⟨(k1.base a o m2).1, m3⟩, ?_⟩
      refine hcall A { s with heap := H₁, toks := t₁ } η₁ E Q ws R k1 r1 fun v η₂ H₂ t₂ s2 k2 r2 => ?_
      exact hQ v η₂ H₂ t₂ (s1.trans0 s2) k2 r2
    · rename_i hg
      split at he
      · rename_i d' hb
        cases he
        refine name_builtin C k eo hc.1 hg (boot_of hb) ?_
        have hA := fun Q => ha.args (A := A) (s := s) (E := E) (Q := Q) hc.2 e1 (pos := pos) (f := bval f) R k F
        refine callWith_bval (hA (fun _ _ => True) fun _ _ _ _ _ _ _ => trivial).2.1 ((hA _ fun ws η₁ H₁ t₁ s1 k1 r1 => ?_).1)
        refine callB_ok k1 R.handled r1 hb fun v H₂ t₂ x2 r2 => ?_
        exact hQ v η₁ H₂ t₂ (s1.trans0 (Step.ext x2)) (k1.ext x2) r2
      · cases he
    · cases he

theorem ES.sub {v i : Expr} {pos : Pos} (hv : ES prog w B env Φ G n v) (hi : ES prog w B env Φ G n i) (hns : ∀ a b c p, i ≠ .Slice a b c p) : ES prog w B env Φ G n (.Subscript v i pos) := by
  intro ρ σ d σ' hc he A s η E Q R k F hQ
  have he' : (match evalE Φ G v ρ σ with
    | none => none
    | some (a, σ₁) => match evalE Φ G i ρ σ₁ with
      | none => none
      | some (b, σ₂) => match subP σ₂ a b with
        | some d => some (d, σ₂)
        | none => none) = some (d, σ') := by
    cases i <;> first | exact he | exact absurd rfl (hns _ _ _ _)
  have hc : chkE G env.kindOf v = true ∧ chkE G env.kindOf i = true := by
    have h1 : isSlice i = false := by
      cases i <;> first | rfl | exact absurd rfl (hns _ _ _ _)
    rw [ck_sub, h1] at hc
    simpa using hc
  split at he'
  · cases he'
  · rename_i a σ₁ e1
    split at he'
    · cases he'
    · rename_i b σ₂ e2
      split at he'
      · rename_i d' e3
        cases he'
        refine Subscript_ (hv ρ σ a σ₁ hc.1 e1 A s η E _ R k F fun va η₁ H₁ t₁ s1 k1 r1 => ?_)
        refine hi ρ σ₁ b _ hc.2 e2 A _ η₁ E _ R k1 (F.step s1) fun vb η₂ H₂ t₂ s2 k2 r2 => ?_
        refine sub_ok k2 (by have := R.units; omega) (r1.step s2 (NoSeq.bot _)) r2 e3 (by cases i <;> first | rfl | exact absurd rfl (hns _ _ _ _)) fun v tk rv => ?_
        exact hQ v η₂ H₂ tk (s1.trans0 s2) k2 rv
      · cases he'

theorem ES.list {elts : List Expr} {pos : Pos} (ha : ESs prog w B env Φ G n elts) : ES prog w B env Φ G n (.List elts pos) := by
  intro ρ σ d σ' hc he A s η E Q R k F hQ
  simp only [e_const, e_name, e_binop, e_not, e_usub, e_boolop, e_cmp, e_call, e_meth, e_list, e_tuple] at he
  simp only [ck_name, ck_binop, ck_unop, ck_boolop, ck_cmp, ck_call, ck_meth, ck_slice, ck_list, ck_tuple] at hc
  split at he
  · rename_i ds σ₁ e1
    split at he
    · rename_i hl
      cases he
      refine wpAny_List (ha ρ σ ds _ hc e1 pos A s η E _ R k F fun vs η₁ H₁ t₁ s1 k1 r1 => ⟨by rw [r1.length]; exact hl, ?_⟩)
      exact hQ _ η₁ _ t₁ (s1.trans0 (Step.push _)) (k1.ext (Ext.push _ _)) (rep_newList k1 r1)
    · cases he
  · cases he
theorem ES.tuple {elts : List Expr} {kk : Nat} {pos : Pos} (ha : ESs prog w B env Φ G n elts) : ES prog w B env Φ G n (.Tuple elts kk pos) := by
  intro ρ σ d σ' hc he A s η E Q R k F hQ
  simp only [e_const, e_name, e_binop, e_not, e_usub, e_boolop, e_cmp, e_call, e_meth, e_list, e_tuple] at he
  simp only [ck_name, ck_binop, ck_unop, ck_boolop, ck_cmp, ck_call, ck_meth, ck_slice, ck_list, ck_tuple] at hc
  split at he
  · rename_i ds σ₁ e1
    split at he
    · rename_i hl
      cases he
      refine wpAny_Tuple (ha ρ σ ds _ hc e1 pos A s η E _ R k F fun vs η₁ H₁ t₁ s1 k1 r1 => ⟨by rw [r1.length]; exact hl, ?_⟩)
      exact hQ _ η₁ _ t₁ (s1.trans0 (Step.push _)) (k1.ext (Ext.push _ _)) (rep_newTup k1 r1)
    · cases he
  · cases he
end

end Mine

set_option maxRecDepth 100000
namespace Mine
open PySem PySem.Spec PyProof.Rows

section
variable {prog : Program} {w : World} {A : Around} {E : Value → Shared → Prop} {s : Shared} {B : Heap} {η : List Addr} {σ : Store} {env : Env} {ρ : Locals} {mg mb : Str → Option Value} {G : Glob} {Φ : Fns} {n : Nat}

theorem slice_pick (items : Array Value) (lo hi : Nat) (hab : lo ≤ hi) : slicePick items (some (lo : Int)) (some (hi : Int)) none = ((items.toList.take hi).drop lo).toArray := by
  have h1 : slicePick items (some (lo : Int)) (some (hi : Int)) none = slicePick items (some ((min lo items.size : Nat) : Int)) (some ((min hi items.size : Nat) : Int)) none := by
    have e : sliceBounds (some (lo : Int)) (some (hi : Int)) none items.size = sliceBounds (some ((min lo items.size : Nat) : Int)) (some ((min hi items.size : Nat) : Int)) none items.size := by
      unfold sliceBounds
      simp only [Option.getD_none]
      have a1 : ¬ (lo : Int) < 0 := by omega
      have a2 : ¬ (hi : Int) < 0 := by omega
      have a3 : ¬ ((min lo items.size : Nat) : Int) < 0 := by omega
      have a4 : ¬ ((min hi items.size : Nat) : Int) < 0 := by omega
      simp only [a1, a2, a3, a4, if_false]
      have : (1 : Int) > 0 := by decide
      simp only [this, if_true]
      refine Prod.ext ?_ (Prod.ext ?_ rfl) <;> simp only <;> omega
    unfold slicePick
    rw [e]
  rw [h1, slicePick_run items _ _ (Nat.min_le_right _ _) (by omega)]
  congr 1
  rw [List.drop_take]
  have hl : items.size = items.toList.length := by simp
  by_cases q1 : lo ≤ items.size
  · rw [Nat.min_eq_left q1]
    by_cases q2 : hi ≤ items.size
    · rw [Nat.min_eq_left q2]
    · rw [Nat.min_eq_right (by omega)]
      rw [List.take_of_length_le (by rw [List.length_drop]; omega), List.take_of_length_le (by rw [List.length_drop]; omega)]
  · rw [Nat.min_eq_right (by omega), Nat.min_eq_right (by omega)]
    rw [Nat.sub_self, List.take_zero, List.drop_eq_nil_of_le (by omega), List.take_nil]

theorem ES.slice {x : Str} {px : Pos} {lo hi : Const} {k1 k2 : Nat} {p1 p2 p3 pos : Pos} (hv : ES prog w B env Φ G n (.Name x px)) :
    ES prog w B env Φ G n (.Subscript (.Name x px) (.Slice (some (.Constant lo k1 p1)) (some (.Constant hi k2 p2)) none p3) pos) := by
  intro ρ σ d σ' hc he A s η E Q R k F hQ
  have hc' : chkE G env.kindOf (.Name x px) = true := by
    simpa only [ck_name, ck_binop, ck_unop, ck_boolop, ck_cmp, ck_call, ck_meth, ck_slice, ck_list, ck_tuple] using hc
  have he' : (match evalE Φ G (.Name x px) ρ σ with
    | none => none
    | some (a, σ₁) => match sliceP a lo hi with
      | some d => some (d, σ₁)
      | none => none) = some (d, σ') := he
  split at he'
  · cases he'
  · rename_i a σ₁ e1
    split at he'
    · rename_i d' e2
      cases he'
      unfold sliceP at e2
      split at e2
      · rename_i ds lo hi
        split at e2
        · rename_i hb
          cases e2
          refine wpAny_Subscript_list_slice (hv ρ σ _ _ hc' e1 A s η E _ R k F fun va η₁ H₁ t₁ s1 k1 r1 => ?_)
          refine wpAny_evalPart_some (wpAny_Constant_int (wpAny_evalPart_some (wpAny_Constant_int ?_)))
          cases r1 with
          | lst nm p r =>
            rename_i l vs
            have hl := r.length
            refine ⟨l, vs.toArray, some lo, some hi, rfl, p.isList, by simp; omega, .int _ _, .int _ _, ?_⟩
            have e4 : slicePick vs.toArray (some lo) (some hi) none = ((vs.take hi.toNat).drop lo.toNat).toArray := by
              have e5 := slice_pick vs.toArray lo.toNat hi.toNat (by omega)
              rw [Int.toNat_of_nonneg hb.1, Int.toNat_of_nonneg (by omega)] at e5
              simpa using e5
            rw [e4]
            have x1 : Ext H₁ (H₁.push { cls := .type "slice", data := .fields #[.int lo t₁, .int hi (t₁ + 1), .none] }) := Ext.push _ _
            have k2 := k1.ext x1
            have e6 : H₁.objs.size + 1 = (H₁.push { cls := .type "slice", data := .fields #[.int lo t₁, .int hi (t₁ + 1), .none] }).objs.size := (Heap.size_push _ _).symm
            show Q (.ref (H₁.objs.size + 1)) _
            rw [e6]
            refine hQ _ η₁ _ _ ((s1.trans0 (Step.ext x1)).trans0 (Step.push _)) (k2.ext (Ext.push _ _)) (rep_newList k2 (RepAll.ext (RepAll.drop (RepAll.take r _) _) x1))
        · cases e2
      · cases e2
    · cases he'

/-! methods -/
theorem bools_reads {h : Heap} {vs : List Value} {ds : List PV} {bs : List Bool} (r : RepAll h η vs ds) (e : boolsOf ds = some bs) : ∃ xs as, ReadsAll h vs xs as ∧ xs.all Shape.bool.has = true ∧ ∀ b, vs.countP (isBoolOf b) = bs.count b := by
  induction vs generalizing ds bs with
  | nil => cases r; cases e; exact ⟨[], [], .nil, rfl, fun _ => rfl⟩
  | cons v vs ih =>
    cases r with
    | cons a r =>
      cases a with
      | bool b =>
        simp only [boolsOf, Option.map_eq_some_iff] at e
        obtain ⟨l, e1, rfl⟩ := e
        obtain ⟨xs, as, q1, q2, q3⟩ := ih r e1
        refine ⟨.bool b :: xs, _, .cons (.bool b) q1, by rw [List.all_cons, q2]; rfl, fun c => ?_⟩
        rw [List.countP_cons, List.count_cons, q3 c]
        rfl
      | _ => simp [boolsOf] at e

theorem set_getElem {i : Nat} {a : Addr} {o : PO} (k : Ok prog w B η σ s.heap) (hs : σ[i]? = some o) (ha : η[i]? = some a) : True := trivial

theorem meth_list {name : Str} {o : PV} {a : Value} {vs : List PV} {ws : List Value} {d : PV} {σ' : Store} {Q : Value → Shared → Prop} (k : Ok prog w B η σ s.heap) (ro : Rep s.heap η a o) (r : RepAll s.heap η ws vs) (e : methP true name o vs σ = some (d, σ'))
    (hQ : ∀ v h' tk, Step (fun _ => False) η η s.heap h' → Ok prog w B η σ' h' → Rep h' η v d → Q v { s with heap := h', toks := tk }) :
    ∃ id, Slot "list" name id ∧ typeOf (.builtin id) = pure (.type "method_descriptor") ∧ wpAny (model prog w) A (call (.builtin id) (a :: ws)) Q E s := by
  unfold methP at e
  dsimp only at e
  split at e
  · rename_i hn
    subst hn
    refine ⟨"list.append", PySem.F.slot_list_append, PySem.F.type_list_append, ?_⟩
    split at e
    · split at e
      · rename_i i d1 ds hs
        split at e
        · rename_i hl
          cases e
          cases ro with
          | loc ha =>
            cases r with
            | cons x r =>
              cases r
              rename_i vx
              obtain ⟨us, p, q⟩ := RepObj.lst k ha hs
              have l1 := q.length
              refine wpAny_list_append_plain p (fun h' hp' hsb => ?_) (by simp; omega)
              have hm := List.mem_of_getElem? ha
              have st : Step (fun _ => False) η η s.heap h' := Step.sameη hsb hm
              refine hQ _ h' s.toks st (k.set ha hsb ?_) .none
              refine ⟨us ++ [vx], by simpa using hp', (q.step st (NoSeq.bot _)).append (.cons (x.step st (NoSeq.bot _)) .nil)⟩
        · cases e
      · cases e
    · cases e
  · split at e
    · rename_i hn
      subst hn
      refine ⟨"list.count", PySem.F.slot_list_count, PySem.F.type_list_count, ?_⟩
      split at e
      · rename_i ds b
        split at e
        · rename_i bs hb
          cases e
          cases ro with
          | lst nm p q =>
            rename_i us
            cases r with
            | cons x r =>
              cases r
              cases x
              obtain ⟨n', p⟩ := p
              obtain ⟨xs, as, q1, q2, q3⟩ := bools_reads q hb
              refine call_meets PySem.F.slot_list_count ⟨_, p, rfl⟩ F.entry_list_count (F.args_list_count_2 _ _) (SeqAt.list_countAt _ us.toArray n' none #[] (.bool b) (isBoolOf b)) ⟨p, fun y hy => eq_isBoolOf b q1 q2 y (by simpa using hy) _ _, ?_⟩
              rw [show us.toArray.toList = us from rfl, q3 b]
              exact hQ _ s.heap _ Step.refl k (.int _ _)
        · cases e
      · cases e
    · cases e

theorem recv_list {o : PV} {a : Value} (k : Ok prog w B η σ s.heap) (ro : Rep s.heap η a o) (e : recvT σ o = some true) : s.TypeIs a "list" ∧ ∀ b, a = .ref b → ∃ ob, s.heap.get? b = some ob ∧ ob.dict = none := by
  cases ro with
  | lst nm p q =>
    obtain ⟨n, p⟩ := p
    exact ⟨⟨_, p, rfl⟩, fun b hb => by cases hb; exact ⟨_, p, rfl⟩⟩
  | loc ha =>
    simp only [recvT] at e
    split at e
    · rename_i ds hs
      obtain ⟨us, ⟨n, p⟩, q⟩ := RepObj.lst k ha hs
      exact ⟨⟨_, p, rfl⟩, fun b hb => by cases hb; exact ⟨_, p, rfl⟩⟩
    · cases e
    · cases e
  | _ => simp [recvT] at e

theorem star_all {es : List Expr} {σ σ' : Store} {ds : List PV} {pos : Pos} (he : evalEs Φ G es ρ σ = some (ds, σ')) : (backTo pos (starEach es env)).all (fun x => !x.1) = true := by
  induction es generalizing σ ds with
  | nil => rfl
  | cons e es ih =>
    simp only [el_nil, el_cons] at he
    split at he
    · cases he
    · rename_i d σ₁ e1
      split at he
      · cases he
      · rename_i ds' σ₂ e2
        cases he
        rw [star_one e1]
        have := ih e2
        simpa [backTo] using this

theorem meth_few {T : Bool} {name : Str} {o : PV} {vs : List PV} {r : PV × Store} (e : methP T name o vs σ = some r) : vs.length < 3 := by
  unfold methP at e
  split at e
  · split at e
    · split at e
      · simp
      · cases e
    · split at e
      · split at e
        · simp
        · cases e
      · cases e
  · cases e

theorem ES.method (C : Cx B mg mb G) (eo : EnvOk env) {x name : Str} {p apos pos : Pos} {args : List Expr} (ha : ESs prog w B env Φ G n args) :
    ES prog w B env Φ G n (.Call (.Attribute (.Name x p) name apos) args [] pos) := by
  intro ρ σ d σ' hc he A s η E Q R k F hQ
  simp only [e_const, e_name, e_binop, e_not, e_usub, e_boolop, e_cmp, e_call, e_meth, e_list, e_tuple] at he
  simp only [ck_name, ck_binop, ck_unop, ck_boolop, ck_cmp, ck_call, ck_meth, ck_slice, ck_list, ck_tuple, Bool.and_eq_true] at hc
  split at he
  · cases he
  · rename_i o ho
    split at he
    · cases he
    · rename_i T hT
      split at he
      · cases he
      · rename_i vs σ₁ e1
        have hfew := meth_few he
        cases T with
        | false => simp [methP] at he
        | true =>
          have hA := fun (Q : Args → Shared → Prop) f => ha.args (A := A) (s := s) (E := E) (Q := Q) hc.2 e1 (pos := pos) (f := f) R k F
          have hlen := (hA (fun _ _ => True) .none fun _ _ _ _ _ _ _ => trivial).2.2
          -- which method it is
          obtain ⟨id, hslot, hty⟩ : ∃ id, Slot "list" name id ∧ typeOf (.builtin id) = pure (.type "method_descriptor") := by
            unfold methP at he
            dsimp only at he
            split at he
            · rename_i hn; subst hn; exact ⟨_, PySem.F.slot_list_append, PySem.F.type_list_append⟩
            · split at he
              · rename_i hn; subst hn; exact ⟨_, PySem.F.slot_list_count, PySem.F.type_list_count⟩
              · cases he
          refine wpAny_Call_method (T := "list") (id := id) rfl ?_ hc.1.2 PySem.F.plainAttrs_list hslot hty ?_
          · have hk : backToKw pos (keywordEach [] env) = [] := rfl
            rw [star_all e1, hk]
            simp
            omega
          · refine name_local eo F hc.1.1 ho fun v rv => ?_
            obtain ⟨t1, t2⟩ := recv_list k rv hT
            refine ⟨t1, t2, ?_⟩
            refine Calls.callWith_builtin (hA (fun _ _ => True) .none fun _ _ _ _ _ _ _ => trivial).2.1 ((hA _ _ fun ws η₁ H₁ t₁ s1 k1 r1 => ?_).1)
            obtain ⟨id', hslot', hty', hw⟩ := meth_list (A := A) (E := E) (Q := Q) (s := { s with heap := H₁, toks := t₁ }) k1 (rv.step s1 (NoSeq.bot _)) r1 he fun v' H₂ t₂ s2 k2 r2 => hQ v' η₁ H₂ t₂ (s1.trans0 s2) k2 r2
            have : id' = id := by
              have l1 := hslot.lookup
              have l2 := hslot'.lookup
              rw [l1] at l2
              injection l2 with l2
              injection l2 with l2
              injection l2 with l2
              exact l2.symm
            subst this
            exact hw
end

end Mine

set_option maxRecDepth 100000
namespace Mine
open PySem PySem.Spec PyProof.Rows

section
variable {prog : Program} {w : World} {A : Around} {E : Value → Shared → Prop} {s : Shared} {B : Heap} {η : List Addr} {σ : Store} {env : Env} {ρ : Locals} {mg mb : Str → Option Value} {G : Glob} {Φ : Fns} {n : Nat}

theorem ESs.of_all : ∀ (es : List Expr), (∀ e ∈ es, ES prog w B env Φ G n e) → ESs prog w B env Φ G n es
  | [], _ => ESs.nil
  | e :: es, h => ESs.cons (h e (.head _)) (ESs.of_all es fun x hx => h x (.tail _ hx))

theorem boolOp_cons {M : Model} {pos : Pos} {op : BoolOp} {x y : Sem Value} {rest : List (Sem Value)} {Q : Value → Shared → Prop}
    (h : wpAny M A x (fun v s₁ => wpAny M A (truthy v) (fun t s₂ => match op, t with
      | .And, false | .Or, true => Q v s₂
      | _, _ => wpAny M A (boolOp pos op (y :: rest)) Q E s₂) E s₁) E s) : wpAny M A (boolOp pos op (x :: y :: rest)) Q E s := by
  show wpAny M A (x >>= fun v => standAt pos >>= fun _ => holding [v] (truthy v) >>= fun t => match op, t with
    | .And, false | .Or, true => pure v
    | _, _ => boolOp pos op (y :: rest)) Q E s
  refine wpAny_bind (wpAny_mono h (fun v s₁ h₁ => ?_) fun _ _ x => x)
  refine wpAny_bind (wpAny_standAt (wpAny_bind (wpAny_holding (wpAny_mono h₁ (fun t s₂ h₂ => ?_) fun _ _ x => x))))
  cases op <;> cases t
  · exact wpAny_pure h₂
  · exact h₂
  · exact h₂
  · exact wpAny_pure h₂

theorem EB_ok {op : BoolOp} {pos : Pos} : ∀ (es : List Expr), (∀ e ∈ es, ES prog w B env Φ G n e) → ∀ ρ σ d σ', chkEs G env.kindOf es = true → evalB Φ G op es ρ σ = some (d, σ') →
    ∀ (A : Around) (s : Shared) (η : List Addr) (E : Value → Shared → Prop) (Q : Value → Shared → Prop), Room n A → Ok prog w B η σ s.heap → Fm B env ρ η s.heap →
    (∀ v η' h' tk, Step (fun _ => False) η η' s.heap h' → Ok prog w B η' σ' h' → Rep h' η' v d → Q v { s with heap := h', toks := tk }) →
    wpAny (model prog w) A (boolOp pos op (evalEach es env)) Q E s
  | [], _, ρ, σ, d, σ', _, he => by exact nomatch (show (none : Option (PV × Store)) = some _ from he)
  | [e], h, ρ, σ, d, σ', hc, he => by
    intro A s η E Q R k F hQ
    simp only [eb_nil, eb_one, eb_cons] at he
    simp only [ck_nil, ck_cons, Bool.and_eq_true] at hc
    exact h e (.head _) ρ σ d σ' hc.1 he A s η E Q R k F hQ
  | e :: y :: es, h, ρ, σ, d, σ', hc, he => by
    intro A s η E Q R k F hQ
    have ih := EB_ok (op := op) (pos := pos) (y :: es) fun x hx => h x (.tail _ hx)
    simp only [eb_nil, eb_one, eb_cons] at he
    simp only [ck_nil, ck_cons, Bool.and_eq_true] at hc
    split at he
    · rename_i b σ₁ e1
      refine boolOp_cons (h e (.head _) ρ σ _ σ₁ hc.1 e1 A s η E _ R k F fun v η₁ H₁ t₁ s1 k1 r1 => ?_)
      cases r1
      refine wpAny_truthy_bool ?_
      have hc2 : chkEs G env.kindOf (y :: es) = true := by simp only [ck_nil, ck_cons, Bool.and_eq_true]; exact hc.2
      have go : evalB Φ G op (y :: es) ρ σ₁ = some (d, σ') → wpAny (model prog w) A (boolOp pos op (evalEach (y :: es) env)) Q E { s with heap := H₁, toks := t₁ } := fun q =>
        ih ρ σ₁ d σ' hc2 q A { s with heap := H₁, toks := t₁ } η₁ E Q R k1 (F.step s1) fun v' η₂ H₂ t₂ s2 k2 r2 => hQ v' η₂ H₂ t₂ (s1.trans0 s2) k2 r2
      cases op <;> cases b
      · cases he; exact hQ _ η₁ H₁ t₁ s1 k1 (.bool _)
      · exact go he
      · exact go he
      · cases he; exact hQ _ η₁ H₁ t₁ s1 k1 (.bool _)
    · cases he

theorem ES.none {e : Expr} (h : ∀ ρ σ, evalE Φ G e ρ σ = none) : ES prog w B env Φ G n e := by
  intro ρ σ d σ' hc he; rw [h] at he; cases he

variable (prog w B mg mb G Φ n) in
/-- what the induction takes along -/
structure Gnd (env : Env) : Prop where
  C : Cx B mg mb G
  Fn : FnsOk prog w B mg Φ n
  eo : EnvOk env

mutual
theorem soundE (D : Gnd prog w B mg mb G Φ n env) : ∀ e : Expr, ES prog w B env Φ G n e
  | .Constant c k p => ES.constant c k p
  | .Name x p => ES.name D.C D.eo x p
  | .BinOp l op r p => ES.binop (soundE D l) (soundE D r)
  | .UnaryOp op x p => ES.unop (soundE D x)
  | .BoolOp op vs p => by
    have h := soundAll D vs
    intro ρ σ d σ' hc he A s η E Q R k F hQ
    exact EB_ok (op := op) (pos := p) vs h ρ σ d σ' hc he A s η E Q R k F hQ
  | .Compare l ops rs p => by
    have hl := soundE D l
    have hr := soundAll D rs
    match ops, rs, hr with
    | [op], [r], hr => exact ES.compare hl (hr r (.head _))
    | [], _, _ => exact ES.none fun ρ σ => rfl
    | [_], [], _ => exact ES.none fun ρ σ => rfl
    | [_], _ :: _ :: _, _ => exact ES.none fun ρ σ => rfl
    | _ :: _ :: _, _, _ => exact ES.none fun ρ σ => rfl
  | .Call f args kws p => by
    have ha := soundAll D args
    match f, kws with
    | .Name x q, [] => exact ES.call D.C D.Fn D.eo (ESs.of_all _ ha)
    | .Attribute (.Name x q) nm ap, [] => exact ES.method D.C D.eo (ESs.of_all _ ha)
    | f, kws =>
      by_cases hk : kws = []
      · subst hk
        cases f with
        | Name x q => exact ES.call D.C D.Fn D.eo (ESs.of_all _ ha)
        | Attribute o nm ap =>
          cases o with
          | Name x q => exact ES.method D.C D.eo (ESs.of_all _ ha)
          | _ => exact ES.none fun ρ σ => rfl
        | _ => exact ES.none fun ρ σ => rfl
      · cases kws with
        | nil => exact absurd rfl hk
        | cons a b => exact ES.none fun ρ σ => by cases f with | Attribute o _ _ => (cases o <;> rfl) | _ => rfl
  | .Subscript v i p => by
    have hv := soundE D v
    have hI := soundE D i
    cases i with
    | Slice a b c q =>
      cases v with
      | Name x px =>
        have key : ∀ a b c, evalE Φ G (.Slice a b c q) = fun _ _ => none := fun a b c => rfl
        have no : ∀ a b c, (∀ ρ σ, evalE Φ G (.Subscript (.Name x px) (.Slice a b c q) p) ρ σ = (match evalE Φ G (.Name x px) ρ σ with
            | none => none
            | some (u, σ₁) => match evalE Φ G (.Slice a b c q) ρ σ₁ with
              | none => none
              | some (z, σ₂) => match subP σ₂ u z with
                | some d => some (d, σ₂)
                | none => none)) → ES prog w B env Φ G n (.Subscript (.Name x px) (.Slice a b c q) p) := fun a b c hh => ES.none fun ρ σ => by
          rw [hh, key]
          split <;> rfl
        cases c with
        | some c =>
          refine no _ _ _ fun ρ σ => ?_
          cases a with
          | none => rfl
          | some a =>
            cases b with
            | none => cases a <;> rfl
            | some b => cases a <;> first | rfl | (cases b <;> rfl)
        | none =>
          cases a with
          | none => exact no _ _ _ fun ρ σ => rfl
          | some a =>
            cases b with
            | none => exact no _ _ _ fun ρ σ => by cases a <;> rfl
            | some b =>
              cases a with
              | Constant c1 k1 p1 =>
                cases b with
                | Constant c2 k2 p2 => exact ES.slice hv
                | _ => exact no _ _ _ fun ρ σ => rfl
              | _ => exact no _ _ _ fun ρ σ => rfl
      | _ => intro ρ σ d σ' hc; exact nomatch (show false = true from hc)
    | _ => exact ES.sub hv hI (fun _ _ _ _ q => by cases q)
  | .List es p => ES.list (ESs.of_all _ (soundAll D es))
  | .Tuple es k p => ES.tuple (ESs.of_all _ (soundAll D es))
  | .NamedExpr .. => ES.none fun ρ σ => rfl
  | .Lambda .. => ES.none fun ρ σ => rfl
  | .IfExp .. => ES.none fun ρ σ => rfl
  | .Dict .. => ES.none fun ρ σ => rfl
  | .Set .. => ES.none fun ρ σ => rfl
  | .ListComp .. => ES.none fun ρ σ => rfl
  | .SetComp .. => ES.none fun ρ σ => rfl
  | .DictComp .. => ES.none fun ρ σ => rfl
  | .GeneratorExp .. => ES.none fun ρ σ => rfl
  | .Await .. => ES.none fun ρ σ => rfl
  | .Yield .. => ES.none fun ρ σ => rfl
  | .YieldFrom .. => ES.none fun ρ σ => rfl
  | .FormattedValue .. => ES.none fun ρ σ => rfl
  | .JoinedStr .. => ES.none fun ρ σ => rfl
  | .Attribute .. => ES.none fun ρ σ => rfl
  | .Starred .. => ES.none fun ρ σ => rfl
  | .Slice .. => ES.none fun ρ σ => rfl
theorem soundAll (D : Gnd prog w B mg mb G Φ n env) : ∀ es : List Expr, ∀ e ∈ es, ES prog w B env Φ G n e
  | [], _, h => nomatch h
  | e :: es, x, h => by
    have h1 := soundE D e
    have h2 := soundAll D es
    rcases List.mem_cons.mp h with rfl | h
    · exact h1
    · exact h2 x h
end
end

end Mine

set_option maxRecDepth 100000
namespace Mine
open PySem PySem.Spec PyProof.Rows

section
variable {prog : Program} {w : World} {A : Around} {E : Value → Shared → Prop} {s : Shared} {B : Heap} {η : List Addr} {σ : Store} {env : Env} {ρ : Locals} {mg mb : Str → Option Value} {G : Glob} {Φ : Fns} {n : Nat}

/-- a test does what the interpreter says -/
noncomputable def ET (prog : Program) (w : World) (B : Heap) (env : Env) (Φ : Fns) (G : Glob) (n : Nat) (e : Expr) : Prop :=
  ∀ ρ σ b σ', chkE G env.kindOf e = true → evalT Φ G e ρ σ = some (b, σ') → ∀ (A : Around) (s : Shared) (η : List Addr) (E : Value → Shared → Prop) (Q : Bool → Shared → Prop),
    Room n A → Ok prog w B η σ s.heap → Fm B env ρ η s.heap →
    (∀ η' h' tk, Step (fun _ => False) η η' s.heap h' → Ok prog w B η' σ' h' → Q b { s with heap := h', toks := tk }) →
    wpAny (model prog w) A (isTrue e env (eval e env)) Q E s

theorem ET.value {e : Expr} (h : ES prog w B env Φ G n e) (hT : ∀ ρ σ, evalT Φ G e ρ σ = (match evalE Φ G e ρ σ with | some (.bool b, σ₁) => some (b, σ₁) | _ => none))
    (he : isTrue e env (eval e env) = (do let v ← eval e env; standAt e.pos; holding [v] (truthy v))) : ET prog w B env Φ G n e := by
  intro ρ σ b σ' hc ht A s η E Q R k F hQ
  rw [hT] at ht
  split at ht
  · rename_i b' σ₁ e1
    cases ht
    refine wpAny_isTrue_value (h ρ σ _ _ hc e1 A s η E _ R k F fun v η₁ H₁ t₁ s1 k1 r1 => ?_) he
    cases r1
    exact wpAny_truthy_bool (hQ η₁ H₁ t₁ s1 k1)
  · cases ht

theorem ET.compare {l r : Expr} {op : CmpOp} {pos : Pos} (hl : ES prog w B env Φ G n l) (hr : ES prog w B env Φ G n r) : ET prog w B env Φ G n (.Compare l [op] [r] pos) := by
  intro ρ σ b σ' hc ht A s η E Q R k F hQ
  rw [et_cmp, e_cmp] at ht
  unfold valT at ht
  simp only [ck_name, ck_binop, ck_unop, ck_boolop, ck_cmp, ck_call, ck_meth, ck_slice, ck_list, ck_tuple, ck_nil, ck_cons, Bool.and_eq_true] at hc
  split at ht
  · rename_i b' σ₁ e0
    cases ht
    split at e0
    · cases e0
    · rename_i a σ₁ h1
      split at e0
      · cases e0
      · rename_i b σ₂ h2
        split at e0
        · rename_i d' h3
          cases e0
          refine wpAny_isTrue_Compare1 (hl ρ σ a σ₁ hc.1 h1 A s η E _ R k F fun va η₁ H₁ t₁ s1 k1 r1 => ?_) (marks_none h2)
          refine hr ρ σ₁ b _ hc.2.1 h2 A _ η₁ E _ R k1 (F.step s1) fun vb η₂ H₂ t₂ s2 k2 r2 => ?_
          refine cmp_ok k2 (by have := R.units; omega) (r1.step s2 (NoSeq.bot _)) r2 h3 fun c tk hd => ?_
          cases hd
          exact wpAny_truthy_bool (hQ η₂ H₂ tk (s1.trans0 s2) k2)
        · cases e0
  · cases ht

theorem ETs_ok {op : BoolOp} : ∀ (es : List Expr), (∀ e ∈ es, ET prog w B env Φ G n e) → ∀ ρ σ b σ', chkEs G env.kindOf es = true → evalTs Φ G op es ρ σ = some (b, σ') →
    ∀ (A : Around) (s : Shared) (η : List Addr) (E : Value → Shared → Prop) (Q : Bool → Shared → Prop), Room n A → Ok prog w B η σ s.heap → Fm B env ρ η s.heap →
    (∀ η' h' tk, Step (fun _ => False) η η' s.heap h' → Ok prog w B η' σ' h' → Q b { s with heap := h', toks := tk }) →
    wpAny (model prog w) A (allTrue op es env) Q E s
  | [], _, ρ, σ, b, σ', _, he => by
    intro A s η E Q R k F hQ
    simp only [ets_nil, ets_cons, Option.some.injEq, Prod.mk.injEq] at he
    obtain ⟨rfl, rfl⟩ := he
    cases op
    · exact wpAny_allTrue_And_nil (hQ η s.heap s.toks Step.refl k)
    · exact wpAny_allTrue_Or_nil (hQ η s.heap s.toks Step.refl k)
  | e :: es, h, ρ, σ, b, σ', hc, he => by
    intro A s η E Q R k F hQ
    have ih := ETs_ok (op := op) es fun x hx => h x (.tail _ hx)
    simp only [ets_nil, ets_cons] at he
    simp only [ck_nil, ck_cons, Bool.and_eq_true] at hc
    split at he
    · cases he
    · rename_i b1 σ₁ e1
      have go : ∀ η₁ H₁ t₁, Step (fun _ => False) η η₁ s.heap H₁ → Ok prog w B η₁ σ₁ H₁ → evalTs Φ G op es ρ σ₁ = some (b, σ') → wpAny (model prog w) A (allTrue op es env) Q E { s with heap := H₁, toks := t₁ } := fun η₁ H₁ t₁ s1 k1 q =>
        ih ρ σ₁ b σ' hc.2 q A { s with heap := H₁, toks := t₁ } η₁ E Q R k1 (F.step s1) fun η₂ H₂ t₂ s2 k2 => hQ η₂ H₂ t₂ (s1.trans0 s2) k2
      cases op
      · refine wpAny_allTrue_And_cons (h e (.head _) ρ σ _ σ₁ hc.1 e1 A s η E _ R k F fun η₁ H₁ t₁ s1 k1 => ?_)
        cases b1
        · cases he; exact hQ η₁ H₁ t₁ s1 k1
        · exact go η₁ H₁ t₁ s1 k1 he
      · refine wpAny_allTrue_Or_cons (h e (.head _) ρ σ _ σ₁ hc.1 e1 A s η E _ R k F fun η₁ H₁ t₁ s1 k1 => ?_)
        cases b1
        · exact go η₁ H₁ t₁ s1 k1 he
        · cases he; exact hQ η₁ H₁ t₁ s1 k1

theorem ET.none {e : Expr} (h : ∀ ρ σ, evalT Φ G e ρ σ = none) : ET prog w B env Φ G n e := by
  intro ρ σ d σ' hc he; rw [h] at he; cases he

mutual
theorem soundT (D : Gnd prog w B mg mb G Φ n env) : ∀ e : Expr, ET prog w B env Φ G n e
  | .UnaryOp op x p => by
    have h := soundT D x
    have h' := soundE D (.UnaryOp op x p)
    cases op with
    | Not =>
      intro ρ σ b σ' hc ht A s η E Q R k F hQ
      simp only [et_not, et_boolop, et_name, et_call, et_cmp, et_sub] at ht
      simp only [ck_name, ck_binop, ck_unop, ck_boolop, ck_cmp, ck_call, ck_meth, ck_slice, ck_list, ck_tuple] at hc
      split at ht
      · rename_i b1 σ₁ e1
        cases ht
        exact wpAny_isTrue_Not (h ρ σ _ _ hc e1 A s η E _ R k F fun η₁ H₁ t₁ s1 k1 => hQ η₁ H₁ t₁ s1 k1)
      · cases ht
    | USub => exact ET.value h' (fun ρ σ => rfl) rfl
    | UAdd => exact ET.value h' (fun ρ σ => rfl) rfl
    | Invert => exact ET.value h' (fun ρ σ => rfl) rfl
  | .BoolOp op vs p => by
    have h := soundTs D vs
    intro ρ σ b σ' hc ht A s η E Q R k F hQ
    exact wpAny_isTrue_BoolOp (ETs_ok (op := op) vs h ρ σ b σ' hc ht A s η E Q R k F hQ)
  | .Compare l ops rs p => by
    have hl := soundE D l
    have hr := soundAll D rs
    match ops, rs, hr with
    | [op], [r], hr => exact ET.compare hl (hr r (.head _))
    | [], _, _ => exact ET.none fun ρ σ => rfl
    | [_], [], _ => exact ET.none fun ρ σ => rfl
    | [_], _ :: _ :: _, _ => exact ET.none fun ρ σ => rfl
    | _ :: _ :: _, _, _ => exact ET.none fun ρ σ => rfl
  | .IfExp .. => ET.none fun ρ σ => rfl
  | .Constant c k p => ET.value (soundE D _) (fun ρ σ => rfl) rfl
  | .Name x p => ET.value (soundE D _) (fun ρ σ => rfl) rfl
  | .BinOp l op r p => ET.value (soundE D _) (fun ρ σ => rfl) rfl
  | .Call f args kws p => ET.value (soundE D _) (fun ρ σ => rfl) rfl
  | .Subscript v i p => ET.value (soundE D _) (fun ρ σ => rfl) rfl
  | .List es p => ET.value (soundE D _) (fun ρ σ => rfl) rfl
  | .Tuple es k p => ET.value (soundE D _) (fun ρ σ => rfl) rfl
  | .NamedExpr .. => ET.value (soundE D _) (fun ρ σ => rfl) rfl
  | .Lambda .. => ET.value (soundE D _) (fun ρ σ => rfl) rfl
  | .Dict .. => ET.value (soundE D _) (fun ρ σ => rfl) rfl
  | .Set .. => ET.value (soundE D _) (fun ρ σ => rfl) rfl
  | .ListComp .. => ET.value (soundE D _) (fun ρ σ => rfl) rfl
  | .SetComp .. => ET.value (soundE D _) (fun ρ σ => rfl) rfl
  | .DictComp .. => ET.value (soundE D _) (fun ρ σ => rfl) rfl
  | .GeneratorExp .. => ET.value (soundE D _) (fun ρ σ => rfl) rfl
  | .Await .. => ET.value (soundE D _) (fun ρ σ => rfl) rfl
  | .Yield .. => ET.value (soundE D _) (fun ρ σ => rfl) rfl
  | .YieldFrom .. => ET.value (soundE D _) (fun ρ σ => rfl) rfl
  | .FormattedValue .. => ET.value (soundE D _) (fun ρ σ => rfl) rfl
  | .JoinedStr .. => ET.value (soundE D _) (fun ρ σ => rfl) rfl
  | .Attribute .. => ET.value (soundE D _) (fun ρ σ => rfl) rfl
  | .Starred .. => ET.value (soundE D _) (fun ρ σ => rfl) rfl
  | .Slice .. => ET.value (soundE D _) (fun ρ σ => rfl) rfl
theorem soundTs (D : Gnd prog w B mg mb G Φ n env) : ∀ es : List Expr, ∀ e ∈ es, ET prog w B env Φ G n e
  | [], _, h => nomatch h
  | e :: es, x, h => by
    have h1 := soundT D e
    have h2 := soundTs D es
    rcases List.mem_cons.mp h with rfl | h
    · exact h1
    · exact h2 x h
end

/-! stores -/
theorem store_ok {x : Str} {v : Value} {d : PV} {Q : Unit → Shared → Prop} (eo : EnvOk env) (k : Ok prog w B η σ s.heap) (F : Fm B env ρ η s.heap) (hc : chkL env.kindOf x = true) (rv : Rep s.heap η v d)
    (hQ : ∀ h' tk, Step (Own env) η η s.heap h' → Ok prog w B η σ h' → Fm B env (upd ρ x d) η h' → Q () { s with heap := h', toks := tk }) : wpAny (model prog w) A (storeName env x v) Q E s := by
  have ns := F.noSeq
  have main : ∀ (c : Addr) h', Own env c → Heap.SameBut c s.heap h' → (∃ o, h'.get? c = some o ∧ ∀ items n, o.data ≠ .seq items n) →
      Step (Own env) η η s.heap h' ∧ Ok prog w B η σ h' ∧ (∀ b, Own env b → ∃ o, h'.get? b = some o ∧ ∀ items n, o.data ≠ .seq items n) := fun c h' hown hs hl => by
    refine ⟨⟨⟨[], by simp⟩, fun b o e nb np => ⟨(hs.2 b fun q => np (q ▸ hown)).trans e, nb⟩⟩, k.keep (P := Own env) (fun b o e np => (hs.2 b fun q => np (q ▸ hown)).trans e) ns F.off, fun b hb => ?_⟩
    by_cases q : b = c
    · subst q; exact hl
    · obtain ⟨o, ho, hn⟩ := F.live b hb
      exact ⟨o, (hs.2 b q).trans ho, hn⟩
  unfold chkL at hc
  split at hc
  · rename_i hk
    obtain ⟨m, hns, hm⟩ := F.ns
    refine wpAny_storeName_local hk hns (fun h' hn hs => ?_) (by rw [eo.kind]; rfl)
    obtain ⟨st, k', lv⟩ := main env.locals h' (.inl rfl) hs (by obtain ⟨o, es, ep, ho, hd, _⟩ := hn; exact ⟨o, ho, fun items n q => by rw [hd] at q; cases q⟩)
    refine hQ h' _ st k' ⟨⟨_, hn, fun y d' hy hr => ?_⟩, fun y d' hy hr => ?_, fun y hy => ?_, fun y d' hr => ?_, F.off, lv, F.cellNe, F.cellInj⟩
    · unfold upd at hr
      split at hr
      · rename_i e; subst e; cases hr; exact ⟨v, by simp, rv.step st ns⟩
      · rename_i e
        obtain ⟨u, hu, ru⟩ := hm y d' hy hr
        exact ⟨u, by simp [e, hu], ru.step st ns⟩
    · have e : y ≠ x := fun e => by subst e; rw [hk] at hy; cases hy
      unfold upd at hr
      rw [if_neg e] at hr
      obtain ⟨c, u, hc', ⟨o, ho, hd⟩, ru⟩ := F.cell y d' hy hr
      exact ⟨c, u, hc', ⟨o, (hs.2 c (F.cellNe y c hc')).trans ho, hd⟩, ru.step st ns⟩
    · obtain ⟨c, u, hc', ⟨o, ho, hd⟩⟩ := F.cells y hy
      exact ⟨c, u, hc', ⟨o, (hs.2 c (F.cellNe y c hc')).trans ho, hd⟩⟩
    · unfold upd at hr
      split at hr
      · rename_i e; subst e; exact .inl hk
      · exact F.kinds y d' hr
  · rename_i hk
    obtain ⟨c, v₀, hcl, hv₀⟩ := F.cells x hk
    refine wpAny_storeName_cell eo.kind hk hcl hv₀ fun h' hv' hs => ?_
    obtain ⟨st, k', lv⟩ := main c h' (.inr ⟨x, hcl⟩) hs (by obtain ⟨o, ho, hd⟩ := hv'; exact ⟨o, ho, fun items n q => by rw [hd] at q; cases q⟩)
    refine hQ h' s.toks st k' ⟨?_, fun y d' hy hr => ?_, fun y hy => ?_, fun y d' hr => ?_, F.off, lv, F.cellNe, F.cellInj⟩
    · obtain ⟨m, ⟨o, es, ep, ho, r⟩, hm⟩ := F.ns
      refine ⟨m, ⟨o, es, ep, (hs.2 _ (Ne.symm (F.cellNe x c hcl))).trans ho, r⟩, fun y d' hy hr => ?_⟩
      have e : y ≠ x := fun e => by subst e; rw [hk] at hy; cases hy
      unfold upd at hr
      rw [if_neg e] at hr
      obtain ⟨u, hu, ru⟩ := hm y d' hy hr
      exact ⟨u, hu, ru.step st ns⟩
    · unfold upd at hr
      split at hr
      · rename_i e; subst e; cases hr; exact ⟨c, v, hcl, hv', rv.step st ns⟩
      · rename_i e
        obtain ⟨c', u, hc', ⟨o, ho, hd⟩, ru⟩ := F.cell y d' hy hr
        have hne : c' ≠ c := fun q => e (F.cellInj y x c (q ▸ hc') hcl)
        exact ⟨c', u, hc', ⟨o, (hs.2 c' hne).trans ho, hd⟩, ru.step st ns⟩
    · by_cases e : y = x
      · subst e; exact ⟨c, _, hcl, hv'⟩
      · obtain ⟨c', u, hc', ⟨o, ho, hd⟩⟩ := F.cells y hy
        have hne : c' ≠ c := fun q => e (F.cellInj y x c (q ▸ hc') hcl)
        exact ⟨c', u, hc', ⟨o, (hs.2 c' hne).trans ho, hd⟩⟩
    · unfold upd at hr
      split at hr
      · rename_i e; subst e; exact .inr hk
      · exact F.kinds y d' hr
  · cases hc
end

end Mine

set_option maxRecDepth 100000
namespace Mine
open PySem PySem.Spec PyProof.Rows

section
variable {prog : Program} {w : World} {A : Around} {E : Value → Shared → Prop} {s : Shared} {B : Heap} {η η' : List Addr} {σ : Store} {env : Env} {ρ : Locals} {mg mb : Str → Option Value} {G : Glob} {Φ : Fns} {n : Nat} {h h' : Heap}

theorem Fm.stepP {P : Addr → Prop} (F : Fm B env ρ η h) (st : Step P η η' h h') (ns : NoSeq P h) (hd : ∀ b, Own env b → ¬ P b) : Fm B env ρ η' h' := by
  have up : ∀ b o, Own env b → h.get? b = some o → h'.get? b = some o ∧ b ∉ η' := fun b o hb e => st.keep b o e (F.off b hb).1 (hd b hb)
  refine ⟨?_, fun x d hk hr => ?_, fun x hk => ?_, F.kinds, fun b hb => ?_, fun b hb => ?_, F.cellNe, F.cellInj⟩
  · obtain ⟨m, ⟨o, es, ep, ho, r⟩, hm⟩ := F.ns
    refine ⟨m, ⟨o, es, ep, (up _ o (.inl rfl) ho).1, r⟩, fun x d hk hr => ?_⟩
    obtain ⟨v, e, rv⟩ := hm x d hk hr
    exact ⟨v, e, rv.step st ns⟩
  · obtain ⟨c, v, hc, ⟨o, ho, hd⟩, rv⟩ := F.cell x d hk hr
    exact ⟨c, v, hc, ⟨o, (up c o (.inr ⟨x, hc⟩) ho).1, hd⟩, rv.step st ns⟩
  · obtain ⟨c, v, hc, ⟨o, ho, hd⟩⟩ := F.cells x hk
    exact ⟨c, v, hc, ⟨o, (up c o (.inr ⟨x, hc⟩) ho).1, hd⟩⟩
  · obtain ⟨o, ho, _⟩ := F.live b hb
    exact ⟨(up b o hb ho).2, (F.off b hb).2⟩
  · obtain ⟨o, ho, hn⟩ := F.live b hb
    exact ⟨o, (up b o hb ho).1, hn⟩

noncomputable def FlRep (h : Heap) (η : List Addr) : Flow → Fl → Prop
  | .next, .next => True
  | .ret v, .ret d => Rep h η v d
  | _, _ => False

theorem FlRep.step {P : Addr → Prop} {f : Flow} {g : Fl} (r : FlRep h η f g) (st : Step P η η' h h') (ns : NoSeq P h) : FlRep h' η' f g := by
  cases f <;> cases g <;> first | exact r.elim | trivial | exact Rep.step st ns r

/-- a statement does what the interpreter says -/
noncomputable def SS (prog : Program) (w : World) (B : Heap) (env : Env) (Φ : Fns) (G : Glob) (n : Nat) (st : Stmt) : Prop :=
  ∀ ρ σ f ρ' σ', chkS G env.kindOf st = true → execS Φ G st ρ σ = some (f, ρ', σ') → ∀ (A : Around) (s : Shared) (η : List Addr) (E : Value → Shared → Prop) (Q : Flow → Shared → Prop),
    Room n A → Ok prog w B η σ s.heap → Fm B env ρ η s.heap →
    (∀ fl η' h' tk, Step (Own env) η η' s.heap h' → Ok prog w B η' σ' h' → Fm B env ρ' η' h' → FlRep h' η' fl f → Q fl { s with heap := h', toks := tk }) →
    wpAny (model prog w) A (exec st env) Q E s
noncomputable def SSs (prog : Program) (w : World) (B : Heap) (env : Env) (Φ : Fns) (G : Glob) (n : Nat) (sts : List Stmt) : Prop :=
  ∀ ρ σ f ρ' σ', chkSs G env.kindOf sts = true → execSs Φ G sts ρ σ = some (f, ρ', σ') → ∀ (A : Around) (s : Shared) (η : List Addr) (E : Value → Shared → Prop) (Q : Flow → Shared → Prop),
    Room n A → Ok prog w B η σ s.heap → Fm B env ρ η s.heap →
    (∀ fl η' h' tk, Step (Own env) η η' s.heap h' → Ok prog w B η' σ' h' → Fm B env ρ' η' h' → FlRep h' η' fl f → Q fl { s with heap := h', toks := tk }) →
    wpAny (model prog w) A (execs sts env) Q E s

theorem SSs.nil : SSs prog w B env Φ G n [] := by
  intro ρ σ f ρ' σ' hc he A s η E Q R k F hQ
  simp only [xs_nil, xs_cons, Option.some.injEq, Prod.mk.injEq] at he
  obtain ⟨rfl, rfl, rfl⟩ := he
  exact wpAny_execs_nil (hQ .next η s.heap s.toks Step.refl k F trivial)

theorem SSs.cons {st : Stmt} {rest : List Stmt} (h1 : SS prog w B env Φ G n st) (h2 : SSs prog w B env Φ G n rest) : SSs prog w B env Φ G n (st :: rest) := by
  intro ρ σ f ρ' σ' hc he A s η E Q R k F hQ
  simp only [xs_nil, xs_cons] at he
  simp only [cs_nil, cs_cons, Bool.and_eq_true] at hc
  split at he
  · cases he
  · rename_i ρ₁ σ₁ e1
    refine wpAny_execs_cons (h1 ρ σ _ ρ₁ σ₁ hc.1 e1 A s η E _ R k F fun fl η₁ H₁ t₁ s1 k1 F1 r1 => ?_)
    cases fl with
    | next => exact h2 ρ₁ σ₁ f ρ' σ' hc.2 he A { s with heap := H₁, toks := t₁ } η₁ E Q R k1 F1 fun fl η₂ H₂ t₂ s2 k2 F2 r2 => hQ fl η₂ H₂ t₂ (s1.transS s2) k2 F2 r2
    | _ => exact r1.elim
  · rename_i f₁ ρ₁ σ₁ hne e1
    cases he
    refine wpAny_execs_cons (h1 ρ σ _ _ _ hc.1 e1 A s η E _ R k F fun fl η₁ H₁ t₁ s1 k1 F1 r1 => ?_)
    cases fl with
    | next => cases f with | next => exact absurd rfl hne | _ => exact r1.elim
    | brk => exact hQ _ η₁ H₁ t₁ s1 k1 F1 r1
    | cont => exact hQ _ η₁ H₁ t₁ s1 k1 F1 r1
    | ret v => exact hQ _ η₁ H₁ t₁ s1 k1 F1 r1

theorem Step.own {P : Addr → Prop} {η₁ : List Addr} {h₁ : Heap} (st : Step (fun _ => False) η η₁ h h₁) : Step P η η₁ h h₁ := st.weaken fun _ f => f.elim

theorem SS.expr {e : Expr} {pos : Pos} (eo : EnvOk env) (he : ES prog w B env Φ G n e) : SS prog w B env Φ G n (.Expr e pos) := by
  intro ρ σ f ρ' σ' hc hx A s η E Q R k F hQ
  cases e with
  | Call fn args kws p =>
    simp only [x_expr, x_ret, x_if, xa_nil, xa_one, xa_dict, x_for] at hx
    simp only [cs_expr, cs_ret, cs_if, cs_name, cs_tuple, cs_for, cs_while] at hc
    split at hx
    · rename_i d σ₁ e1
      cases hx
      refine wpAny_Expr_any (he ρ _ d _ hc e1 A s η E _ R k F fun v η₁ H₁ t₁ s1 k1 r1 => ?_) (by unfold interactive; rw [eo.kind]; rfl) rfl
      exact hQ .next η₁ H₁ t₁ s1.own k1 (F.step s1) trivial
    · cases hx
  | _ => exact nomatch (show (none : Option (Fl × Locals × Store)) = some _ from hx)

theorem SS.ret {e : Expr} {pos : Pos} (he : ES prog w B env Φ G n e) : SS prog w B env Φ G n (.Return (some e) pos) := by
  intro ρ σ f ρ' σ' hc hx A s η E Q R k F hQ
  simp only [x_expr, x_ret, x_if, xa_nil, xa_one, xa_dict, x_for] at hx
  simp only [cs_expr, cs_ret, cs_if, cs_name, cs_tuple, cs_for, cs_while] at hc
  split at hx
  · rename_i d σ₁ e1
    cases hx
    refine wpAny_Return_some (he ρ _ d _ hc e1 A s η E _ R k F fun v η₁ H₁ t₁ s1 k1 r1 => ?_)
    exact hQ (.ret v) η₁ H₁ t₁ s1.own k1 (F.step s1) r1
  · cases hx

theorem SS.ite {t : Expr} {b o : List Stmt} {pos : Pos} (ht : ET prog w B env Φ G n t) (hb : SSs prog w B env Φ G n b) (ho : SSs prog w B env Φ G n o) : SS prog w B env Φ G n (.If t b o pos) := by
  intro ρ σ f ρ' σ' hc hx A s η E Q R k F hQ
  simp only [x_expr, x_ret, x_if, xa_nil, xa_one, xa_dict, x_for] at hx
  simp only [cs_expr, cs_ret, cs_if, cs_name, cs_tuple, cs_for, cs_while, Bool.and_eq_true] at hc
  split at hx
  · cases hx
  · rename_i c σ₁ e1
    refine wpAny_If (ht ρ σ c σ₁ hc.1.1 e1 A s η E _ R k F fun η₁ H₁ t₁ s1 k1 => ?_)
    split at hx
    · rename_i hcb
      rw [if_pos hcb]
      exact hb ρ σ₁ f ρ' σ' hc.1.2 hx A { s with heap := H₁, toks := t₁ } η₁ E Q R k1 (F.step s1) fun fl η₂ H₂ t₂ s2 k2 F2 r2 => hQ fl η₂ H₂ t₂ (s1.own.transS s2) k2 F2 r2
    · rename_i hcb
      rw [if_neg hcb]
      exact ho ρ σ₁ f ρ' σ' hc.2 hx A { s with heap := H₁, toks := t₁ } η₁ E Q R k1 (F.step s1) fun fl η₂ H₂ t₂ s2 k2 F2 r2 => hQ fl η₂ H₂ t₂ (s1.own.transS s2) k2 F2 r2

/-! assignments -/
theorem bindNames_ok (eo : EnvOk env) : ∀ (es : List Expr) (ds : List PV) (vs : List Value) (ρ ρ' : Locals) (s : Shared) (Q : Unit → Shared → Prop), bindNames es ds ρ = some ρ' →
    es.all (chkNm env.kindOf) = true → Ok prog w B η σ s.heap → Fm B env ρ η s.heap → RepAll s.heap η vs ds →
    (∀ h' tk, Step (Own env) η η s.heap h' → Ok prog w B η σ h' → Fm B env ρ' η h' → Q () { s with heap := h', toks := tk }) →
    wpAny (model prog w) A (assignInOrder ((assignEach es env).map (·.2)) vs) Q E s
  | [], ds, vs, ρ, ρ', s, Q, hb, hc, k, F, r, hQ => by
    cases ds with
    | nil => cases r; simp only [bn_nil, bn_cons, Option.some.injEq] at hb; subst hb; exact wpAny_assignInOrder_none (hQ s.heap s.toks Step.refl k F)
    | cons => exact nomatch (show (none : Option Locals) = some _ from hb)
  | e :: es, ds, vs, ρ, ρ', s, Q, hb, hc, k, F, r, hQ => by
    cases e with
    | Name x p =>
      cases ds with
      | nil => exact nomatch (show (none : Option Locals) = some _ from hb)
      | cons d ds =>
        cases r with
        | cons a r =>
          simp only [bn_nil, bn_cons] at hb
          simp only [List.all_cons, Bool.and_eq_true] at hc
          refine wpAny_assignInOrder_more (wpAny_assign_Name (store_ok eo k F hc.1 a fun h₁ t₁ s1 k1 F1 => ?_))
          exact bindNames_ok eo es ds _ _ ρ' { s with heap := h₁, toks := t₁ } Q hb hc.2 k1 F1 (r.step s1 F.noSeq) fun h₂ t₂ s2 k2 F2 => hQ h₂ t₂ (s1.transS s2) k2 F2
    | _ => exact nomatch (show (none : Option Locals) = some _ from hb)

theorem bindNames_len : ∀ (es : List Expr) (ds : List PV) (ρ ρ' : Locals), bindNames es ds ρ = some ρ' → es.length = ds.length ∧ (assignEach es env).length = ds.length ∧ (assignEach es env).findIdx? (·.1) = none
  | [], [], _, _, _ => ⟨rfl, rfl, rfl⟩
  | [], _ :: _, _, _, h => by exact nomatch (show (none : Option Locals) = some _ from h)
  | e :: es, ds, ρ, ρ', h => by
    cases e with
    | Name x p =>
      cases ds with
      | nil => exact nomatch (show (none : Option Locals) = some _ from h)
      | cons d ds =>
        simp only [bn_nil, bn_cons] at h
        have ih := bindNames_len es ds _ _ h
        refine ⟨by simp [ih.1], ?_, ?_⟩
        · show (_ :: assignEach es env).length = _; simp [ih.2.1]
        · show ((false, _) :: assignEach es env).findIdx? (·.1) = none
          rw [List.findIdx?_cons]; simpa using ih.2.2
    | _ => exact nomatch (show (none : Option Locals) = some _ from h)

theorem bindT_ok (eo : EnvOk env) {t : Expr} {d : PV} {v : Value} {ρ' : Locals} {Q : Unit → Shared → Prop} (hh : A.handled = none) (hb : bindT t d ρ = some ρ') (hc : chkT G env.kindOf t = true) (k : Ok prog w B η σ s.heap) (F : Fm B env ρ η s.heap)
    (r : Rep s.heap η v d) (hQ : ∀ h' tk, Step (Own env) η η s.heap h' → Ok prog w B η σ h' → Fm B env ρ' η h' → Q () { s with heap := h', toks := tk }) :
    wpAny (model prog w) A (assign t env v) Q E s := by
  cases t with
  | Name x p =>
    simp only [bt_name, bt_tup, Option.some.injEq] at hb
    subst hb
    exact wpAny_assign_Name (store_ok eo k F hc r hQ)
  | Tuple es kk p =>
    cases d with
    | tup ds =>
      simp only [bt_name, bt_tup] at hb
      obtain ⟨l1, l2, l3⟩ := bindNames_len (env := env) es ds _ _ hb
      cases r with
      | tup nm t1 r1 =>
        rename_i a vs
        have hl := r1.length
        refine wpAny_assign_Tuple hh t1 (by rw [l2]; simp [hl]) l3 fun h₁ hx => ?_
        have x1 : Ext s.heap h₁ := fun b o e => hx b o (Nat.ne_of_lt (Heap.lt_size e)) e
        have st1 : Step (fun _ => False) η η s.heap h₁ := Step.ext x1
        exact bindNames_ok eo es ds vs ρ ρ' { s with heap := h₁ } Q hb hc (k.ext x1) (F.step st1) (r1.ext x1) fun h₂ t₂ s2 k2 F2 => hQ h₂ t₂ (st1.own.transS s2) k2 F2
    | _ => exact nomatch (show (none : Option Locals) = some _ from hb)
  | _ => exact nomatch (show (none : Option Locals) = some _ from hb)

theorem swaps_none {e : Expr} {t : Option Expr} {l : Nat} {x : PV × Store} (h : evalE Φ G e ρ σ = some x) : swapsWith e t l env = pure false := by
  cases e <;> first | (exact nomatch (show (none : Option (PV × Store)) = some _ from h)) | rfl

theorem SS.assignName {x : Str} {p pos : Pos} {e : Expr} (eo : EnvOk env) (he : ES prog w B env Φ G n e) (h1 : ∀ y q, e = .List [y] q → ES prog w B env Φ G n y) : SS prog w B env Φ G n (.Assign [.Name x p] e pos) := by
  intro ρ σ f ρ' σ' hc hx A s η E Q R k F hQ
  simp only [cs_expr, cs_ret, cs_if, cs_name, cs_tuple, cs_for, cs_while, Bool.and_eq_true] at hc
  have hcx : chkL env.kindOf x = true := hc.1
  have plain : (match evalE Φ G e ρ σ with
      | some (d, σ₁) => some (Fl.next, upd ρ x d, σ₁)
      | none => none) = some (f, ρ', σ') → wpAny (model prog w) A (exec (.Assign [.Name x p] e pos) env) Q E s := fun hx => by
    split at hx
    · rename_i d σ₁ e1
      cases hx
      refine wpAny_Assign_Name (he ρ _ d _ hc.2 e1 A s η E _ R k F fun v η₁ H₁ t₁ s1 k1 r1 => ?_) (swaps_none e1)
      refine store_ok eo k1 (F.step s1) hcx r1 fun h₂ t₂ s2 k2 F2 => ?_
      exact hQ .next η₁ h₂ t₂ (s1.own.transS s2) k2 F2 trivial
    · cases hx
  cases e with
  | List es q =>
    cases es with
    | nil =>
      simp only [x_expr, x_ret, x_if, xa_nil, xa_one, xa_dict, x_for, Option.some.injEq, Prod.mk.injEq] at hx
      obtain ⟨rfl, rfl, rfl⟩ := hx
      refine wpAny_Assign_Name (wpAny_List (Calls.spliced_nil ⟨by decide, ?_⟩)) rfl
      have st1 : Step (fun _ => False) η (η ++ [s.heap.objs.size]) s.heap (s.heap.push { cls := .type "list", data := .seq ([] : List Value).toArray }) := Step.pushη _
      have k1 := k.alloc { cls := .type "list", data := .seq ([] : List Value).toArray } (.list []) ⟨[], ⟨0, Heap.get?_push_size _ rfl⟩, .nil⟩
      refine store_ok (d := .loc σ.length) eo k1 (F.step st1) hcx (.loc (by rw [List.getElem?_append_right (by rw [k.len]; exact Nat.le_refl _), k.len]; simp)) fun h₂ t₂ s2 k2 F2 => ?_
      exact hQ .next _ h₂ t₂ (st1.own.transS s2) k2 F2 trivial
    | cons y ys =>
      cases ys with
      | nil =>
        simp only [x_expr, x_ret, x_if, xa_nil, xa_one, xa_dict, x_for] at hx
        split at hx
        · rename_i d σ₁ e1
          cases hx
          have hcy : chkE G env.kindOf y = true := by
            have := hc.2
            simp only [ck_name, ck_binop, ck_unop, ck_boolop, ck_cmp, ck_call, ck_meth, ck_slice, ck_list, ck_tuple, ck_nil, ck_cons, Bool.and_eq_true] at this
            exact this.1
          refine wpAny_Assign_Name (wpAny_List ?_) rfl
          rw [star_one e1]
          refine Calls.spliced_cons ((h1 y q rfl) ρ _ d _ hcy e1 A s η E _ R k F fun v η₁ H₁ t₁ s1 k1 r1 => ?_)
          refine Calls.spliced_nil ⟨(by show 1 ≤ sizeLine; decide), ?_⟩
          have st2 : Step (fun _ => False) η₁ (η₁ ++ [H₁.objs.size]) H₁ (H₁.push { cls := .type "list", data := .seq [v].toArray }) := Step.pushη _
          have k2 := k1.alloc { cls := .type "list", data := .seq [v].toArray } (.list [d]) ⟨[v], ⟨0, Heap.get?_push_size _ rfl⟩, .cons (r1.step st2 (NoSeq.bot _)) .nil⟩
          refine store_ok (d := .loc σ₁.length) eo k2 ((F.step s1).step st2) hcx (.loc (by rw [List.getElem?_append_right (by rw [k1.len]; exact Nat.le_refl _), k1.len]; simp)) fun h₂ t₂ s3 k3 F3 => ?_
          exact hQ .next _ h₂ t₂ ((s1.trans0 st2).own.transS s3) k3 F3 trivial
        · cases hx
      | cons z zs => exact plain hx
  | Dict ks vs q =>
    cases ks with
    | nil =>
      cases vs with
      | nil =>
        simp only [x_expr, x_ret, x_if, xa_nil, xa_one, xa_dict, x_for, Option.some.injEq, Prod.mk.injEq] at hx
        obtain ⟨rfl, rfl, rfl⟩ := hx
        refine wpAny_Assign_Name (wpAny_Dict_empty ?_) rfl
        have st1 : Step (fun _ => False) η (η ++ [s.heap.objs.size]) s.heap (s.heap.push { cls := .type "dict", data := .dict #[] }) := Step.pushη _
        have k1 := k.alloc { cls := .type "dict", data := .dict #[] } (.dict []) ⟨[], ⟨_, #[], 0, Heap.get?_push_size _ rfl, ⟨rfl, rfl, rfl⟩, rfl, rfl, (fun _ h => by cases h), .nil⟩, rfl, (fun _ h => by cases h), .nil⟩
        refine store_ok (d := .loc σ.length) eo k1 (F.step st1) hcx (.loc (by rw [List.getElem?_append_right (by rw [k.len]; exact Nat.le_refl _), k.len]; simp)) fun h₂ t₂ s2 k2 F2 => ?_
        exact hQ .next _ h₂ t₂ (st1.own.transS s2) k2 F2 trivial
      | cons => exact plain hx
    | cons => exact plain hx
  | _ => exact plain hx

theorem SS.assignTuple {ts : List Expr} {kk : Nat} {p pos : Pos} {e : Expr} (eo : EnvOk env) (he : ES prog w B env Φ G n e) : SS prog w B env Φ G n (.Assign [.Tuple ts kk p] e pos) := by
  intro ρ σ f ρ' σ' hc hx A s η E Q R k F hQ
  simp only [cs_expr, cs_ret, cs_if, cs_name, cs_tuple, cs_for, cs_while, Bool.and_eq_true] at hc
  have hx' : (∀ a b c, e ≠ .Tuple a b c) ∧ (match evalE Φ G e ρ σ with
    | some (d, σ₁) => match bindT (.Tuple ts kk p) d ρ with
      | some ρ₁ => some (Fl.next, ρ₁, σ₁)
      | none => none
    | none => none) = some (f, ρ', σ') := by
    cases e <;> first | (exact ⟨(fun _ _ _ q => by cases q), hx⟩) | (exact nomatch (show (none : Option (Fl × Locals × Store)) = some _ from hx))
  obtain ⟨hnt, hx'⟩ := hx'
  split at hx'
  · rename_i d σ₁ e1
    split at hx'
    · rename_i ρ₁ e2
      cases hx'
      refine wpAny_Assign_stores (he ρ _ d _ hc.2 e1 A s η E _ R k F fun v η₁ H₁ t₁ s1 k1 r1 => ?_) (by show swapsWith e (some (.Tuple ts kk p)) pos.line env = pure false; exact swaps_none e1) (by cases e <;> first | rfl | exact absurd rfl (hnt _ _ _))
      show wpAny (model prog w) A (assign (.Tuple ts kk p) env v) _ E _
      refine bindT_ok eo R.handled e2 hc.1 k1 (F.step s1) r1 fun h₂ t₂ s2 k2 F2 => ?_
      exact hQ .next η₁ h₂ t₂ (s1.own.transS s2) k2 F2 trivial
    · cases hx'
  · cases hx'
end

end Mine

set_option maxRecDepth 100000
namespace Mine
open PySem PySem.Spec PyProof.Rows

section
variable {prog : Program} {w : World} {A : Around} {E : Value → Shared → Prop} {s : Shared} {B : Heap} {η η' : List Addr} {σ : Store} {env : Env} {ρ : Locals} {mg mb : Str → Option Value} {G : Glob} {Φ : Fns} {n : Nat} {h h' : Heap}

/-- a loop over things that stay, by any of the kit's walks -/
theorem forL_ok (eo : EnvOk env) {x : Str} {p : Pos} {body : List Stmt} (hb : SSs prog w B env Φ G n body) (hcb : chkSs G env.kindOf body = true) (hcx : chkL env.kindOf x = true) {I : Addr} {fp wr : List Addr} {N : Nat} {P : Nat → Value → Prop} {St : Nat → Heap → Prop}
    (W : Walks prog w A I fp wr N P St) (hlive : ∀ i h, St i h → ∀ b ∈ fp, ∃ o, h.get? b = some o) (hns : ∀ i h, St i h → NoSeq (fun b => b ∈ wr) h)
    {ds : List PV} (hN : ds.length = N) {f : Fl} {ρ' : Locals} {σ' : Store} (he : forL (bindT (.Name x p)) (fun ρ σ => execSs Φ G body ρ σ) ds ρ σ = some (f, ρ', σ'))
    (R : Room n A) (k : Ok prog w B η σ s.heap) (F : Fm B env ρ η s.heap) (hst : St 0 s.heap) (hfp : ∀ b ∈ fp, b ∉ η ∧ ¬ Own env b) (hwB : ∀ b ∈ wr, B.get? b = none)
    (hItem : ∀ i v d, P i v → ds[i]? = some d → Rep s.heap η v d) {RR : Result → Shared → Prop}
    (hR : ∀ fl η' h' tk, Step (fun b => Own env b ∨ b ∈ wr) η η' s.heap h' → Ok prog w B η' σ' h' → Fm B env ρ' η' h' → FlRep h' η' fl f → RR (.ok fl) { s with heap := h', toks := tk }) :
    codeAny (model prog w) A (.forLoop (.Name x p) (.ref I) body [] env) RR s := by
  have nsP : NoSeq (fun b => Own env b ∨ b ∈ wr) s.heap := fun b o hb e => hb.elim (fun q => F.noSeq b o q e) fun q => hns 0 _ hst b o q e
  refine codeAny_forLoop (fun m s' => ∃ i η₁ h₁ t₁ ρ₁ σ₁, s' = { s with heap := h₁, toks := t₁ } ∧ i ≤ N ∧ m = N - i ∧ St i h₁ ∧ Step (fun b => Own env b ∨ b ∈ wr) η η₁ s.heap h₁ ∧ Ok prog w B η₁ σ₁ h₁ ∧ Fm B env ρ₁ η₁ h₁ ∧
    (∀ b ∈ fp, b ∉ η₁) ∧ forL (bindT (.Name x p)) (fun ρ σ => execSs Φ G body ρ σ) (ds.drop i) ρ₁ σ₁ = some (f, ρ', σ')) ?_ N
    ⟨0, η, s.heap, s.toks, ρ, σ, rfl, Nat.zero_le _, rfl, hst, Step.refl, k, F, fun b hb => (hfp b hb).1, by simpa using he⟩
  rintro m s' ⟨i, η₁, h₁, t₁, ρ₁, σ₁, rfl, hi, rfl, st1, sp1, k1, F1, hf1, he1⟩
  have hOw : ∀ b, Own env b → ¬ b ∈ wr := fun b hb hw => (hfp b (W.sub b hw)).2 hb
  by_cases hlt : i < N
  · have hd : ∃ d, ds[i]? = some d := ⟨_, List.getElem?_eq_getElem (by omega)⟩
    obtain ⟨d, hd⟩ := hd
    have hdrop : ds.drop i = d :: ds.drop (i + 1) := by
      have hi' := (List.getElem?_eq_some_iff.mp hd)
      rw [List.drop_eq_getElem_cons hi'.1, hi'.2]
    rw [hdrop] at he1
    simp only [forL, bt_name, bt_tup] at he1
    refine W.item i _ _ _ hlt st1 fun v h₂ t₂ hP st2 hk2 => ?_
    have sp2 : Step (fun b => b ∈ wr) η₁ η₁ h₁ h₂ := ⟨⟨[], by simp⟩, fun b o e nb nw => ⟨hk2 b o nw e, nb⟩⟩
    have k2 : Ok prog w B η₁ σ₁ h₂ := k1.keep (P := fun b => b ∈ wr) (fun b o e nw => hk2 b o nw e) (hns i h₁ st1) fun b hb => ⟨hf1 b (W.sub b hb), hwB b hb⟩
    have F2 : Fm B env ρ₁ η₁ h₂ := F1.stepP sp2 (hns i h₁ st1) hOw
    have sp12 : Step (fun b => Own env b ∨ b ∈ wr) η η₁ s.heap h₂ := sp1.trans sp2 fun x hx => .inl (.inr hx)
    have rv : Rep h₂ η₁ v d := (hItem i v d hP hd).step sp12 nsP
    refine wpAny_assign_Name (store_ok eo k2 F2 hcx rv fun h₃ t₃ sp3 k3 F3 => ?_)
    split at he1
    · cases he1
    · rename_i ρ₂ σ₂ e2
      refine hb _ _ _ ρ₂ σ₂ hcb e2 A { s with heap := h₃, toks := t₃ } η₁ _ _ R k3 F3 fun fl η₄ h₄ t₄ sp4 k4 F4 r4 => ?_
      have sp34 : Step (Own env) η₁ η₄ h₂ h₄ := sp3.transS sp4
      have keepfp : ∀ b ∈ fp, ∀ o, h₂.get? b = some o → h₄.get? b = some o ∧ b ∉ η₄ := fun b hb o e => sp34.keep b o e (hf1 b hb) (hfp b hb).2
      have st4 : St (i + 1) h₄ := W.frame _ _ _ st2 fun b hb o e => (keepfp b hb o e).1
      have hf4 : ∀ b ∈ fp, b ∉ η₄ := fun b hb => by obtain ⟨o, ho⟩ := hlive _ _ st2 b hb; exact (keepfp b hb o ho).2
      have sp14 : Step (fun b => Own env b ∨ b ∈ wr) η η₄ s.heap h₄ := sp12.trans sp34 fun x hx => .inl (.inl hx)
      cases fl with
      | next => exact ⟨N - (i + 1), by omega, i + 1, η₄, h₄, t₄, ρ₂, σ₂, rfl, hlt, rfl, st4, sp14, k4, F4, hf4, he1⟩
      | _ => exact r4.elim
    · rename_i d' ρ₂ σ₂ e2
      cases he1
      refine hb _ _ _ _ _ hcb e2 A { s with heap := h₃, toks := t₃ } η₁ _ _ R k3 F3 fun fl η₄ h₄ t₄ sp4 k4 F4 r4 => ?_
      have sp14 : Step (fun b => Own env b ∨ b ∈ wr) η η₄ s.heap h₄ := sp12.trans (sp3.transS sp4) fun x hx => .inl (.inl hx)
      cases fl with
      | ret v' => exact hR (.ret v') η₄ h₄ t₄ sp14 k4 F4 r4
      | _ => exact r4.elim
  · have hin : i = N := by omega
    have hdrop : ds.drop i = [] := List.drop_eq_nil_of_le (by omega)
    rw [hdrop] at he1
    simp only [forL, Option.some.injEq, Prod.mk.injEq] at he1
    obtain ⟨rfl, rfl, rfl⟩ := he1
    refine W.done _ _ _ (hin ▸ st1) fun h₂ t₂ hk2 => ?_
    have sp2 : Step (fun b => b ∈ wr) η₁ η₁ h₁ h₂ := ⟨⟨[], by simp⟩, fun b o e nb nw => ⟨hk2 b o nw e, nb⟩⟩
    have k2 : Ok prog w B η₁ σ₁ h₂ := k1.keep (P := fun b => b ∈ wr) (fun b o e nw => hk2 b o nw e) (hns i h₁ st1) fun b hb => ⟨hf1 b (W.sub b hb), hwB b hb⟩
    have F2 : Fm B env ρ₁ η₁ h₂ := F1.stepP sp2 (hns i h₁ st1) hOw
    exact wpAny_execs_nil (hR .next η₁ h₂ t₂ (sp1.trans sp2 fun x hx => .inl (.inr hx)) k2 F2 trivial)

/-- a new address is none of ours -/
theorem new_off (k : Ok prog w B η σ h) (F : Fm B env ρ η h) : h.objs.size ∉ η ∧ ¬ Own env h.objs.size ∧ B.get? h.objs.size = none := by
  refine ⟨k.fresh, fun hb => ?_, ?_⟩
  · obtain ⟨o, ho, _⟩ := F.live _ hb
    exact Nat.lt_irrefl _ (Heap.lt_size ho)
  · cases q : B.get? h.objs.size with
    | none => rfl
    | some o => exact absurd (Heap.lt_size (k.base _ _ q).1) (Nat.lt_irrefl _)
end

end Mine

set_option maxRecDepth 100000
namespace Mine
open PySem PySem.Spec PyProof.Rows

section
variable {prog : Program} {w : World} {A : Around} {E : Value → Shared → Prop} {s : Shared} {B : Heap} {η η' : List Addr} {σ : Store} {env : Env} {ρ : Locals} {mg mb : Str → Option Value} {G : Glob} {Φ : Fns} {n : Nat} {h h' : Heap}

theorem own_ne_seq (F : Fm B env ρ η h) {a : Addr} {o : Obj} {items : Array Value} {m : Nat} (ho : h.get? a = some o) (hd : o.data = .seq items m) : ¬ Own env a := fun hb => F.noSeq a o hb ho items m hd

/-- the loop behind a new iterator -/
theorem push_loop (eo : EnvOk env) {x : Str} {p : Pos} {body : List Stmt} (hb : SSs prog w B env Φ G n body) (hcb : chkSs G env.kindOf body = true) (hcx : chkL env.kindOf x = true) (ob : Obj) {fp : List Addr} {N : Nat} {P : Nat → Value → Prop} {St : Nat → Heap → Prop}
    (W : Walks prog w A s.heap.objs.size fp [s.heap.objs.size] N P St) (hlive : ∀ i h, St i h → ∀ b ∈ fp, ∃ o, h.get? b = some o) (hns : ∀ i h, St i h → NoSeq (fun b => b ∈ [s.heap.objs.size]) h)
    {ds : List PV} (hN : ds.length = N) {f : Fl} {ρ' : Locals} {σ' : Store} (he : forL (bindT (.Name x p)) (fun ρ σ => execSs Φ G body ρ σ) ds ρ σ = some (f, ρ', σ'))
    (R : Room n A) (k : Ok prog w B η σ s.heap) (F : Fm B env ρ η s.heap) (hst : St 0 (s.heap.push ob)) (hfp : ∀ b ∈ fp, b = s.heap.objs.size ∨ (b ∉ η ∧ ¬ Own env b))
    (hItem : ∀ i v d, P i v → ds[i]? = some d → Rep s.heap η v d) {RR : Result → Shared → Prop}
    (hR : ∀ fl η' h' tk, Step (Own env) η η' s.heap h' → Ok prog w B η' σ' h' → Fm B env ρ' η' h' → FlRep h' η' fl f → RR (.ok fl) { s with heap := h', toks := tk }) :
    codeAny (model prog w) A (.forLoop (.Name x p) (.ref s.heap.objs.size) body [] env) RR { s with heap := s.heap.push ob } := by
  obtain ⟨n1, n2, n3⟩ := new_off k F
  have x1 : Ext s.heap (s.heap.push ob) := Ext.push _ _
  have st1 : Step (Own env) η η s.heap (s.heap.push ob) := Step.ext x1
  refine forL_ok (s := { s with heap := s.heap.push ob }) eo hb hcb hcx W hlive hns hN he R (k.ext x1) (F.step (Step.ext x1)) hst (fun b hb' => ?_) (fun b hb' => ?_) (fun i v d h1 h2 => (hItem i v d h1 h2).ext x1) fun fl η₂ h₂ t₂ s2 k2 F2 r2 => ?_
  · rcases hfp b hb' with q | q
    · subst q; exact ⟨n1, n2⟩
    · exact q
  · rw [List.mem_singleton.mp hb']; exact n3
  · refine hR fl η₂ h₂ t₂ (st1.trans s2 fun z hz => ?_) k2 F2 r2
    rcases hz with q | q
    · exact .inl q
    · right
      rw [List.mem_singleton.mp q]
      cases e : s.heap.get? s.heap.objs.size with
      | none => rfl
      | some o => exact absurd (Heap.lt_size e) (Nat.lt_irrefl _)

section
variable {x : Str} {p : Pos} {body : List Stmt} {f : Fl} {ρ' : Locals} {σ' : Store} {RR : Result → Shared → Prop} {ds : List PV} {v : Value}

theorem iter_lst (eo : EnvOk env) (hb : SSs prog w B env Φ G n body) (hcb : chkSs G env.kindOf body = true) (hcx : chkL env.kindOf x = true) (r : Rep s.heap η v (.lst ds)) (he : forL (bindT (.Name x p)) (fun ρ σ => execSs Φ G body ρ σ) ds ρ σ = some (f, ρ', σ'))
    (R : Room n A) (k : Ok prog w B η σ s.heap) (F : Fm B env ρ η s.heap)
    (hR : ∀ fl η' h' tk, Step (Own env) η η' s.heap h' → Ok prog w B η' σ' h' → Fm B env ρ' η' h' → FlRep h' η' fl f → RR (.ok fl) { s with heap := h', toks := tk }) :
    wpAny (model prog w) A (pyIter v) (fun it s₂ => codeAny (model prog w) A (.forLoop (.Name x p) it body [] env) RR s₂) E s := by
  cases r with
  | lst nm pl r =>
    rename_i a vs
    obtain ⟨m, ho⟩ := id pl
    have hne : a ≠ s.heap.objs.size := Nat.ne_of_lt (Heap.lt_size ho)
    refine wpAny_pyIter_list pl.isList ?_
    refine push_loop eo hb hcb hcx _ (Walks.list R.handled s.heap.objs.size a hne vs.toArray) ?_ ?_ (by simp [r.length]) he R k F ?_ ?_ ?_ hR
    · rintro i h ⟨⟨o1, e1, _⟩, o2, e2, _⟩ b hb
      rcases List.mem_cons.mp hb with rfl | hb
      · exact ⟨o1, e1⟩
      · rw [List.mem_singleton.mp hb]; exact ⟨o2, e2⟩
    · rintro i h ⟨⟨o1, e1, _, d1⟩, _⟩ b o hb e items m hd
      rw [List.mem_singleton.mp hb, e1] at e
      cases e; rw [d1] at hd; cases hd
    · exact ⟨⟨_, Heap.get?_push_size _ rfl, rfl, rfl⟩, pl.isList.push _⟩
    · intro b hb
      rcases List.mem_cons.mp hb with rfl | hb
      · exact .inl rfl
      · rw [List.mem_singleton.mp hb]; exact .inr ⟨nm, own_ne_seq F ho rfl⟩
    · intro i u d hu hd
      obtain ⟨d', e1, r1⟩ := r.getV (k := i) (v := u) (by simpa using hu)
      rw [hd] at e1; cases e1; exact r1

theorem iter_tup (eo : EnvOk env) (hb : SSs prog w B env Φ G n body) (hcb : chkSs G env.kindOf body = true) (hcx : chkL env.kindOf x = true) (r : Rep s.heap η v (.tup ds)) (he : forL (bindT (.Name x p)) (fun ρ σ => execSs Φ G body ρ σ) ds ρ σ = some (f, ρ', σ'))
    (R : Room n A) (k : Ok prog w B η σ s.heap) (F : Fm B env ρ η s.heap)
    (hR : ∀ fl η' h' tk, Step (Own env) η η' s.heap h' → Ok prog w B η' σ' h' → Fm B env ρ' η' h' → FlRep h' η' fl f → RR (.ok fl) { s with heap := h', toks := tk }) :
    wpAny (model prog w) A (pyIter v) (fun it s₂ => codeAny (model prog w) A (.forLoop (.Name x p) it body [] env) RR s₂) E s := by
  cases r with
  | tup nm pl r =>
    rename_i a vs
    obtain ⟨o, ho, hc, m, hd⟩ := id pl
    have hne : a ≠ s.heap.objs.size := Nat.ne_of_lt (Heap.lt_size ho)
    refine wpAny_pyIter_tuple pl ?_
    refine push_loop eo hb hcb hcx _ (Walks.tuple R.handled s.heap.objs.size a hne vs.toArray) ?_ ?_ (by simp [r.length]) he R k F ?_ ?_ ?_ hR
    · rintro i h ⟨⟨o1, e1, _⟩, o2, e2, _⟩ b hb
      rcases List.mem_cons.mp hb with rfl | hb
      · exact ⟨o1, e1⟩
      · rw [List.mem_singleton.mp hb]; exact ⟨o2, e2⟩
    · rintro i h ⟨⟨o1, e1, _, d1⟩, _⟩ b o hb e items m hd
      rw [List.mem_singleton.mp hb, e1] at e
      cases e; rw [d1] at hd; cases hd
    · exact ⟨⟨_, Heap.get?_push_size _ rfl, rfl, rfl⟩, pl.at fun o e => Heap.get?_push_of_some _ e⟩
    · intro b hb
      rcases List.mem_cons.mp hb with rfl | hb
      · exact .inl rfl
      · rw [List.mem_singleton.mp hb]; exact .inr ⟨nm, own_ne_seq F ho hd⟩
    · intro i u d hu hd
      obtain ⟨d', e1, r1⟩ := r.getV (k := i) (v := u) (by simpa using hu)
      rw [hd] at e1; cases e1; exact r1

theorem iter_str {y : Str} (eo : EnvOk env) (hb : SSs prog w B env Φ G n body) (hcb : chkSs G env.kindOf body = true) (hcx : chkL env.kindOf x = true) (r : Rep s.heap η v (.str y)) (he : forL (bindT (.Name x p)) (fun ρ σ => execSs Φ G body ρ σ) (y.cps.toList.map fun c => .str ⟨#[c]⟩) ρ σ = some (f, ρ', σ'))
    (R : Room n A) (k : Ok prog w B η σ s.heap) (F : Fm B env ρ η s.heap)
    (hR : ∀ fl η' h' tk, Step (Own env) η η' s.heap h' → Ok prog w B η' σ' h' → Fm B env ρ' η' h' → FlRep h' η' fl f → RR (.ok fl) { s with heap := h', toks := tk }) :
    wpAny (model prog w) A (pyIter v) (fun it s₂ => codeAny (model prog w) A (.forLoop (.Name x p) it body [] env) RR s₂) E s := by
  cases r with
  | str y t =>
    have item : ∀ i u d, SignAt y i u → (y.cps.toList.map fun c => PV.str ⟨#[c]⟩)[i]? = some d → Rep s.heap η u d := by
      rintro i u d ⟨c, tk, hc, rfl⟩ hd
      rw [List.getElem?_map, Array.getElem?_toList, hc] at hd
      cases hd; exact .str _ _
    have live : ∀ (ty : String) (i : Nat) (h : Heap), h.IsStrIter s.heap.objs.size ty y t i → ∀ b ∈ [s.heap.objs.size], ∃ o, h.get? b = some o := by
      rintro ty i h ⟨o1, e1, _⟩ b hb
      rw [List.mem_singleton.mp hb]; exact ⟨o1, e1⟩
    have nosq : ∀ (ty : String) (i : Nat) (h : Heap), h.IsStrIter s.heap.objs.size ty y t i → NoSeq (fun b => b ∈ [s.heap.objs.size]) h := by
      rintro ty i h ⟨o1, e1, _, d1⟩ b o hb e items m hd
      rw [List.mem_singleton.mp hb, e1] at e
      cases e; rw [d1] at hd; cases hd
    have fps : ∀ b ∈ [s.heap.objs.size], b = s.heap.objs.size ∨ (b ∉ η ∧ ¬ Own env b) := fun b hb => .inl (List.mem_singleton.mp hb)
    cases ha : y.cps.all (· < 128)
    · refine wpAny_pyIter_wide ha ?_
      exact push_loop eo hb hcb hcx _ (Walks.strWide R.handled _ y t) (live _) (nosq _) (by simp) he R k F ⟨_, Heap.get?_push_size _ rfl, rfl, rfl⟩ fps item hR
    · refine wpAny_pyIter_ascii ha ?_
      exact push_loop eo hb hcb hcx _ (Walks.strAscii R.handled _ y t) (live _) (nosq _) (by simp) he R k F ⟨_, Heap.get?_push_size _ rfl, rfl, rfl⟩ fps item hR

theorem range_small {a b c : Int} (h : rangeOk a b c = true) : Builtin.Range.small a b c = true ∧ 0 ≤ Builtin.Range.rangeSize a b c := by
  simp only [rangeOk, Bool.and_eq_true, decide_eq_true_eq] at h
  obtain ⟨⟨⟨h1, h2⟩, h3⟩, h4⟩ := h
  have hz : 0 ≤ Builtin.Range.rangeSize a b c ∧ Builtin.Range.rangeSize a b c ≤ 2 ^ 62 := by
    unfold Builtin.Range.rangeSize
    rw [if_pos h3]
    split
    · have e1 : 0 ≤ (b - a - 1) / c := Int.ediv_nonneg (by omega) (by omega)
      have e2 : (b - a - 1) / c ≤ b - a - 1 := Int.ediv_le_self _ (by omega)
      omega
    · omega
  refine ⟨?_, hz.1⟩
  unfold Builtin.Range.small
  have f1 : Builtin.Range.rangeFitsLong a = true := by simp only [Builtin.Range.rangeFitsLong, Bool.and_eq_true, decide_eq_true_eq]; omega
  have f2 : Builtin.Range.rangeFitsLong b = true := by simp only [Builtin.Range.rangeFitsLong, Bool.and_eq_true, decide_eq_true_eq]; omega
  have f3 : Builtin.Range.rangeFitsLong c = true := by simp only [Builtin.Range.rangeFitsLong, Bool.and_eq_true, decide_eq_true_eq]; omega
  have f4 : Builtin.Range.rangeFitsLong (Builtin.Range.rangeSize a b c) = true := by simp only [Builtin.Range.rangeFitsLong, Bool.and_eq_true, decide_eq_true_eq]; omega
  have f5 : Builtin.Range.rangeFitsLong (b + (c - 1)) = true := by simp only [Builtin.Range.rangeFitsLong, Bool.and_eq_true, decide_eq_true_eq]; omega
  rw [f1, f2, f3, f4, if_pos h3, f5]
  simp

theorem iter_range {a b c : Int} {t u v : Tok} {r : Addr} (eo : EnvOk env) (hb : SSs prog w B env Φ G n body) (hcb : chkSs G env.kindOf body = true) (hcx : chkL env.kindOf x = true) (hr : IsRange s.heap r a b c t u v) (ok : rangeOk a b c = true)
    (he : forL (bindT (.Name x p)) (fun ρ σ => execSs Φ G body ρ σ) (rangeP a b c) ρ σ = some (f, ρ', σ'))
    (R : Room n A) (k : Ok prog w B η σ s.heap) (F : Fm B env ρ η s.heap)
    (hR : ∀ fl η' h' tk, Step (Own env) η η' s.heap h' → Ok prog w B η' σ' h' → Fm B env ρ' η' h' → FlRep h' η' fl f → RR (.ok fl) { s with heap := h', toks := tk }) :
    wpAny (model prog w) A (pyIter (.ref r)) (fun it s₂ => codeAny (model prog w) A (.forLoop (.Name x p) it body [] env) RR s₂) E s := by
  obtain ⟨hs, h0⟩ := range_small ok
  refine wpAny_pyIter_range hr hs ?_
  have W : Walks prog w A s.heap.objs.size [s.heap.objs.size] [s.heap.objs.size] (Builtin.Range.rangeSize a b c).toNat _ _ := Walks.range R.handled s.heap.objs.size a c _
  refine push_loop eo hb hcb hcx _ W ?_ ?_ (by simp [rangeP]) he R k F ?_ (fun b hb => .inl (List.mem_singleton.mp hb)) ?_ hR
  · intro i h hi b hb
    rw [List.mem_singleton.mp hb]; exact ⟨_, hi⟩
  · intro i h hi b o hb e items m hd
    rw [List.mem_singleton.mp hb, hi] at e
    cases e; cases hd
  · show IsRangeIter _ _ _ _ _
    have e1 : a + ((0 : Nat) : Int) * c = a := by simp
    have e2 : ((Builtin.Range.rangeSize a b c).toNat : Int) - ((0 : Nat) : Int) = Builtin.Range.rangeSize a b c := by rw [Int.toNat_of_nonneg h0]; simp
    rw [e1, e2]
    exact Heap.get?_push_size _ rfl
  · rintro i v d ⟨t', rfl⟩ hd
    have hi : i < (Builtin.Range.rangeSize a b c).toNat := by
      have := (List.getElem?_eq_some_iff.mp hd).1
      simpa [rangeP] using this
    simp only [rangeP, List.getElem?_map, List.getElem?_range hi, Option.map_some, Option.some.injEq] at hd
    subst hd
    exact .int _ _
end
end

end Mine

set_option maxRecDepth 100000
namespace Mine
open PySem PySem.Spec PyProof.Rows

section
variable {prog : Program} {w : World} {A : Around} {E : Value → Shared → Prop} {s : Shared} {B : Heap} {η η' : List Addr} {σ : Store} {env : Env} {ρ : Locals} {mg mb : Str → Option Value} {G : Glob} {Φ : Fns} {n : Nat} {h h' : Heap}
variable {x : Str} {p : Pos} {body : List Stmt} {f : Fl} {ρ' : Locals} {σ' : Store} {RR : Result → Shared → Prop} {ds : List PV} {v : Value}

/-- a loop over a list of the store -/
theorem iter_loc {l m₀ : Nat} (eo : EnvOk env) (hb : SSs prog w B env Φ G n body) (hcb : chkSs G env.kindOf body = true) (hcx : chkL env.kindOf x = true) (r : Rep s.heap η v (.loc l)) (hi : items? σ (.loc l) = some ds) (he : forLoc (bindT (.Name x p)) (fun ρ σ => execSs Φ G body ρ σ) l m₀ 0 ρ σ = some (f, ρ', σ'))
    (R : Room n A) (k : Ok prog w B η σ s.heap) (F : Fm B env ρ η s.heap)
    (hR : ∀ fl η' h' tk, Step (Own env) η η' s.heap h' → Ok prog w B η' σ' h' → Fm B env ρ' η' h' → FlRep h' η' fl f → RR (.ok fl) { s with heap := h', toks := tk }) :
    wpAny (model prog w) A (pyIter v) (fun it s₂ => codeAny (model prog w) A (.forLoop (.Name x p) it body [] env) RR s₂) E s := by
  cases r with
  | loc ha =>
    rename_i a
    have hl : ∃ vs : List Value, s.heap.PlainList a vs.toArray ∧ RepAll s.heap η vs ds := by
      simp only [items?] at hi
      split at hi
      · rename_i hs; cases hi; exact RepObj.lst k ha hs
      · cases hi
    obtain ⟨vs, pl, rl⟩ := hl
    obtain ⟨nI, nO, nB⟩ := new_off k F
    refine wpAny_pyIter_list pl.isList ?_
    have x1 : Ext s.heap (s.heap.push { cls := .type "list_iterator", data := .fields #[.ref a, .int 0 0] }) := Ext.push _ _
    have fresh : s.heap.get? s.heap.objs.size = none := by
      cases e : s.heap.get? s.heap.objs.size with
      | none => rfl
      | some o => exact absurd (Heap.lt_size e) (Nat.lt_irrefl _)
    have hIa : a ≠ s.heap.objs.size := by obtain ⟨_, ho⟩ := pl; exact Nat.ne_of_lt (Heap.lt_size ho)
    refine codeAny_forLoop (fun m s' => ∃ i η₁ h₁ t₁ ρ₁ σ₁, s' = { s with heap := h₁, toks := t₁ } ∧ h₁.IsListIter s.heap.objs.size a i ∧ Step (Own env) η η₁ s.heap h₁ ∧ Ok prog w B η₁ σ₁ h₁ ∧ Fm B env ρ₁ η₁ h₁ ∧ s.heap.objs.size ∉ η₁ ∧
      forLoc (bindT (.Name x p)) (fun ρ σ => execSs Φ G body ρ σ) l m i ρ₁ σ₁ = some (f, ρ', σ')) ?_ m₀
      ⟨0, η, _, s.toks, ρ, σ, rfl, ⟨_, Heap.get?_push_size _ rfl, rfl, rfl⟩, Step.ext x1, k.ext x1, F.step (Step.ext x1), nI, he⟩
    rintro m s' ⟨i, η₁, h₁, t₁, ρ₁, σ₁, rfl, hit, sp1, k1, F1, hI1, he1⟩
    cases m with
    | zero => exact nomatch (show (none : Option (Fl × Locals × Store)) = some _ from he1)
    | succ m =>
      simp only [forLoc] at he1
      split at he1
      · rename_i ds₁ hs₁
        obtain ⟨us, pl1, rl1⟩ := RepObj.lst k1 (sp1.getη ha) hs₁
        have nsI : NoSeq (fun b => b = s.heap.objs.size) h₁ := fun b o hb e items q hd => by
          obtain ⟨o1, e1, _, d1⟩ := id hit
          subst hb; rw [e1] at e; cases e; rw [d1] at hd; cases hd
        have after : ∀ h₂, Heap.ExtBut s.heap.objs.size h₁ h₂ → Step (Own env) η η₁ s.heap h₂ ∧ Ok prog w B η₁ σ₁ h₂ ∧ Fm B env ρ₁ η₁ h₂ ∧ Step (fun b => b = s.heap.objs.size) η₁ η₁ h₁ h₂ := fun h₂ hx => by
          have sp2 : Step (fun b => b = s.heap.objs.size) η₁ η₁ h₁ h₂ := Step.extBut hx
          refine ⟨sp1.trans sp2 fun z hz => .inr (hz ▸ fresh), k1.keep (P := fun b => b = s.heap.objs.size) (fun b o e nb => hx b o nb e) nsI fun b hb => ⟨hb ▸ hI1, hb ▸ nB⟩, F1.stepP sp2 nsI fun b hb q => nO (q ▸ hb), sp2⟩
        split at he1
        · rename_i hd
          cases he1
          refine wpAny_pyNext_list_end R.handled hit pl1.isList (by
            have hl := rl1.length
            have h2 := List.getElem?_eq_none_iff.mp hd
            simp; omega) fun h₂ hx => ?_
          obtain ⟨a1, a2, a3, _⟩ := after h₂ hx
          exact wpAny_execs_nil (hR .next η₁ h₂ t₁ a1 a2 a3 trivial)
        · rename_i d hd
          obtain ⟨u, hu, ru⟩ := rl1.get hd
          simp only [bt_name, bt_tup] at he1
          refine wpAny_pyNext_list_item hit pl1.isList (x := u) (by simpa using hu) fun h₂ hit2 hsb => ?_
          obtain ⟨a1, a2, a3, a4⟩ := after h₂ hsb.extBut
          refine wpAny_assign_Name (store_ok eo a2 a3 hcx (ru.step a4 nsI) fun h₃ t₃ sp3 k3 F3 => ?_)
          have body_ok : ∀ {f₁ ρ₂ σ₂}, execSs Φ G body (upd ρ₁ x d) σ₁ = some (f₁, ρ₂, σ₂) → ∀ {E' : Value → Shared → Prop} {Q' : Flow → Shared → Prop},
              (∀ fl η₄ h₄ t₄, Step (Own env) η η₄ s.heap h₄ → Ok prog w B η₄ σ₂ h₄ → Fm B env ρ₂ η₄ h₄ → FlRep h₄ η₄ fl f₁ → h₄.IsListIter s.heap.objs.size a (i + 1) → s.heap.objs.size ∉ η₄ → Q' fl { s with heap := h₄, toks := t₄ }) →
              wpAny (model prog w) A (execs body env) Q' E' { s with heap := h₃, toks := t₃ } := fun {f₁ ρ₂ σ₂} e2 {E' Q'} hq =>
            hb _ _ _ ρ₂ σ₂ hcb e2 A { s with heap := h₃, toks := t₃ } η₁ E' Q' R k3 F3 fun fl η₄ h₄ t₄ sp4 k4 F4 r4 => by
              have sp34 : Step (Own env) η₁ η₄ h₂ h₄ := sp3.transS sp4
              obtain ⟨oI, eI, rI⟩ := hit2
              have kI := sp34.keep _ oI eI hI1 nO
              exact hq fl η₄ h₄ t₄ (a1.transS sp34) k4 F4 r4 ⟨oI, kI.1, rI⟩ kI.2
          split at he1
          · cases he1
          · rename_i ρ₂ σ₂ e2
            refine body_ok e2 fun fl η₄ h₄ t₄ sp4 k4 F4 r4 it4 nI4 => ?_
            cases fl with
            | next => exact ⟨m, Nat.lt_succ_self _, i + 1, η₄, h₄, t₄, ρ₂, σ₂, rfl, it4, sp4, k4, F4, nI4, he1⟩
            | _ => exact r4.elim
          · rename_i d' ρ₂ σ₂ e2
            cases he1
            refine body_ok e2 fun fl η₄ h₄ t₄ sp4 k4 F4 r4 it4 nI4 => ?_
            cases fl with
            | ret v' => exact hR (.ret v') η₄ h₄ t₄ sp4 k4 F4 r4
            | _ => exact r4.elim
      · cases he1

/-- a for over what an expression gives -/
theorem for_value {e : Expr} {pos : Pos} (eo : EnvOk env) (he : ES prog w B env Φ G n e) (hb : SSs prog w B env Φ G n body) (hc : chkS G env.kindOf (.For (.Name x p) e body [] pos) = true) (R : Room n A) (k : Ok prog w B η σ s.heap) (F : Fm B env ρ η s.heap) {Q : Flow → Shared → Prop}
    (hQ : ∀ fl η' h' tk, Step (Own env) η η' s.heap h' → Ok prog w B η' σ' h' → Fm B env ρ' η' h' → FlRep h' η' fl f → Q fl { s with heap := h', toks := tk })
    (hx : (match evalE Φ G e ρ σ with
      | some (.lst ds, σ₁) => forL (bindT (.Name x p)) (fun ρ σ => execSs Φ G body ρ σ) ds ρ σ₁
      | some (.tup ds, σ₁) => forL (bindT (.Name x p)) (fun ρ σ => execSs Φ G body ρ σ) ds ρ σ₁
      | some (.str y, σ₁) => forL (bindT (.Name x p)) (fun ρ σ => execSs Φ G body ρ σ) (y.cps.toList.map fun c => .str ⟨#[c]⟩) ρ σ₁
      | some (.loc l, σ₁) => match items? σ₁ (.loc l) with
        | some ds => forLoc (bindT (.Name x p)) (fun ρ σ => execSs Φ G body ρ σ) l (ds.length + 1) 0 ρ σ₁
        | none => none
      | _ => none) = some (f, ρ', σ')) : wpAny (model prog w) A (exec (.For (.Name x p) e body [] pos) env) Q E s := by
  simp only [cs_expr, cs_ret, cs_if, cs_name, cs_tuple, cs_for, cs_while, Bool.and_eq_true] at hc
  have fold : ∀ {r}, evalE Φ G e ρ σ = some r → ∀ z, foldedSetIterable e env z = pure z := fun {r} h z => by
    cases e <;> first | rfl | (exact nomatch (show (none : Option (PV × Store)) = some _ from h))
  split at hx
  · rename_i ds σ₁ e1
    refine wpAny_For (he ρ σ _ σ₁ hc.1.1.2 e1 A s η E _ R k F fun v η₁ H₁ t₁ s1 k1 r1 => ?_) (fold e1)
    exact iter_lst (s := { s with heap := H₁, toks := t₁ }) eo hb hc.1.2 hc.1.1.1 r1 hx R k1 (F.step s1) fun fl η₂ h₂ t₂ s2 k2 F2 r2 => hQ fl η₂ h₂ t₂ (s1.own.transS s2) k2 F2 r2
  · rename_i ds σ₁ e1
    refine wpAny_For (he ρ σ _ σ₁ hc.1.1.2 e1 A s η E _ R k F fun v η₁ H₁ t₁ s1 k1 r1 => ?_) (fold e1)
    exact iter_tup (s := { s with heap := H₁, toks := t₁ }) eo hb hc.1.2 hc.1.1.1 r1 hx R k1 (F.step s1) fun fl η₂ h₂ t₂ s2 k2 F2 r2 => hQ fl η₂ h₂ t₂ (s1.own.transS s2) k2 F2 r2
  · rename_i y σ₁ e1
    refine wpAny_For (he ρ σ _ σ₁ hc.1.1.2 e1 A s η E _ R k F fun v η₁ H₁ t₁ s1 k1 r1 => ?_) (fold e1)
    exact iter_str (s := { s with heap := H₁, toks := t₁ }) eo hb hc.1.2 hc.1.1.1 r1 hx R k1 (F.step s1) fun fl η₂ h₂ t₂ s2 k2 F2 r2 => hQ fl η₂ h₂ t₂ (s1.own.transS s2) k2 F2 r2
  · rename_i l σ₁ e1
    split at hx
    · rename_i ds hi
      refine wpAny_For (he ρ σ _ σ₁ hc.1.1.2 e1 A s η E _ R k F fun v η₁ H₁ t₁ s1 k1 r1 => ?_) (fold e1)
      exact iter_loc (s := { s with heap := H₁, toks := t₁ }) eo hb hc.1.2 hc.1.1.1 r1 hi hx R k1 (F.step s1) fun fl η₂ h₂ t₂ s2 k2 F2 r2 => hQ fl η₂ h₂ t₂ (s1.own.transS s2) k2 F2 r2
    · cases hx
  · cases hx
end

end Mine

set_option maxRecDepth 100000
namespace Mine
open PySem PySem.Spec PyProof.Rows

section
variable {prog : Program} {w : World} {A : Around} {E : Value → Shared → Prop} {s : Shared} {B : Heap} {η η' : List Addr} {σ : Store} {env : Env} {ρ : Locals} {mg mb : Str → Option Value} {G : Glob} {Φ : Fns} {n : Nat} {h h' : Heap}
variable {x : Str} {p : Pos} {body : List Stmt} {f : Fl} {ρ' : Locals} {σ' : Store} {RR : Result → Shared → Prop} {ds : List PV} {v : Value}

theorem for_range {args : List Expr} {q pf pos : Pos} {rn : Str} (C : Cx B mg mb G) (eo : EnvOk env) (ha : ESs prog w B env Φ G n args) (hb : SSs prog w B env Φ G n body) (hrn : rn = "range" ∧ G.isB rn = true)
    (hc : chkS G env.kindOf (.For (.Name x p) (.Call (.Name rn pf) args [] q) body [] pos) = true) (R : Room n A) (k : Ok prog w B η σ s.heap) (F : Fm B env ρ η s.heap) {Q : Flow → Shared → Prop}
    (hQ : ∀ fl η' h' tk, Step (Own env) η η' s.heap h' → Ok prog w B η' σ' h' → Fm B env ρ' η' h' → FlRep h' η' fl f → Q fl { s with heap := h', toks := tk })
    (hx : (match evalEs Φ G args ρ σ with
      | none => none
      | some (vs, σ₁) => match rangeArgs vs with
        | some ds => forL (bindT (.Name x p)) (fun ρ σ => execSs Φ G body ρ σ) ds ρ σ₁
        | none => none) = some (f, ρ', σ')) : wpAny (model prog w) A (exec (.For (.Name x p) (.Call (.Name rn pf) args [] q) body [] pos) env) Q E s := by
  simp only [cs_expr, cs_ret, cs_if, cs_name, cs_tuple, cs_for, cs_while, ck_name, ck_binop, ck_unop, ck_boolop, ck_cmp, ck_call, ck_meth, ck_slice, ck_list, ck_tuple, Bool.and_eq_true] at hc
  obtain ⟨rfl, hg⟩ := hrn
  have hG : G "range" = .builtin := by
    unfold Glob.isB at hg
    split at hg
    · assumption
    · cases hg
  split at hx
  · cases hx
  · rename_i vs σ₁ e1
    split at hx
    · rename_i ds hr
      refine wpAny_For ?_ (fun _ => rfl)
      refine wpAny_Call_Name_kw ?_
      show wpAny (model prog w) A (eval (.Name "range" pf) env) (fun f s₁ => wpAny (model prog w) A (callWith q f [] (backTo q (starEach args env)) []) _ E s₁) E s
      refine name_builtin C k eo hc.1.1.2.1 hG (v := .type "range") (by decide +kernel) ?_
      have hA := fun (Q : Args → Shared → Prop) => ha.args (A := A) (s := s) (E := E) (Q := Q) hc.1.1.2.2 e1 (pos := q) (f := .type "range") R k F
      refine PySem.callWith_type (hA (fun _ _ => True) fun _ _ _ _ _ _ _ => trivial).2.1 ((hA _ fun ws η₁ H₁ t₁ s1 k1 r1 => ?_).1)
      have go : ∀ (a b c : Int) (t u v : Tok) (tk : Nat), rangeOk a b c = true → ds = rangeP a b c →
          wpAny (model prog w) A (pyIter (.ref H₁.objs.size)) (fun it s₂ => codeAny (model prog w) A (.forLoop (.Name x p) it body [] env) (fun r s' => match r with | .ok f => Q f s' | .error e => cameBackBy (model prog w) A env E e s') s₂) E
            { s with heap := H₁.push { cls := .type "range", data := .fields #[.int a t, .int b u, .int c v] }, toks := tk } := fun a b c t u v tk ok hds => by
        subst hds
        have x2 : Ext H₁ (H₁.push { cls := .type "range", data := .fields #[.int a t, .int b u, .int c v] }) := Ext.push _ _
        refine iter_range (s := { s with heap := H₁.push { cls := .type "range", data := .fields #[.int a t, .int b u, .int c v] }, toks := tk }) eo hb hc.1.2 hc.1.1.1 (IsRange.new H₁ a b c t u v) ok hx R (k1.ext x2) ((F.step s1).step (Step.ext x2)) fun fl η₂ h₂ t₂ s2 k2 F2 r2 => ?_
        exact hQ fl η₂ h₂ t₂ ((s1.trans0 (Step.ext x2)).own.transS s2) k2 F2 r2
      unfold rangeArgs at hr
      split at hr
      · split at hr
        · rename_i ok
          cases hr
          cases r1 with | cons a r1 => cases r1; cases a with | int i t =>
            exact call_range_1 (go 0 _ 1 _ _ _ _ ok rfl)
        · cases hr
      · split at hr
        · rename_i ok
          cases hr
          cases r1 with | cons a r1 => cases r1 with | cons b r1 => cases r1; cases a with | int i t => cases b with | int j u =>
            exact call_range_2 (go _ _ 1 _ _ _ _ ok rfl)
        · cases hr
      · split at hr
        · rename_i ok
          cases hr
          cases r1 with | cons a r1 => cases r1 with | cons b r1 => cases r1 with | cons c r1 => cases r1; cases a with | int i t => cases b with | int j u => cases c with | int l v =>
            have hok := ok
            simp only [rangeOk, Bool.and_eq_true, decide_eq_true_eq] at hok
            exact call_range_3 (by omega) (go _ _ _ _ _ _ _ ok rfl) (.inl (PyProof.noPylong_small (by omega)))
        · cases hr
      · cases hr
    · cases hx

theorem SS.for {e : Expr} {pos : Pos} (C : Cx B mg mb G) (eo : EnvOk env) (he : ES prog w B env Φ G n e) (ha : ∀ f q args r, e = .Call (.Name f q) args [] r → ESs prog w B env Φ G n args) (hb : SSs prog w B env Φ G n body) : SS prog w B env Φ G n (.For (.Name x p) e body [] pos) := by
  intro ρ σ f ρ' σ' hc hx A s η E Q R k F hQ
  simp only [x_expr, x_ret, x_if, xa_nil, xa_one, xa_dict, x_for] at hx
  cases hr : rangeOf G e with
  | none => rw [hr] at hx; exact for_value eo he hb hc R k F hQ hx
  | some args =>
    rw [hr] at hx
    unfold rangeOf at hr
    split at hr
    · split at hr
      · rename_i hrn
        cases hr
        exact for_range C eo (ha _ _ _ _ rfl) hb hrn hc R k F hQ hx
      · cases hr
    · cases hr

theorem SS.none {st : Stmt} (h : ∀ ρ σ, execS Φ G st ρ σ = none) : SS prog w B env Φ G n st := by
  intro ρ σ f ρ' σ' hc he; rw [h] at he; cases he
theorem SS.no {st : Stmt} (h : chkS G env.kindOf st = false) : SS prog w B env Φ G n st := by
  intro ρ σ f ρ' σ' hc he; rw [h] at hc; cases hc

mutual
theorem soundS (D : Gnd prog w B mg mb G Φ n env) : ∀ st : Stmt, SS prog w B env Φ G n st
  | .Expr e p => SS.expr D.eo (soundE D e)
  | .Return (some e) p => SS.ret (soundE D e)
  | .Return none p => SS.none fun ρ σ => rfl
  | .If t b o p => SS.ite (soundT D t) (soundSs D b) (soundSs D o)
  | .Assign ts e p => by
    have he := soundE D e
    match ts with
    | [.Name x q] => exact SS.assignName D.eo he fun y r _ => soundE D y
    | [.Tuple es kk q] => exact SS.assignTuple D.eo he
    | [] => exact SS.no rfl
    | a :: b :: c => exact SS.no (by cases a <;> rfl)
    | [t] =>
      cases t with
      | Name x q => exact SS.assignName D.eo he fun y r _ => soundE D y
      | Tuple es kk q => exact SS.assignTuple D.eo he
      | Subscript a b q => exact SS.no rfl
      | _ => exact SS.no rfl
  | .For t e b o p => by
    have hb := soundSs D b
    cases t with
    | Name x q =>
      cases o with
      | nil => exact SS.for D.C D.eo (soundE D e) (fun f q args r _ => ESs.of_all _ (soundAll D args)) hb
      | cons => exact SS.none fun ρ σ => rfl
    | _ => exact SS.no rfl
  | .While t b o p => by
    have hb := soundSs D b
    cases o with
    | nil => exact SS.none fun ρ σ => rfl
    | cons => exact SS.none fun ρ σ => rfl
  | .Raise .. => SS.none fun ρ σ => rfl
  | .FunctionDef .. => SS.no rfl
  | .AsyncFunctionDef .. => SS.no rfl
  | .ClassDef .. => SS.no rfl
  | .Delete .. => SS.no rfl
  | .TypeAlias .. => SS.no rfl
  | .AugAssign .. => SS.no rfl
  | .AnnAssign .. => SS.no rfl
  | .AsyncFor .. => SS.no rfl
  | .With .. => SS.no rfl
  | .AsyncWith .. => SS.no rfl
  | .Match .. => SS.no rfl
  | .Try .. => SS.no rfl
  | .TryStar .. => SS.no rfl
  | .Assert .. => SS.no rfl
  | .Import .. => SS.no rfl
  | .ImportFrom .. => SS.no rfl
  | .Global .. => SS.no rfl
  | .Nonlocal .. => SS.no rfl
  | .Pass .. => SS.no rfl
  | .Break .. => SS.no rfl
  | .Continue .. => SS.no rfl
theorem soundSs (D : Gnd prog w B mg mb G Φ n env) : ∀ sts : List Stmt, SSs prog w B env Φ G n sts
  | [] => SSs.nil
  | st :: rest => SSs.cons (soundS D st) (soundSs D rest)
end

/-! calls -/
noncomputable def bindP (names : List Str) (vs : List PV) : Locals := fun y => (names.zip vs).reverse.lookup y

theorem bindP_rep {names : List Str} {vs : List PV} {ws : List Value} (r : RepAll h η ws vs) (y : Str) (d : PV) (e : bindP names vs y = some d) : ∃ v, (names.zip ws).reverse.lookup y = some v ∧ Rep h η v d ∧ y ∈ names := by
  have key : ∀ (l : List (Str × PV)) (l' : List (Str × Value)), l.length = l'.length → (∀ (i : Nat) (a : Str × PV) (b : Str × Value), l[i]? = some a → l'[i]? = some b → a.1 = b.1 ∧ Rep h η b.2 a.2) → l.lookup y = some d → ∃ v, l'.lookup y = some v ∧ Rep h η v d ∧ y ∈ l.map (·.1) := by
    intro l
    induction l with
    | nil => intro l' _ _ e; cases e
    | cons a l ih =>
      intro l' hl hr e
      cases l' with
      | nil => cases hl
      | cons b l' =>
        obtain ⟨h1, h2⟩ := hr 0 a b rfl rfl
        obtain ⟨a1, a2⟩ := a
        obtain ⟨b1, b2⟩ := b
        simp only at h1 h2
        subst h1
        rw [List.lookup_cons] at e ⊢
        split at e
        · rename_i q
          cases e
          exact ⟨b2, rfl, h2, by simp [beq_iff_eq.mp q]⟩
        · rename_i q
          obtain ⟨v, e1, e2, e3⟩ := ih l' (by simpa using hl) (fun i u v hu hv => hr (i + 1) u v hu hv) e
          exact ⟨v, e1, e2, by simp [e3]⟩
  have hlen := r.length
  obtain ⟨v, e1, e2, e3⟩ := key _ (names.zip ws).reverse (by simp [List.length_zip, hlen]) (fun i a b ha hb => by
    have hl1 : (names.zip vs).length = (names.zip ws).length := by simp [List.length_zip, hlen]
    have hi : i < (names.zip vs).length := by have := (List.getElem?_eq_some_iff.mp ha).1; simpa using this
    rw [List.getElem?_reverse hi] at ha
    rw [List.getElem?_reverse (by omega), ← hl1] at hb
    generalize (names.zip vs).length - 1 - i = j at ha hb
    rw [List.getElem?_zip_eq_some] at ha hb
    obtain ⟨u, hu, ru⟩ := r.get ha.2
    rw [hb.2] at hu
    cases hu
    have : a.1 = b.1 := by have h1 := ha.1.symm.trans hb.1; exact Option.some.inj h1
    exact ⟨this, ru⟩) e
  refine ⟨v, e1, e2, ?_⟩
  obtain ⟨⟨a, b⟩, hm, rfl⟩ := List.mem_map.mp e3
  exact (List.of_mem_zip (List.mem_reverse.mp hm)).1

theorem Room.mono {m : Nat} (R : Room n A) (hm : m ≤ n) : Room m A := ⟨R.handled, by have := R.depth; omega, by have := R.units; omega⟩
theorem Room.deeper (R : Room (n + 1) A) (env : Env) : Room n (A.deeper env) := ⟨R.handled, by have h := R.depth; show A.depth + 1 + n < _; omega, by have h := R.units; show A.units + 3 + 3 * n + 100 < _; omega⟩

/-- one more function -/
theorem FnsOk.add (C : Cx B mg mb G) (Fn : FnsOk prog w B mg Φ n) {fn name : Str} {params : Arguments} {body : List Stmt} {scope : Scope} {pm code doc : Value} {a : Addr} {o : Obj} (names : List Str) (g : List PV → Store → Option (PV × Store))
    (hm : mg fn = some (.ref a)) (ho : B.get? a = some o) (hd : o.data = .func (Calls.docDef name params body scope pm code doc)) (hcd : B.CodeRec code name)
    (hbind : ∀ ws : List Value, ws.length = names.length → bindArgs (Calls.docDef name params body scope pm code doc) ⟨ws, []⟩ = pure (names.zip ws))
    (hnames : (names.all fun y => decide (scope.names.lookup y = some .local)) = true) (hchk : chkSs G (fun y => scope.names.lookup y) body = true) (hcell : ∀ y ∈ scope.names, y.2 ≠ .cell)
    (hco : scope.isCoroutine = false) (hgen : scope.isGenerator = false) (hk : scope.kind = .function)
    (hg : ∀ vs σ d σ', g vs σ = some (d, σ') → vs.length = names.length ∧ ∃ ρ', execSs Φ G body (bindP names vs) σ = some (.ret d, ρ', σ')) :
    FnsOk prog w B mg (fun y vs σ => if y = fn then g vs σ else Φ y vs σ) (n + 1) := by
  intro y vs σ d σ' hy
  simp only at hy
  split at hy
  · rename_i hyf
    subst hyf
    refine ⟨a, o, _, hm, ho, hd, ?_⟩
    intro A s η E Q ws R k r hQ
    obtain ⟨hlen, ρ', hx⟩ := hg vs σ d σ' hy
    have hlw : ws.length = names.length := by rw [r.length, hlen]
    have ext := k.extB
    refine wpAny_call ?_
    refine codeAny_call_def (fd := Calls.docDef name params body scope pm code doc) (body := body) (binds := names.zip ws) (by have := R.depth; omega) (ext _ _ ho) hd (C.nolimit.keeps ext) (hcd.keeps ext) rfl (BindsTo.of_eq (hbind ws hlw)) hcell (fun z hz => ?_) (fun h₀ hns hk₀ => ?_) hco hgen hk
    · have h1 := (List.of_mem_zip hz).1
      have := List.all_eq_true.mp hnames z.1 h1
      exact of_decide_eq_true this
    · have fresh : s.heap.get? s.heap.objs.size = none := by
        cases e : s.heap.get? s.heap.objs.size with
        | none => rfl
        | some o => exact absurd (Heap.lt_size e) (Nat.lt_irrefl _)
      have nB : B.get? s.heap.objs.size = none := by
        cases e : B.get? s.heap.objs.size with
        | none => rfl
        | some o => exact absurd (Heap.lt_size (k.base _ _ e).1) (Nat.lt_irrefl _)
      have st0 : Step (fun _ => False) η η s.heap h₀ := Step.ext hk₀
      have k0 := k.ext hk₀
      have own : ∀ b, Own (callEnv (Calls.docDef name params body scope pm code doc) s.heap.objs.size a) b → b = s.heap.objs.size := by
        rintro b (hb | ⟨z, hz⟩)
        · exact hb
        · cases hz
      have F0 : Fm B (callEnv (Calls.docDef name params body scope pm code doc) s.heap.objs.size a) (bindP names vs) η h₀ := by
        refine ⟨⟨_, hns, fun z d' hz hr => ?_⟩, fun z d' hz hr => ?_, fun z hz => ?_, fun z d' hr => ?_, fun b hb => ?_, fun b hb => ?_, fun z c hz => (by cases hz), fun z y c hz => (by cases hz)⟩
        · obtain ⟨v, e1, e2, _⟩ := bindP_rep (r.ext hk₀) z d' hr
          exact ⟨v, e1, e2⟩
        · obtain ⟨v, e1, e2, e3⟩ := bindP_rep (r.ext hk₀) z d' hr
          have h1 := List.all_eq_true.mp hnames z e3
          have h2 : scope.names.lookup z = some .cell := hz
          simp [h2] at h1
        · have h2 : scope.names.lookup z = some .cell := hz
          exact absurd rfl (hcell (z, .cell) (by
            have := List.lookup_eq_some_iff.mp h2
            obtain ⟨l1, l2, e, _⟩ := this
            rw [e]; simp))
        · obtain ⟨v, e1, e2, e3⟩ := bindP_rep (r.ext hk₀) z d' hr
          have h1 := List.all_eq_true.mp hnames z e3
          exact .inl (of_decide_eq_true h1)
        · rw [own b hb]; exact ⟨k.fresh, nB⟩
        · rw [own b hb]
          obtain ⟨ob, es, ep, e1, e2, _⟩ := hns
          exact ⟨ob, e1, fun items m q => by rw [e2] at q; cases q⟩
      have D : Gnd prog w B mg mb G Φ n (callEnv (Calls.docDef name params body scope pm code doc) s.heap.objs.size a) := ⟨C, Fn, ⟨hk, rfl, rfl⟩⟩
      refine soundSs D body _ _ _ ρ' σ' hchk hx (A.deeper (callEnv (Calls.docDef name params body scope pm code doc) s.heap.objs.size a)) { s with heap := h₀, toks := s.toks + (names.zip ws).length } η _ _ (R.deeper _) k0 F0 fun fl η₁ h₁ t₁ s1 k1 F1 r1 => ?_
      cases fl with
      | ret v => exact hQ v η₁ h₁ t₁ (st0.trans s1 fun z hz => .inr (by rw [own z hz]; exact fresh)) k1 r1
      | _ => exact r1.elim
  · obtain ⟨a', o', fd, m1, m2, m3, hc⟩ := Fn y vs σ d σ' hy
    exact ⟨a', o', fd, m1, m2, m3, fun A s η E Q ws R => hc A s η E Q ws (R.mono (by omega))⟩

theorem FnsOk.nil : FnsOk prog w B mg (fun _ _ _ => none) 0 := by
  intro y vs σ d σ' hy; cases hy
end

end Mine

set_option maxRecDepth 100000
namespace Mine
open PySem PySem.Spec PyProof.Rows

/-- the def of a name, as the text writes it -/
noncomputable def asDef : Stmt → Option DefRec
  | .FunctionDef name args body _ _ _ scope _ _ pos => some ⟨name, args, body, scope, pos⟩
  | _ => none
noncomputable def dOf (p : Program) (f : String) : DefRec := ((p.main.body.filterMap asDef).find? (fun d => d.name == Str.ofString f)).getD ⟨Str.empty, ⟨[], [], none, [], [], none, []⟩, [], ⟨.module, [], false, false, []⟩, ⟨0, 0, 0, 0⟩⟩

theorem ofString_inj {a b : String} : Str.ofString a = Str.ofString b ↔ a = b := by
  constructor
  · intro h
    rw [Str.ofString_eq_toList, Str.ofString_eq_toList] at h
    injection h with h
    have h1 : a.toList.map Char.toNat = b.toList.map Char.toNat := by simpa using congrArg Array.toList h
    have h2 : a.toList = b.toList := by
      refine (List.map_inj_right fun x y hxy => ?_).mp h1
      exact Char.toNat_inj.mp hxy
    exact String.toList_inj.mp h2
  · rintro rfl; rfl
theorem ofString_beq {a b : String} : (Str.ofString a == Str.ofString b) = (a == b) := by
  by_cases h : a = b
  · subst h; simp
  · rw [beq_eq_false_iff_ne.mpr fun q => h (ofString_inj.mp q), beq_eq_false_iff_ne.mpr h]
theorem ofString_dec {a b : String} : decide (Str.ofString a = Str.ofString b) = decide (a = b) := by simp only [ofString_inj]

end Mine

set_option maxRecDepth 100000
namespace Mine
open PySem PySem.Spec PyProof.Rows

/-- a function, interpreted over those before it -/
noncomputable def interpF (Φ : Fns) (G : Glob) (d : DefRec) (vs : List PV) (σ : Store) : Option (PV × Store) :=
  if vs.length = (d.params.args.map (·.arg)).length then
    match execSs Φ G d.body (bindP (d.params.args.map (·.arg)) vs) σ with
    | some (.ret v, _, σ') => some (v, σ')
    | _ => none
  else none

/-- the table of the text's functions, the last one first -/
noncomputable def Phi (G : Glob) (p : Program) : List String → Fns
  | [] => fun _ _ _ => none
  | f :: fs => fun y vs σ => if y = Str.ofString f then interpF (Phi G p fs) G (dOf p f) vs σ else Phi G p fs y vs σ

noncomputable def chkF (G : Glob) (d : DefRec) : Bool :=
  ((d.params.args.map (·.arg)).all fun y => decide (d.scope.names.lookup y = some .local)) && chkSs G (fun y => d.scope.names.lookup y) d.body && (d.scope.names.all fun y => decide (y.2 ≠ .cell)) &&
  !d.scope.isCoroutine && !d.scope.isGenerator && decide (d.scope.kind = .function)

/-- what is asked of each function of the text -/
structure Stat (q p : Program) (G : Glob) (f : String) : Prop where
  recd : (recsOf q).find? (fun e => e.name == Str.ofString f) = some (dOf p f)
  chk : chkF G (dOf p f) = true
  bind : ∀ (ws : List Value) (pm code doc : Value), ws.length = ((dOf p f).params.args.map (·.arg)).length →
    bindArgs (Calls.docDef (dOf p f).name (dOf p f).params (dOf p f).body (dOf p f).scope pm code doc) ⟨ws, []⟩ = pure (((dOf p f).params.args.map (·.arg)).zip ws)

section
variable {prog : Program} {w : World} {B : Heap} {mg mb : Str → Option Value} {G : Glob} {p q : Program} {loose : List Str} {mean : ExcName → Option Value}

theorem phi_ok (C : Cx B mg mb G) (T : Top q loose mean mg mb B) : ∀ (fs : List String), (∀ f ∈ fs, Stat q p G f) → FnsOk prog w B mg (Phi G p fs) fs.length
  | [], _ => FnsOk.nil
  | f :: fs, h => by
    have ih := phi_ok C T fs fun x hx => h x (.tail _ hx)
    have S := h f (.head _)
    have hmem := List.mem_of_find?_eq_some S.recd
    have hname : (dOf p f).name = Str.ofString f := by
      have := List.find?_some S.recd
      simpa using this
    obtain ⟨a, o, pm, code, doc, m1, m2, m3, m4⟩ := T.fn _ hmem
    have hc := S.chk
    simp only [chkF, Bool.and_eq_true, Bool.not_eq_true', decide_eq_true_eq] at hc
    obtain ⟨⟨⟨⟨⟨c1, c2⟩, c3⟩, c4⟩, c5⟩, c6⟩ := hc
    rw [hname] at m1
    refine FnsOk.add C ih ((dOf p f).params.args.map (·.arg)) (interpF (Phi G p fs) G (dOf p f)) m1 m2 m3 m4 (fun ws hw => S.bind ws pm code doc hw) c1 c2 (fun y hy => ?_) c4 c5 c6 fun vs σ d σ' hg => ?_
    · have := List.all_eq_true.mp c3 y hy
      exact of_decide_eq_true this
    · unfold interpF at hg
      split at hg
      · rename_i hl
        refine ⟨hl, ?_⟩
        split at hg
        · rename_i v ρ' σ'' e
          cases hg
          exact ⟨ρ', e⟩
        · cases hg
      · cases hg
end

/-! the binding of arguments, by their number -/
section
variable {p : Program} {f : String}
theorem bind1 (hn : ((dOf p f).params.args.map (·.arg)).length = 1) (h : ∀ (a : Value) (pm code doc : Value), bindArgs (Calls.docDef (dOf p f).name (dOf p f).params (dOf p f).body (dOf p f).scope pm code doc) ⟨[a], []⟩ = pure (((dOf p f).params.args.map (·.arg)).zip [a])) :
    ∀ (ws : List Value) (pm code doc : Value), ws.length = ((dOf p f).params.args.map (·.arg)).length → bindArgs (Calls.docDef (dOf p f).name (dOf p f).params (dOf p f).body (dOf p f).scope pm code doc) ⟨ws, []⟩ = pure (((dOf p f).params.args.map (·.arg)).zip ws) := by
  intro ws pm code doc hw
  rw [hn] at hw
  match ws, hw with
  | [a], _ => exact h a pm code doc
theorem bind2 (hn : ((dOf p f).params.args.map (·.arg)).length = 2) (h : ∀ (a b : Value) (pm code doc : Value), bindArgs (Calls.docDef (dOf p f).name (dOf p f).params (dOf p f).body (dOf p f).scope pm code doc) ⟨[a, b], []⟩ = pure (((dOf p f).params.args.map (·.arg)).zip [a, b])) :
    ∀ (ws : List Value) (pm code doc : Value), ws.length = ((dOf p f).params.args.map (·.arg)).length → bindArgs (Calls.docDef (dOf p f).name (dOf p f).params (dOf p f).body (dOf p f).scope pm code doc) ⟨ws, []⟩ = pure (((dOf p f).params.args.map (·.arg)).zip ws) := by
  intro ws pm code doc hw
  rw [hn] at hw
  match ws, hw with
  | [a, b], _ => exact h a b pm code doc
theorem bind3 (hn : ((dOf p f).params.args.map (·.arg)).length = 3) (h : ∀ (a b c : Value) (pm code doc : Value), bindArgs (Calls.docDef (dOf p f).name (dOf p f).params (dOf p f).body (dOf p f).scope pm code doc) ⟨[a, b, c], []⟩ = pure (((dOf p f).params.args.map (·.arg)).zip [a, b, c])) :
    ∀ (ws : List Value) (pm code doc : Value), ws.length = ((dOf p f).params.args.map (·.arg)).length → bindArgs (Calls.docDef (dOf p f).name (dOf p f).params (dOf p f).body (dOf p f).scope pm code doc) ⟨ws, []⟩ = pure (((dOf p f).params.args.map (·.arg)).zip ws) := by
  intro ws pm code doc hw
  rw [hn] at hw
  match ws, hw with
  | [a, b, c], _ => exact h a b c pm code doc
theorem bind4 (hn : ((dOf p f).params.args.map (·.arg)).length = 4) (h : ∀ (a b c d : Value) (pm code doc : Value), bindArgs (Calls.docDef (dOf p f).name (dOf p f).params (dOf p f).body (dOf p f).scope pm code doc) ⟨[a, b, c, d], []⟩ = pure (((dOf p f).params.args.map (·.arg)).zip [a, b, c, d])) :
    ∀ (ws : List Value) (pm code doc : Value), ws.length = ((dOf p f).params.args.map (·.arg)).length → bindArgs (Calls.docDef (dOf p f).name (dOf p f).params (dOf p f).body (dOf p f).scope pm code doc) ⟨ws, []⟩ = pure (((dOf p f).params.args.map (·.arg)).zip ws) := by
  intro ws pm code doc hw
  rw [hn] at hw
  match ws, hw with
  | [a, b, c, d], _ => exact h a b c d pm code doc
end

/-! names that are bound -/
noncomputable def emp : Locals := fun _ => none
theorem bindP0 : bindP [] [] = emp := rfl
theorem lookup_snoc {α β : Type} [BEq α] [LawfulBEq α] [DecidableEq α] (l : List (α × β)) (x y : α) (v : β) : (l ++ [(x, v)]).reverse.lookup y = if y = x then some v else l.reverse.lookup y := by
  rw [List.reverse_append]
  show List.lookup y ((x, v) :: l.reverse) = _
  rw [List.lookup_cons]
  by_cases h : y = x
  · subst h; simp
  · rw [beq_eq_false_iff_ne.mpr h, if_neg h]
theorem bindP1 (x : Str) (a : PV) : bindP [x] [a] = upd emp x a := funext fun y => lookup_snoc [] x y a
theorem bindP2 (x y : Str) (a b : PV) : bindP [x, y] [a, b] = upd (upd emp x a) y b := by
  rw [← bindP1]; exact funext fun z => lookup_snoc [(x, a)] y z b
theorem bindP3 (x y z : Str) (a b c : PV) : bindP [x, y, z] [a, b, c] = upd (upd (upd emp x a) y b) z c := by
  rw [← bindP2]; exact funext fun u => lookup_snoc [(x, a), (y, b)] z u c
theorem bindP4 (x y z u : Str) (a b c d : PV) : bindP [x, y, z, u] [a, b, c, d] = upd (upd (upd (upd emp x a) y b) z c) u d := by
  rw [← bindP3]; exact funext fun t => lookup_snoc [(x, a), (y, b), (z, c)] u t d
theorem upd_str (ρ : Locals) (a b : String) (d : PV) : upd ρ (Str.ofString a) d (Str.ofString b) = if b = a then some d else ρ (Str.ofString b) := by
  unfold upd
  simp only [ofString_inj]
theorem emp_str (b : Str) : emp b = none := rfl

theorem phi_at {G : Glob} {p : Program} (pre : List String) (f : String) (fs : List String) (h : pre.all (fun g => !(f == g)) = true) : Phi G p (pre ++ f :: fs) (Str.ofString f) = interpF (Phi G p fs) G (dOf p f) := by
  induction pre with
  | nil => exact funext fun vs => funext fun σ => if_pos rfl
  | cons g pre ih =>
    rw [List.all_cons, Bool.and_eq_true, Bool.not_eq_true'] at h
    exact funext fun vs => funext fun σ => (if_neg fun q => beq_eq_false_iff_ne.mp h.1 (ofString_inj.mp q)).trans (congrFun (congrFun (ih h.2) vs) σ)

end Mine

set_option maxRecDepth 100000
namespace Mine
open PySem PySem.Spec PyProof.Rows PySem.W

theorem ints_rep {h : Heap} {vs : List Value} {ns : List Int} (hI : IntsAre vs ns) : RepAll h [] vs (ns.map PV.int) := by
  induction hI with
  | nil => exact .nil
  | cons n t _ ih => exact .cons (.int n t) ih

theorem room_caller {n : Nat} (hn : n ≤ 20) : Room n callerA := ⟨rfl, by
  have h1 : callerA.depth + 20 < recursionLimit := by decide
  omega, by
  have h1 : callerA.units + 3 * 20 + 100 < cLine := by decide
  omega⟩

theorem run_law {prog : Program} {w : World} {s : Shared} {mg mb : Str → Option Value} {G : Glob} {Φ : Fns} {n : Nat} (C : Cx s.heap mg mb G) (Fn : FnsOk prog w s.heap mg Φ n) (hn : n ≤ 20) {law : Str} {ns : List Int} {fa a : Addr} {vs : List Value} {σ' : Store} {xs : List WData} {P : Params}
    (hΦ : Φ law [.lst (ns.map .int)] [] = some (.bool true, σ')) (hmg : mg law = some (.ref fa)) (hL : s.heap.IsList a vs.toArray) (hW : Well P s.heap (.ref a) (.list xs)) (hI : IntsAre vs ns) {Q E : Value → Shared → Prop}
    (hQ : ∀ h' tk, Ext s.heap h' → Q (.bool true) { s with heap := h', toks := tk }) : wpAny (model prog w) callerA (call (.ref fa) [.ref a]) Q E s := by
  obtain ⟨a', o, fd, m1, m2, m3, hc⟩ := Fn law _ _ _ _ hΦ
  rw [hmg] at m1
  cases m1
  have hp : s.heap.PlainList a vs.toArray := by
    cases hW with
    | list e _ =>
      obtain ⟨o, ho, _, k, hd⟩ := hL
      rw [e] at ho
      cases ho
      cases hd
      exact ⟨_, e⟩
  have k : Ok prog w s.heap [] [] s.heap := by
    refine ⟨fun b o e => ⟨e, by simp⟩, .nil, rfl, ?_, (fun a ha => by cases ha), (fun i a o e => by simp at e)⟩
    obtain ⟨mc, ⟨o, es, ep, e, _⟩, _⟩ := C.nolimit
    exact ⟨o, e⟩
  refine hc callerA s [] E Q [.ref a] (room_caller hn) k (.cons (.lst (by simp) hp (ints_rep hI)) .nil) fun v η' h' tk st k' r => ?_
  cases r
  exact hQ h' tk fun b o e => (k'.base b o e).1

theorem law_good {c : ClaimW} {cl : Str → Option Addr} {mean : ExcName → Option Value} {args : List WData} {s₁ : Shared} {h' : Heap} {tk : Nat} (hg : s₁.gens = #[]) (hn : ∀ cls, c.raises args cls = false) (hp : c.post args (.bool true) args = true) (x : Ext s₁.heap h') :
    GoodWG c cl mean args s₁ (.ok (.ret (.bool true))) { s₁ with heap := h', toks := tk } :=
  GoodW.toG ⟨.inl ⟨.bool true, .bool true, [], rfl, hn, .bool true, hp, fun _ => ⟨.nil, fun a ha => nomatch ha⟩⟩, x, rfl, hg⟩

end Mine

set_option maxRecDepth 100000
namespace Mine
open PySem PySem.Spec PyProof.Rows

/-! loops by an invariant -/
section
variable {bind : PV → Locals → Option Locals} {run : Run} {ρ : Locals} {σ : Store}
theorem forL_inv (I : Nat → Locals → Store → Prop) (R : PV → Locals → Store → Prop) : ∀ (ds : List PV) (k : Nat) (ρ : Locals) (σ : Store), I k ρ σ →
    (∀ i d ρ σ, ds[i]? = some d → I (k + i) ρ σ → ∃ ρ₁ f ρ₂ σ₂, bind d ρ = some ρ₁ ∧ run ρ₁ σ = some (f, ρ₂, σ₂) ∧ ((f = .next ∧ I (k + i + 1) ρ₂ σ₂) ∨ ∃ v, f = .ret v ∧ R v ρ₂ σ₂)) →
    ∃ f ρ' σ', forL bind run ds ρ σ = some (f, ρ', σ') ∧ ((f = .next ∧ I (k + ds.length) ρ' σ') ∨ ∃ v, f = .ret v ∧ R v ρ' σ')
  | [], k, ρ, σ, h0, _ => ⟨.next, ρ, σ, rfl, .inl ⟨rfl, h0⟩⟩
  | d :: ds, k, ρ, σ, h0, step => by
    obtain ⟨ρ₁, f, ρ₂, σ₂, e1, e2, hf⟩ := step 0 d ρ σ rfl h0
    rcases hf with ⟨rfl, hI⟩ | ⟨v, rfl, hR⟩
    · obtain ⟨f, ρ', σ', e3, h3⟩ := forL_inv I R ds (k + 1) ρ₂ σ₂ hI fun i d ρ σ hd hi => by
        have := step (i + 1) d ρ σ hd (by rw [show k + (i + 1) = k + 1 + i by omega]; exact hi)
        rw [show k + (i + 1) + 1 = k + 1 + i + 1 by omega] at this
        exact this
      refine ⟨f, ρ', σ', ?_, ?_⟩
      · simp only [forL, e1, e2]; exact e3
      · rw [List.length_cons, show k + (ds.length + 1) = k + 1 + ds.length by omega]; exact h3
    · exact ⟨.ret v, ρ₂, σ₂, by simp only [forL, e1, e2], .inr ⟨v, rfl, hR⟩⟩

theorem forLoc_inv (l : Nat) (ds : List PV) (I : Nat → Locals → Store → Prop) (R : PV → Locals → Store → Prop) (hs : ∀ i ρ σ, I i ρ σ → σ[l]? = some (.list ds))
    (step : ∀ i d ρ σ, ds[i]? = some d → I i ρ σ → ∃ ρ₁ f ρ₂ σ₂, bind d ρ = some ρ₁ ∧ run ρ₁ σ = some (f, ρ₂, σ₂) ∧ ((f = .next ∧ I (i + 1) ρ₂ σ₂) ∨ ∃ v, f = .ret v ∧ R v ρ₂ σ₂)) :
    ∀ (m k : Nat) (ρ : Locals) (σ : Store), m + k = ds.length → I k ρ σ →
    ∃ f ρ' σ', forLoc bind run l (m + 1) k ρ σ = some (f, ρ', σ') ∧ ((f = .next ∧ I ds.length ρ' σ') ∨ ∃ v, f = .ret v ∧ R v ρ' σ')
  | 0, k, ρ, σ, hm, h0 => by
    have hk : ds[k]? = none := List.getElem?_eq_none (by omega)
    refine ⟨.next, ρ, σ, ?_, .inl ⟨rfl, by rw [← hm]; simpa using h0⟩⟩
    simp only [forLoc, hs k ρ σ h0, hk]
  | m + 1, k, ρ, σ, hm, h0 => by
    have hk : ds[k]? = some (ds[k]'(by omega)) := List.getElem?_eq_getElem (by omega)
    obtain ⟨ρ₁, f, ρ₂, σ₂, e1, e2, hf⟩ := step k _ ρ σ hk h0
    rcases hf with ⟨rfl, hI⟩ | ⟨v, rfl, hR⟩
    · obtain ⟨f, ρ', σ', e3, h3⟩ := forLoc_inv l ds I R hs step m (k + 1) ρ₂ σ₂ (by omega) hI
      refine ⟨f, ρ', σ', ?_, h3⟩
      rw [forLoc, hs k ρ σ h0]; simp only [hk, e1, e2]; exact e3
    · refine ⟨.ret v, ρ₂, σ₂, ?_, .inr ⟨v, rfl, hR⟩⟩
      rw [forLoc, hs k ρ σ h0]; simp only [hk, e1, e2]
end

/-! how a stretch ends: it goes on with K, or returns with R -/
noncomputable def Out (r : Option (Fl × Locals × Store)) (K : Locals → Store → Prop) (R : PV → Store → Prop) : Prop :=
  (∃ ρ' σ', r = some (.next, ρ', σ') ∧ K ρ' σ') ∨ ∃ v ρ' σ', r = some (.ret v, ρ', σ') ∧ R v σ'
noncomputable def No : Locals → Store → Prop := fun _ _ => False
noncomputable def NoR : PV → Store → Prop := fun _ _ => False
section
variable {Φ : Fns} {G : Glob} {st : Stmt} {rest : List Stmt} {ρ ρ₁ ρ₂ : Locals} {σ σ₁ σ₂ : Store} {v : PV} {K K' : Locals → Store → Prop} {R R' : PV → Store → Prop}
theorem out_nil (h : K ρ σ) : Out (execSs Φ G [] ρ σ) K R := .inl ⟨ρ, σ, rfl, h⟩
theorem out_cons (h : Out (execS Φ G st ρ σ) (fun ρ₁ σ₁ => Out (execSs Φ G rest ρ₁ σ₁) K R) R) : Out (execSs Φ G (st :: rest) ρ σ) K R := by
  rcases h with ⟨ρ', σ', e, h⟩ | ⟨v, ρ', σ', e, h⟩
  · have : execSs Φ G (st :: rest) ρ σ = execSs Φ G rest ρ' σ' := by rw [xs_cons, e]
    rw [this]; exact h
  · exact .inr ⟨v, ρ', σ', by rw [xs_cons, e], h⟩
theorem out_next (e : execS Φ G st ρ σ = some (.next, ρ₁, σ₁)) (h : Out (execSs Φ G rest ρ₁ σ₁) K R) : Out (execSs Φ G (st :: rest) ρ σ) K R := out_cons (.inl ⟨ρ₁, σ₁, e, h⟩)
theorem out_ret (e : execS Φ G st ρ σ = some (.ret v, ρ₁, σ₁)) (h : R v σ₁) : Out (execSs Φ G (st :: rest) ρ σ) K R := out_cons (.inr ⟨v, ρ₁, σ₁, e, h⟩)
theorem out_some (h : K ρ σ) : Out (some (.next, ρ, σ)) K R := .inl ⟨ρ, σ, rfl, h⟩
theorem out_rets (h : R v σ) : Out (some (.ret v, ρ, σ)) K R := .inr ⟨v, ρ, σ, rfl, h⟩
theorem out_if {t : Expr} {b o : List Stmt} {pos : Pos} {c : Bool} (e : evalT Φ G t ρ σ = some (c, σ₁)) (h1 : c = true → Out (execSs Φ G b ρ σ₁) K R) (h2 : c = false → Out (execSs Φ G o ρ σ₁) K R) : Out (execS Φ G (.If t b o pos) ρ σ) K R := by
  have : execS Φ G (.If t b o pos) ρ σ = if c then execSs Φ G b ρ σ₁ else execSs Φ G o ρ σ₁ := by rw [x_if, e]
  rw [this]
  cases c
  · exact h2 rfl
  · exact h1 rfl
theorem out_mono {r : Option (Fl × Locals × Store)} (h : Out r K R) (hK : ∀ ρ σ, K ρ σ → K' ρ σ) (hR : ∀ v σ, R v σ → R' v σ) : Out r K' R' := by
  rcases h with ⟨ρ', σ', e, h⟩ | ⟨v, ρ', σ', e, h⟩
  · exact .inl ⟨ρ', σ', e, hK _ _ h⟩
  · exact .inr ⟨v, ρ', σ', e, hR _ _ h⟩
theorem out_run {d : DefRec} {vs : List PV} (hl : vs.length = d.params.args.length) (h : Out (execSs Φ G d.body (bindP (d.params.args.map (·.arg)) vs) σ) No R) : ∃ v σ', interpF Φ G d vs σ = some (v, σ') ∧ R v σ' := by
  rcases h with ⟨ρ', σ', e, h⟩ | ⟨v, ρ', σ', e, h⟩
  · exact h.elim
  · refine ⟨v, σ', ?_, h⟩
    unfold interpF
    rw [if_pos (by simpa using hl), e]
theorem run_eq {d : DefRec} {vs : List PV} (hl : vs.length = d.params.args.length) (h : Out (execSs Φ G d.body (bindP (d.params.args.map (·.arg)) vs) σ) No (fun u τ => u = v ∧ τ = σ₁)) : interpF Φ G d vs σ = some (v, σ₁) := by
  obtain ⟨u, τ, e, rfl, rfl⟩ := out_run hl h
  exact e
theorem out_for {t e : Expr} {body : List Stmt} {pos : Pos} {ds : List PV} (he : execS Φ G (.For t e body [] pos) ρ σ = forL (bindT t) (fun ρ σ => execSs Φ G body ρ σ) ds ρ σ₁) (I : Nat → Locals → Store → Prop) (h0 : I 0 ρ σ₁)
    (step : ∀ i d ρ σ, ds[i]? = some d → I i ρ σ → ∃ ρ₁, bindT t d ρ = some ρ₁ ∧ Out (execSs Φ G body ρ₁ σ) (I (i + 1)) R) : Out (execS Φ G (.For t e body [] pos) ρ σ) (I ds.length) R := by
  rw [he]
  obtain ⟨f, ρ', σ', e1, h1⟩ := forL_inv (bind := bindT t) (run := fun ρ σ => execSs Φ G body ρ σ) I (fun v _ σ => R v σ) ds 0 ρ σ₁ h0 fun i d ρ σ hd hi => by
    rw [Nat.zero_add] at hi ⊢
    obtain ⟨ρ₁, e1, h1⟩ := step i d ρ σ hd hi
    rcases h1 with ⟨ρ', σ', e, h⟩ | ⟨v, ρ', σ', e, h⟩
    · exact ⟨ρ₁, .next, ρ', σ', e1, e, .inl ⟨rfl, h⟩⟩
    · exact ⟨ρ₁, .ret v, ρ', σ', e1, e, .inr ⟨v, rfl, h⟩⟩
  rw [Nat.zero_add] at h1
  rcases h1 with ⟨rfl, h⟩ | ⟨v, rfl, h⟩
  · exact .inl ⟨ρ', σ', e1, h⟩
  · exact .inr ⟨v, ρ', σ', e1, h⟩
theorem out_forLoc {t e : Expr} {body : List Stmt} {pos : Pos} {ds : List PV} {l : Nat} (he : execS Φ G (.For t e body [] pos) ρ σ = forLoc (bindT t) (fun ρ σ => execSs Φ G body ρ σ) l (ds.length + 1) 0 ρ σ₁) (I : Nat → Locals → Store → Prop) (hs : ∀ i ρ σ, I i ρ σ → σ[l]? = some (.list ds)) (h0 : I 0 ρ σ₁)
    (step : ∀ i d ρ σ, ds[i]? = some d → I i ρ σ → ∃ ρ₁, bindT t d ρ = some ρ₁ ∧ Out (execSs Φ G body ρ₁ σ) (I (i + 1)) R) : Out (execS Φ G (.For t e body [] pos) ρ σ) (I ds.length) R := by
  rw [he]
  obtain ⟨f, ρ', σ', e1, h1⟩ := forLoc_inv (bind := bindT t) (run := fun ρ σ => execSs Φ G body ρ σ) l ds I (fun v _ σ => R v σ) hs (fun i d ρ σ hd hi => by
    obtain ⟨ρ₁, e1, h1⟩ := step i d ρ σ hd hi
    rcases h1 with ⟨ρ', σ', e, h⟩ | ⟨v, ρ', σ', e, h⟩
    · exact ⟨ρ₁, .next, ρ', σ', e1, e, .inl ⟨rfl, h⟩⟩
    · exact ⟨ρ₁, .ret v, ρ', σ', e1, e, .inr ⟨v, rfl, h⟩⟩) ds.length 0 ρ σ₁ rfl h0
  rcases h1 with ⟨rfl, h⟩ | ⟨v, rfl, h⟩
  · exact .inl ⟨ρ', σ', e1, h⟩
  · exact .inr ⟨v, ρ', σ', e1, h⟩
theorem for_lst {t e : Expr} {body : List Stmt} {pos : Pos} {ds : List PV} (hr : rangeOf G e = none) (he : evalE Φ G e ρ σ = some (.lst ds, σ₁)) : execS Φ G (.For t e body [] pos) ρ σ = forL (bindT t) (fun ρ σ => execSs Φ G body ρ σ) ds ρ σ₁ := by
  rw [x_for, hr, he]
theorem for_tup {t e : Expr} {body : List Stmt} {pos : Pos} {ds : List PV} (hr : rangeOf G e = none) (he : evalE Φ G e ρ σ = some (.tup ds, σ₁)) : execS Φ G (.For t e body [] pos) ρ σ = forL (bindT t) (fun ρ σ => execSs Φ G body ρ σ) ds ρ σ₁ := by
  rw [x_for, hr, he]
theorem for_str {t e : Expr} {body : List Stmt} {pos : Pos} {x : Str} (hr : rangeOf G e = none) (he : evalE Φ G e ρ σ = some (.str x, σ₁)) : execS Φ G (.For t e body [] pos) ρ σ = forL (bindT t) (fun ρ σ => execSs Φ G body ρ σ) (x.cps.toList.map fun c => .str ⟨#[c]⟩) ρ σ₁ := by
  rw [x_for, hr, he]
theorem for_loc {t e : Expr} {body : List Stmt} {pos : Pos} {l : Nat} {ds : List PV} (hr : rangeOf G e = none) (he : evalE Φ G e ρ σ = some (.loc l, σ₁)) (hi : σ₁[l]? = some (.list ds)) : execS Φ G (.For t e body [] pos) ρ σ = forLoc (bindT t) (fun ρ σ => execSs Φ G body ρ σ) l (ds.length + 1) 0 ρ σ₁ := by
  rw [x_for, hr, he]
  show (match (match σ₁[l]? with | some (.list ds) => some ds | _ => none) with | some ds => _ | none => none) = _
  rw [hi]
theorem for_rng {t e : Expr} {body : List Stmt} {pos : Pos} {args : List Expr} {vs ds : List PV} (hr : rangeOf G e = some args) (he : evalEs Φ G args ρ σ = some (vs, σ₁)) (hd : rangeArgs vs = some ds) : execS Φ G (.For t e body [] pos) ρ σ = forL (bindT t) (fun ρ σ => execSs Φ G body ρ σ) ds ρ σ₁ := by
  rw [x_for, hr]
  show (match evalEs Φ G args ρ σ with | none => none | some (vs, σ₁) => _) = _
  rw [he]
  show (match rangeArgs vs with | some ds => _ | none => none) = _
  rw [hd]
end

/-! little facts -/
theorem sz : sizeLine = 16777216 := rfl
theorem le_sz0 : (0 ≤ sizeLine) = True := eq_true (by decide)
theorem le_sz1 : (1 ≤ sizeLine) = True := eq_true (by decide)
theorem le_sz2 : (2 ≤ sizeLine) = True := eq_true (by decide)
theorem le_sz3 : (3 ≤ sizeLine) = True := eq_true (by decide)
theorem le_sz4 : (4 ≤ sizeLine) = True := eq_true (by decide)
theorem le_sz5 : (5 ≤ sizeLine) = True := eq_true (by decide)
theorem idxP_of {i : Int} {n : Nat} (h0 : 0 ≤ i) (h1 : i < n) (hn : n ≤ sizeLine) : idxP i n = some i.toNat := by
  unfold idxP
  have e := sz
  rw [if_pos ⟨h0, h1, by omega⟩]
theorem idxP_small {i : Int} {n : Nat} (h0 : 0 ≤ i) (h1 : i < n) (hn : i < 16777216) : idxP i n = some i.toNat := by
  unfold idxP
  rw [if_pos ⟨h0, h1, by omega⟩]
theorem rangeP_len (b : Int) : (rangeP 0 b 1).length = b.toNat := by
  simp only [rangeP, List.length_map, List.length_range, Builtin.Range.rangeSize]
  have : (1 : Int) > 0 := by decide
  rw [if_pos this]
  split <;> omega
theorem rangeP_get {b : Int} {i : Nat} {d : PV} (h : (rangeP 0 b 1)[i]? = some d) : d = .int i ∧ (i : Int) < b := by
  have hi := (List.getElem?_eq_some_iff.mp h).1
  rw [rangeP_len] at hi
  have hi' : i < (Builtin.Range.rangeSize 0 b 1).toNat := by
    have := rangeP_len b
    simp only [rangeP, List.length_map, List.length_range] at this
    omega
  simp only [rangeP, List.getElem?_map, List.getElem?_range hi', Option.map_some, Option.some.injEq] at h
  subst h
  exact ⟨by simp, by omega⟩
theorem range1 {b : Int} (h : b < 1000000) (h0 : -1000000 < b) : rangeArgs [.int b] = some (rangeP 0 b 1) := by
  have : rangeOk 0 b 1 = true := by
    simp only [rangeOk, Bool.and_eq_true, decide_eq_true_eq]; omega
  simp only [rangeArgs, this, if_true]

theorem rg_of {G : Glob} {args : List Expr} {p q : Pos} : rangeOf G (.Call (.Name (Str.ofString "range") p) args [] q) = if G.isB (Str.ofString "range") = true then some args else none := by
  show (if Str.ofString "range" = Str.ofString "range" ∧ G.isB (Str.ofString "range") = true then some args else none) = _
  simp only [true_and]

/-! and, or -/
section
variable {Φ : Fns} {G : Glob} {e e' : Expr} {es : List Expr} {ρ : Locals} {σ : Store} {pos : Pos}
theorem t_nil_and : evalTs Φ G .And [] ρ σ = some (true, σ) := rfl
theorem t_nil_or : evalTs Φ G .Or [] ρ σ = some (false, σ) := rfl
theorem t_and : evalTs Φ G .And (e :: es) ρ σ = match evalT Φ G e ρ σ with
    | none => none
    | some (b, σ₁) => if b = true then evalTs Φ G .And es ρ σ₁ else some (false, σ₁) := by
  rw [ets_cons]
  generalize evalT Φ G e ρ σ = r
  rcases r with _ | ⟨b, s⟩
  · rfl
  · cases b <;> rfl
theorem t_or : evalTs Φ G .Or (e :: es) ρ σ = match evalT Φ G e ρ σ with
    | none => none
    | some (b, σ₁) => if b = true then some (true, σ₁) else evalTs Φ G .Or es ρ σ₁ := by
  rw [ets_cons]
  generalize evalT Φ G e ρ σ = r
  rcases r with _ | ⟨b, s⟩
  · rfl
  · cases b <;> rfl
theorem v_one {op : BoolOp} : evalB Φ G op [e] ρ σ = evalE Φ G e ρ σ := rfl
theorem v_and : evalB Φ G .And (e :: e' :: es) ρ σ = match evalE Φ G e ρ σ with
    | some (.bool b, σ₁) => if b = true then evalB Φ G .And (e' :: es) ρ σ₁ else some (.bool false, σ₁)
    | _ => none := by
  rw [eb_cons]
  generalize evalE Φ G e ρ σ = r
  rcases r with _ | ⟨d, s⟩
  · rfl
  · cases d with
    | bool b => cases b <;> rfl
    | _ => rfl
theorem v_or : evalB Φ G .Or (e :: e' :: es) ρ σ = match evalE Φ G e ρ σ with
    | some (.bool b, σ₁) => if b = true then some (.bool true, σ₁) else evalB Φ G .Or (e' :: es) ρ σ₁
    | _ => none := by
  rw [eb_cons]
  generalize evalE Φ G e ρ σ = r
  rcases r with _ | ⟨d, s⟩
  · rfl
  · cases d with
    | bool b => cases b <;> rfl
    | _ => rfl
theorem ite_pair {α : Type} {p : Prop} [Decidable p] {x y : α} {s : Store} : (if p then some (x, s) else some (y, s)) = some ((if p then x else y), s) := by split <;> rfl
theorem ite_b {p : Prop} [Decidable p] {x y : Bool} : (if p then PV.bool x else PV.bool y) = PV.bool (if p then x else y) := by split <;> rfl
theorem e_bool {op : BoolOp} {vs : List Expr} : evalE Φ G (.BoolOp op vs pos) ρ σ = evalB Φ G op vs ρ σ := rfl
theorem et_bool {op : BoolOp} {vs : List Expr} : evalT Φ G (.BoolOp op vs pos) ρ σ = evalTs Φ G op vs ρ σ := rfl
end

/-! what an operation gives -/
section
variable {σ : Store} {a b : Int} {x y : Str} {ds es : List PV} {i : Nat} {d e : PV} {c c' : Bool}
theorem b_add : binP .Add (.int a) (.int b) = some (.int (a + b)) := rfl
theorem b_sub : binP .Sub (.int a) (.int b) = some (.int (a - b)) := rfl
theorem b_mul (h : a.natAbs < 2 ^ 62 ∨ b.natAbs < 2 ^ 62) : binP .Mult (.int a) (.int b) = some (.int (a * b)) := if_pos h
theorem b_mod (h : b ≠ 0) : binP .Mod (.int a) (.int b) = some (.int (a.fmod b)) := if_pos h
theorem b_div (h : b ≠ 0 ∧ b.natAbs < 1073741824) : binP .FloorDiv (.int a) (.int b) = some (.int (a.fdiv b)) := if_pos h
theorem b_str (h : x.length + y.length ≤ sizeLine) : binP .Add (.str x) (.str y) = some (.str (x ++ y)) := if_pos h
theorem b_lst (h : 0 < ds.length ∧ 0 < es.length ∧ ds.length + es.length ≤ sizeLine) : binP .Add (.lst ds) (.lst es) = some (.lst (ds ++ es)) := if_pos h
theorem c_lt : cmpP σ .Lt (.int a) (.int b) = some (.bool (decide (a < b))) := rfl
theorem c_le : cmpP σ .LtE (.int a) (.int b) = some (.bool (decide (a ≤ b))) := rfl
theorem c_gt : cmpP σ .Gt (.int a) (.int b) = some (.bool (decide (b < a))) := rfl
theorem c_ge : cmpP σ .GtE (.int a) (.int b) = some (.bool (decide (b ≤ a))) := rfl
theorem c_eqi : cmpP σ .Eq (.int a) (.int b) = some (.bool (a == b)) := rfl
theorem c_nei : cmpP σ .NotEq (.int a) (.int b) = some (.bool (!(a == b))) := rfl
theorem c_eqs : cmpP σ .Eq (.str x) (.str y) = some (.bool (x == y)) := rfl
theorem c_eqb : cmpP σ .Eq (.bool c) (.bool c') = some (.bool (c == c')) := rfl
theorem c_neb : cmpP σ .NotEq (.bool c) (.bool c') = some (.bool (!(c == c'))) := rfl
theorem c_is : cmpP σ .Is (.bool c) (.bool c') = some (.bool (c == c')) := rfl
theorem c_nin : cmpP σ .NotIn (.str y) (.str x) = some (.bool (!(!(Builtin.Str.occurrences x y 0 x.length 1).isEmpty))) := rfl
theorem k_lens (h : x.length ≤ sizeLine) : callB (Str.ofString "len") [.str x] σ = some (.int x.length) := by
  simp only [callB, if_true, if_pos h]
theorem k_lenl (h : ds.length ≤ sizeLine) : callB (Str.ofString "len") [.lst ds] σ = some (.int ds.length) := by
  simp only [callB, if_true, items?, if_pos h]
theorem k_lent (h : ds.length ≤ sizeLine) : callB (Str.ofString "len") [.tup ds] σ = some (.int ds.length) := by
  simp only [callB, if_true, if_pos h]
theorem k_leno (hs : σ[i]? = some (.list ds)) (h : ds.length ≤ sizeLine) : callB (Str.ofString "len") [.loc i] σ = some (.int ds.length) := by
  simp only [callB, if_true, items?, hs, if_pos h]
theorem k_max : callB (Str.ofString "max") [.int a, .int b] σ = some (.int (if b > a then b else a)) := by
  simp only [callB, ofString_inj, String.reduceEq, if_false, if_true]
theorem k_min : callB (Str.ofString "min") [.int a, .int b] σ = some (.int (if b < a then b else a)) := by
  simp only [callB, ofString_inj, String.reduceEq, if_false, if_true]
theorem k_int : callB (Str.ofString "int") [.bool c] σ = some (.int (if c then 1 else 0)) := by
  simp only [callB, ofString_inj, String.reduceEq, if_false, if_true]
theorem k_listl (h : ds.length ≤ sizeLine) : callB (Str.ofString "list") [.lst ds] σ = some (.lst ds) := by
  simp only [callB, ofString_inj, String.reduceEq, if_false, if_true, items?, if_pos h]
theorem k_listo (hs : σ[i]? = some (.list ds)) (h : ds.length ≤ sizeLine) : callB (Str.ofString "list") [.loc i] σ = some (.lst ds) := by
  simp only [callB, ofString_inj, String.reduceEq, if_false, if_true, items?, hs, if_pos h]
theorem k_isi {T : String} : callB (Str.ofString "isinstance") [d, .ty T] σ = (isiP σ d T).map .bool := by
  simp only [callB, ofString_inj, String.reduceEq, if_false, if_true]
theorem i_boolb : isiP σ (.bool c) "bool" = some true := by simp [isiP]
theorem i_booli : isiP σ (.int a) "bool" = some false := by simp [isiP]
theorem i_int : isiP σ (.int a) "int" = some true := by simp [isiP]
theorem i_str : isiP σ (.str x) "str" = some true := by simp [isiP]
theorem i_tup : isiP σ (.tup ds) "tuple" = some true := by simp [isiP]
theorem i_lst : isiP σ (.lst ds) "list" = some true := by simp [isiP, items?]
theorem i_loc (hs : σ[i]? = some (.list ds)) : isiP σ (.loc i) "list" = some true := by simp [isiP, items?, hs]
theorem s_tup (h0 : 0 ≤ a) (h1 : a < ds.length) (h2 : ds.length ≤ sizeLine) : subP σ (.tup ds) (.int a) = ds[a.toNat]? := by
  show (match idxP a ds.length with | some j => ds[j]? | none => none) = _
  rw [idxP_of h0 h1 h2]
theorem s_lst (h0 : 0 ≤ a) (h1 : a < ds.length) (h2 : ds.length ≤ sizeLine) : subP σ (.lst ds) (.int a) = ds[a.toNat]? := by
  show (match idxP a ds.length with | some j => ds[j]? | none => none) = _
  rw [idxP_of h0 h1 h2]
theorem s_loc (hs : σ[i]? = some (.list ds)) (h0 : 0 ≤ a) (h1 : a < ds.length) (h2 : ds.length ≤ sizeLine) : subP σ (.loc i) (.int a) = ds[a.toNat]? := by
  show (match σ[i]? with | some (.list ds) => (match idxP a ds.length with | some j => ds[j]? | none => none) | _ => none) = _
  rw [hs]
  show (match idxP a ds.length with | some j => ds[j]? | none => none) = _
  rw [idxP_of h0 h1 h2]
theorem s_str (h0 : 0 ≤ a) (h1 : a < x.length) (h2 : x.length ≤ sizeLine) : subP σ (.str x) (.int a) = (x.cps[a.toNat]?).map fun c => .str ⟨#[c]⟩ := by
  show (match idxP a x.length with | some j => (x.cps[j]?).map fun c => PV.str ⟨#[c]⟩ | none => none) = _
  rw [idxP_of h0 h1 h2]
theorem st0 {x0 : PV} {r : List PV} : subP σ (.tup (x0 :: r)) (.int 0) = some x0 := by
  show (match idxP _ (List.length _) with | some j => _ | none => none) = _
  rw [idxP_small (by decide) (by simp only [List.length_cons]; omega) (by decide)]
  rfl
theorem st1 {x0 x1 : PV} {r : List PV} : subP σ (.tup (x0 :: x1 :: r)) (.int 1) = some x1 := by
  show (match idxP _ (List.length _) with | some j => _ | none => none) = _
  rw [idxP_small (by decide) (by simp only [List.length_cons]; omega) (by decide)]
  rfl
theorem st2 {x0 x1 x2 : PV} {r : List PV} : subP σ (.tup (x0 :: x1 :: x2 :: r)) (.int 2) = some x2 := by
  show (match idxP _ (List.length _) with | some j => _ | none => none) = _
  rw [idxP_small (by decide) (by simp only [List.length_cons]; omega) (by decide)]
  rfl
theorem st3 {x0 x1 x2 x3 : PV} {r : List PV} : subP σ (.tup (x0 :: x1 :: x2 :: x3 :: r)) (.int 3) = some x3 := by
  show (match idxP _ (List.length _) with | some j => _ | none => none) = _
  rw [idxP_small (by decide) (by simp only [List.length_cons]; omega) (by decide)]
  rfl
theorem sq0 {x0 : PV} {r : List PV} : subP σ (.lst (x0 :: r)) (.int 0) = some x0 := by
  show (match idxP _ (List.length _) with | some j => _ | none => none) = _
  rw [idxP_small (by decide) (by simp only [List.length_cons]; omega) (by decide)]
  rfl
theorem sq1 {x0 x1 : PV} {r : List PV} : subP σ (.lst (x0 :: x1 :: r)) (.int 1) = some x1 := by
  show (match idxP _ (List.length _) with | some j => _ | none => none) = _
  rw [idxP_small (by decide) (by simp only [List.length_cons]; omega) (by decide)]
  rfl
theorem sq2 {x0 x1 x2 : PV} {r : List PV} : subP σ (.lst (x0 :: x1 :: x2 :: r)) (.int 2) = some x2 := by
  show (match idxP _ (List.length _) with | some j => _ | none => none) = _
  rw [idxP_small (by decide) (by simp only [List.length_cons]; omega) (by decide)]
  rfl
theorem sq3 {x0 x1 x2 x3 : PV} {r : List PV} : subP σ (.lst (x0 :: x1 :: x2 :: x3 :: r)) (.int 3) = some x3 := by
  show (match idxP _ (List.length _) with | some j => _ | none => none) = _
  rw [idxP_small (by decide) (by simp only [List.length_cons]; omega) (by decide)]
  rfl
theorem m_app (hs : σ[i]? = some (.list ds)) (h : ds.length ≤ sizeLine) : methP true (Str.ofString "append") (.loc i) [d] σ = some (.none, σ.set i (.list (ds ++ [d]))) := by
  simp only [methP, if_true, hs, if_pos h]
theorem r_loc (hs : σ[i]? = some (.list ds)) : recvT σ (.loc i) = some true := by simp only [recvT, hs]
theorem r_lst : recvT σ (.lst ds) = some true := rfl
theorem sl_of {lo hi : Int} (h : 0 ≤ lo ∧ lo ≤ hi ∧ ds.length ≤ sizeLine) : sliceP (.lst ds) (.int lo) (.int hi) = some (.lst ((ds.take hi.toNat).drop lo.toNat)) := by
  simp only [sliceP, if_pos h]
end

theorem get_append_new {α : Type} (l : List α) (x : α) : (l ++ [x])[l.length]? = some x := by simp
theorem set_append_new {α : Type} (l : List α) (x y : α) : (l ++ [x]).set l.length y = l ++ [y] := by
  rw [List.set_append_right _ _ (Nat.le_refl _)]; simp
theorem get2_0 {α : Type} (l : List α) (x y : α) : (l ++ [x, y])[l.length]? = some x := by simp
theorem get2_1 {α : Type} (l : List α) (x y : α) : (l ++ [x, y])[l.length + 1]? = some y := by
  rw [List.getElem?_append_right (Nat.le_succ _)]; simp
theorem set2_1 {α : Type} (l : List α) (x y z : α) : (l ++ [x, y]).set (l.length + 1) z = l ++ [x, z] := by
  rw [List.set_append_right _ _ (Nat.le_succ _)]; simp
theorem sub_dot {σ : Store} (b : Bool) : subP σ (.str (Str.ofString ".#")) (.int (if b then 1 else 0)) = some (.str ⟨#[if b then 35 else 46]⟩) := by
  cases b
  · show subP σ (.str (Str.ofString ".#")) (.int 0) = some (.str ⟨#[46]⟩)
    unfold subP idxP
    kernel_rfl
  · show subP σ (.str (Str.ofString ".#")) (.int 1) = some (.str ⟨#[35]⟩)
    unfold subP idxP
    kernel_rfl
theorem get_append_old {α : Type} {l : List α} {i : Nat} {x : α} (h : l[i]? = some x) (r : List α) : (l ++ r)[i]? = some x := by
  rw [List.getElem?_append_left (List.getElem?_eq_some_iff.mp h).1]; exact h
end Mine

set_option maxRecDepth 100000
namespace Mine
open PySem PySem.Spec PyProof.Rows PySem.Challenge

abbrev pw := pw_uf040012_03
noncomputable def fnNames : List String := ["law", "_law_alike", "_law_points", "_law_around", "_law_on", "_law_floor", "_law_sizes", "_law_drawn", "_law_is_in", "_law_boxes", "_law_whole", "_law_mixed", "_law_cell_at", "inner", "around", "wide", "cell", "checked"]
noncomputable def biNames : List String := ["isinstance", "list", "len", "str", "range", "max", "min", "int", "bool", "tuple"]
noncomputable def Gl : Glob := fun x =>
  if fnNames.any (fun f => x == Str.ofString f) then .fn
  else if biNames.any (fun f => x == Str.ofString f) then .builtin
  else if x == Str.ofString "MOST" then .val (.int 30)
  else if x == Str.ofString "SIGNS" then .val (.str "#.")
  else .no
theorem G_isinstance : Gl (Str.ofString "isinstance") = .builtin := by kernel_rfl
theorem G_list : Gl (Str.ofString "list") = .builtin := by kernel_rfl
theorem G_len : Gl (Str.ofString "len") = .builtin := by kernel_rfl
theorem G_str : Gl (Str.ofString "str") = .builtin := by kernel_rfl
theorem G_range : Gl (Str.ofString "range") = .builtin := by kernel_rfl
theorem G_max : Gl (Str.ofString "max") = .builtin := by kernel_rfl
theorem G_min : Gl (Str.ofString "min") = .builtin := by kernel_rfl
theorem G_int : Gl (Str.ofString "int") = .builtin := by kernel_rfl
theorem G_bool : Gl (Str.ofString "bool") = .builtin := by kernel_rfl
theorem G_tuple : Gl (Str.ofString "tuple") = .builtin := by kernel_rfl
theorem G_MOST : Gl (Str.ofString "MOST") = .val (.int 30) := by kernel_rfl
theorem G_SIGNS : Gl (Str.ofString "SIGNS") = .val (.str (Str.ofString "#.")) := by kernel_rfl
theorem G_alike : Gl (Str.ofString "_law_alike") = .fn := by kernel_rfl
theorem G_points : Gl (Str.ofString "_law_points") = .fn := by kernel_rfl
theorem G_around : Gl (Str.ofString "_law_around") = .fn := by kernel_rfl
theorem G_on : Gl (Str.ofString "_law_on") = .fn := by kernel_rfl
theorem G_floor : Gl (Str.ofString "_law_floor") = .fn := by kernel_rfl
theorem G_sizes : Gl (Str.ofString "_law_sizes") = .fn := by kernel_rfl
theorem G_drawn : Gl (Str.ofString "_law_drawn") = .fn := by kernel_rfl
theorem G_is_in : Gl (Str.ofString "_law_is_in") = .fn := by kernel_rfl
theorem G_boxes : Gl (Str.ofString "_law_boxes") = .fn := by kernel_rfl
theorem G_whole : Gl (Str.ofString "_law_whole") = .fn := by kernel_rfl
theorem G_mixed : Gl (Str.ofString "_law_mixed") = .fn := by kernel_rfl
theorem G_cell_at : Gl (Str.ofString "_law_cell_at") = .fn := by kernel_rfl
theorem G_inner : Gl (Str.ofString "inner") = .fn := by kernel_rfl
theorem G_around_ : Gl (Str.ofString "around") = .fn := by kernel_rfl
theorem G_wide : Gl (Str.ofString "wide") = .fn := by kernel_rfl
theorem G_cell : Gl (Str.ofString "cell") = .fn := by kernel_rfl
theorem G_checked : Gl (Str.ofString "checked") = .fn := by kernel_rfl

end Mine

set_option maxRecDepth 100000
namespace Mine
open PySem PySem.Spec PyProof.Rows PySem.Challenge

noncomputable def cellAt (ns : List Int) (k : Int) : Int := if k < ns.length then ns.getD k.toNat 0 else 0
noncomputable def mixc : List Int := [48271, 69621, 16807, 39373]
noncomputable def mixed (c k : Int) : Int := ((c + 1) * mixc.getD k.toNat 0).fmod 2147483647

theorem mixed_nonneg (c k : Int) : 0 ≤ mixed c k := Int.fmod_nonneg_of_pos _ (by decide)
theorem mixed_lt (c k : Int) : mixed c k < 2147483647 := Int.fmod_lt_of_pos _ (by decide)

section
variable {Φ : Fns} {σ : Store}
theorem cell_at_run {ns : List Int} {k : Int} (hk : 0 ≤ k) (hl : ns.length ≤ 63) : interpF Φ Gl (dOf pw "_law_cell_at") [.lst (ns.map .int), .int k] σ = some (.int (cellAt ns k), σ) := by
  have hs := sz
  have h1 : (ns.map PV.int).length ≤ sizeLine := by rw [List.length_map]; omega
  refine run_eq (by kernel_rfl) ?_
  change Out (execSs Φ Gl (_ :: _) (bindP [_, _] _) σ) _ _
  rw [bindP2]
  by_cases hlt : k < ns.length
  · have ht : k.toNat < ns.length := by omega
    have hi : k < (ns.map PV.int).length := by rw [List.length_map]; exact hlt
    apply out_ret
    · (simp (disch := first | assumption | decide | omega) only [e_const, e_name, e_binop, e_not, e_usub, e_boolop, e_cmp, e_call, e_meth, e_slice, es_name, es_const, es_binop, es_call, es_sub, es_tuple, subE_eq, e_list, e_tuple, el_nil, el_cons, et_not, et_boolop, et_name, et_call, et_cmp, et_sub, valT_some, x_expr, x_ret, x_if, xa_nil, xa_one, xa_dict, xa_two, xa_name, xa_const, xa_binop, xa_boolop, xa_unop, xa_cmp, xa_call, xa_sub, xa_tuple, setN_some, xt_call, xt_sub, setT_some, xs_nil, xs_cons, t_nil_and, t_nil_or, t_and, t_or, v_one, v_and, v_or, ite_pair, ite_b, decide_eq_true_eq, beq_iff_eq, upd_str, emp_str, ofString_inj, String.reduceEq, ↓reduceIte, constP, Glob.val?, tyOf, b_add, b_sub, b_mul, b_mod, b_div, b_str, b_lst, c_lt, c_le, c_gt, c_ge, c_eqi, c_nei, c_eqs, c_eqb, c_neb, c_is, c_nin, k_lens, k_lenl, k_lent, k_leno, k_max, k_min, k_int, k_listl, k_listo, k_isi, i_boolb, i_booli, i_int, i_str, i_tup, i_lst, i_loc, st0, st1, st2, st3, sq0, sq1, sq2, sq3, s_tup, s_lst, s_loc, s_str, m_app, r_loc, r_lst, sl_of, rg_of, Glob.isB, and_self, and_true, true_and, bt_name, bt_tup, bn_nil, bn_cons, Option.map_some, List.length_cons, List.length_nil, Nat.reduceAdd, Nat.zero_add, le_sz0, le_sz1, le_sz2, le_sz3, le_sz4, le_sz5, G_isinstance, G_list, G_len, G_str, G_range, G_max, G_min, G_int, G_bool, G_tuple, G_MOST, G_SIGNS, G_alike, G_points, G_around, G_on, G_floor, G_sizes, G_drawn, G_is_in, G_boxes, G_whole, G_mixed, G_cell_at, G_inner, G_around_, G_wide, G_cell, G_checked, List.length_map, decide_eq_true hlt, List.getElem?_map, List.getElem?_eq_getElem ht]) <;> rfl
    · simp only [cellAt, List.getD, List.getElem?_eq_getElem ht, Option.getD_some, hlt, if_true, and_self]
  · apply out_next
    · (simp (disch := first | assumption | decide | omega) only [e_const, e_name, e_binop, e_not, e_usub, e_boolop, e_cmp, e_call, e_meth, e_slice, es_name, es_const, es_binop, es_call, es_sub, es_tuple, subE_eq, e_list, e_tuple, el_nil, el_cons, et_not, et_boolop, et_name, et_call, et_cmp, et_sub, valT_some, x_expr, x_ret, x_if, xa_nil, xa_one, xa_dict, xa_two, xa_name, xa_const, xa_binop, xa_boolop, xa_unop, xa_cmp, xa_call, xa_sub, xa_tuple, setN_some, xt_call, xt_sub, setT_some, xs_nil, xs_cons, t_nil_and, t_nil_or, t_and, t_or, v_one, v_and, v_or, ite_pair, ite_b, decide_eq_true_eq, beq_iff_eq, upd_str, emp_str, ofString_inj, String.reduceEq, ↓reduceIte, constP, Glob.val?, tyOf, b_add, b_sub, b_mul, b_mod, b_div, b_str, b_lst, c_lt, c_le, c_gt, c_ge, c_eqi, c_nei, c_eqs, c_eqb, c_neb, c_is, c_nin, k_lens, k_lenl, k_lent, k_leno, k_max, k_min, k_int, k_listl, k_listo, k_isi, i_boolb, i_booli, i_int, i_str, i_tup, i_lst, i_loc, st0, st1, st2, st3, sq0, sq1, sq2, sq3, s_tup, s_lst, s_loc, s_str, m_app, r_loc, r_lst, sl_of, rg_of, Glob.isB, and_self, and_true, true_and, bt_name, bt_tup, bn_nil, bn_cons, Option.map_some, List.length_cons, List.length_nil, Nat.reduceAdd, Nat.zero_add, le_sz0, le_sz1, le_sz2, le_sz3, le_sz4, le_sz5, G_isinstance, G_list, G_len, G_str, G_range, G_max, G_min, G_int, G_bool, G_tuple, G_MOST, G_SIGNS, G_alike, G_points, G_around, G_on, G_floor, G_sizes, G_drawn, G_is_in, G_boxes, G_whole, G_mixed, G_cell_at, G_inner, G_around_, G_wide, G_cell, G_checked, List.length_map, decide_eq_false hlt]) <;> rfl
    apply out_ret
    · (simp (disch := first | assumption | decide | omega) only [e_const, e_name, e_binop, e_not, e_usub, e_boolop, e_cmp, e_call, e_meth, e_slice, es_name, es_const, es_binop, es_call, es_sub, es_tuple, subE_eq, e_list, e_tuple, el_nil, el_cons, et_not, et_boolop, et_name, et_call, et_cmp, et_sub, valT_some, x_expr, x_ret, x_if, xa_nil, xa_one, xa_dict, xa_two, xa_name, xa_const, xa_binop, xa_boolop, xa_unop, xa_cmp, xa_call, xa_sub, xa_tuple, setN_some, xt_call, xt_sub, setT_some, xs_nil, xs_cons, t_nil_and, t_nil_or, t_and, t_or, v_one, v_and, v_or, ite_pair, ite_b, decide_eq_true_eq, beq_iff_eq, upd_str, emp_str, ofString_inj, String.reduceEq, ↓reduceIte, constP, Glob.val?, tyOf, b_add, b_sub, b_mul, b_mod, b_div, b_str, b_lst, c_lt, c_le, c_gt, c_ge, c_eqi, c_nei, c_eqs, c_eqb, c_neb, c_is, c_nin, k_lens, k_lenl, k_lent, k_leno, k_max, k_min, k_int, k_listl, k_listo, k_isi, i_boolb, i_booli, i_int, i_str, i_tup, i_lst, i_loc, st0, st1, st2, st3, sq0, sq1, sq2, sq3, s_tup, s_lst, s_loc, s_str, m_app, r_loc, r_lst, sl_of, rg_of, Glob.isB, and_self, and_true, true_and, bt_name, bt_tup, bn_nil, bn_cons, Option.map_some, List.length_cons, List.length_nil, Nat.reduceAdd, Nat.zero_add, le_sz0, le_sz1, le_sz2, le_sz3, le_sz4, le_sz5, G_isinstance, G_list, G_len, G_str, G_range, G_max, G_min, G_int, G_bool, G_tuple, G_MOST, G_SIGNS, G_alike, G_points, G_around, G_on, G_floor, G_sizes, G_drawn, G_is_in, G_boxes, G_whole, G_mixed, G_cell_at, G_inner, G_around_, G_wide, G_cell, G_checked]) <;> rfl
    · simp only [cellAt, hlt, if_false, and_self]

theorem mg0 : ([PV.int 48271, PV.int 69621, PV.int 16807, PV.int 39373] : List PV)[Int.toNat 0]? = some (.int 48271) := rfl
theorem mg1 : ([PV.int 48271, PV.int 69621, PV.int 16807, PV.int 39373] : List PV)[Int.toNat 1]? = some (.int 69621) := rfl
theorem mg2 : ([PV.int 48271, PV.int 69621, PV.int 16807, PV.int 39373] : List PV)[Int.toNat 2]? = some (.int 16807) := rfl
theorem mg3 : ([PV.int 48271, PV.int 69621, PV.int 16807, PV.int 39373] : List PV)[Int.toNat 3]? = some (.int 39373) := rfl
theorem mixed_run {c k : Int} (h0 : 0 ≤ k) (h4 : k < 4) : interpF Φ Gl (dOf pw "_law_mixed") [.int c, .int k] σ = some (.int (mixed c k), σ) := by
  have hs := sz
  refine run_eq (by kernel_rfl) ?_
  change Out (execSs Φ Gl (_ :: _) (bindP [_, _] _) σ) _ _
  rw [bindP2]
  have hk : k = 0 ∨ k = 1 ∨ k = 2 ∨ k = 3 := by omega
  rcases hk with rfl | rfl | rfl | rfl <;> (apply out_ret; ((simp (disch := first | assumption | decide | omega) only [e_const, e_name, e_binop, e_not, e_usub, e_boolop, e_cmp, e_call, e_meth, e_slice, es_name, es_const, es_binop, es_call, es_sub, es_tuple, subE_eq, e_list, e_tuple, el_nil, el_cons, et_not, et_boolop, et_name, et_call, et_cmp, et_sub, valT_some, x_expr, x_ret, x_if, xa_nil, xa_one, xa_dict, xa_two, xa_name, xa_const, xa_binop, xa_boolop, xa_unop, xa_cmp, xa_call, xa_sub, xa_tuple, setN_some, xt_call, xt_sub, setT_some, xs_nil, xs_cons, t_nil_and, t_nil_or, t_and, t_or, v_one, v_and, v_or, ite_pair, ite_b, decide_eq_true_eq, beq_iff_eq, upd_str, emp_str, ofString_inj, String.reduceEq, ↓reduceIte, constP, Glob.val?, tyOf, b_add, b_sub, b_mul, b_mod, b_div, b_str, b_lst, c_lt, c_le, c_gt, c_ge, c_eqi, c_nei, c_eqs, c_eqb, c_neb, c_is, c_nin, k_lens, k_lenl, k_lent, k_leno, k_max, k_min, k_int, k_listl, k_listo, k_isi, i_boolb, i_booli, i_int, i_str, i_tup, i_lst, i_loc, st0, st1, st2, st3, sq0, sq1, sq2, sq3, s_tup, s_lst, s_loc, s_str, m_app, r_loc, r_lst, sl_of, rg_of, Glob.isB, and_self, and_true, true_and, bt_name, bt_tup, bn_nil, bn_cons, Option.map_some, List.length_cons, List.length_nil, Nat.reduceAdd, Nat.zero_add, le_sz0, le_sz1, le_sz2, le_sz3, le_sz4, le_sz5, G_isinstance, G_list, G_len, G_str, G_range, G_max, G_min, G_int, G_bool, G_tuple, G_MOST, G_SIGNS, G_alike, G_points, G_around, G_on, G_floor, G_sizes, G_drawn, G_is_in, G_boxes, G_whole, G_mixed, G_cell_at, G_inner, G_around_, G_wide, G_cell, G_checked, mg0, mg1, mg2, mg3]) <;> rfl); simp [mixed, mixc])

/-! boxes -/
noncomputable def tup4 (b : Int × Int × Int × Int) : PV := .tup [.int b.1, .int b.2.1, .int b.2.2.1, .int b.2.2.2]

section
variable (hmix : ∀ (c k : Int) (σ : Store), 0 ≤ k → k < 4 → Φ (Str.ofString "_law_mixed") [.int c, .int k] σ = some (.int (mixed c k), σ))
include hmix
theorem boxes_run {ns : List Int} {high wide : Int} (hl : ns.length ≤ 63) : ∃ bs : List (Int × Int × Int × Int), interpF Φ Gl (dOf pw "_law_boxes") [.lst (ns.map .int), .int high, .int wide] σ = some (.loc σ.length, σ ++ [.list (bs.map tup4)]) := by
  have hs := sz
  have h1 : (ns.map PV.int).length ≤ sizeLine := by rw [List.length_map]; omega
  suffices h : Out (execSs Φ Gl (dOf pw "_law_boxes").body (bindP ((dOf pw "_law_boxes").params.args.map (·.arg)) [.lst (ns.map .int), .int high, .int wide]) σ) No (fun u τ => u = .loc σ.length ∧ ∃ bs : List (Int × Int × Int × Int), τ = σ ++ [.list (bs.map tup4)]) by
    obtain ⟨v, τ, e, rfl, bs, rfl⟩ := out_run (by kernel_rfl) h
    exact ⟨bs, e⟩
  change Out (execSs Φ Gl (_ :: _ :: _) (bindP [_, _, _] _) σ) _ _
  rw [bindP3]
  apply out_next
  · (simp (disch := first | assumption | decide | omega) only [e_const, e_name, e_binop, e_not, e_usub, e_boolop, e_cmp, e_call, e_meth, e_slice, es_name, es_const, es_binop, es_call, es_sub, es_tuple, subE_eq, e_list, e_tuple, el_nil, el_cons, et_not, et_boolop, et_name, et_call, et_cmp, et_sub, valT_some, x_expr, x_ret, x_if, xa_nil, xa_one, xa_dict, xa_two, xa_name, xa_const, xa_binop, xa_boolop, xa_unop, xa_cmp, xa_call, xa_sub, xa_tuple, setN_some, xt_call, xt_sub, setT_some, xs_nil, xs_cons, t_nil_and, t_nil_or, t_and, t_or, v_one, v_and, v_or, ite_pair, ite_b, decide_eq_true_eq, beq_iff_eq, upd_str, emp_str, ofString_inj, String.reduceEq, ↓reduceIte, constP, Glob.val?, tyOf, b_add, b_sub, b_mul, b_mod, b_div, b_str, b_lst, c_lt, c_le, c_gt, c_ge, c_eqi, c_nei, c_eqs, c_eqb, c_neb, c_is, c_nin, k_lens, k_lenl, k_lent, k_leno, k_max, k_min, k_int, k_listl, k_listo, k_isi, i_boolb, i_booli, i_int, i_str, i_tup, i_lst, i_loc, st0, st1, st2, st3, sq0, sq1, sq2, sq3, s_tup, s_lst, s_loc, s_str, m_app, r_loc, r_lst, sl_of, rg_of, Glob.isB, and_self, and_true, true_and, bt_name, bt_tup, bn_nil, bn_cons, Option.map_some, List.length_cons, List.length_nil, Nat.reduceAdd, Nat.zero_add, le_sz0, le_sz1, le_sz2, le_sz3, le_sz4, le_sz5, G_isinstance, G_list, G_len, G_str, G_range, G_max, G_min, G_int, G_bool, G_tuple, G_MOST, G_SIGNS, G_alike, G_points, G_around, G_on, G_floor, G_sizes, G_drawn, G_is_in, G_boxes, G_whole, G_mixed, G_cell_at, G_inner, G_around_, G_wide, G_cell, G_checked]) <;> rfl
  refine out_cons (out_mono (out_for (R := fun u τ => u = .loc σ.length ∧ ∃ bs : List (Int × Int × Int × Int), τ = σ ++ [.list (bs.map tup4)]) (for_lst (ds := ((ns.map PV.int).take 10).drop 2) (σ₁ := σ ++ [.list []]) rfl ?_)
    (fun i ρ τ => i ≤ 63 ∧ ρ (Str.ofString "_law_found") = some (.loc σ.length) ∧ ρ (Str.ofString "_law_high") = some (.int high) ∧ ρ (Str.ofString "_law_wide") = some (.int wide) ∧ ∃ bs : List (Int × Int × Int × Int), bs.length = i ∧ τ = σ ++ [.list (bs.map tup4)]) ?_ ?_) ?_ fun _ _ h => h)
  · (simp (disch := first | assumption | decide | omega) only [e_const, e_name, e_binop, e_not, e_usub, e_boolop, e_cmp, e_call, e_meth, e_slice, es_name, es_const, es_binop, es_call, es_sub, es_tuple, subE_eq, e_list, e_tuple, el_nil, el_cons, et_not, et_boolop, et_name, et_call, et_cmp, et_sub, valT_some, x_expr, x_ret, x_if, xa_nil, xa_one, xa_dict, xa_two, xa_name, xa_const, xa_binop, xa_boolop, xa_unop, xa_cmp, xa_call, xa_sub, xa_tuple, setN_some, xt_call, xt_sub, setT_some, xs_nil, xs_cons, t_nil_and, t_nil_or, t_and, t_or, v_one, v_and, v_or, ite_pair, ite_b, decide_eq_true_eq, beq_iff_eq, upd_str, emp_str, ofString_inj, String.reduceEq, ↓reduceIte, constP, Glob.val?, tyOf, b_add, b_sub, b_mul, b_mod, b_div, b_str, b_lst, c_lt, c_le, c_gt, c_ge, c_eqi, c_nei, c_eqs, c_eqb, c_neb, c_is, c_nin, k_lens, k_lenl, k_lent, k_leno, k_max, k_min, k_int, k_listl, k_listo, k_isi, i_boolb, i_booli, i_int, i_str, i_tup, i_lst, i_loc, st0, st1, st2, st3, sq0, sq1, sq2, sq3, s_tup, s_lst, s_loc, s_str, m_app, r_loc, r_lst, sl_of, rg_of, Glob.isB, and_self, and_true, true_and, bt_name, bt_tup, bn_nil, bn_cons, Option.map_some, List.length_cons, List.length_nil, Nat.reduceAdd, Nat.zero_add, le_sz0, le_sz1, le_sz2, le_sz3, le_sz4, le_sz5, G_isinstance, G_list, G_len, G_str, G_range, G_max, G_min, G_int, G_bool, G_tuple, G_MOST, G_SIGNS, G_alike, G_points, G_around, G_on, G_floor, G_sizes, G_drawn, G_is_in, G_boxes, G_whole, G_mixed, G_cell_at, G_inner, G_around_, G_wide, G_cell, G_checked]) <;> rfl
  · simp (disch := first | assumption | decide | omega) only [e_const, e_name, e_binop, e_not, e_usub, e_boolop, e_cmp, e_call, e_meth, e_slice, es_name, es_const, es_binop, es_call, es_sub, es_tuple, subE_eq, e_list, e_tuple, el_nil, el_cons, et_not, et_boolop, et_name, et_call, et_cmp, et_sub, valT_some, x_expr, x_ret, x_if, xa_nil, xa_one, xa_dict, xa_two, xa_name, xa_const, xa_binop, xa_boolop, xa_unop, xa_cmp, xa_call, xa_sub, xa_tuple, setN_some, xt_call, xt_sub, setT_some, xs_nil, xs_cons, t_nil_and, t_nil_or, t_and, t_or, v_one, v_and, v_or, ite_pair, ite_b, decide_eq_true_eq, beq_iff_eq, upd_str, emp_str, ofString_inj, String.reduceEq, ↓reduceIte, constP, Glob.val?, tyOf, b_add, b_sub, b_mul, b_mod, b_div, b_str, b_lst, c_lt, c_le, c_gt, c_ge, c_eqi, c_nei, c_eqs, c_eqb, c_neb, c_is, c_nin, k_lens, k_lenl, k_lent, k_leno, k_max, k_min, k_int, k_listl, k_listo, k_isi, i_boolb, i_booli, i_int, i_str, i_tup, i_lst, i_loc, st0, st1, st2, st3, sq0, sq1, sq2, sq3, s_tup, s_lst, s_loc, s_str, m_app, r_loc, r_lst, sl_of, rg_of, Glob.isB, and_self, and_true, true_and, bt_name, bt_tup, bn_nil, bn_cons, Option.map_some, List.length_cons, List.length_nil, Nat.reduceAdd, Nat.zero_add, le_sz0, le_sz1, le_sz2, le_sz3, le_sz4, le_sz5, G_isinstance, G_list, G_len, G_str, G_range, G_max, G_min, G_int, G_bool, G_tuple, G_MOST, G_SIGNS, G_alike, G_points, G_around, G_on, G_floor, G_sizes, G_drawn, G_is_in, G_boxes, G_whole, G_mixed, G_cell_at, G_inner, G_around_, G_wide, G_cell, G_checked]
    exact ⟨by omega, [], rfl, rfl⟩
  · rintro i d ρ τ hd ⟨hi, hf, hh, hw, bs, hbs, rfl⟩
    have hd' : ∃ c, d = .int c ∧ i < 8 := by
      have hm := List.mem_of_mem_take (List.mem_of_mem_drop (List.mem_of_getElem? hd))
      obtain ⟨c, _, rfl⟩ := List.mem_map.mp hm
      have := (List.getElem?_eq_some_iff.mp hd).1
      simp only [List.length_drop, List.length_take, List.length_map] at this
      exact ⟨c, rfl, by omega⟩
    obtain ⟨c, rfl, hi8⟩ := hd'
    refine ⟨_, rfl, ?_⟩
    have g0 : (σ ++ [PO.list (bs.map tup4)])[σ.length]? = some (.list (bs.map tup4)) := get_append_new _ _
    have lb : (bs.map tup4).length ≤ sizeLine := by rw [List.length_map]; omega
    have n1 : (if high > 1 then high else 1) ≠ 0 := by split <;> omega
    have n2 : (if wide > 1 then wide else 1) ≠ 0 := by split <;> omega
    have n3 : (if high.fdiv 2 > 4 then high.fdiv 2 else 4) ≠ 0 := by split <;> omega
    have n4 : (if wide.fdiv 2 > 4 then wide.fdiv 2 else 4) ≠ 0 := by split <;> omega
    have m0 := fun τ => hmix c 0 τ (by decide) (by decide)
    have m1 := fun τ => hmix c 1 τ (by decide) (by decide)
    have m2 := fun τ => hmix c 2 τ (by decide) (by decide)
    have m3 := fun τ => hmix c 3 τ (by decide) (by decide)
    apply out_next
    · (simp (disch := first | assumption | decide | omega) only [e_const, e_name, e_binop, e_not, e_usub, e_boolop, e_cmp, e_call, e_meth, e_slice, es_name, es_const, es_binop, es_call, es_sub, es_tuple, subE_eq, e_list, e_tuple, el_nil, el_cons, et_not, et_boolop, et_name, et_call, et_cmp, et_sub, valT_some, x_expr, x_ret, x_if, xa_nil, xa_one, xa_dict, xa_two, xa_name, xa_const, xa_binop, xa_boolop, xa_unop, xa_cmp, xa_call, xa_sub, xa_tuple, setN_some, xt_call, xt_sub, setT_some, xs_nil, xs_cons, t_nil_and, t_nil_or, t_and, t_or, v_one, v_and, v_or, ite_pair, ite_b, decide_eq_true_eq, beq_iff_eq, upd_str, emp_str, ofString_inj, String.reduceEq, ↓reduceIte, constP, Glob.val?, tyOf, b_add, b_sub, b_mul, b_mod, b_div, b_str, b_lst, c_lt, c_le, c_gt, c_ge, c_eqi, c_nei, c_eqs, c_eqb, c_neb, c_is, c_nin, k_lens, k_lenl, k_lent, k_leno, k_max, k_min, k_int, k_listl, k_listo, k_isi, i_boolb, i_booli, i_int, i_str, i_tup, i_lst, i_loc, st0, st1, st2, st3, sq0, sq1, sq2, sq3, s_tup, s_lst, s_loc, s_str, m_app, r_loc, r_lst, sl_of, rg_of, Glob.isB, and_self, and_true, true_and, bt_name, bt_tup, bn_nil, bn_cons, Option.map_some, List.length_cons, List.length_nil, Nat.reduceAdd, Nat.zero_add, le_sz0, le_sz1, le_sz2, le_sz3, le_sz4, le_sz5, G_isinstance, G_list, G_len, G_str, G_range, G_max, G_min, G_int, G_bool, G_tuple, G_MOST, G_SIGNS, G_alike, G_points, G_around, G_on, G_floor, G_sizes, G_drawn, G_is_in, G_boxes, G_whole, G_mixed, G_cell_at, G_inner, G_around_, G_wide, G_cell, G_checked, m0, hh]) <;> rfl
    apply out_next
    · (simp (disch := first | assumption | decide | omega) only [e_const, e_name, e_binop, e_not, e_usub, e_boolop, e_cmp, e_call, e_meth, e_slice, es_name, es_const, es_binop, es_call, es_sub, es_tuple, subE_eq, e_list, e_tuple, el_nil, el_cons, et_not, et_boolop, et_name, et_call, et_cmp, et_sub, valT_some, x_expr, x_ret, x_if, xa_nil, xa_one, xa_dict, xa_two, xa_name, xa_const, xa_binop, xa_boolop, xa_unop, xa_cmp, xa_call, xa_sub, xa_tuple, setN_some, xt_call, xt_sub, setT_some, xs_nil, xs_cons, t_nil_and, t_nil_or, t_and, t_or, v_one, v_and, v_or, ite_pair, ite_b, decide_eq_true_eq, beq_iff_eq, upd_str, emp_str, ofString_inj, String.reduceEq, ↓reduceIte, constP, Glob.val?, tyOf, b_add, b_sub, b_mul, b_mod, b_div, b_str, b_lst, c_lt, c_le, c_gt, c_ge, c_eqi, c_nei, c_eqs, c_eqb, c_neb, c_is, c_nin, k_lens, k_lenl, k_lent, k_leno, k_max, k_min, k_int, k_listl, k_listo, k_isi, i_boolb, i_booli, i_int, i_str, i_tup, i_lst, i_loc, st0, st1, st2, st3, sq0, sq1, sq2, sq3, s_tup, s_lst, s_loc, s_str, m_app, r_loc, r_lst, sl_of, rg_of, Glob.isB, and_self, and_true, true_and, bt_name, bt_tup, bn_nil, bn_cons, Option.map_some, List.length_cons, List.length_nil, Nat.reduceAdd, Nat.zero_add, le_sz0, le_sz1, le_sz2, le_sz3, le_sz4, le_sz5, G_isinstance, G_list, G_len, G_str, G_range, G_max, G_min, G_int, G_bool, G_tuple, G_MOST, G_SIGNS, G_alike, G_points, G_around, G_on, G_floor, G_sizes, G_drawn, G_is_in, G_boxes, G_whole, G_mixed, G_cell_at, G_inner, G_around_, G_wide, G_cell, G_checked, m1, hw]) <;> rfl
    apply out_next
    · (simp (disch := first | assumption | decide | omega) only [e_const, e_name, e_binop, e_not, e_usub, e_boolop, e_cmp, e_call, e_meth, e_slice, es_name, es_const, es_binop, es_call, es_sub, es_tuple, subE_eq, e_list, e_tuple, el_nil, el_cons, et_not, et_boolop, et_name, et_call, et_cmp, et_sub, valT_some, x_expr, x_ret, x_if, xa_nil, xa_one, xa_dict, xa_two, xa_name, xa_const, xa_binop, xa_boolop, xa_unop, xa_cmp, xa_call, xa_sub, xa_tuple, setN_some, xt_call, xt_sub, setT_some, xs_nil, xs_cons, t_nil_and, t_nil_or, t_and, t_or, v_one, v_and, v_or, ite_pair, ite_b, decide_eq_true_eq, beq_iff_eq, upd_str, emp_str, ofString_inj, String.reduceEq, ↓reduceIte, constP, Glob.val?, tyOf, b_add, b_sub, b_mul, b_mod, b_div, b_str, b_lst, c_lt, c_le, c_gt, c_ge, c_eqi, c_nei, c_eqs, c_eqb, c_neb, c_is, c_nin, k_lens, k_lenl, k_lent, k_leno, k_max, k_min, k_int, k_listl, k_listo, k_isi, i_boolb, i_booli, i_int, i_str, i_tup, i_lst, i_loc, st0, st1, st2, st3, sq0, sq1, sq2, sq3, s_tup, s_lst, s_loc, s_str, m_app, r_loc, r_lst, sl_of, rg_of, Glob.isB, and_self, and_true, true_and, bt_name, bt_tup, bn_nil, bn_cons, Option.map_some, List.length_cons, List.length_nil, Nat.reduceAdd, Nat.zero_add, le_sz0, le_sz1, le_sz2, le_sz3, le_sz4, le_sz5, G_isinstance, G_list, G_len, G_str, G_range, G_max, G_min, G_int, G_bool, G_tuple, G_MOST, G_SIGNS, G_alike, G_points, G_around, G_on, G_floor, G_sizes, G_drawn, G_is_in, G_boxes, G_whole, G_mixed, G_cell_at, G_inner, G_around_, G_wide, G_cell, G_checked, m2, hh]) <;> rfl
    apply out_next
    · (simp (disch := first | assumption | decide | omega) only [e_const, e_name, e_binop, e_not, e_usub, e_boolop, e_cmp, e_call, e_meth, e_slice, es_name, es_const, es_binop, es_call, es_sub, es_tuple, subE_eq, e_list, e_tuple, el_nil, el_cons, et_not, et_boolop, et_name, et_call, et_cmp, et_sub, valT_some, x_expr, x_ret, x_if, xa_nil, xa_one, xa_dict, xa_two, xa_name, xa_const, xa_binop, xa_boolop, xa_unop, xa_cmp, xa_call, xa_sub, xa_tuple, setN_some, xt_call, xt_sub, setT_some, xs_nil, xs_cons, t_nil_and, t_nil_or, t_and, t_or, v_one, v_and, v_or, ite_pair, ite_b, decide_eq_true_eq, beq_iff_eq, upd_str, emp_str, ofString_inj, String.reduceEq, ↓reduceIte, constP, Glob.val?, tyOf, b_add, b_sub, b_mul, b_mod, b_div, b_str, b_lst, c_lt, c_le, c_gt, c_ge, c_eqi, c_nei, c_eqs, c_eqb, c_neb, c_is, c_nin, k_lens, k_lenl, k_lent, k_leno, k_max, k_min, k_int, k_listl, k_listo, k_isi, i_boolb, i_booli, i_int, i_str, i_tup, i_lst, i_loc, st0, st1, st2, st3, sq0, sq1, sq2, sq3, s_tup, s_lst, s_loc, s_str, m_app, r_loc, r_lst, sl_of, rg_of, Glob.isB, and_self, and_true, true_and, bt_name, bt_tup, bn_nil, bn_cons, Option.map_some, List.length_cons, List.length_nil, Nat.reduceAdd, Nat.zero_add, le_sz0, le_sz1, le_sz2, le_sz3, le_sz4, le_sz5, G_isinstance, G_list, G_len, G_str, G_range, G_max, G_min, G_int, G_bool, G_tuple, G_MOST, G_SIGNS, G_alike, G_points, G_around, G_on, G_floor, G_sizes, G_drawn, G_is_in, G_boxes, G_whole, G_mixed, G_cell_at, G_inner, G_around_, G_wide, G_cell, G_checked, m3, hw]) <;> rfl
    apply out_next
    · (simp (disch := first | assumption | decide | omega) only [e_const, e_name, e_binop, e_not, e_usub, e_boolop, e_cmp, e_call, e_meth, e_slice, es_name, es_const, es_binop, es_call, es_sub, es_tuple, subE_eq, e_list, e_tuple, el_nil, el_cons, et_not, et_boolop, et_name, et_call, et_cmp, et_sub, valT_some, x_expr, x_ret, x_if, xa_nil, xa_one, xa_dict, xa_two, xa_name, xa_const, xa_binop, xa_boolop, xa_unop, xa_cmp, xa_call, xa_sub, xa_tuple, setN_some, xt_call, xt_sub, setT_some, xs_nil, xs_cons, t_nil_and, t_nil_or, t_and, t_or, v_one, v_and, v_or, ite_pair, ite_b, decide_eq_true_eq, beq_iff_eq, upd_str, emp_str, ofString_inj, String.reduceEq, ↓reduceIte, constP, Glob.val?, tyOf, b_add, b_sub, b_mul, b_mod, b_div, b_str, b_lst, c_lt, c_le, c_gt, c_ge, c_eqi, c_nei, c_eqs, c_eqb, c_neb, c_is, c_nin, k_lens, k_lenl, k_lent, k_leno, k_max, k_min, k_int, k_listl, k_listo, k_isi, i_boolb, i_booli, i_int, i_str, i_tup, i_lst, i_loc, st0, st1, st2, st3, sq0, sq1, sq2, sq3, s_tup, s_lst, s_loc, s_str, m_app, r_loc, r_lst, sl_of, rg_of, Glob.isB, and_self, and_true, true_and, bt_name, bt_tup, bn_nil, bn_cons, Option.map_some, List.length_cons, List.length_nil, Nat.reduceAdd, Nat.zero_add, le_sz0, le_sz1, le_sz2, le_sz3, le_sz4, le_sz5, G_isinstance, G_list, G_len, G_str, G_range, G_max, G_min, G_int, G_bool, G_tuple, G_MOST, G_SIGNS, G_alike, G_points, G_around, G_on, G_floor, G_sizes, G_drawn, G_is_in, G_boxes, G_whole, G_mixed, G_cell_at, G_inner, G_around_, G_wide, G_cell, G_checked, hf]) <;> rfl
    refine out_nil ?_
    simp (disch := first | assumption | decide | omega) only [e_const, e_name, e_binop, e_not, e_usub, e_boolop, e_cmp, e_call, e_meth, e_slice, es_name, es_const, es_binop, es_call, es_sub, es_tuple, subE_eq, e_list, e_tuple, el_nil, el_cons, et_not, et_boolop, et_name, et_call, et_cmp, et_sub, valT_some, x_expr, x_ret, x_if, xa_nil, xa_one, xa_dict, xa_two, xa_name, xa_const, xa_binop, xa_boolop, xa_unop, xa_cmp, xa_call, xa_sub, xa_tuple, setN_some, xt_call, xt_sub, setT_some, xs_nil, xs_cons, t_nil_and, t_nil_or, t_and, t_or, v_one, v_and, v_or, ite_pair, ite_b, decide_eq_true_eq, beq_iff_eq, upd_str, emp_str, ofString_inj, String.reduceEq, ↓reduceIte, constP, Glob.val?, tyOf, b_add, b_sub, b_mul, b_mod, b_div, b_str, b_lst, c_lt, c_le, c_gt, c_ge, c_eqi, c_nei, c_eqs, c_eqb, c_neb, c_is, c_nin, k_lens, k_lenl, k_lent, k_leno, k_max, k_min, k_int, k_listl, k_listo, k_isi, i_boolb, i_booli, i_int, i_str, i_tup, i_lst, i_loc, st0, st1, st2, st3, sq0, sq1, sq2, sq3, s_tup, s_lst, s_loc, s_str, m_app, r_loc, r_lst, sl_of, rg_of, Glob.isB, and_self, and_true, true_and, bt_name, bt_tup, bn_nil, bn_cons, Option.map_some, List.length_cons, List.length_nil, Nat.reduceAdd, Nat.zero_add, le_sz0, le_sz1, le_sz2, le_sz3, le_sz4, le_sz5, G_isinstance, G_list, G_len, G_str, G_range, G_max, G_min, G_int, G_bool, G_tuple, G_MOST, G_SIGNS, G_alike, G_points, G_around, G_on, G_floor, G_sizes, G_drawn, G_is_in, G_boxes, G_whole, G_mixed, G_cell_at, G_inner, G_around_, G_wide, G_cell, G_checked, hf, hh, hw]
    rw [set_append_new]
    exact ⟨by omega, bs ++ [((mixed c 0).fmod (if high > 1 then high else 1), (mixed c 1).fmod (if wide > 1 then wide else 1), (mixed c 0).fmod (if high > 1 then high else 1) + (1 + (mixed c 2).fmod (if high.fdiv 2 > 4 then high.fdiv 2 else 4)), (mixed c 1).fmod (if wide > 1 then wide else 1) + (1 + (mixed c 3).fmod (if wide.fdiv 2 > 4 then wide.fdiv 2 else 4)))], by simp [hbs], by simp [tup4]⟩
  · rintro ρ τ ⟨hi, hf, hh, hw, bs, hbs, rfl⟩
    apply out_ret
    · (simp (disch := first | assumption | decide | omega) only [e_const, e_name, e_binop, e_not, e_usub, e_boolop, e_cmp, e_call, e_meth, e_slice, es_name, es_const, es_binop, es_call, es_sub, es_tuple, subE_eq, e_list, e_tuple, el_nil, el_cons, et_not, et_boolop, et_name, et_call, et_cmp, et_sub, valT_some, x_expr, x_ret, x_if, xa_nil, xa_one, xa_dict, xa_two, xa_name, xa_const, xa_binop, xa_boolop, xa_unop, xa_cmp, xa_call, xa_sub, xa_tuple, setN_some, xt_call, xt_sub, setT_some, xs_nil, xs_cons, t_nil_and, t_nil_or, t_and, t_or, v_one, v_and, v_or, ite_pair, ite_b, decide_eq_true_eq, beq_iff_eq, upd_str, emp_str, ofString_inj, String.reduceEq, ↓reduceIte, constP, Glob.val?, tyOf, b_add, b_sub, b_mul, b_mod, b_div, b_str, b_lst, c_lt, c_le, c_gt, c_ge, c_eqi, c_nei, c_eqs, c_eqb, c_neb, c_is, c_nin, k_lens, k_lenl, k_lent, k_leno, k_max, k_min, k_int, k_listl, k_listo, k_isi, i_boolb, i_booli, i_int, i_str, i_tup, i_lst, i_loc, st0, st1, st2, st3, sq0, sq1, sq2, sq3, s_tup, s_lst, s_loc, s_str, m_app, r_loc, r_lst, sl_of, rg_of, Glob.isB, and_self, and_true, true_and, bt_name, bt_tup, bn_nil, bn_cons, Option.map_some, List.length_cons, List.length_nil, Nat.reduceAdd, Nat.zero_add, le_sz0, le_sz1, le_sz2, le_sz3, le_sz4, le_sz5, G_isinstance, G_list, G_len, G_str, G_range, G_max, G_min, G_int, G_bool, G_tuple, G_MOST, G_SIGNS, G_alike, G_points, G_around, G_on, G_floor, G_sizes, G_drawn, G_is_in, G_boxes, G_whole, G_mixed, G_cell_at, G_inner, G_around_, G_wide, G_cell, G_checked, hf]) <;> rfl
    · exact ⟨rfl, bs, rfl⟩
end
end
end Mine

set_option maxRecDepth 100000
namespace Mine
open PySem PySem.Spec PyProof.Rows PySem.Challenge

theorem fdiv_bounds {h : Int} (h1 : 1 ≤ h) (h2 : h ≤ 256) : 1 ≤ (256 : Int).fdiv h ∧ (256 : Int).fdiv h ≤ 256 ∧ (9 ≤ h → (256 : Int).fdiv h ≤ 30) := by
  rw [Int.fdiv_eq_ediv_of_nonneg _ (by omega)]
  refine ⟨Int.le_ediv_of_mul_le (by omega) (by omega), Int.ediv_le_self _ (by omega), fun h9 => ?_⟩
  have := Int.ediv_lt_of_lt_mul (a := 256) (b := 31) (c := h) (by omega) (by omega)
  omega

section
variable {Φ : Fns} {σ : Store}
theorem is_in_run {bs : List (Int × Int × Int × Int)} {i : Nat} {r c : Int} (hσ : σ[i]? = some (.list (bs.map tup4))) : ∃ b, interpF Φ Gl (dOf pw "_law_is_in") [.loc i, .int r, .int c] σ = some (.bool b, σ) := by
  have hs := sz
  suffices h : Out (execSs Φ Gl (dOf pw "_law_is_in").body (bindP ((dOf pw "_law_is_in").params.args.map (·.arg)) [.loc i, .int r, .int c]) σ) No (fun u τ => (∃ b, u = .bool b) ∧ τ = σ) by
    obtain ⟨v, τ, e, ⟨b, rfl⟩, rfl⟩ := out_run (by kernel_rfl) h
    exact ⟨b, e⟩
  change Out (execSs Φ Gl (_ :: _ :: _) (bindP [_, _, _] _) σ) _ _
  rw [bindP3]
  refine out_cons (out_mono (out_forLoc (R := fun u τ => (∃ b, u = .bool b) ∧ τ = σ) (for_loc (l := i) (ds := bs.map tup4) (σ₁ := σ) rfl ?_ hσ)
    (fun k ρ τ => τ = σ ∧ ρ (Str.ofString "_law_row") = some (.int r) ∧ ρ (Str.ofString "_law_column") = some (.int c)) (fun k ρ τ h => h.1 ▸ hσ) ?_ ?_) ?_ fun _ _ h => h)
  · simp (disch := first | assumption | decide | omega) only [e_const, e_name, e_binop, e_not, e_usub, e_boolop, e_cmp, e_call, e_meth, e_slice, es_name, es_const, es_binop, es_call, es_sub, es_tuple, subE_eq, e_list, e_tuple, el_nil, el_cons, et_not, et_boolop, et_name, et_call, et_cmp, et_sub, valT_some, x_expr, x_ret, x_if, xa_nil, xa_one, xa_dict, xa_two, xa_name, xa_const, xa_binop, xa_boolop, xa_unop, xa_cmp, xa_call, xa_sub, xa_tuple, setN_some, xt_call, xt_sub, setT_some, xs_nil, xs_cons, t_nil_and, t_nil_or, t_and, t_or, v_one, v_and, v_or, ite_pair, ite_b, decide_eq_true_eq, beq_iff_eq, upd_str, emp_str, ofString_inj, String.reduceEq, ↓reduceIte, constP, Glob.val?, tyOf, b_add, b_sub, b_mul, b_mod, b_div, b_str, b_lst, c_lt, c_le, c_gt, c_ge, c_eqi, c_nei, c_eqs, c_eqb, c_neb, c_is, c_nin, k_lens, k_lenl, k_lent, k_leno, k_max, k_min, k_int, k_listl, k_listo, k_isi, i_boolb, i_booli, i_int, i_str, i_tup, i_lst, i_loc, st0, st1, st2, st3, sq0, sq1, sq2, sq3, s_tup, s_lst, s_loc, s_str, m_app, r_loc, r_lst, sl_of, rg_of, Glob.isB, and_self, and_true, true_and, bt_name, bt_tup, bn_nil, bn_cons, Option.map_some, List.length_cons, List.length_nil, Nat.reduceAdd, Nat.zero_add, le_sz0, le_sz1, le_sz2, le_sz3, le_sz4, le_sz5, G_isinstance, G_list, G_len, G_str, G_range, G_max, G_min, G_int, G_bool, G_tuple, G_MOST, G_SIGNS, G_alike, G_points, G_around, G_on, G_floor, G_sizes, G_drawn, G_is_in, G_boxes, G_whole, G_mixed, G_cell_at, G_inner, G_around_, G_wide, G_cell, G_checked]
  · simp (disch := first | assumption | decide | omega) only [e_const, e_name, e_binop, e_not, e_usub, e_boolop, e_cmp, e_call, e_meth, e_slice, es_name, es_const, es_binop, es_call, es_sub, es_tuple, subE_eq, e_list, e_tuple, el_nil, el_cons, et_not, et_boolop, et_name, et_call, et_cmp, et_sub, valT_some, x_expr, x_ret, x_if, xa_nil, xa_one, xa_dict, xa_two, xa_name, xa_const, xa_binop, xa_boolop, xa_unop, xa_cmp, xa_call, xa_sub, xa_tuple, setN_some, xt_call, xt_sub, setT_some, xs_nil, xs_cons, t_nil_and, t_nil_or, t_and, t_or, v_one, v_and, v_or, ite_pair, ite_b, decide_eq_true_eq, beq_iff_eq, upd_str, emp_str, ofString_inj, String.reduceEq, ↓reduceIte, constP, Glob.val?, tyOf, b_add, b_sub, b_mul, b_mod, b_div, b_str, b_lst, c_lt, c_le, c_gt, c_ge, c_eqi, c_nei, c_eqs, c_eqb, c_neb, c_is, c_nin, k_lens, k_lenl, k_lent, k_leno, k_max, k_min, k_int, k_listl, k_listo, k_isi, i_boolb, i_booli, i_int, i_str, i_tup, i_lst, i_loc, st0, st1, st2, st3, sq0, sq1, sq2, sq3, s_tup, s_lst, s_loc, s_str, m_app, r_loc, r_lst, sl_of, rg_of, Glob.isB, and_self, and_true, true_and, bt_name, bt_tup, bn_nil, bn_cons, Option.map_some, List.length_cons, List.length_nil, Nat.reduceAdd, Nat.zero_add, le_sz0, le_sz1, le_sz2, le_sz3, le_sz4, le_sz5, G_isinstance, G_list, G_len, G_str, G_range, G_max, G_min, G_int, G_bool, G_tuple, G_MOST, G_SIGNS, G_alike, G_points, G_around, G_on, G_floor, G_sizes, G_drawn, G_is_in, G_boxes, G_whole, G_mixed, G_cell_at, G_inner, G_around_, G_wide, G_cell, G_checked]
  · rintro k d ρ τ hd ⟨rfl, hr, hc⟩
    obtain ⟨⟨b1, b2, b3, b4⟩, _, rfl⟩ := List.mem_map.mp (List.mem_of_getElem? hd)
    refine ⟨_, rfl, ?_⟩
    refine out_cons (out_if (c := if b1 ≤ r then if r < b3 then if b2 ≤ c then if c < b4 then true else false else false else false else false) (σ₁ := τ) ?_ (fun _ => ?_) fun _ => ?_)
    · simp (disch := first | assumption | decide | omega) only [e_const, e_name, e_binop, e_not, e_usub, e_boolop, e_cmp, e_call, e_meth, e_slice, es_name, es_const, es_binop, es_call, es_sub, es_tuple, subE_eq, e_list, e_tuple, el_nil, el_cons, et_not, et_boolop, et_name, et_call, et_cmp, et_sub, valT_some, x_expr, x_ret, x_if, xa_nil, xa_one, xa_dict, xa_two, xa_name, xa_const, xa_binop, xa_boolop, xa_unop, xa_cmp, xa_call, xa_sub, xa_tuple, setN_some, xt_call, xt_sub, setT_some, xs_nil, xs_cons, t_nil_and, t_nil_or, t_and, t_or, v_one, v_and, v_or, ite_pair, ite_b, decide_eq_true_eq, beq_iff_eq, upd_str, emp_str, ofString_inj, String.reduceEq, ↓reduceIte, constP, Glob.val?, tyOf, b_add, b_sub, b_mul, b_mod, b_div, b_str, b_lst, c_lt, c_le, c_gt, c_ge, c_eqi, c_nei, c_eqs, c_eqb, c_neb, c_is, c_nin, k_lens, k_lenl, k_lent, k_leno, k_max, k_min, k_int, k_listl, k_listo, k_isi, i_boolb, i_booli, i_int, i_str, i_tup, i_lst, i_loc, st0, st1, st2, st3, sq0, sq1, sq2, sq3, s_tup, s_lst, s_loc, s_str, m_app, r_loc, r_lst, sl_of, rg_of, Glob.isB, and_self, and_true, true_and, bt_name, bt_tup, bn_nil, bn_cons, Option.map_some, List.length_cons, List.length_nil, Nat.reduceAdd, Nat.zero_add, le_sz0, le_sz1, le_sz2, le_sz3, le_sz4, le_sz5, G_isinstance, G_list, G_len, G_str, G_range, G_max, G_min, G_int, G_bool, G_tuple, G_MOST, G_SIGNS, G_alike, G_points, G_around, G_on, G_floor, G_sizes, G_drawn, G_is_in, G_boxes, G_whole, G_mixed, G_cell_at, G_inner, G_around_, G_wide, G_cell, G_checked, hr, hc, tup4]
    · apply out_ret
      · (simp (disch := first | assumption | decide | omega) only [e_const, e_name, e_binop, e_not, e_usub, e_boolop, e_cmp, e_call, e_meth, e_slice, es_name, es_const, es_binop, es_call, es_sub, es_tuple, subE_eq, e_list, e_tuple, el_nil, el_cons, et_not, et_boolop, et_name, et_call, et_cmp, et_sub, valT_some, x_expr, x_ret, x_if, xa_nil, xa_one, xa_dict, xa_two, xa_name, xa_const, xa_binop, xa_boolop, xa_unop, xa_cmp, xa_call, xa_sub, xa_tuple, setN_some, xt_call, xt_sub, setT_some, xs_nil, xs_cons, t_nil_and, t_nil_or, t_and, t_or, v_one, v_and, v_or, ite_pair, ite_b, decide_eq_true_eq, beq_iff_eq, upd_str, emp_str, ofString_inj, String.reduceEq, ↓reduceIte, constP, Glob.val?, tyOf, b_add, b_sub, b_mul, b_mod, b_div, b_str, b_lst, c_lt, c_le, c_gt, c_ge, c_eqi, c_nei, c_eqs, c_eqb, c_neb, c_is, c_nin, k_lens, k_lenl, k_lent, k_leno, k_max, k_min, k_int, k_listl, k_listo, k_isi, i_boolb, i_booli, i_int, i_str, i_tup, i_lst, i_loc, st0, st1, st2, st3, sq0, sq1, sq2, sq3, s_tup, s_lst, s_loc, s_str, m_app, r_loc, r_lst, sl_of, rg_of, Glob.isB, and_self, and_true, true_and, bt_name, bt_tup, bn_nil, bn_cons, Option.map_some, List.length_cons, List.length_nil, Nat.reduceAdd, Nat.zero_add, le_sz0, le_sz1, le_sz2, le_sz3, le_sz4, le_sz5, G_isinstance, G_list, G_len, G_str, G_range, G_max, G_min, G_int, G_bool, G_tuple, G_MOST, G_SIGNS, G_alike, G_points, G_around, G_on, G_floor, G_sizes, G_drawn, G_is_in, G_boxes, G_whole, G_mixed, G_cell_at, G_inner, G_around_, G_wide, G_cell, G_checked]) <;> rfl
      · exact ⟨⟨true, rfl⟩, rfl⟩
    · refine out_nil (out_nil ?_)
      simp (disch := first | assumption | decide | omega) only [e_const, e_name, e_binop, e_not, e_usub, e_boolop, e_cmp, e_call, e_meth, e_slice, es_name, es_const, es_binop, es_call, es_sub, es_tuple, subE_eq, e_list, e_tuple, el_nil, el_cons, et_not, et_boolop, et_name, et_call, et_cmp, et_sub, valT_some, x_expr, x_ret, x_if, xa_nil, xa_one, xa_dict, xa_two, xa_name, xa_const, xa_binop, xa_boolop, xa_unop, xa_cmp, xa_call, xa_sub, xa_tuple, setN_some, xt_call, xt_sub, setT_some, xs_nil, xs_cons, t_nil_and, t_nil_or, t_and, t_or, v_one, v_and, v_or, ite_pair, ite_b, decide_eq_true_eq, beq_iff_eq, upd_str, emp_str, ofString_inj, String.reduceEq, ↓reduceIte, constP, Glob.val?, tyOf, b_add, b_sub, b_mul, b_mod, b_div, b_str, b_lst, c_lt, c_le, c_gt, c_ge, c_eqi, c_nei, c_eqs, c_eqb, c_neb, c_is, c_nin, k_lens, k_lenl, k_lent, k_leno, k_max, k_min, k_int, k_listl, k_listo, k_isi, i_boolb, i_booli, i_int, i_str, i_tup, i_lst, i_loc, st0, st1, st2, st3, sq0, sq1, sq2, sq3, s_tup, s_lst, s_loc, s_str, m_app, r_loc, r_lst, sl_of, rg_of, Glob.isB, and_self, and_true, true_and, bt_name, bt_tup, bn_nil, bn_cons, Option.map_some, List.length_cons, List.length_nil, Nat.reduceAdd, Nat.zero_add, le_sz0, le_sz1, le_sz2, le_sz3, le_sz4, le_sz5, G_isinstance, G_list, G_len, G_str, G_range, G_max, G_min, G_int, G_bool, G_tuple, G_MOST, G_SIGNS, G_alike, G_points, G_around, G_on, G_floor, G_sizes, G_drawn, G_is_in, G_boxes, G_whole, G_mixed, G_cell_at, G_inner, G_around_, G_wide, G_cell, G_checked, hr, hc]
  · rintro ρ τ ⟨rfl, hr, hc⟩
    apply out_ret
    · (simp (disch := first | assumption | decide | omega) only [e_const, e_name, e_binop, e_not, e_usub, e_boolop, e_cmp, e_call, e_meth, e_slice, es_name, es_const, es_binop, es_call, es_sub, es_tuple, subE_eq, e_list, e_tuple, el_nil, el_cons, et_not, et_boolop, et_name, et_call, et_cmp, et_sub, valT_some, x_expr, x_ret, x_if, xa_nil, xa_one, xa_dict, xa_two, xa_name, xa_const, xa_binop, xa_boolop, xa_unop, xa_cmp, xa_call, xa_sub, xa_tuple, setN_some, xt_call, xt_sub, setT_some, xs_nil, xs_cons, t_nil_and, t_nil_or, t_and, t_or, v_one, v_and, v_or, ite_pair, ite_b, decide_eq_true_eq, beq_iff_eq, upd_str, emp_str, ofString_inj, String.reduceEq, ↓reduceIte, constP, Glob.val?, tyOf, b_add, b_sub, b_mul, b_mod, b_div, b_str, b_lst, c_lt, c_le, c_gt, c_ge, c_eqi, c_nei, c_eqs, c_eqb, c_neb, c_is, c_nin, k_lens, k_lenl, k_lent, k_leno, k_max, k_min, k_int, k_listl, k_listo, k_isi, i_boolb, i_booli, i_int, i_str, i_tup, i_lst, i_loc, st0, st1, st2, st3, sq0, sq1, sq2, sq3, s_tup, s_lst, s_loc, s_str, m_app, r_loc, r_lst, sl_of, rg_of, Glob.isB, and_self, and_true, true_and, bt_name, bt_tup, bn_nil, bn_cons, Option.map_some, List.length_cons, List.length_nil, Nat.reduceAdd, Nat.zero_add, le_sz0, le_sz1, le_sz2, le_sz3, le_sz4, le_sz5, G_isinstance, G_list, G_len, G_str, G_range, G_max, G_min, G_int, G_bool, G_tuple, G_MOST, G_SIGNS, G_alike, G_points, G_around, G_on, G_floor, G_sizes, G_drawn, G_is_in, G_boxes, G_whole, G_mixed, G_cell_at, G_inner, G_around_, G_wide, G_cell, G_checked]) <;> rfl
    · exact ⟨⟨false, rfl⟩, rfl⟩

section
variable (hcell : ∀ (ns : List Int) (k : Int) (σ : Store), 0 ≤ k → ns.length ≤ 63 → Φ (Str.ofString "_law_cell_at") [.lst (ns.map .int), .int k] σ = some (.int (cellAt ns k), σ))
variable (hmix : ∀ (c k : Int) (σ : Store), 0 ≤ k → k < 4 → Φ (Str.ofString "_law_mixed") [.int c, .int k] σ = some (.int (mixed c k), σ))
include hcell hmix
theorem drawn_run {ns : List Int} {r c : Int} (hl : ns.length ≤ 63) (hr : 0 ≤ r) : ∃ b, interpF Φ Gl (dOf pw "_law_drawn") [.lst (ns.map .int), .int r, .int c] σ = some (.bool b, σ) := by
  have hs := sz
  refine ⟨decide ((mixed (cellAt ns (2 + r) + 7919 * c + 131 * r) (c.fmod 4)).fmod 8 < 3 + (mixed (cellAt ns 1) 1).fmod 5), run_eq (by kernel_rfl) ?_⟩
  change Out (execSs Φ Gl (_ :: _ :: _) (bindP [_, _, _] _) σ) _ _
  rw [bindP3]
  have e1 := fun τ => hcell ns (2 + r) τ (by omega) hl
  have e2 := fun τ => hcell ns 1 τ (by omega) hl
  have f0 : 0 ≤ c.fmod 4 := Int.fmod_nonneg_of_pos _ (by decide)
  have f1 : c.fmod 4 < 4 := Int.fmod_lt_of_pos _ (by decide)
  have m1 := fun x τ => hmix x (c.fmod 4) τ f0 f1
  have m2 := fun x τ => hmix x 1 τ (by decide) (by decide)
  apply out_next
  · (simp (disch := first | assumption | decide | omega) only [e_const, e_name, e_binop, e_not, e_usub, e_boolop, e_cmp, e_call, e_meth, e_slice, es_name, es_const, es_binop, es_call, es_sub, es_tuple, subE_eq, e_list, e_tuple, el_nil, el_cons, et_not, et_boolop, et_name, et_call, et_cmp, et_sub, valT_some, x_expr, x_ret, x_if, xa_nil, xa_one, xa_dict, xa_two, xa_name, xa_const, xa_binop, xa_boolop, xa_unop, xa_cmp, xa_call, xa_sub, xa_tuple, setN_some, xt_call, xt_sub, setT_some, xs_nil, xs_cons, t_nil_and, t_nil_or, t_and, t_or, v_one, v_and, v_or, ite_pair, ite_b, decide_eq_true_eq, beq_iff_eq, upd_str, emp_str, ofString_inj, String.reduceEq, ↓reduceIte, constP, Glob.val?, tyOf, b_add, b_sub, b_mul, b_mod, b_div, b_str, b_lst, c_lt, c_le, c_gt, c_ge, c_eqi, c_nei, c_eqs, c_eqb, c_neb, c_is, c_nin, k_lens, k_lenl, k_lent, k_leno, k_max, k_min, k_int, k_listl, k_listo, k_isi, i_boolb, i_booli, i_int, i_str, i_tup, i_lst, i_loc, st0, st1, st2, st3, sq0, sq1, sq2, sq3, s_tup, s_lst, s_loc, s_str, m_app, r_loc, r_lst, sl_of, rg_of, Glob.isB, and_self, and_true, true_and, bt_name, bt_tup, bn_nil, bn_cons, Option.map_some, List.length_cons, List.length_nil, Nat.reduceAdd, Nat.zero_add, le_sz0, le_sz1, le_sz2, le_sz3, le_sz4, le_sz5, G_isinstance, G_list, G_len, G_str, G_range, G_max, G_min, G_int, G_bool, G_tuple, G_MOST, G_SIGNS, G_alike, G_points, G_around, G_on, G_floor, G_sizes, G_drawn, G_is_in, G_boxes, G_whole, G_mixed, G_cell_at, G_inner, G_around_, G_wide, G_cell, G_checked, e1]) <;> rfl
  apply out_ret
  · (simp (disch := first | assumption | decide | omega) only [e_const, e_name, e_binop, e_not, e_usub, e_boolop, e_cmp, e_call, e_meth, e_slice, es_name, es_const, es_binop, es_call, es_sub, es_tuple, subE_eq, e_list, e_tuple, el_nil, el_cons, et_not, et_boolop, et_name, et_call, et_cmp, et_sub, valT_some, x_expr, x_ret, x_if, xa_nil, xa_one, xa_dict, xa_two, xa_name, xa_const, xa_binop, xa_boolop, xa_unop, xa_cmp, xa_call, xa_sub, xa_tuple, setN_some, xt_call, xt_sub, setT_some, xs_nil, xs_cons, t_nil_and, t_nil_or, t_and, t_or, v_one, v_and, v_or, ite_pair, ite_b, decide_eq_true_eq, beq_iff_eq, upd_str, emp_str, ofString_inj, String.reduceEq, ↓reduceIte, constP, Glob.val?, tyOf, b_add, b_sub, b_mul, b_mod, b_div, b_str, b_lst, c_lt, c_le, c_gt, c_ge, c_eqi, c_nei, c_eqs, c_eqb, c_neb, c_is, c_nin, k_lens, k_lenl, k_lent, k_leno, k_max, k_min, k_int, k_listl, k_listo, k_isi, i_boolb, i_booli, i_int, i_str, i_tup, i_lst, i_loc, st0, st1, st2, st3, sq0, sq1, sq2, sq3, s_tup, s_lst, s_loc, s_str, m_app, r_loc, r_lst, sl_of, rg_of, Glob.isB, and_self, and_true, true_and, bt_name, bt_tup, bn_nil, bn_cons, Option.map_some, List.length_cons, List.length_nil, Nat.reduceAdd, Nat.zero_add, le_sz0, le_sz1, le_sz2, le_sz3, le_sz4, le_sz5, G_isinstance, G_list, G_len, G_str, G_range, G_max, G_min, G_int, G_bool, G_tuple, G_MOST, G_SIGNS, G_alike, G_points, G_around, G_on, G_floor, G_sizes, G_drawn, G_is_in, G_boxes, G_whole, G_mixed, G_cell_at, G_inner, G_around_, G_wide, G_cell, G_checked, e2, m1, m2]) <;> rfl
  · exact ⟨rfl, rfl⟩

theorem sizes_run {ns : List Int} (hl : ns.length ≤ 63) : ∃ h w : Int, 0 ≤ h ∧ h ≤ 30 ∧ 0 ≤ w ∧ w ≤ 30 ∧ interpF Φ Gl (dOf pw "_law_sizes") [.lst (ns.map .int), .int 30] σ = some (.tup [.int h, .int w], σ) := by
  have hs := sz
  suffices hh : Out (execSs Φ Gl (dOf pw "_law_sizes").body (bindP ((dOf pw "_law_sizes").params.args.map (·.arg)) [.lst (ns.map .int), .int 30]) σ) No (fun u τ => (∃ h w : Int, 0 ≤ h ∧ h ≤ 30 ∧ 0 ≤ w ∧ w ≤ 30 ∧ u = .tup [.int h, .int w]) ∧ τ = σ) by
    obtain ⟨v, τ, e, ⟨h, w, h1, h2, h3, h4, rfl⟩, rfl⟩ := out_run (by kernel_rfl) hh
    exact ⟨h, w, h1, h2, h3, h4, e⟩
  change Out (execSs Φ Gl (_ :: _ :: _) (bindP [_, _] _) σ) _ _
  rw [bindP2]
  have e1 := fun τ => hcell ns 0 τ (by omega) hl
  have m0 := fun x τ => hmix x 0 τ (by decide) (by decide)
  have m1 := fun x τ => hmix x 1 τ (by decide) (by decide)
  have m2 := fun x τ => hmix x 2 τ (by decide) (by decide)
  have m3 := fun x τ => hmix x 3 τ (by decide) (by decide)
  generalize hx : cellAt ns 0 = x at e1
  apply out_next
  · (simp (disch := first | assumption | decide | omega) only [e_const, e_name, e_binop, e_not, e_usub, e_boolop, e_cmp, e_call, e_meth, e_slice, es_name, es_const, es_binop, es_call, es_sub, es_tuple, subE_eq, e_list, e_tuple, el_nil, el_cons, et_not, et_boolop, et_name, et_call, et_cmp, et_sub, valT_some, x_expr, x_ret, x_if, xa_nil, xa_one, xa_dict, xa_two, xa_name, xa_const, xa_binop, xa_boolop, xa_unop, xa_cmp, xa_call, xa_sub, xa_tuple, setN_some, xt_call, xt_sub, setT_some, xs_nil, xs_cons, t_nil_and, t_nil_or, t_and, t_or, v_one, v_and, v_or, ite_pair, ite_b, decide_eq_true_eq, beq_iff_eq, upd_str, emp_str, ofString_inj, String.reduceEq, ↓reduceIte, constP, Glob.val?, tyOf, b_add, b_sub, b_mul, b_mod, b_div, b_str, b_lst, c_lt, c_le, c_gt, c_ge, c_eqi, c_nei, c_eqs, c_eqb, c_neb, c_is, c_nin, k_lens, k_lenl, k_lent, k_leno, k_max, k_min, k_int, k_listl, k_listo, k_isi, i_boolb, i_booli, i_int, i_str, i_tup, i_lst, i_loc, st0, st1, st2, st3, sq0, sq1, sq2, sq3, s_tup, s_lst, s_loc, s_str, m_app, r_loc, r_lst, sl_of, rg_of, Glob.isB, and_self, and_true, true_and, bt_name, bt_tup, bn_nil, bn_cons, Option.map_some, List.length_cons, List.length_nil, Nat.reduceAdd, Nat.zero_add, le_sz0, le_sz1, le_sz2, le_sz3, le_sz4, le_sz5, G_isinstance, G_list, G_len, G_str, G_range, G_max, G_min, G_int, G_bool, G_tuple, G_MOST, G_SIGNS, G_alike, G_points, G_around, G_on, G_floor, G_sizes, G_drawn, G_is_in, G_boxes, G_whole, G_mixed, G_cell_at, G_inner, G_around_, G_wide, G_cell, G_checked, e1]) <;> rfl
  refine out_cons (out_if (c := if (mixed x 2).fmod 8 = 1 then true else false) (σ₁ := σ) ?_ (fun _ => ?_) fun _ => ?_)
  · (simp (disch := first | assumption | decide | omega) only [e_const, e_name, e_binop, e_not, e_usub, e_boolop, e_cmp, e_call, e_meth, e_slice, es_name, es_const, es_binop, es_call, es_sub, es_tuple, subE_eq, e_list, e_tuple, el_nil, el_cons, et_not, et_boolop, et_name, et_call, et_cmp, et_sub, valT_some, x_expr, x_ret, x_if, xa_nil, xa_one, xa_dict, xa_two, xa_name, xa_const, xa_binop, xa_boolop, xa_unop, xa_cmp, xa_call, xa_sub, xa_tuple, setN_some, xt_call, xt_sub, setT_some, xs_nil, xs_cons, t_nil_and, t_nil_or, t_and, t_or, v_one, v_and, v_or, ite_pair, ite_b, decide_eq_true_eq, beq_iff_eq, upd_str, emp_str, ofString_inj, String.reduceEq, ↓reduceIte, constP, Glob.val?, tyOf, b_add, b_sub, b_mul, b_mod, b_div, b_str, b_lst, c_lt, c_le, c_gt, c_ge, c_eqi, c_nei, c_eqs, c_eqb, c_neb, c_is, c_nin, k_lens, k_lenl, k_lent, k_leno, k_max, k_min, k_int, k_listl, k_listo, k_isi, i_boolb, i_booli, i_int, i_str, i_tup, i_lst, i_loc, st0, st1, st2, st3, sq0, sq1, sq2, sq3, s_tup, s_lst, s_loc, s_str, m_app, r_loc, r_lst, sl_of, rg_of, Glob.isB, and_self, and_true, true_and, bt_name, bt_tup, bn_nil, bn_cons, Option.map_some, List.length_cons, List.length_nil, Nat.reduceAdd, Nat.zero_add, le_sz0, le_sz1, le_sz2, le_sz3, le_sz4, le_sz5, G_isinstance, G_list, G_len, G_str, G_range, G_max, G_min, G_int, G_bool, G_tuple, G_MOST, G_SIGNS, G_alike, G_points, G_around, G_on, G_floor, G_sizes, G_drawn, G_is_in, G_boxes, G_whole, G_mixed, G_cell_at, G_inner, G_around_, G_wide, G_cell, G_checked, m2]) <;> rfl
  · apply out_next
    · (simp (disch := first | assumption | decide | omega) only [e_const, e_name, e_binop, e_not, e_usub, e_boolop, e_cmp, e_call, e_meth, e_slice, es_name, es_const, es_binop, es_call, es_sub, es_tuple, subE_eq, e_list, e_tuple, el_nil, el_cons, et_not, et_boolop, et_name, et_call, et_cmp, et_sub, valT_some, x_expr, x_ret, x_if, xa_nil, xa_one, xa_dict, xa_two, xa_name, xa_const, xa_binop, xa_boolop, xa_unop, xa_cmp, xa_call, xa_sub, xa_tuple, setN_some, xt_call, xt_sub, setT_some, xs_nil, xs_cons, t_nil_and, t_nil_or, t_and, t_or, v_one, v_and, v_or, ite_pair, ite_b, decide_eq_true_eq, beq_iff_eq, upd_str, emp_str, ofString_inj, String.reduceEq, ↓reduceIte, constP, Glob.val?, tyOf, b_add, b_sub, b_mul, b_mod, b_div, b_str, b_lst, c_lt, c_le, c_gt, c_ge, c_eqi, c_nei, c_eqs, c_eqb, c_neb, c_is, c_nin, k_lens, k_lenl, k_lent, k_leno, k_max, k_min, k_int, k_listl, k_listo, k_isi, i_boolb, i_booli, i_int, i_str, i_tup, i_lst, i_loc, st0, st1, st2, st3, sq0, sq1, sq2, sq3, s_tup, s_lst, s_loc, s_str, m_app, r_loc, r_lst, sl_of, rg_of, Glob.isB, and_self, and_true, true_and, bt_name, bt_tup, bn_nil, bn_cons, Option.map_some, List.length_cons, List.length_nil, Nat.reduceAdd, Nat.zero_add, le_sz0, le_sz1, le_sz2, le_sz3, le_sz4, le_sz5, G_isinstance, G_list, G_len, G_str, G_range, G_max, G_min, G_int, G_bool, G_tuple, G_MOST, G_SIGNS, G_alike, G_points, G_around, G_on, G_floor, G_sizes, G_drawn, G_is_in, G_boxes, G_whole, G_mixed, G_cell_at, G_inner, G_around_, G_wide, G_cell, G_checked, m3]) <;> rfl
    apply out_next
    · (simp (disch := first | assumption | decide | omega) only [e_const, e_name, e_binop, e_not, e_usub, e_boolop, e_cmp, e_call, e_meth, e_slice, es_name, es_const, es_binop, es_call, es_sub, es_tuple, subE_eq, e_list, e_tuple, el_nil, el_cons, et_not, et_boolop, et_name, et_call, et_cmp, et_sub, valT_some, x_expr, x_ret, x_if, xa_nil, xa_one, xa_dict, xa_two, xa_name, xa_const, xa_binop, xa_boolop, xa_unop, xa_cmp, xa_call, xa_sub, xa_tuple, setN_some, xt_call, xt_sub, setT_some, xs_nil, xs_cons, t_nil_and, t_nil_or, t_and, t_or, v_one, v_and, v_or, ite_pair, ite_b, decide_eq_true_eq, beq_iff_eq, upd_str, emp_str, ofString_inj, String.reduceEq, ↓reduceIte, constP, Glob.val?, tyOf, b_add, b_sub, b_mul, b_mod, b_div, b_str, b_lst, c_lt, c_le, c_gt, c_ge, c_eqi, c_nei, c_eqs, c_eqb, c_neb, c_is, c_nin, k_lens, k_lenl, k_lent, k_leno, k_max, k_min, k_int, k_listl, k_listo, k_isi, i_boolb, i_booli, i_int, i_str, i_tup, i_lst, i_loc, st0, st1, st2, st3, sq0, sq1, sq2, sq3, s_tup, s_lst, s_loc, s_str, m_app, r_loc, r_lst, sl_of, rg_of, Glob.isB, and_self, and_true, true_and, bt_name, bt_tup, bn_nil, bn_cons, Option.map_some, List.length_cons, List.length_nil, Nat.reduceAdd, Nat.zero_add, le_sz0, le_sz1, le_sz2, le_sz3, le_sz4, le_sz5, G_isinstance, G_list, G_len, G_str, G_range, G_max, G_min, G_int, G_bool, G_tuple, G_MOST, G_SIGNS, G_alike, G_points, G_around, G_on, G_floor, G_sizes, G_drawn, G_is_in, G_boxes, G_whole, G_mixed, G_cell_at, G_inner, G_around_, G_wide, G_cell, G_checked, m1]) <;> rfl
    have a0 : 0 ≤ (mixed x 3).fmod 30 := Int.fmod_nonneg_of_pos _ (by decide)
    have a1 : (mixed x 3).fmod 30 < 30 := Int.fmod_lt_of_pos _ (by decide)
    have b0 : 0 ≤ (mixed x 1).fmod 30 := Int.fmod_nonneg_of_pos _ (by decide)
    have b1 : (mixed x 1).fmod 30 < 30 := Int.fmod_lt_of_pos _ (by decide)
    generalize hH : 1 + (mixed x 3).fmod 30 = H
    generalize hW : 1 + (mixed x 1).fmod 30 = W
    have hm : H.natAbs < 2 ^ 62 ∨ W.natAbs < 2 ^ 62 := .inl (by omega)
    refine out_cons (out_mono (K := fun ρ τ => τ = σ ∧ ∃ W' : Int, 1 ≤ W' ∧ W' ≤ 30 ∧ ρ (Str.ofString "_law_high") = some (.int H) ∧ ρ (Str.ofString "_law_wide") = some (.int W'))
      (out_if (c := if H * W > 256 then if x.fmod 2 = 1 then true else false else false) (σ₁ := σ) ?_ (fun hc => ?_) fun _ => ?_) ?_ fun _ _ h => h)
    · (simp (disch := first | assumption | decide | omega) only [e_const, e_name, e_binop, e_not, e_usub, e_boolop, e_cmp, e_call, e_meth, e_slice, es_name, es_const, es_binop, es_call, es_sub, es_tuple, subE_eq, e_list, e_tuple, el_nil, el_cons, et_not, et_boolop, et_name, et_call, et_cmp, et_sub, valT_some, x_expr, x_ret, x_if, xa_nil, xa_one, xa_dict, xa_two, xa_name, xa_const, xa_binop, xa_boolop, xa_unop, xa_cmp, xa_call, xa_sub, xa_tuple, setN_some, xt_call, xt_sub, setT_some, xs_nil, xs_cons, t_nil_and, t_nil_or, t_and, t_or, v_one, v_and, v_or, ite_pair, ite_b, decide_eq_true_eq, beq_iff_eq, upd_str, emp_str, ofString_inj, String.reduceEq, ↓reduceIte, constP, Glob.val?, tyOf, b_add, b_sub, b_mul, b_mod, b_div, b_str, b_lst, c_lt, c_le, c_gt, c_ge, c_eqi, c_nei, c_eqs, c_eqb, c_neb, c_is, c_nin, k_lens, k_lenl, k_lent, k_leno, k_max, k_min, k_int, k_listl, k_listo, k_isi, i_boolb, i_booli, i_int, i_str, i_tup, i_lst, i_loc, st0, st1, st2, st3, sq0, sq1, sq2, sq3, s_tup, s_lst, s_loc, s_str, m_app, r_loc, r_lst, sl_of, rg_of, Glob.isB, and_self, and_true, true_and, bt_name, bt_tup, bn_nil, bn_cons, Option.map_some, List.length_cons, List.length_nil, Nat.reduceAdd, Nat.zero_add, le_sz0, le_sz1, le_sz2, le_sz3, le_sz4, le_sz5, G_isinstance, G_list, G_len, G_str, G_range, G_max, G_min, G_int, G_bool, G_tuple, G_MOST, G_SIGNS, G_alike, G_points, G_around, G_on, G_floor, G_sizes, G_drawn, G_is_in, G_boxes, G_whole, G_mixed, G_cell_at, G_inner, G_around_, G_wide, G_cell, G_checked]) <;> rfl
    · have hc1 : H * W > 256 := by
        by_cases q : H * W > 256
        · exact q
        · rw [if_neg q] at hc; cases hc
      have hp : H * W ≤ H * 30 := Int.mul_le_mul_of_nonneg_left (by omega) (by omega)
      have hd : H ≠ 0 ∧ H.natAbs < 1073741824 := ⟨by omega, by omega⟩
      obtain ⟨d1, _, d3⟩ := fdiv_bounds (h := H) (by omega) (by omega)
      apply out_next
      · (simp (disch := first | assumption | decide | omega) only [e_const, e_name, e_binop, e_not, e_usub, e_boolop, e_cmp, e_call, e_meth, e_slice, es_name, es_const, es_binop, es_call, es_sub, es_tuple, subE_eq, e_list, e_tuple, el_nil, el_cons, et_not, et_boolop, et_name, et_call, et_cmp, et_sub, valT_some, x_expr, x_ret, x_if, xa_nil, xa_one, xa_dict, xa_two, xa_name, xa_const, xa_binop, xa_boolop, xa_unop, xa_cmp, xa_call, xa_sub, xa_tuple, setN_some, xt_call, xt_sub, setT_some, xs_nil, xs_cons, t_nil_and, t_nil_or, t_and, t_or, v_one, v_and, v_or, ite_pair, ite_b, decide_eq_true_eq, beq_iff_eq, upd_str, emp_str, ofString_inj, String.reduceEq, ↓reduceIte, constP, Glob.val?, tyOf, b_add, b_sub, b_mul, b_mod, b_div, b_str, b_lst, c_lt, c_le, c_gt, c_ge, c_eqi, c_nei, c_eqs, c_eqb, c_neb, c_is, c_nin, k_lens, k_lenl, k_lent, k_leno, k_max, k_min, k_int, k_listl, k_listo, k_isi, i_boolb, i_booli, i_int, i_str, i_tup, i_lst, i_loc, st0, st1, st2, st3, sq0, sq1, sq2, sq3, s_tup, s_lst, s_loc, s_str, m_app, r_loc, r_lst, sl_of, rg_of, Glob.isB, and_self, and_true, true_and, bt_name, bt_tup, bn_nil, bn_cons, Option.map_some, List.length_cons, List.length_nil, Nat.reduceAdd, Nat.zero_add, le_sz0, le_sz1, le_sz2, le_sz3, le_sz4, le_sz5, G_isinstance, G_list, G_len, G_str, G_range, G_max, G_min, G_int, G_bool, G_tuple, G_MOST, G_SIGNS, G_alike, G_points, G_around, G_on, G_floor, G_sizes, G_drawn, G_is_in, G_boxes, G_whole, G_mixed, G_cell_at, G_inner, G_around_, G_wide, G_cell, G_checked]) <;> rfl
      refine out_nil ⟨rfl, (256 : Int).fdiv H, d1, d3 (by omega), ?_, ?_⟩
      · simp (disch := first | assumption | decide | omega) only [e_const, e_name, e_binop, e_not, e_usub, e_boolop, e_cmp, e_call, e_meth, e_slice, es_name, es_const, es_binop, es_call, es_sub, es_tuple, subE_eq, e_list, e_tuple, el_nil, el_cons, et_not, et_boolop, et_name, et_call, et_cmp, et_sub, valT_some, x_expr, x_ret, x_if, xa_nil, xa_one, xa_dict, xa_two, xa_name, xa_const, xa_binop, xa_boolop, xa_unop, xa_cmp, xa_call, xa_sub, xa_tuple, setN_some, xt_call, xt_sub, setT_some, xs_nil, xs_cons, t_nil_and, t_nil_or, t_and, t_or, v_one, v_and, v_or, ite_pair, ite_b, decide_eq_true_eq, beq_iff_eq, upd_str, emp_str, ofString_inj, String.reduceEq, ↓reduceIte, constP, Glob.val?, tyOf, b_add, b_sub, b_mul, b_mod, b_div, b_str, b_lst, c_lt, c_le, c_gt, c_ge, c_eqi, c_nei, c_eqs, c_eqb, c_neb, c_is, c_nin, k_lens, k_lenl, k_lent, k_leno, k_max, k_min, k_int, k_listl, k_listo, k_isi, i_boolb, i_booli, i_int, i_str, i_tup, i_lst, i_loc, st0, st1, st2, st3, sq0, sq1, sq2, sq3, s_tup, s_lst, s_loc, s_str, m_app, r_loc, r_lst, sl_of, rg_of, Glob.isB, and_self, and_true, true_and, bt_name, bt_tup, bn_nil, bn_cons, Option.map_some, List.length_cons, List.length_nil, Nat.reduceAdd, Nat.zero_add, le_sz0, le_sz1, le_sz2, le_sz3, le_sz4, le_sz5, G_isinstance, G_list, G_len, G_str, G_range, G_max, G_min, G_int, G_bool, G_tuple, G_MOST, G_SIGNS, G_alike, G_points, G_around, G_on, G_floor, G_sizes, G_drawn, G_is_in, G_boxes, G_whole, G_mixed, G_cell_at, G_inner, G_around_, G_wide, G_cell, G_checked]
      · simp (disch := first | assumption | decide | omega) only [e_const, e_name, e_binop, e_not, e_usub, e_boolop, e_cmp, e_call, e_meth, e_slice, es_name, es_const, es_binop, es_call, es_sub, es_tuple, subE_eq, e_list, e_tuple, el_nil, el_cons, et_not, et_boolop, et_name, et_call, et_cmp, et_sub, valT_some, x_expr, x_ret, x_if, xa_nil, xa_one, xa_dict, xa_two, xa_name, xa_const, xa_binop, xa_boolop, xa_unop, xa_cmp, xa_call, xa_sub, xa_tuple, setN_some, xt_call, xt_sub, setT_some, xs_nil, xs_cons, t_nil_and, t_nil_or, t_and, t_or, v_one, v_and, v_or, ite_pair, ite_b, decide_eq_true_eq, beq_iff_eq, upd_str, emp_str, ofString_inj, String.reduceEq, ↓reduceIte, constP, Glob.val?, tyOf, b_add, b_sub, b_mul, b_mod, b_div, b_str, b_lst, c_lt, c_le, c_gt, c_ge, c_eqi, c_nei, c_eqs, c_eqb, c_neb, c_is, c_nin, k_lens, k_lenl, k_lent, k_leno, k_max, k_min, k_int, k_listl, k_listo, k_isi, i_boolb, i_booli, i_int, i_str, i_tup, i_lst, i_loc, st0, st1, st2, st3, sq0, sq1, sq2, sq3, s_tup, s_lst, s_loc, s_str, m_app, r_loc, r_lst, sl_of, rg_of, Glob.isB, and_self, and_true, true_and, bt_name, bt_tup, bn_nil, bn_cons, Option.map_some, List.length_cons, List.length_nil, Nat.reduceAdd, Nat.zero_add, le_sz0, le_sz1, le_sz2, le_sz3, le_sz4, le_sz5, G_isinstance, G_list, G_len, G_str, G_range, G_max, G_min, G_int, G_bool, G_tuple, G_MOST, G_SIGNS, G_alike, G_points, G_around, G_on, G_floor, G_sizes, G_drawn, G_is_in, G_boxes, G_whole, G_mixed, G_cell_at, G_inner, G_around_, G_wide, G_cell, G_checked]
    · refine out_nil ⟨rfl, W, by omega, by omega, ?_, ?_⟩
      · simp (disch := first | assumption | decide | omega) only [e_const, e_name, e_binop, e_not, e_usub, e_boolop, e_cmp, e_call, e_meth, e_slice, es_name, es_const, es_binop, es_call, es_sub, es_tuple, subE_eq, e_list, e_tuple, el_nil, el_cons, et_not, et_boolop, et_name, et_call, et_cmp, et_sub, valT_some, x_expr, x_ret, x_if, xa_nil, xa_one, xa_dict, xa_two, xa_name, xa_const, xa_binop, xa_boolop, xa_unop, xa_cmp, xa_call, xa_sub, xa_tuple, setN_some, xt_call, xt_sub, setT_some, xs_nil, xs_cons, t_nil_and, t_nil_or, t_and, t_or, v_one, v_and, v_or, ite_pair, ite_b, decide_eq_true_eq, beq_iff_eq, upd_str, emp_str, ofString_inj, String.reduceEq, ↓reduceIte, constP, Glob.val?, tyOf, b_add, b_sub, b_mul, b_mod, b_div, b_str, b_lst, c_lt, c_le, c_gt, c_ge, c_eqi, c_nei, c_eqs, c_eqb, c_neb, c_is, c_nin, k_lens, k_lenl, k_lent, k_leno, k_max, k_min, k_int, k_listl, k_listo, k_isi, i_boolb, i_booli, i_int, i_str, i_tup, i_lst, i_loc, st0, st1, st2, st3, sq0, sq1, sq2, sq3, s_tup, s_lst, s_loc, s_str, m_app, r_loc, r_lst, sl_of, rg_of, Glob.isB, and_self, and_true, true_and, bt_name, bt_tup, bn_nil, bn_cons, Option.map_some, List.length_cons, List.length_nil, Nat.reduceAdd, Nat.zero_add, le_sz0, le_sz1, le_sz2, le_sz3, le_sz4, le_sz5, G_isinstance, G_list, G_len, G_str, G_range, G_max, G_min, G_int, G_bool, G_tuple, G_MOST, G_SIGNS, G_alike, G_points, G_around, G_on, G_floor, G_sizes, G_drawn, G_is_in, G_boxes, G_whole, G_mixed, G_cell_at, G_inner, G_around_, G_wide, G_cell, G_checked]
      · simp (disch := first | assumption | decide | omega) only [e_const, e_name, e_binop, e_not, e_usub, e_boolop, e_cmp, e_call, e_meth, e_slice, es_name, es_const, es_binop, es_call, es_sub, es_tuple, subE_eq, e_list, e_tuple, el_nil, el_cons, et_not, et_boolop, et_name, et_call, et_cmp, et_sub, valT_some, x_expr, x_ret, x_if, xa_nil, xa_one, xa_dict, xa_two, xa_name, xa_const, xa_binop, xa_boolop, xa_unop, xa_cmp, xa_call, xa_sub, xa_tuple, setN_some, xt_call, xt_sub, setT_some, xs_nil, xs_cons, t_nil_and, t_nil_or, t_and, t_or, v_one, v_and, v_or, ite_pair, ite_b, decide_eq_true_eq, beq_iff_eq, upd_str, emp_str, ofString_inj, String.reduceEq, ↓reduceIte, constP, Glob.val?, tyOf, b_add, b_sub, b_mul, b_mod, b_div, b_str, b_lst, c_lt, c_le, c_gt, c_ge, c_eqi, c_nei, c_eqs, c_eqb, c_neb, c_is, c_nin, k_lens, k_lenl, k_lent, k_leno, k_max, k_min, k_int, k_listl, k_listo, k_isi, i_boolb, i_booli, i_int, i_str, i_tup, i_lst, i_loc, st0, st1, st2, st3, sq0, sq1, sq2, sq3, s_tup, s_lst, s_loc, s_str, m_app, r_loc, r_lst, sl_of, rg_of, Glob.isB, and_self, and_true, true_and, bt_name, bt_tup, bn_nil, bn_cons, Option.map_some, List.length_cons, List.length_nil, Nat.reduceAdd, Nat.zero_add, le_sz0, le_sz1, le_sz2, le_sz3, le_sz4, le_sz5, G_isinstance, G_list, G_len, G_str, G_range, G_max, G_min, G_int, G_bool, G_tuple, G_MOST, G_SIGNS, G_alike, G_points, G_around, G_on, G_floor, G_sizes, G_drawn, G_is_in, G_boxes, G_whole, G_mixed, G_cell_at, G_inner, G_around_, G_wide, G_cell, G_checked]
    · rintro ρ τ ⟨rfl, W', w1, w2, r1, r2⟩
      have hd : W' ≠ 0 ∧ W'.natAbs < 1073741824 := ⟨by omega, by omega⟩
      obtain ⟨d1, d2, _⟩ := fdiv_bounds w1 (by omega)
      apply out_ret
      · (simp (disch := first | assumption | decide | omega) only [e_const, e_name, e_binop, e_not, e_usub, e_boolop, e_cmp, e_call, e_meth, e_slice, es_name, es_const, es_binop, es_call, es_sub, es_tuple, subE_eq, e_list, e_tuple, el_nil, el_cons, et_not, et_boolop, et_name, et_call, et_cmp, et_sub, valT_some, x_expr, x_ret, x_if, xa_nil, xa_one, xa_dict, xa_two, xa_name, xa_const, xa_binop, xa_boolop, xa_unop, xa_cmp, xa_call, xa_sub, xa_tuple, setN_some, xt_call, xt_sub, setT_some, xs_nil, xs_cons, t_nil_and, t_nil_or, t_and, t_or, v_one, v_and, v_or, ite_pair, ite_b, decide_eq_true_eq, beq_iff_eq, upd_str, emp_str, ofString_inj, String.reduceEq, ↓reduceIte, constP, Glob.val?, tyOf, b_add, b_sub, b_mul, b_mod, b_div, b_str, b_lst, c_lt, c_le, c_gt, c_ge, c_eqi, c_nei, c_eqs, c_eqb, c_neb, c_is, c_nin, k_lens, k_lenl, k_lent, k_leno, k_max, k_min, k_int, k_listl, k_listo, k_isi, i_boolb, i_booli, i_int, i_str, i_tup, i_lst, i_loc, st0, st1, st2, st3, sq0, sq1, sq2, sq3, s_tup, s_lst, s_loc, s_str, m_app, r_loc, r_lst, sl_of, rg_of, Glob.isB, and_self, and_true, true_and, bt_name, bt_tup, bn_nil, bn_cons, Option.map_some, List.length_cons, List.length_nil, Nat.reduceAdd, Nat.zero_add, le_sz0, le_sz1, le_sz2, le_sz3, le_sz4, le_sz5, G_isinstance, G_list, G_len, G_str, G_range, G_max, G_min, G_int, G_bool, G_tuple, G_MOST, G_SIGNS, G_alike, G_points, G_around, G_on, G_floor, G_sizes, G_drawn, G_is_in, G_boxes, G_whole, G_mixed, G_cell_at, G_inner, G_around_, G_wide, G_cell, G_checked, r1, r2]) <;> rfl
      · refine ⟨⟨_, W', ?_, ?_, by omega, w2, rfl⟩, rfl⟩ <;> (split <;> omega)
  · refine out_nil ?_
    apply out_ret
    · (simp (disch := first | assumption | decide | omega) only [e_const, e_name, e_binop, e_not, e_usub, e_boolop, e_cmp, e_call, e_meth, e_slice, es_name, es_const, es_binop, es_call, es_sub, es_tuple, subE_eq, e_list, e_tuple, el_nil, el_cons, et_not, et_boolop, et_name, et_call, et_cmp, et_sub, valT_some, x_expr, x_ret, x_if, xa_nil, xa_one, xa_dict, xa_two, xa_name, xa_const, xa_binop, xa_boolop, xa_unop, xa_cmp, xa_call, xa_sub, xa_tuple, setN_some, xt_call, xt_sub, setT_some, xs_nil, xs_cons, t_nil_and, t_nil_or, t_and, t_or, v_one, v_and, v_or, ite_pair, ite_b, decide_eq_true_eq, beq_iff_eq, upd_str, emp_str, ofString_inj, String.reduceEq, ↓reduceIte, constP, Glob.val?, tyOf, b_add, b_sub, b_mul, b_mod, b_div, b_str, b_lst, c_lt, c_le, c_gt, c_ge, c_eqi, c_nei, c_eqs, c_eqb, c_neb, c_is, c_nin, k_lens, k_lenl, k_lent, k_leno, k_max, k_min, k_int, k_listl, k_listo, k_isi, i_boolb, i_booli, i_int, i_str, i_tup, i_lst, i_loc, st0, st1, st2, st3, sq0, sq1, sq2, sq3, s_tup, s_lst, s_loc, s_str, m_app, r_loc, r_lst, sl_of, rg_of, Glob.isB, and_self, and_true, true_and, bt_name, bt_tup, bn_nil, bn_cons, Option.map_some, List.length_cons, List.length_nil, Nat.reduceAdd, Nat.zero_add, le_sz0, le_sz1, le_sz2, le_sz3, le_sz4, le_sz5, G_isinstance, G_list, G_len, G_str, G_range, G_max, G_min, G_int, G_bool, G_tuple, G_MOST, G_SIGNS, G_alike, G_points, G_around, G_on, G_floor, G_sizes, G_drawn, G_is_in, G_boxes, G_whole, G_mixed, G_cell_at, G_inner, G_around_, G_wide, G_cell, G_checked, m0, m1]) <;> rfl
    · exact ⟨⟨_, _, Int.fmod_nonneg_of_pos _ (by decide), Int.le_of_lt (Int.lt_trans (Int.fmod_lt_of_pos _ (by decide)) (by decide)), Int.fmod_nonneg_of_pos _ (by decide), Int.le_of_lt (Int.lt_trans (Int.fmod_lt_of_pos _ (by decide)) (by decide)), rfl⟩, rfl⟩
end
end
end Mine

set_option maxRecDepth 100000
namespace Mine
open PySem PySem.Spec PyProof.Rows PySem.Challenge

/-- a row of w signs -/
noncomputable def Row (w : Nat) (r : Str) : Prop := r.length = w ∧ ∀ c ∈ r.cps.toList, c = 35 ∨ c = 46
noncomputable def Good (rows : List Str) : Prop := rows.length ≤ 30 ∧ ∃ w, w ≤ 30 ∧ ∀ r ∈ rows, Row w r

theorem row_snoc {j : Nat} {x : Str} (h : Row j x) (b : Bool) : Row (j + 1) (x ++ ⟨#[if b then 35 else 46]⟩) := by
  constructor
  · show (x.cps ++ #[if b then 35 else 46]).size = j + 1
    have := h.1
    simp only [Array.size_append, List.size_toArray, List.length_cons, List.length_nil]
    show x.cps.size + 1 = j + 1
    rw [show x.cps.size = j from this]
  · intro c hc
    have hc' : c ∈ (x.cps ++ #[if b then 35 else 46]).toList := hc
    rw [Array.toList_append, List.mem_append] at hc'
    rcases hc' with q | q
    · exact h.2 c q
    · simp at q
      cases b <;> simp_all

section
variable {Φ : Fns} {σ : Store}
variable (hcell : ∀ (ns : List Int) (k : Int) (σ : Store), 0 ≤ k → ns.length ≤ 63 → Φ (Str.ofString "_law_cell_at") [.lst (ns.map .int), .int k] σ = some (.int (cellAt ns k), σ))
variable (hmix : ∀ (c k : Int) (σ : Store), 0 ≤ k → k < 4 → Φ (Str.ofString "_law_mixed") [.int c, .int k] σ = some (.int (mixed c k), σ))
variable (hboxes : ∀ (ns : List Int) (high wide : Int) (σ : Store), ns.length ≤ 63 → ∃ bs : List (Int × Int × Int × Int), Φ (Str.ofString "_law_boxes") [.lst (ns.map .int), .int high, .int wide] σ = some (.loc σ.length, σ ++ [.list (bs.map tup4)]))
variable (hisin : ∀ (bs : List (Int × Int × Int × Int)) (i : Nat) (r c : Int) (σ : Store), σ[i]? = some (.list (bs.map tup4)) → ∃ b, Φ (Str.ofString "_law_is_in") [.loc i, .int r, .int c] σ = some (.bool b, σ))
variable (hdrawn : ∀ (ns : List Int) (r c : Int) (σ : Store), ns.length ≤ 63 → 0 ≤ r → ∃ b, Φ (Str.ofString "_law_drawn") [.lst (ns.map .int), .int r, .int c] σ = some (.bool b, σ))
variable (hsizes : ∀ (ns : List Int) (σ : Store), ns.length ≤ 63 → ∃ h w : Int, 0 ≤ h ∧ h ≤ 30 ∧ 0 ≤ w ∧ w ≤ 30 ∧ Φ (Str.ofString "_law_sizes") [.lst (ns.map .int), .int 30] σ = some (.tup [.int h, .int w], σ))
include hcell hmix hboxes hisin hdrawn hsizes
set_option maxHeartbeats 1000000 in
theorem floor_run {ns : List Int} (hl : ns.length ≤ 63) : ∃ (bs : List (Int × Int × Int × Int)) (rows : List Str), interpF Φ Gl (dOf pw "_law_floor") [.lst (ns.map .int), .int 30] σ = some (.loc (σ.length + 1), σ ++ [.list (bs.map tup4), .list (rows.map .str)]) ∧ Good rows := by
  have hs := sz
  suffices hh : Out (execSs Φ Gl (dOf pw "_law_floor").body (bindP ((dOf pw "_law_floor").params.args.map (·.arg)) [.lst (ns.map .int), .int 30]) σ) No (fun u τ => u = .loc (σ.length + 1) ∧ ∃ (bs : List (Int × Int × Int × Int)) (rows : List Str), τ = σ ++ [.list (bs.map tup4), .list (rows.map .str)] ∧ Good rows) by
    obtain ⟨v, τ, e, rfl, bs, rows, rfl, hg⟩ := out_run (by kernel_rfl) hh
    exact ⟨bs, rows, e, hg⟩
  change Out (execSs Φ Gl (_ :: _ :: _) (bindP [_, _] _) σ) _ _
  rw [bindP2]
  obtain ⟨h, w, h0, h30, w0, w30, e1⟩ := hsizes ns σ hl
  obtain ⟨bs, e2⟩ := hboxes ns h w σ hl
  have e3 := fun τ => hcell ns 1 τ (by omega) hl
  have m0 := fun x τ => hmix x 0 τ (by decide) (by decide)
  apply out_next
  · (simp (disch := first | assumption | decide | omega) only [e_const, e_name, e_binop, e_not, e_usub, e_boolop, e_cmp, e_call, e_meth, e_slice, es_name, es_const, es_binop, es_call, es_sub, es_tuple, subE_eq, e_list, e_tuple, el_nil, el_cons, et_not, et_boolop, et_name, et_call, et_cmp, et_sub, valT_some, x_expr, x_ret, x_if, xa_nil, xa_one, xa_dict, xa_two, xa_name, xa_const, xa_binop, xa_boolop, xa_unop, xa_cmp, xa_call, xa_sub, xa_tuple, setN_some, xt_call, xt_sub, setT_some, xs_nil, xs_cons, t_nil_and, t_nil_or, t_and, t_or, v_one, v_and, v_or, ite_pair, ite_b, decide_eq_true_eq, beq_iff_eq, upd_str, emp_str, ofString_inj, String.reduceEq, ↓reduceIte, constP, Glob.val?, tyOf, b_add, b_sub, b_mul, b_mod, b_div, b_str, b_lst, c_lt, c_le, c_gt, c_ge, c_eqi, c_nei, c_eqs, c_eqb, c_neb, c_is, c_nin, k_lens, k_lenl, k_lent, k_leno, k_max, k_min, k_int, k_listl, k_listo, k_isi, i_boolb, i_booli, i_int, i_str, i_tup, i_lst, i_loc, st0, st1, st2, st3, sq0, sq1, sq2, sq3, s_tup, s_lst, s_loc, s_str, m_app, r_loc, r_lst, sl_of, rg_of, Glob.isB, and_self, and_true, true_and, bt_name, bt_tup, bn_nil, bn_cons, Option.map_some, List.length_cons, List.length_nil, Nat.reduceAdd, Nat.zero_add, le_sz0, le_sz1, le_sz2, le_sz3, le_sz4, le_sz5, G_isinstance, G_list, G_len, G_str, G_range, G_max, G_min, G_int, G_bool, G_tuple, G_MOST, G_SIGNS, G_alike, G_points, G_around, G_on, G_floor, G_sizes, G_drawn, G_is_in, G_boxes, G_whole, G_mixed, G_cell_at, G_inner, G_around_, G_wide, G_cell, G_checked, e1]) <;> rfl
  apply out_next
  · (simp (disch := first | assumption | decide | omega) only [e_const, e_name, e_binop, e_not, e_usub, e_boolop, e_cmp, e_call, e_meth, e_slice, es_name, es_const, es_binop, es_call, es_sub, es_tuple, subE_eq, e_list, e_tuple, el_nil, el_cons, et_not, et_boolop, et_name, et_call, et_cmp, et_sub, valT_some, x_expr, x_ret, x_if, xa_nil, xa_one, xa_dict, xa_two, xa_name, xa_const, xa_binop, xa_boolop, xa_unop, xa_cmp, xa_call, xa_sub, xa_tuple, setN_some, xt_call, xt_sub, setT_some, xs_nil, xs_cons, t_nil_and, t_nil_or, t_and, t_or, v_one, v_and, v_or, ite_pair, ite_b, decide_eq_true_eq, beq_iff_eq, upd_str, emp_str, ofString_inj, String.reduceEq, ↓reduceIte, constP, Glob.val?, tyOf, b_add, b_sub, b_mul, b_mod, b_div, b_str, b_lst, c_lt, c_le, c_gt, c_ge, c_eqi, c_nei, c_eqs, c_eqb, c_neb, c_is, c_nin, k_lens, k_lenl, k_lent, k_leno, k_max, k_min, k_int, k_listl, k_listo, k_isi, i_boolb, i_booli, i_int, i_str, i_tup, i_lst, i_loc, st0, st1, st2, st3, sq0, sq1, sq2, sq3, s_tup, s_lst, s_loc, s_str, m_app, r_loc, r_lst, sl_of, rg_of, Glob.isB, and_self, and_true, true_and, bt_name, bt_tup, bn_nil, bn_cons, Option.map_some, List.length_cons, List.length_nil, Nat.reduceAdd, Nat.zero_add, le_sz0, le_sz1, le_sz2, le_sz3, le_sz4, le_sz5, G_isinstance, G_list, G_len, G_str, G_range, G_max, G_min, G_int, G_bool, G_tuple, G_MOST, G_SIGNS, G_alike, G_points, G_around, G_on, G_floor, G_sizes, G_drawn, G_is_in, G_boxes, G_whole, G_mixed, G_cell_at, G_inner, G_around_, G_wide, G_cell, G_checked, e3, m0]) <;> rfl
  apply out_next
  · (simp (disch := first | assumption | decide | omega) only [e_const, e_name, e_binop, e_not, e_usub, e_boolop, e_cmp, e_call, e_meth, e_slice, es_name, es_const, es_binop, es_call, es_sub, es_tuple, subE_eq, e_list, e_tuple, el_nil, el_cons, et_not, et_boolop, et_name, et_call, et_cmp, et_sub, valT_some, x_expr, x_ret, x_if, xa_nil, xa_one, xa_dict, xa_two, xa_name, xa_const, xa_binop, xa_boolop, xa_unop, xa_cmp, xa_call, xa_sub, xa_tuple, setN_some, xt_call, xt_sub, setT_some, xs_nil, xs_cons, t_nil_and, t_nil_or, t_and, t_or, v_one, v_and, v_or, ite_pair, ite_b, decide_eq_true_eq, beq_iff_eq, upd_str, emp_str, ofString_inj, String.reduceEq, ↓reduceIte, constP, Glob.val?, tyOf, b_add, b_sub, b_mul, b_mod, b_div, b_str, b_lst, c_lt, c_le, c_gt, c_ge, c_eqi, c_nei, c_eqs, c_eqb, c_neb, c_is, c_nin, k_lens, k_lenl, k_lent, k_leno, k_max, k_min, k_int, k_listl, k_listo, k_isi, i_boolb, i_booli, i_int, i_str, i_tup, i_lst, i_loc, st0, st1, st2, st3, sq0, sq1, sq2, sq3, s_tup, s_lst, s_loc, s_str, m_app, r_loc, r_lst, sl_of, rg_of, Glob.isB, and_self, and_true, true_and, bt_name, bt_tup, bn_nil, bn_cons, Option.map_some, List.length_cons, List.length_nil, Nat.reduceAdd, Nat.zero_add, le_sz0, le_sz1, le_sz2, le_sz3, le_sz4, le_sz5, G_isinstance, G_list, G_len, G_str, G_range, G_max, G_min, G_int, G_bool, G_tuple, G_MOST, G_SIGNS, G_alike, G_points, G_around, G_on, G_floor, G_sizes, G_drawn, G_is_in, G_boxes, G_whole, G_mixed, G_cell_at, G_inner, G_around_, G_wide, G_cell, G_checked, e2]) <;> rfl
  apply out_next
  · (simp (disch := first | assumption | decide | omega) only [e_const, e_name, e_binop, e_not, e_usub, e_boolop, e_cmp, e_call, e_meth, e_slice, es_name, es_const, es_binop, es_call, es_sub, es_tuple, subE_eq, e_list, e_tuple, el_nil, el_cons, et_not, et_boolop, et_name, et_call, et_cmp, et_sub, valT_some, x_expr, x_ret, x_if, xa_nil, xa_one, xa_dict, xa_two, xa_name, xa_const, xa_binop, xa_boolop, xa_unop, xa_cmp, xa_call, xa_sub, xa_tuple, setN_some, xt_call, xt_sub, setT_some, xs_nil, xs_cons, t_nil_and, t_nil_or, t_and, t_or, v_one, v_and, v_or, ite_pair, ite_b, decide_eq_true_eq, beq_iff_eq, upd_str, emp_str, ofString_inj, String.reduceEq, ↓reduceIte, constP, Glob.val?, tyOf, b_add, b_sub, b_mul, b_mod, b_div, b_str, b_lst, c_lt, c_le, c_gt, c_ge, c_eqi, c_nei, c_eqs, c_eqb, c_neb, c_is, c_nin, k_lens, k_lenl, k_lent, k_leno, k_max, k_min, k_int, k_listl, k_listo, k_isi, i_boolb, i_booli, i_int, i_str, i_tup, i_lst, i_loc, st0, st1, st2, st3, sq0, sq1, sq2, sq3, s_tup, s_lst, s_loc, s_str, m_app, r_loc, r_lst, sl_of, rg_of, Glob.isB, and_self, and_true, true_and, bt_name, bt_tup, bn_nil, bn_cons, Option.map_some, List.length_cons, List.length_nil, Nat.reduceAdd, Nat.zero_add, le_sz0, le_sz1, le_sz2, le_sz3, le_sz4, le_sz5, G_isinstance, G_list, G_len, G_str, G_range, G_max, G_min, G_int, G_bool, G_tuple, G_MOST, G_SIGNS, G_alike, G_points, G_around, G_on, G_floor, G_sizes, G_drawn, G_is_in, G_boxes, G_whole, G_mixed, G_cell_at, G_inner, G_around_, G_wide, G_cell, G_checked]) <;> rfl
  rw [show (σ ++ [PO.list (bs.map tup4)]).length = σ.length + 1 by simp, List.append_assoc]
  generalize hkd : (mixed (cellAt ns 1) 0).fmod 4 = kd
  have E0 : ∀ (P : Locals → Prop), True := fun _ => trivial
  let E : Locals → Prop := fun ρ => ρ (Str.ofString "_law_script") = some (.lst (ns.map .int)) ∧ ρ (Str.ofString "_law_wide") = some (.int w) ∧ ρ (Str.ofString "_law_kind") = some (.int kd) ∧ ρ (Str.ofString "_law_boxes_here") = some (.loc σ.length) ∧ ρ (Str.ofString "_law_rows") = some (.loc (σ.length + 1))
  refine out_cons (out_mono (out_for (R := fun u τ => u = .loc (σ.length + 1) ∧ ∃ (bs : List (Int × Int × Int × Int)) (rows : List Str), τ = σ ++ [.list (bs.map tup4), .list (rows.map .str)] ∧ Good rows)
    (for_rng (ds := rangeP 0 h 1) (vs := [.int h]) (σ₁ := σ ++ ([.list (bs.map tup4)] ++ [.list []])) (by (simp (disch := first | assumption | decide | omega) only [e_const, e_name, e_binop, e_not, e_usub, e_boolop, e_cmp, e_call, e_meth, e_slice, es_name, es_const, es_binop, es_call, es_sub, es_tuple, subE_eq, e_list, e_tuple, el_nil, el_cons, et_not, et_boolop, et_name, et_call, et_cmp, et_sub, valT_some, x_expr, x_ret, x_if, xa_nil, xa_one, xa_dict, xa_two, xa_name, xa_const, xa_binop, xa_boolop, xa_unop, xa_cmp, xa_call, xa_sub, xa_tuple, setN_some, xt_call, xt_sub, setT_some, xs_nil, xs_cons, t_nil_and, t_nil_or, t_and, t_or, v_one, v_and, v_or, ite_pair, ite_b, decide_eq_true_eq, beq_iff_eq, upd_str, emp_str, ofString_inj, String.reduceEq, ↓reduceIte, constP, Glob.val?, tyOf, b_add, b_sub, b_mul, b_mod, b_div, b_str, b_lst, c_lt, c_le, c_gt, c_ge, c_eqi, c_nei, c_eqs, c_eqb, c_neb, c_is, c_nin, k_lens, k_lenl, k_lent, k_leno, k_max, k_min, k_int, k_listl, k_listo, k_isi, i_boolb, i_booli, i_int, i_str, i_tup, i_lst, i_loc, st0, st1, st2, st3, sq0, sq1, sq2, sq3, s_tup, s_lst, s_loc, s_str, m_app, r_loc, r_lst, sl_of, rg_of, Glob.isB, and_self, and_true, true_and, bt_name, bt_tup, bn_nil, bn_cons, Option.map_some, List.length_cons, List.length_nil, Nat.reduceAdd, Nat.zero_add, le_sz0, le_sz1, le_sz2, le_sz3, le_sz4, le_sz5, G_isinstance, G_list, G_len, G_str, G_range, G_max, G_min, G_int, G_bool, G_tuple, G_MOST, G_SIGNS, G_alike, G_points, G_around, G_on, G_floor, G_sizes, G_drawn, G_is_in, G_boxes, G_whole, G_mixed, G_cell_at, G_inner, G_around_, G_wide, G_cell, G_checked]) <;> rfl) ?_ (range1 (by omega) (by omega)))
    (fun i ρ τ => E ρ ∧ ∃ rows : List Str, rows.length = i ∧ (∀ r ∈ rows, Row w.toNat r) ∧ τ = σ ++ [.list (bs.map tup4), .list (rows.map .str)]) ?_ ?_) ?_ fun _ _ h => h)
  · (simp (disch := first | assumption | decide | omega) only [e_const, e_name, e_binop, e_not, e_usub, e_boolop, e_cmp, e_call, e_meth, e_slice, es_name, es_const, es_binop, es_call, es_sub, es_tuple, subE_eq, e_list, e_tuple, el_nil, el_cons, et_not, et_boolop, et_name, et_call, et_cmp, et_sub, valT_some, x_expr, x_ret, x_if, xa_nil, xa_one, xa_dict, xa_two, xa_name, xa_const, xa_binop, xa_boolop, xa_unop, xa_cmp, xa_call, xa_sub, xa_tuple, setN_some, xt_call, xt_sub, setT_some, xs_nil, xs_cons, t_nil_and, t_nil_or, t_and, t_or, v_one, v_and, v_or, ite_pair, ite_b, decide_eq_true_eq, beq_iff_eq, upd_str, emp_str, ofString_inj, String.reduceEq, ↓reduceIte, constP, Glob.val?, tyOf, b_add, b_sub, b_mul, b_mod, b_div, b_str, b_lst, c_lt, c_le, c_gt, c_ge, c_eqi, c_nei, c_eqs, c_eqb, c_neb, c_is, c_nin, k_lens, k_lenl, k_lent, k_leno, k_max, k_min, k_int, k_listl, k_listo, k_isi, i_boolb, i_booli, i_int, i_str, i_tup, i_lst, i_loc, st0, st1, st2, st3, sq0, sq1, sq2, sq3, s_tup, s_lst, s_loc, s_str, m_app, r_loc, r_lst, sl_of, rg_of, Glob.isB, and_self, and_true, true_and, bt_name, bt_tup, bn_nil, bn_cons, Option.map_some, List.length_cons, List.length_nil, Nat.reduceAdd, Nat.zero_add, le_sz0, le_sz1, le_sz2, le_sz3, le_sz4, le_sz5, G_isinstance, G_list, G_len, G_str, G_range, G_max, G_min, G_int, G_bool, G_tuple, G_MOST, G_SIGNS, G_alike, G_points, G_around, G_on, G_floor, G_sizes, G_drawn, G_is_in, G_boxes, G_whole, G_mixed, G_cell_at, G_inner, G_around_, G_wide, G_cell, G_checked]) <;> rfl
  · refine ⟨?_, [], rfl, (fun _ h => by cases h), rfl⟩
    simp (disch := first | assumption | decide | omega) only [e_const, e_name, e_binop, e_not, e_usub, e_boolop, e_cmp, e_call, e_meth, e_slice, es_name, es_const, es_binop, es_call, es_sub, es_tuple, subE_eq, e_list, e_tuple, el_nil, el_cons, et_not, et_boolop, et_name, et_call, et_cmp, et_sub, valT_some, x_expr, x_ret, x_if, xa_nil, xa_one, xa_dict, xa_two, xa_name, xa_const, xa_binop, xa_boolop, xa_unop, xa_cmp, xa_call, xa_sub, xa_tuple, setN_some, xt_call, xt_sub, setT_some, xs_nil, xs_cons, t_nil_and, t_nil_or, t_and, t_or, v_one, v_and, v_or, ite_pair, ite_b, decide_eq_true_eq, beq_iff_eq, upd_str, emp_str, ofString_inj, String.reduceEq, ↓reduceIte, constP, Glob.val?, tyOf, b_add, b_sub, b_mul, b_mod, b_div, b_str, b_lst, c_lt, c_le, c_gt, c_ge, c_eqi, c_nei, c_eqs, c_eqb, c_neb, c_is, c_nin, k_lens, k_lenl, k_lent, k_leno, k_max, k_min, k_int, k_listl, k_listo, k_isi, i_boolb, i_booli, i_int, i_str, i_tup, i_lst, i_loc, st0, st1, st2, st3, sq0, sq1, sq2, sq3, s_tup, s_lst, s_loc, s_str, m_app, r_loc, r_lst, sl_of, rg_of, Glob.isB, and_self, and_true, true_and, bt_name, bt_tup, bn_nil, bn_cons, Option.map_some, List.length_cons, List.length_nil, Nat.reduceAdd, Nat.zero_add, le_sz0, le_sz1, le_sz2, le_sz3, le_sz4, le_sz5, G_isinstance, G_list, G_len, G_str, G_range, G_max, G_min, G_int, G_bool, G_tuple, G_MOST, G_SIGNS, G_alike, G_points, G_around, G_on, G_floor, G_sizes, G_drawn, G_is_in, G_boxes, G_whole, G_mixed, G_cell_at, G_inner, G_around_, G_wide, G_cell, G_checked, E]
  · rintro i d ρ τ hd ⟨⟨r1, r2, r3, r4, r5⟩, rows, hlen, hrows, rfl⟩
    obtain ⟨rfl, hi⟩ := rangeP_get hd
    refine ⟨_, rfl, ?_⟩
    have g0 : (σ ++ [PO.list (bs.map tup4), .list (rows.map .str)])[σ.length]? = some (.list (bs.map tup4)) := get2_0 _ _ _
    have g1 : (σ ++ [PO.list (bs.map tup4), .list (rows.map .str)])[σ.length + 1]? = some (.list (rows.map .str)) := get2_1 _ _ _
    generalize hτ : σ ++ [PO.list (bs.map tup4), .list (rows.map .str)] = τ at g0 g1
    apply out_next
    · (simp (disch := first | assumption | decide | omega) only [e_const, e_name, e_binop, e_not, e_usub, e_boolop, e_cmp, e_call, e_meth, e_slice, es_name, es_const, es_binop, es_call, es_sub, es_tuple, subE_eq, e_list, e_tuple, el_nil, el_cons, et_not, et_boolop, et_name, et_call, et_cmp, et_sub, valT_some, x_expr, x_ret, x_if, xa_nil, xa_one, xa_dict, xa_two, xa_name, xa_const, xa_binop, xa_boolop, xa_unop, xa_cmp, xa_call, xa_sub, xa_tuple, setN_some, xt_call, xt_sub, setT_some, xs_nil, xs_cons, t_nil_and, t_nil_or, t_and, t_or, v_one, v_and, v_or, ite_pair, ite_b, decide_eq_true_eq, beq_iff_eq, upd_str, emp_str, ofString_inj, String.reduceEq, ↓reduceIte, constP, Glob.val?, tyOf, b_add, b_sub, b_mul, b_mod, b_div, b_str, b_lst, c_lt, c_le, c_gt, c_ge, c_eqi, c_nei, c_eqs, c_eqb, c_neb, c_is, c_nin, k_lens, k_lenl, k_lent, k_leno, k_max, k_min, k_int, k_listl, k_listo, k_isi, i_boolb, i_booli, i_int, i_str, i_tup, i_lst, i_loc, st0, st1, st2, st3, sq0, sq1, sq2, sq3, s_tup, s_lst, s_loc, s_str, m_app, r_loc, r_lst, sl_of, rg_of, Glob.isB, and_self, and_true, true_and, bt_name, bt_tup, bn_nil, bn_cons, Option.map_some, List.length_cons, List.length_nil, Nat.reduceAdd, Nat.zero_add, le_sz0, le_sz1, le_sz2, le_sz3, le_sz4, le_sz5, G_isinstance, G_list, G_len, G_str, G_range, G_max, G_min, G_int, G_bool, G_tuple, G_MOST, G_SIGNS, G_alike, G_points, G_around, G_on, G_floor, G_sizes, G_drawn, G_is_in, G_boxes, G_whole, G_mixed, G_cell_at, G_inner, G_around_, G_wide, G_cell, G_checked]) <;> rfl
    -- the inner loop
    refine out_cons (out_mono (out_for (R := fun u τ => u = .loc (σ.length + 1) ∧ ∃ (bs : List (Int × Int × Int × Int)) (rows : List Str), τ = σ ++ [.list (bs.map tup4), .list (rows.map .str)] ∧ Good rows)
      (for_rng (ds := rangeP 0 w 1) (vs := [.int w]) (σ₁ := τ) (by (simp (disch := first | assumption | decide | omega) only [e_const, e_name, e_binop, e_not, e_usub, e_boolop, e_cmp, e_call, e_meth, e_slice, es_name, es_const, es_binop, es_call, es_sub, es_tuple, subE_eq, e_list, e_tuple, el_nil, el_cons, et_not, et_boolop, et_name, et_call, et_cmp, et_sub, valT_some, x_expr, x_ret, x_if, xa_nil, xa_one, xa_dict, xa_two, xa_name, xa_const, xa_binop, xa_boolop, xa_unop, xa_cmp, xa_call, xa_sub, xa_tuple, setN_some, xt_call, xt_sub, setT_some, xs_nil, xs_cons, t_nil_and, t_nil_or, t_and, t_or, v_one, v_and, v_or, ite_pair, ite_b, decide_eq_true_eq, beq_iff_eq, upd_str, emp_str, ofString_inj, String.reduceEq, ↓reduceIte, constP, Glob.val?, tyOf, b_add, b_sub, b_mul, b_mod, b_div, b_str, b_lst, c_lt, c_le, c_gt, c_ge, c_eqi, c_nei, c_eqs, c_eqb, c_neb, c_is, c_nin, k_lens, k_lenl, k_lent, k_leno, k_max, k_min, k_int, k_listl, k_listo, k_isi, i_boolb, i_booli, i_int, i_str, i_tup, i_lst, i_loc, st0, st1, st2, st3, sq0, sq1, sq2, sq3, s_tup, s_lst, s_loc, s_str, m_app, r_loc, r_lst, sl_of, rg_of, Glob.isB, and_self, and_true, true_and, bt_name, bt_tup, bn_nil, bn_cons, Option.map_some, List.length_cons, List.length_nil, Nat.reduceAdd, Nat.zero_add, le_sz0, le_sz1, le_sz2, le_sz3, le_sz4, le_sz5, G_isinstance, G_list, G_len, G_str, G_range, G_max, G_min, G_int, G_bool, G_tuple, G_MOST, G_SIGNS, G_alike, G_points, G_around, G_on, G_floor, G_sizes, G_drawn, G_is_in, G_boxes, G_whole, G_mixed, G_cell_at, G_inner, G_around_, G_wide, G_cell, G_checked]) <;> rfl) ?_ (range1 (by omega) (by omega)))
      (fun j ρ τ' => τ' = τ ∧ E ρ ∧ ρ (Str.ofString "_law_row") = some (.int i) ∧ ∃ x, ρ (Str.ofString "_law_signs") = some (.str x) ∧ Row j x) ?_ ?_) ?_ fun _ _ h => h)
    · (simp (disch := first | assumption | decide | omega) only [e_const, e_name, e_binop, e_not, e_usub, e_boolop, e_cmp, e_call, e_meth, e_slice, es_name, es_const, es_binop, es_call, es_sub, es_tuple, subE_eq, e_list, e_tuple, el_nil, el_cons, et_not, et_boolop, et_name, et_call, et_cmp, et_sub, valT_some, x_expr, x_ret, x_if, xa_nil, xa_one, xa_dict, xa_two, xa_name, xa_const, xa_binop, xa_boolop, xa_unop, xa_cmp, xa_call, xa_sub, xa_tuple, setN_some, xt_call, xt_sub, setT_some, xs_nil, xs_cons, t_nil_and, t_nil_or, t_and, t_or, v_one, v_and, v_or, ite_pair, ite_b, decide_eq_true_eq, beq_iff_eq, upd_str, emp_str, ofString_inj, String.reduceEq, ↓reduceIte, constP, Glob.val?, tyOf, b_add, b_sub, b_mul, b_mod, b_div, b_str, b_lst, c_lt, c_le, c_gt, c_ge, c_eqi, c_nei, c_eqs, c_eqb, c_neb, c_is, c_nin, k_lens, k_lenl, k_lent, k_leno, k_max, k_min, k_int, k_listl, k_listo, k_isi, i_boolb, i_booli, i_int, i_str, i_tup, i_lst, i_loc, st0, st1, st2, st3, sq0, sq1, sq2, sq3, s_tup, s_lst, s_loc, s_str, m_app, r_loc, r_lst, sl_of, rg_of, Glob.isB, and_self, and_true, true_and, bt_name, bt_tup, bn_nil, bn_cons, Option.map_some, List.length_cons, List.length_nil, Nat.reduceAdd, Nat.zero_add, le_sz0, le_sz1, le_sz2, le_sz3, le_sz4, le_sz5, G_isinstance, G_list, G_len, G_str, G_range, G_max, G_min, G_int, G_bool, G_tuple, G_MOST, G_SIGNS, G_alike, G_points, G_around, G_on, G_floor, G_sizes, G_drawn, G_is_in, G_boxes, G_whole, G_mixed, G_cell_at, G_inner, G_around_, G_wide, G_cell, G_checked, r2]) <;> rfl
    · refine ⟨rfl, ?_, ?_, Str.ofString "", ?_, ?_⟩
      · simp (disch := first | assumption | decide | omega) only [e_const, e_name, e_binop, e_not, e_usub, e_boolop, e_cmp, e_call, e_meth, e_slice, es_name, es_const, es_binop, es_call, es_sub, es_tuple, subE_eq, e_list, e_tuple, el_nil, el_cons, et_not, et_boolop, et_name, et_call, et_cmp, et_sub, valT_some, x_expr, x_ret, x_if, xa_nil, xa_one, xa_dict, xa_two, xa_name, xa_const, xa_binop, xa_boolop, xa_unop, xa_cmp, xa_call, xa_sub, xa_tuple, setN_some, xt_call, xt_sub, setT_some, xs_nil, xs_cons, t_nil_and, t_nil_or, t_and, t_or, v_one, v_and, v_or, ite_pair, ite_b, decide_eq_true_eq, beq_iff_eq, upd_str, emp_str, ofString_inj, String.reduceEq, ↓reduceIte, constP, Glob.val?, tyOf, b_add, b_sub, b_mul, b_mod, b_div, b_str, b_lst, c_lt, c_le, c_gt, c_ge, c_eqi, c_nei, c_eqs, c_eqb, c_neb, c_is, c_nin, k_lens, k_lenl, k_lent, k_leno, k_max, k_min, k_int, k_listl, k_listo, k_isi, i_boolb, i_booli, i_int, i_str, i_tup, i_lst, i_loc, st0, st1, st2, st3, sq0, sq1, sq2, sq3, s_tup, s_lst, s_loc, s_str, m_app, r_loc, r_lst, sl_of, rg_of, Glob.isB, and_self, and_true, true_and, bt_name, bt_tup, bn_nil, bn_cons, Option.map_some, List.length_cons, List.length_nil, Nat.reduceAdd, Nat.zero_add, le_sz0, le_sz1, le_sz2, le_sz3, le_sz4, le_sz5, G_isinstance, G_list, G_len, G_str, G_range, G_max, G_min, G_int, G_bool, G_tuple, G_MOST, G_SIGNS, G_alike, G_points, G_around, G_on, G_floor, G_sizes, G_drawn, G_is_in, G_boxes, G_whole, G_mixed, G_cell_at, G_inner, G_around_, G_wide, G_cell, G_checked, E, r1, r2, r3, r4, r5]
      · simp (disch := first | assumption | decide | omega) only [e_const, e_name, e_binop, e_not, e_usub, e_boolop, e_cmp, e_call, e_meth, e_slice, es_name, es_const, es_binop, es_call, es_sub, es_tuple, subE_eq, e_list, e_tuple, el_nil, el_cons, et_not, et_boolop, et_name, et_call, et_cmp, et_sub, valT_some, x_expr, x_ret, x_if, xa_nil, xa_one, xa_dict, xa_two, xa_name, xa_const, xa_binop, xa_boolop, xa_unop, xa_cmp, xa_call, xa_sub, xa_tuple, setN_some, xt_call, xt_sub, setT_some, xs_nil, xs_cons, t_nil_and, t_nil_or, t_and, t_or, v_one, v_and, v_or, ite_pair, ite_b, decide_eq_true_eq, beq_iff_eq, upd_str, emp_str, ofString_inj, String.reduceEq, ↓reduceIte, constP, Glob.val?, tyOf, b_add, b_sub, b_mul, b_mod, b_div, b_str, b_lst, c_lt, c_le, c_gt, c_ge, c_eqi, c_nei, c_eqs, c_eqb, c_neb, c_is, c_nin, k_lens, k_lenl, k_lent, k_leno, k_max, k_min, k_int, k_listl, k_listo, k_isi, i_boolb, i_booli, i_int, i_str, i_tup, i_lst, i_loc, st0, st1, st2, st3, sq0, sq1, sq2, sq3, s_tup, s_lst, s_loc, s_str, m_app, r_loc, r_lst, sl_of, rg_of, Glob.isB, and_self, and_true, true_and, bt_name, bt_tup, bn_nil, bn_cons, Option.map_some, List.length_cons, List.length_nil, Nat.reduceAdd, Nat.zero_add, le_sz0, le_sz1, le_sz2, le_sz3, le_sz4, le_sz5, G_isinstance, G_list, G_len, G_str, G_range, G_max, G_min, G_int, G_bool, G_tuple, G_MOST, G_SIGNS, G_alike, G_points, G_around, G_on, G_floor, G_sizes, G_drawn, G_is_in, G_boxes, G_whole, G_mixed, G_cell_at, G_inner, G_around_, G_wide, G_cell, G_checked]
      · simp (disch := first | assumption | decide | omega) only [e_const, e_name, e_binop, e_not, e_usub, e_boolop, e_cmp, e_call, e_meth, e_slice, es_name, es_const, es_binop, es_call, es_sub, es_tuple, subE_eq, e_list, e_tuple, el_nil, el_cons, et_not, et_boolop, et_name, et_call, et_cmp, et_sub, valT_some, x_expr, x_ret, x_if, xa_nil, xa_one, xa_dict, xa_two, xa_name, xa_const, xa_binop, xa_boolop, xa_unop, xa_cmp, xa_call, xa_sub, xa_tuple, setN_some, xt_call, xt_sub, setT_some, xs_nil, xs_cons, t_nil_and, t_nil_or, t_and, t_or, v_one, v_and, v_or, ite_pair, ite_b, decide_eq_true_eq, beq_iff_eq, upd_str, emp_str, ofString_inj, String.reduceEq, ↓reduceIte, constP, Glob.val?, tyOf, b_add, b_sub, b_mul, b_mod, b_div, b_str, b_lst, c_lt, c_le, c_gt, c_ge, c_eqi, c_nei, c_eqs, c_eqb, c_neb, c_is, c_nin, k_lens, k_lenl, k_lent, k_leno, k_max, k_min, k_int, k_listl, k_listo, k_isi, i_boolb, i_booli, i_int, i_str, i_tup, i_lst, i_loc, st0, st1, st2, st3, sq0, sq1, sq2, sq3, s_tup, s_lst, s_loc, s_str, m_app, r_loc, r_lst, sl_of, rg_of, Glob.isB, and_self, and_true, true_and, bt_name, bt_tup, bn_nil, bn_cons, Option.map_some, List.length_cons, List.length_nil, Nat.reduceAdd, Nat.zero_add, le_sz0, le_sz1, le_sz2, le_sz3, le_sz4, le_sz5, G_isinstance, G_list, G_len, G_str, G_range, G_max, G_min, G_int, G_bool, G_tuple, G_MOST, G_SIGNS, G_alike, G_points, G_around, G_on, G_floor, G_sizes, G_drawn, G_is_in, G_boxes, G_whole, G_mixed, G_cell_at, G_inner, G_around_, G_wide, G_cell, G_checked]
      · exact ⟨by decide +kernel, fun c hc => by simp [show (Str.ofString "").cps = #[] by decide +kernel] at hc⟩
    · rintro j d ρ τ' hd ⟨rfl, ⟨r1, r2, r3, r4, r5⟩, r6, x, hx, hrow⟩
      obtain ⟨rfl, hj⟩ := rangeP_get hd
      refine ⟨_, rfl, ?_⟩
      obtain ⟨b1, d1⟩ := hdrawn ns i j τ' hl (by omega)
      obtain ⟨b2, d2⟩ := hdrawn ns ((i : Int).fdiv 2) ((j : Int).fdiv 2) τ' hl (by rw [Int.fdiv_eq_ediv_of_nonneg _ (by decide)]; omega)
      obtain ⟨b3, d3⟩ := hisin bs σ.length i j τ' g0
      apply out_next
      · (simp (disch := first | assumption | decide | omega) only [e_const, e_name, e_binop, e_not, e_usub, e_boolop, e_cmp, e_call, e_meth, e_slice, es_name, es_const, es_binop, es_call, es_sub, es_tuple, subE_eq, e_list, e_tuple, el_nil, el_cons, et_not, et_boolop, et_name, et_call, et_cmp, et_sub, valT_some, x_expr, x_ret, x_if, xa_nil, xa_one, xa_dict, xa_two, xa_name, xa_const, xa_binop, xa_boolop, xa_unop, xa_cmp, xa_call, xa_sub, xa_tuple, setN_some, xt_call, xt_sub, setT_some, xs_nil, xs_cons, t_nil_and, t_nil_or, t_and, t_or, v_one, v_and, v_or, ite_pair, ite_b, decide_eq_true_eq, beq_iff_eq, upd_str, emp_str, ofString_inj, String.reduceEq, ↓reduceIte, constP, Glob.val?, tyOf, b_add, b_sub, b_mul, b_mod, b_div, b_str, b_lst, c_lt, c_le, c_gt, c_ge, c_eqi, c_nei, c_eqs, c_eqb, c_neb, c_is, c_nin, k_lens, k_lenl, k_lent, k_leno, k_max, k_min, k_int, k_listl, k_listo, k_isi, i_boolb, i_booli, i_int, i_str, i_tup, i_lst, i_loc, st0, st1, st2, st3, sq0, sq1, sq2, sq3, s_tup, s_lst, s_loc, s_str, m_app, r_loc, r_lst, sl_of, rg_of, Glob.isB, and_self, and_true, true_and, bt_name, bt_tup, bn_nil, bn_cons, Option.map_some, List.length_cons, List.length_nil, Nat.reduceAdd, Nat.zero_add, le_sz0, le_sz1, le_sz2, le_sz3, le_sz4, le_sz5, G_isinstance, G_list, G_len, G_str, G_range, G_max, G_min, G_int, G_bool, G_tuple, G_MOST, G_SIGNS, G_alike, G_points, G_around, G_on, G_floor, G_sizes, G_drawn, G_is_in, G_boxes, G_whole, G_mixed, G_cell_at, G_inner, G_around_, G_wide, G_cell, G_checked, r1, r6, d1]) <;> rfl
      refine out_cons (out_mono (K := fun ρ τ => τ = τ' ∧ E ρ ∧ ρ (Str.ofString "_law_row") = some (.int i) ∧ ρ (Str.ofString "_law_column") = some (.int j) ∧ ρ (Str.ofString "_law_signs") = some (.str x) ∧ ∃ b, ρ (Str.ofString "_law_on_here") = some (.bool b))
        (out_if (c := kd == 3) (σ₁ := τ') ?_ (fun _ => ?_) fun _ => ?_) ?_ fun _ _ h => h)
      · (simp (disch := first | assumption | decide | omega) only [e_const, e_name, e_binop, e_not, e_usub, e_boolop, e_cmp, e_call, e_meth, e_slice, es_name, es_const, es_binop, es_call, es_sub, es_tuple, subE_eq, e_list, e_tuple, el_nil, el_cons, et_not, et_boolop, et_name, et_call, et_cmp, et_sub, valT_some, x_expr, x_ret, x_if, xa_nil, xa_one, xa_dict, xa_two, xa_name, xa_const, xa_binop, xa_boolop, xa_unop, xa_cmp, xa_call, xa_sub, xa_tuple, setN_some, xt_call, xt_sub, setT_some, xs_nil, xs_cons, t_nil_and, t_nil_or, t_and, t_or, v_one, v_and, v_or, ite_pair, ite_b, decide_eq_true_eq, beq_iff_eq, upd_str, emp_str, ofString_inj, String.reduceEq, ↓reduceIte, constP, Glob.val?, tyOf, b_add, b_sub, b_mul, b_mod, b_div, b_str, b_lst, c_lt, c_le, c_gt, c_ge, c_eqi, c_nei, c_eqs, c_eqb, c_neb, c_is, c_nin, k_lens, k_lenl, k_lent, k_leno, k_max, k_min, k_int, k_listl, k_listo, k_isi, i_boolb, i_booli, i_int, i_str, i_tup, i_lst, i_loc, st0, st1, st2, st3, sq0, sq1, sq2, sq3, s_tup, s_lst, s_loc, s_str, m_app, r_loc, r_lst, sl_of, rg_of, Glob.isB, and_self, and_true, true_and, bt_name, bt_tup, bn_nil, bn_cons, Option.map_some, List.length_cons, List.length_nil, Nat.reduceAdd, Nat.zero_add, le_sz0, le_sz1, le_sz2, le_sz3, le_sz4, le_sz5, G_isinstance, G_list, G_len, G_str, G_range, G_max, G_min, G_int, G_bool, G_tuple, G_MOST, G_SIGNS, G_alike, G_points, G_around, G_on, G_floor, G_sizes, G_drawn, G_is_in, G_boxes, G_whole, G_mixed, G_cell_at, G_inner, G_around_, G_wide, G_cell, G_checked, r3]) <;> rfl
      · apply out_next
        · (simp (disch := first | assumption | decide | omega) only [e_const, e_name, e_binop, e_not, e_usub, e_boolop, e_cmp, e_call, e_meth, e_slice, es_name, es_const, es_binop, es_call, es_sub, es_tuple, subE_eq, e_list, e_tuple, el_nil, el_cons, et_not, et_boolop, et_name, et_call, et_cmp, et_sub, valT_some, x_expr, x_ret, x_if, xa_nil, xa_one, xa_dict, xa_two, xa_name, xa_const, xa_binop, xa_boolop, xa_unop, xa_cmp, xa_call, xa_sub, xa_tuple, setN_some, xt_call, xt_sub, setT_some, xs_nil, xs_cons, t_nil_and, t_nil_or, t_and, t_or, v_one, v_and, v_or, ite_pair, ite_b, decide_eq_true_eq, beq_iff_eq, upd_str, emp_str, ofString_inj, String.reduceEq, ↓reduceIte, constP, Glob.val?, tyOf, b_add, b_sub, b_mul, b_mod, b_div, b_str, b_lst, c_lt, c_le, c_gt, c_ge, c_eqi, c_nei, c_eqs, c_eqb, c_neb, c_is, c_nin, k_lens, k_lenl, k_lent, k_leno, k_max, k_min, k_int, k_listl, k_listo, k_isi, i_boolb, i_booli, i_int, i_str, i_tup, i_lst, i_loc, st0, st1, st2, st3, sq0, sq1, sq2, sq3, s_tup, s_lst, s_loc, s_str, m_app, r_loc, r_lst, sl_of, rg_of, Glob.isB, and_self, and_true, true_and, bt_name, bt_tup, bn_nil, bn_cons, Option.map_some, List.length_cons, List.length_nil, Nat.reduceAdd, Nat.zero_add, le_sz0, le_sz1, le_sz2, le_sz3, le_sz4, le_sz5, G_isinstance, G_list, G_len, G_str, G_range, G_max, G_min, G_int, G_bool, G_tuple, G_MOST, G_SIGNS, G_alike, G_points, G_around, G_on, G_floor, G_sizes, G_drawn, G_is_in, G_boxes, G_whole, G_mixed, G_cell_at, G_inner, G_around_, G_wide, G_cell, G_checked, r1, r6, d2]) <;> rfl
        refine out_nil ⟨rfl, ?_, ?_, ?_, ?_, b2, ?_⟩
        · simp (disch := first | assumption | decide | omega) only [e_const, e_name, e_binop, e_not, e_usub, e_boolop, e_cmp, e_call, e_meth, e_slice, es_name, es_const, es_binop, es_call, es_sub, es_tuple, subE_eq, e_list, e_tuple, el_nil, el_cons, et_not, et_boolop, et_name, et_call, et_cmp, et_sub, valT_some, x_expr, x_ret, x_if, xa_nil, xa_one, xa_dict, xa_two, xa_name, xa_const, xa_binop, xa_boolop, xa_unop, xa_cmp, xa_call, xa_sub, xa_tuple, setN_some, xt_call, xt_sub, setT_some, xs_nil, xs_cons, t_nil_and, t_nil_or, t_and, t_or, v_one, v_and, v_or, ite_pair, ite_b, decide_eq_true_eq, beq_iff_eq, upd_str, emp_str, ofString_inj, String.reduceEq, ↓reduceIte, constP, Glob.val?, tyOf, b_add, b_sub, b_mul, b_mod, b_div, b_str, b_lst, c_lt, c_le, c_gt, c_ge, c_eqi, c_nei, c_eqs, c_eqb, c_neb, c_is, c_nin, k_lens, k_lenl, k_lent, k_leno, k_max, k_min, k_int, k_listl, k_listo, k_isi, i_boolb, i_booli, i_int, i_str, i_tup, i_lst, i_loc, st0, st1, st2, st3, sq0, sq1, sq2, sq3, s_tup, s_lst, s_loc, s_str, m_app, r_loc, r_lst, sl_of, rg_of, Glob.isB, and_self, and_true, true_and, bt_name, bt_tup, bn_nil, bn_cons, Option.map_some, List.length_cons, List.length_nil, Nat.reduceAdd, Nat.zero_add, le_sz0, le_sz1, le_sz2, le_sz3, le_sz4, le_sz5, G_isinstance, G_list, G_len, G_str, G_range, G_max, G_min, G_int, G_bool, G_tuple, G_MOST, G_SIGNS, G_alike, G_points, G_around, G_on, G_floor, G_sizes, G_drawn, G_is_in, G_boxes, G_whole, G_mixed, G_cell_at, G_inner, G_around_, G_wide, G_cell, G_checked, E, r1, r2, r3, r4, r5]
        · simp (disch := first | assumption | decide | omega) only [e_const, e_name, e_binop, e_not, e_usub, e_boolop, e_cmp, e_call, e_meth, e_slice, es_name, es_const, es_binop, es_call, es_sub, es_tuple, subE_eq, e_list, e_tuple, el_nil, el_cons, et_not, et_boolop, et_name, et_call, et_cmp, et_sub, valT_some, x_expr, x_ret, x_if, xa_nil, xa_one, xa_dict, xa_two, xa_name, xa_const, xa_binop, xa_boolop, xa_unop, xa_cmp, xa_call, xa_sub, xa_tuple, setN_some, xt_call, xt_sub, setT_some, xs_nil, xs_cons, t_nil_and, t_nil_or, t_and, t_or, v_one, v_and, v_or, ite_pair, ite_b, decide_eq_true_eq, beq_iff_eq, upd_str, emp_str, ofString_inj, String.reduceEq, ↓reduceIte, constP, Glob.val?, tyOf, b_add, b_sub, b_mul, b_mod, b_div, b_str, b_lst, c_lt, c_le, c_gt, c_ge, c_eqi, c_nei, c_eqs, c_eqb, c_neb, c_is, c_nin, k_lens, k_lenl, k_lent, k_leno, k_max, k_min, k_int, k_listl, k_listo, k_isi, i_boolb, i_booli, i_int, i_str, i_tup, i_lst, i_loc, st0, st1, st2, st3, sq0, sq1, sq2, sq3, s_tup, s_lst, s_loc, s_str, m_app, r_loc, r_lst, sl_of, rg_of, Glob.isB, and_self, and_true, true_and, bt_name, bt_tup, bn_nil, bn_cons, Option.map_some, List.length_cons, List.length_nil, Nat.reduceAdd, Nat.zero_add, le_sz0, le_sz1, le_sz2, le_sz3, le_sz4, le_sz5, G_isinstance, G_list, G_len, G_str, G_range, G_max, G_min, G_int, G_bool, G_tuple, G_MOST, G_SIGNS, G_alike, G_points, G_around, G_on, G_floor, G_sizes, G_drawn, G_is_in, G_boxes, G_whole, G_mixed, G_cell_at, G_inner, G_around_, G_wide, G_cell, G_checked, r6]
        · simp (disch := first | assumption | decide | omega) only [e_const, e_name, e_binop, e_not, e_usub, e_boolop, e_cmp, e_call, e_meth, e_slice, es_name, es_const, es_binop, es_call, es_sub, es_tuple, subE_eq, e_list, e_tuple, el_nil, el_cons, et_not, et_boolop, et_name, et_call, et_cmp, et_sub, valT_some, x_expr, x_ret, x_if, xa_nil, xa_one, xa_dict, xa_two, xa_name, xa_const, xa_binop, xa_boolop, xa_unop, xa_cmp, xa_call, xa_sub, xa_tuple, setN_some, xt_call, xt_sub, setT_some, xs_nil, xs_cons, t_nil_and, t_nil_or, t_and, t_or, v_one, v_and, v_or, ite_pair, ite_b, decide_eq_true_eq, beq_iff_eq, upd_str, emp_str, ofString_inj, String.reduceEq, ↓reduceIte, constP, Glob.val?, tyOf, b_add, b_sub, b_mul, b_mod, b_div, b_str, b_lst, c_lt, c_le, c_gt, c_ge, c_eqi, c_nei, c_eqs, c_eqb, c_neb, c_is, c_nin, k_lens, k_lenl, k_lent, k_leno, k_max, k_min, k_int, k_listl, k_listo, k_isi, i_boolb, i_booli, i_int, i_str, i_tup, i_lst, i_loc, st0, st1, st2, st3, sq0, sq1, sq2, sq3, s_tup, s_lst, s_loc, s_str, m_app, r_loc, r_lst, sl_of, rg_of, Glob.isB, and_self, and_true, true_and, bt_name, bt_tup, bn_nil, bn_cons, Option.map_some, List.length_cons, List.length_nil, Nat.reduceAdd, Nat.zero_add, le_sz0, le_sz1, le_sz2, le_sz3, le_sz4, le_sz5, G_isinstance, G_list, G_len, G_str, G_range, G_max, G_min, G_int, G_bool, G_tuple, G_MOST, G_SIGNS, G_alike, G_points, G_around, G_on, G_floor, G_sizes, G_drawn, G_is_in, G_boxes, G_whole, G_mixed, G_cell_at, G_inner, G_around_, G_wide, G_cell, G_checked]
        · simp (disch := first | assumption | decide | omega) only [e_const, e_name, e_binop, e_not, e_usub, e_boolop, e_cmp, e_call, e_meth, e_slice, es_name, es_const, es_binop, es_call, es_sub, es_tuple, subE_eq, e_list, e_tuple, el_nil, el_cons, et_not, et_boolop, et_name, et_call, et_cmp, et_sub, valT_some, x_expr, x_ret, x_if, xa_nil, xa_one, xa_dict, xa_two, xa_name, xa_const, xa_binop, xa_boolop, xa_unop, xa_cmp, xa_call, xa_sub, xa_tuple, setN_some, xt_call, xt_sub, setT_some, xs_nil, xs_cons, t_nil_and, t_nil_or, t_and, t_or, v_one, v_and, v_or, ite_pair, ite_b, decide_eq_true_eq, beq_iff_eq, upd_str, emp_str, ofString_inj, String.reduceEq, ↓reduceIte, constP, Glob.val?, tyOf, b_add, b_sub, b_mul, b_mod, b_div, b_str, b_lst, c_lt, c_le, c_gt, c_ge, c_eqi, c_nei, c_eqs, c_eqb, c_neb, c_is, c_nin, k_lens, k_lenl, k_lent, k_leno, k_max, k_min, k_int, k_listl, k_listo, k_isi, i_boolb, i_booli, i_int, i_str, i_tup, i_lst, i_loc, st0, st1, st2, st3, sq0, sq1, sq2, sq3, s_tup, s_lst, s_loc, s_str, m_app, r_loc, r_lst, sl_of, rg_of, Glob.isB, and_self, and_true, true_and, bt_name, bt_tup, bn_nil, bn_cons, Option.map_some, List.length_cons, List.length_nil, Nat.reduceAdd, Nat.zero_add, le_sz0, le_sz1, le_sz2, le_sz3, le_sz4, le_sz5, G_isinstance, G_list, G_len, G_str, G_range, G_max, G_min, G_int, G_bool, G_tuple, G_MOST, G_SIGNS, G_alike, G_points, G_around, G_on, G_floor, G_sizes, G_drawn, G_is_in, G_boxes, G_whole, G_mixed, G_cell_at, G_inner, G_around_, G_wide, G_cell, G_checked, hx]
        · simp (disch := first | assumption | decide | omega) only [e_const, e_name, e_binop, e_not, e_usub, e_boolop, e_cmp, e_call, e_meth, e_slice, es_name, es_const, es_binop, es_call, es_sub, es_tuple, subE_eq, e_list, e_tuple, el_nil, el_cons, et_not, et_boolop, et_name, et_call, et_cmp, et_sub, valT_some, x_expr, x_ret, x_if, xa_nil, xa_one, xa_dict, xa_two, xa_name, xa_const, xa_binop, xa_boolop, xa_unop, xa_cmp, xa_call, xa_sub, xa_tuple, setN_some, xt_call, xt_sub, setT_some, xs_nil, xs_cons, t_nil_and, t_nil_or, t_and, t_or, v_one, v_and, v_or, ite_pair, ite_b, decide_eq_true_eq, beq_iff_eq, upd_str, emp_str, ofString_inj, String.reduceEq, ↓reduceIte, constP, Glob.val?, tyOf, b_add, b_sub, b_mul, b_mod, b_div, b_str, b_lst, c_lt, c_le, c_gt, c_ge, c_eqi, c_nei, c_eqs, c_eqb, c_neb, c_is, c_nin, k_lens, k_lenl, k_lent, k_leno, k_max, k_min, k_int, k_listl, k_listo, k_isi, i_boolb, i_booli, i_int, i_str, i_tup, i_lst, i_loc, st0, st1, st2, st3, sq0, sq1, sq2, sq3, s_tup, s_lst, s_loc, s_str, m_app, r_loc, r_lst, sl_of, rg_of, Glob.isB, and_self, and_true, true_and, bt_name, bt_tup, bn_nil, bn_cons, Option.map_some, List.length_cons, List.length_nil, Nat.reduceAdd, Nat.zero_add, le_sz0, le_sz1, le_sz2, le_sz3, le_sz4, le_sz5, G_isinstance, G_list, G_len, G_str, G_range, G_max, G_min, G_int, G_bool, G_tuple, G_MOST, G_SIGNS, G_alike, G_points, G_around, G_on, G_floor, G_sizes, G_drawn, G_is_in, G_boxes, G_whole, G_mixed, G_cell_at, G_inner, G_around_, G_wide, G_cell, G_checked]
      · refine out_nil ⟨rfl, ?_, ?_, ?_, ?_, b1, ?_⟩
        · simp (disch := first | assumption | decide | omega) only [e_const, e_name, e_binop, e_not, e_usub, e_boolop, e_cmp, e_call, e_meth, e_slice, es_name, es_const, es_binop, es_call, es_sub, es_tuple, subE_eq, e_list, e_tuple, el_nil, el_cons, et_not, et_boolop, et_name, et_call, et_cmp, et_sub, valT_some, x_expr, x_ret, x_if, xa_nil, xa_one, xa_dict, xa_two, xa_name, xa_const, xa_binop, xa_boolop, xa_unop, xa_cmp, xa_call, xa_sub, xa_tuple, setN_some, xt_call, xt_sub, setT_some, xs_nil, xs_cons, t_nil_and, t_nil_or, t_and, t_or, v_one, v_and, v_or, ite_pair, ite_b, decide_eq_true_eq, beq_iff_eq, upd_str, emp_str, ofString_inj, String.reduceEq, ↓reduceIte, constP, Glob.val?, tyOf, b_add, b_sub, b_mul, b_mod, b_div, b_str, b_lst, c_lt, c_le, c_gt, c_ge, c_eqi, c_nei, c_eqs, c_eqb, c_neb, c_is, c_nin, k_lens, k_lenl, k_lent, k_leno, k_max, k_min, k_int, k_listl, k_listo, k_isi, i_boolb, i_booli, i_int, i_str, i_tup, i_lst, i_loc, st0, st1, st2, st3, sq0, sq1, sq2, sq3, s_tup, s_lst, s_loc, s_str, m_app, r_loc, r_lst, sl_of, rg_of, Glob.isB, and_self, and_true, true_and, bt_name, bt_tup, bn_nil, bn_cons, Option.map_some, List.length_cons, List.length_nil, Nat.reduceAdd, Nat.zero_add, le_sz0, le_sz1, le_sz2, le_sz3, le_sz4, le_sz5, G_isinstance, G_list, G_len, G_str, G_range, G_max, G_min, G_int, G_bool, G_tuple, G_MOST, G_SIGNS, G_alike, G_points, G_around, G_on, G_floor, G_sizes, G_drawn, G_is_in, G_boxes, G_whole, G_mixed, G_cell_at, G_inner, G_around_, G_wide, G_cell, G_checked, E, r1, r2, r3, r4, r5]
        · simp (disch := first | assumption | decide | omega) only [e_const, e_name, e_binop, e_not, e_usub, e_boolop, e_cmp, e_call, e_meth, e_slice, es_name, es_const, es_binop, es_call, es_sub, es_tuple, subE_eq, e_list, e_tuple, el_nil, el_cons, et_not, et_boolop, et_name, et_call, et_cmp, et_sub, valT_some, x_expr, x_ret, x_if, xa_nil, xa_one, xa_dict, xa_two, xa_name, xa_const, xa_binop, xa_boolop, xa_unop, xa_cmp, xa_call, xa_sub, xa_tuple, setN_some, xt_call, xt_sub, setT_some, xs_nil, xs_cons, t_nil_and, t_nil_or, t_and, t_or, v_one, v_and, v_or, ite_pair, ite_b, decide_eq_true_eq, beq_iff_eq, upd_str, emp_str, ofString_inj, String.reduceEq, ↓reduceIte, constP, Glob.val?, tyOf, b_add, b_sub, b_mul, b_mod, b_div, b_str, b_lst, c_lt, c_le, c_gt, c_ge, c_eqi, c_nei, c_eqs, c_eqb, c_neb, c_is, c_nin, k_lens, k_lenl, k_lent, k_leno, k_max, k_min, k_int, k_listl, k_listo, k_isi, i_boolb, i_booli, i_int, i_str, i_tup, i_lst, i_loc, st0, st1, st2, st3, sq0, sq1, sq2, sq3, s_tup, s_lst, s_loc, s_str, m_app, r_loc, r_lst, sl_of, rg_of, Glob.isB, and_self, and_true, true_and, bt_name, bt_tup, bn_nil, bn_cons, Option.map_some, List.length_cons, List.length_nil, Nat.reduceAdd, Nat.zero_add, le_sz0, le_sz1, le_sz2, le_sz3, le_sz4, le_sz5, G_isinstance, G_list, G_len, G_str, G_range, G_max, G_min, G_int, G_bool, G_tuple, G_MOST, G_SIGNS, G_alike, G_points, G_around, G_on, G_floor, G_sizes, G_drawn, G_is_in, G_boxes, G_whole, G_mixed, G_cell_at, G_inner, G_around_, G_wide, G_cell, G_checked, r6]
        · simp (disch := first | assumption | decide | omega) only [e_const, e_name, e_binop, e_not, e_usub, e_boolop, e_cmp, e_call, e_meth, e_slice, es_name, es_const, es_binop, es_call, es_sub, es_tuple, subE_eq, e_list, e_tuple, el_nil, el_cons, et_not, et_boolop, et_name, et_call, et_cmp, et_sub, valT_some, x_expr, x_ret, x_if, xa_nil, xa_one, xa_dict, xa_two, xa_name, xa_const, xa_binop, xa_boolop, xa_unop, xa_cmp, xa_call, xa_sub, xa_tuple, setN_some, xt_call, xt_sub, setT_some, xs_nil, xs_cons, t_nil_and, t_nil_or, t_and, t_or, v_one, v_and, v_or, ite_pair, ite_b, decide_eq_true_eq, beq_iff_eq, upd_str, emp_str, ofString_inj, String.reduceEq, ↓reduceIte, constP, Glob.val?, tyOf, b_add, b_sub, b_mul, b_mod, b_div, b_str, b_lst, c_lt, c_le, c_gt, c_ge, c_eqi, c_nei, c_eqs, c_eqb, c_neb, c_is, c_nin, k_lens, k_lenl, k_lent, k_leno, k_max, k_min, k_int, k_listl, k_listo, k_isi, i_boolb, i_booli, i_int, i_str, i_tup, i_lst, i_loc, st0, st1, st2, st3, sq0, sq1, sq2, sq3, s_tup, s_lst, s_loc, s_str, m_app, r_loc, r_lst, sl_of, rg_of, Glob.isB, and_self, and_true, true_and, bt_name, bt_tup, bn_nil, bn_cons, Option.map_some, List.length_cons, List.length_nil, Nat.reduceAdd, Nat.zero_add, le_sz0, le_sz1, le_sz2, le_sz3, le_sz4, le_sz5, G_isinstance, G_list, G_len, G_str, G_range, G_max, G_min, G_int, G_bool, G_tuple, G_MOST, G_SIGNS, G_alike, G_points, G_around, G_on, G_floor, G_sizes, G_drawn, G_is_in, G_boxes, G_whole, G_mixed, G_cell_at, G_inner, G_around_, G_wide, G_cell, G_checked]
        · simp (disch := first | assumption | decide | omega) only [e_const, e_name, e_binop, e_not, e_usub, e_boolop, e_cmp, e_call, e_meth, e_slice, es_name, es_const, es_binop, es_call, es_sub, es_tuple, subE_eq, e_list, e_tuple, el_nil, el_cons, et_not, et_boolop, et_name, et_call, et_cmp, et_sub, valT_some, x_expr, x_ret, x_if, xa_nil, xa_one, xa_dict, xa_two, xa_name, xa_const, xa_binop, xa_boolop, xa_unop, xa_cmp, xa_call, xa_sub, xa_tuple, setN_some, xt_call, xt_sub, setT_some, xs_nil, xs_cons, t_nil_and, t_nil_or, t_and, t_or, v_one, v_and, v_or, ite_pair, ite_b, decide_eq_true_eq, beq_iff_eq, upd_str, emp_str, ofString_inj, String.reduceEq, ↓reduceIte, constP, Glob.val?, tyOf, b_add, b_sub, b_mul, b_mod, b_div, b_str, b_lst, c_lt, c_le, c_gt, c_ge, c_eqi, c_nei, c_eqs, c_eqb, c_neb, c_is, c_nin, k_lens, k_lenl, k_lent, k_leno, k_max, k_min, k_int, k_listl, k_listo, k_isi, i_boolb, i_booli, i_int, i_str, i_tup, i_lst, i_loc, st0, st1, st2, st3, sq0, sq1, sq2, sq3, s_tup, s_lst, s_loc, s_str, m_app, r_loc, r_lst, sl_of, rg_of, Glob.isB, and_self, and_true, true_and, bt_name, bt_tup, bn_nil, bn_cons, Option.map_some, List.length_cons, List.length_nil, Nat.reduceAdd, Nat.zero_add, le_sz0, le_sz1, le_sz2, le_sz3, le_sz4, le_sz5, G_isinstance, G_list, G_len, G_str, G_range, G_max, G_min, G_int, G_bool, G_tuple, G_MOST, G_SIGNS, G_alike, G_points, G_around, G_on, G_floor, G_sizes, G_drawn, G_is_in, G_boxes, G_whole, G_mixed, G_cell_at, G_inner, G_around_, G_wide, G_cell, G_checked, hx]
        · simp (disch := first | assumption | decide | omega) only [e_const, e_name, e_binop, e_not, e_usub, e_boolop, e_cmp, e_call, e_meth, e_slice, es_name, es_const, es_binop, es_call, es_sub, es_tuple, subE_eq, e_list, e_tuple, el_nil, el_cons, et_not, et_boolop, et_name, et_call, et_cmp, et_sub, valT_some, x_expr, x_ret, x_if, xa_nil, xa_one, xa_dict, xa_two, xa_name, xa_const, xa_binop, xa_boolop, xa_unop, xa_cmp, xa_call, xa_sub, xa_tuple, setN_some, xt_call, xt_sub, setT_some, xs_nil, xs_cons, t_nil_and, t_nil_or, t_and, t_or, v_one, v_and, v_or, ite_pair, ite_b, decide_eq_true_eq, beq_iff_eq, upd_str, emp_str, ofString_inj, String.reduceEq, ↓reduceIte, constP, Glob.val?, tyOf, b_add, b_sub, b_mul, b_mod, b_div, b_str, b_lst, c_lt, c_le, c_gt, c_ge, c_eqi, c_nei, c_eqs, c_eqb, c_neb, c_is, c_nin, k_lens, k_lenl, k_lent, k_leno, k_max, k_min, k_int, k_listl, k_listo, k_isi, i_boolb, i_booli, i_int, i_str, i_tup, i_lst, i_loc, st0, st1, st2, st3, sq0, sq1, sq2, sq3, s_tup, s_lst, s_loc, s_str, m_app, r_loc, r_lst, sl_of, rg_of, Glob.isB, and_self, and_true, true_and, bt_name, bt_tup, bn_nil, bn_cons, Option.map_some, List.length_cons, List.length_nil, Nat.reduceAdd, Nat.zero_add, le_sz0, le_sz1, le_sz2, le_sz3, le_sz4, le_sz5, G_isinstance, G_list, G_len, G_str, G_range, G_max, G_min, G_int, G_bool, G_tuple, G_MOST, G_SIGNS, G_alike, G_points, G_around, G_on, G_floor, G_sizes, G_drawn, G_is_in, G_boxes, G_whole, G_mixed, G_cell_at, G_inner, G_around_, G_wide, G_cell, G_checked]
      rintro ρ τ ⟨rfl, ⟨r1, r2, r3, r4, r5⟩, r6, r7, hx, b, r8⟩
      refine out_cons (out_mono (K := fun ρ τ' => τ' = τ ∧ E ρ ∧ ρ (Str.ofString "_law_row") = some (.int i) ∧ ρ (Str.ofString "_law_signs") = some (.str x) ∧ ∃ b, ρ (Str.ofString "_law_on_here") = some (.bool b))
        (out_if (c := if kd = 1 then true else if kd = 2 then true else false) (σ₁ := τ) ?_ (fun _ => ?_) fun _ => ?_) ?_ fun _ _ h => h)
      · (simp (disch := first | assumption | decide | omega) only [e_const, e_name, e_binop, e_not, e_usub, e_boolop, e_cmp, e_call, e_meth, e_slice, es_name, es_const, es_binop, es_call, es_sub, es_tuple, subE_eq, e_list, e_tuple, el_nil, el_cons, et_not, et_boolop, et_name, et_call, et_cmp, et_sub, valT_some, x_expr, x_ret, x_if, xa_nil, xa_one, xa_dict, xa_two, xa_name, xa_const, xa_binop, xa_boolop, xa_unop, xa_cmp, xa_call, xa_sub, xa_tuple, setN_some, xt_call, xt_sub, setT_some, xs_nil, xs_cons, t_nil_and, t_nil_or, t_and, t_or, v_one, v_and, v_or, ite_pair, ite_b, decide_eq_true_eq, beq_iff_eq, upd_str, emp_str, ofString_inj, String.reduceEq, ↓reduceIte, constP, Glob.val?, tyOf, b_add, b_sub, b_mul, b_mod, b_div, b_str, b_lst, c_lt, c_le, c_gt, c_ge, c_eqi, c_nei, c_eqs, c_eqb, c_neb, c_is, c_nin, k_lens, k_lenl, k_lent, k_leno, k_max, k_min, k_int, k_listl, k_listo, k_isi, i_boolb, i_booli, i_int, i_str, i_tup, i_lst, i_loc, st0, st1, st2, st3, sq0, sq1, sq2, sq3, s_tup, s_lst, s_loc, s_str, m_app, r_loc, r_lst, sl_of, rg_of, Glob.isB, and_self, and_true, true_and, bt_name, bt_tup, bn_nil, bn_cons, Option.map_some, List.length_cons, List.length_nil, Nat.reduceAdd, Nat.zero_add, le_sz0, le_sz1, le_sz2, le_sz3, le_sz4, le_sz5, G_isinstance, G_list, G_len, G_str, G_range, G_max, G_min, G_int, G_bool, G_tuple, G_MOST, G_SIGNS, G_alike, G_points, G_around, G_on, G_floor, G_sizes, G_drawn, G_is_in, G_boxes, G_whole, G_mixed, G_cell_at, G_inner, G_around_, G_wide, G_cell, G_checked, r3]) <;> rfl
      · apply out_next
        · (simp (disch := first | assumption | decide | omega) only [e_const, e_name, e_binop, e_not, e_usub, e_boolop, e_cmp, e_call, e_meth, e_slice, es_name, es_const, es_binop, es_call, es_sub, es_tuple, subE_eq, e_list, e_tuple, el_nil, el_cons, et_not, et_boolop, et_name, et_call, et_cmp, et_sub, valT_some, x_expr, x_ret, x_if, xa_nil, xa_one, xa_dict, xa_two, xa_name, xa_const, xa_binop, xa_boolop, xa_unop, xa_cmp, xa_call, xa_sub, xa_tuple, setN_some, xt_call, xt_sub, setT_some, xs_nil, xs_cons, t_nil_and, t_nil_or, t_and, t_or, v_one, v_and, v_or, ite_pair, ite_b, decide_eq_true_eq, beq_iff_eq, upd_str, emp_str, ofString_inj, String.reduceEq, ↓reduceIte, constP, Glob.val?, tyOf, b_add, b_sub, b_mul, b_mod, b_div, b_str, b_lst, c_lt, c_le, c_gt, c_ge, c_eqi, c_nei, c_eqs, c_eqb, c_neb, c_is, c_nin, k_lens, k_lenl, k_lent, k_leno, k_max, k_min, k_int, k_listl, k_listo, k_isi, i_boolb, i_booli, i_int, i_str, i_tup, i_lst, i_loc, st0, st1, st2, st3, sq0, sq1, sq2, sq3, s_tup, s_lst, s_loc, s_str, m_app, r_loc, r_lst, sl_of, rg_of, Glob.isB, and_self, and_true, true_and, bt_name, bt_tup, bn_nil, bn_cons, Option.map_some, List.length_cons, List.length_nil, Nat.reduceAdd, Nat.zero_add, le_sz0, le_sz1, le_sz2, le_sz3, le_sz4, le_sz5, G_isinstance, G_list, G_len, G_str, G_range, G_max, G_min, G_int, G_bool, G_tuple, G_MOST, G_SIGNS, G_alike, G_points, G_around, G_on, G_floor, G_sizes, G_drawn, G_is_in, G_boxes, G_whole, G_mixed, G_cell_at, G_inner, G_around_, G_wide, G_cell, G_checked, r3, r4, r6, r7, d3]) <;> rfl
        refine out_nil ⟨rfl, ?_, ?_, ?_, (b3 == (kd == 1)), ?_⟩
        · simp (disch := first | assumption | decide | omega) only [e_const, e_name, e_binop, e_not, e_usub, e_boolop, e_cmp, e_call, e_meth, e_slice, es_name, es_const, es_binop, es_call, es_sub, es_tuple, subE_eq, e_list, e_tuple, el_nil, el_cons, et_not, et_boolop, et_name, et_call, et_cmp, et_sub, valT_some, x_expr, x_ret, x_if, xa_nil, xa_one, xa_dict, xa_two, xa_name, xa_const, xa_binop, xa_boolop, xa_unop, xa_cmp, xa_call, xa_sub, xa_tuple, setN_some, xt_call, xt_sub, setT_some, xs_nil, xs_cons, t_nil_and, t_nil_or, t_and, t_or, v_one, v_and, v_or, ite_pair, ite_b, decide_eq_true_eq, beq_iff_eq, upd_str, emp_str, ofString_inj, String.reduceEq, ↓reduceIte, constP, Glob.val?, tyOf, b_add, b_sub, b_mul, b_mod, b_div, b_str, b_lst, c_lt, c_le, c_gt, c_ge, c_eqi, c_nei, c_eqs, c_eqb, c_neb, c_is, c_nin, k_lens, k_lenl, k_lent, k_leno, k_max, k_min, k_int, k_listl, k_listo, k_isi, i_boolb, i_booli, i_int, i_str, i_tup, i_lst, i_loc, st0, st1, st2, st3, sq0, sq1, sq2, sq3, s_tup, s_lst, s_loc, s_str, m_app, r_loc, r_lst, sl_of, rg_of, Glob.isB, and_self, and_true, true_and, bt_name, bt_tup, bn_nil, bn_cons, Option.map_some, List.length_cons, List.length_nil, Nat.reduceAdd, Nat.zero_add, le_sz0, le_sz1, le_sz2, le_sz3, le_sz4, le_sz5, G_isinstance, G_list, G_len, G_str, G_range, G_max, G_min, G_int, G_bool, G_tuple, G_MOST, G_SIGNS, G_alike, G_points, G_around, G_on, G_floor, G_sizes, G_drawn, G_is_in, G_boxes, G_whole, G_mixed, G_cell_at, G_inner, G_around_, G_wide, G_cell, G_checked, E, r1, r2, r3, r4, r5]
        · simp (disch := first | assumption | decide | omega) only [e_const, e_name, e_binop, e_not, e_usub, e_boolop, e_cmp, e_call, e_meth, e_slice, es_name, es_const, es_binop, es_call, es_sub, es_tuple, subE_eq, e_list, e_tuple, el_nil, el_cons, et_not, et_boolop, et_name, et_call, et_cmp, et_sub, valT_some, x_expr, x_ret, x_if, xa_nil, xa_one, xa_dict, xa_two, xa_name, xa_const, xa_binop, xa_boolop, xa_unop, xa_cmp, xa_call, xa_sub, xa_tuple, setN_some, xt_call, xt_sub, setT_some, xs_nil, xs_cons, t_nil_and, t_nil_or, t_and, t_or, v_one, v_and, v_or, ite_pair, ite_b, decide_eq_true_eq, beq_iff_eq, upd_str, emp_str, ofString_inj, String.reduceEq, ↓reduceIte, constP, Glob.val?, tyOf, b_add, b_sub, b_mul, b_mod, b_div, b_str, b_lst, c_lt, c_le, c_gt, c_ge, c_eqi, c_nei, c_eqs, c_eqb, c_neb, c_is, c_nin, k_lens, k_lenl, k_lent, k_leno, k_max, k_min, k_int, k_listl, k_listo, k_isi, i_boolb, i_booli, i_int, i_str, i_tup, i_lst, i_loc, st0, st1, st2, st3, sq0, sq1, sq2, sq3, s_tup, s_lst, s_loc, s_str, m_app, r_loc, r_lst, sl_of, rg_of, Glob.isB, and_self, and_true, true_and, bt_name, bt_tup, bn_nil, bn_cons, Option.map_some, List.length_cons, List.length_nil, Nat.reduceAdd, Nat.zero_add, le_sz0, le_sz1, le_sz2, le_sz3, le_sz4, le_sz5, G_isinstance, G_list, G_len, G_str, G_range, G_max, G_min, G_int, G_bool, G_tuple, G_MOST, G_SIGNS, G_alike, G_points, G_around, G_on, G_floor, G_sizes, G_drawn, G_is_in, G_boxes, G_whole, G_mixed, G_cell_at, G_inner, G_around_, G_wide, G_cell, G_checked, r6]
        · simp (disch := first | assumption | decide | omega) only [e_const, e_name, e_binop, e_not, e_usub, e_boolop, e_cmp, e_call, e_meth, e_slice, es_name, es_const, es_binop, es_call, es_sub, es_tuple, subE_eq, e_list, e_tuple, el_nil, el_cons, et_not, et_boolop, et_name, et_call, et_cmp, et_sub, valT_some, x_expr, x_ret, x_if, xa_nil, xa_one, xa_dict, xa_two, xa_name, xa_const, xa_binop, xa_boolop, xa_unop, xa_cmp, xa_call, xa_sub, xa_tuple, setN_some, xt_call, xt_sub, setT_some, xs_nil, xs_cons, t_nil_and, t_nil_or, t_and, t_or, v_one, v_and, v_or, ite_pair, ite_b, decide_eq_true_eq, beq_iff_eq, upd_str, emp_str, ofString_inj, String.reduceEq, ↓reduceIte, constP, Glob.val?, tyOf, b_add, b_sub, b_mul, b_mod, b_div, b_str, b_lst, c_lt, c_le, c_gt, c_ge, c_eqi, c_nei, c_eqs, c_eqb, c_neb, c_is, c_nin, k_lens, k_lenl, k_lent, k_leno, k_max, k_min, k_int, k_listl, k_listo, k_isi, i_boolb, i_booli, i_int, i_str, i_tup, i_lst, i_loc, st0, st1, st2, st3, sq0, sq1, sq2, sq3, s_tup, s_lst, s_loc, s_str, m_app, r_loc, r_lst, sl_of, rg_of, Glob.isB, and_self, and_true, true_and, bt_name, bt_tup, bn_nil, bn_cons, Option.map_some, List.length_cons, List.length_nil, Nat.reduceAdd, Nat.zero_add, le_sz0, le_sz1, le_sz2, le_sz3, le_sz4, le_sz5, G_isinstance, G_list, G_len, G_str, G_range, G_max, G_min, G_int, G_bool, G_tuple, G_MOST, G_SIGNS, G_alike, G_points, G_around, G_on, G_floor, G_sizes, G_drawn, G_is_in, G_boxes, G_whole, G_mixed, G_cell_at, G_inner, G_around_, G_wide, G_cell, G_checked, hx]
        · simp (disch := first | assumption | decide | omega) only [e_const, e_name, e_binop, e_not, e_usub, e_boolop, e_cmp, e_call, e_meth, e_slice, es_name, es_const, es_binop, es_call, es_sub, es_tuple, subE_eq, e_list, e_tuple, el_nil, el_cons, et_not, et_boolop, et_name, et_call, et_cmp, et_sub, valT_some, x_expr, x_ret, x_if, xa_nil, xa_one, xa_dict, xa_two, xa_name, xa_const, xa_binop, xa_boolop, xa_unop, xa_cmp, xa_call, xa_sub, xa_tuple, setN_some, xt_call, xt_sub, setT_some, xs_nil, xs_cons, t_nil_and, t_nil_or, t_and, t_or, v_one, v_and, v_or, ite_pair, ite_b, decide_eq_true_eq, beq_iff_eq, upd_str, emp_str, ofString_inj, String.reduceEq, ↓reduceIte, constP, Glob.val?, tyOf, b_add, b_sub, b_mul, b_mod, b_div, b_str, b_lst, c_lt, c_le, c_gt, c_ge, c_eqi, c_nei, c_eqs, c_eqb, c_neb, c_is, c_nin, k_lens, k_lenl, k_lent, k_leno, k_max, k_min, k_int, k_listl, k_listo, k_isi, i_boolb, i_booli, i_int, i_str, i_tup, i_lst, i_loc, st0, st1, st2, st3, sq0, sq1, sq2, sq3, s_tup, s_lst, s_loc, s_str, m_app, r_loc, r_lst, sl_of, rg_of, Glob.isB, and_self, and_true, true_and, bt_name, bt_tup, bn_nil, bn_cons, Option.map_some, List.length_cons, List.length_nil, Nat.reduceAdd, Nat.zero_add, le_sz0, le_sz1, le_sz2, le_sz3, le_sz4, le_sz5, G_isinstance, G_list, G_len, G_str, G_range, G_max, G_min, G_int, G_bool, G_tuple, G_MOST, G_SIGNS, G_alike, G_points, G_around, G_on, G_floor, G_sizes, G_drawn, G_is_in, G_boxes, G_whole, G_mixed, G_cell_at, G_inner, G_around_, G_wide, G_cell, G_checked]
      · exact out_nil ⟨rfl, ⟨r1, r2, r3, r4, r5⟩, r6, hx, b, r8⟩
      rintro ρ τ' ⟨rfl, ⟨r1, r2, r3, r4, r5⟩, r6, hx, b, r8⟩
      have hxl : x.length + (⟨#[if b then 35 else 46]⟩ : Str).length ≤ sizeLine := by
        have := hrow.1
        show x.length + 1 ≤ sizeLine
        omega
      apply out_next
      · (simp (disch := first | assumption | decide | omega) only [e_const, e_name, e_binop, e_not, e_usub, e_boolop, e_cmp, e_call, e_meth, e_slice, es_name, es_const, es_binop, es_call, es_sub, es_tuple, subE_eq, e_list, e_tuple, el_nil, el_cons, et_not, et_boolop, et_name, et_call, et_cmp, et_sub, valT_some, x_expr, x_ret, x_if, xa_nil, xa_one, xa_dict, xa_two, xa_name, xa_const, xa_binop, xa_boolop, xa_unop, xa_cmp, xa_call, xa_sub, xa_tuple, setN_some, xt_call, xt_sub, setT_some, xs_nil, xs_cons, t_nil_and, t_nil_or, t_and, t_or, v_one, v_and, v_or, ite_pair, ite_b, decide_eq_true_eq, beq_iff_eq, upd_str, emp_str, ofString_inj, String.reduceEq, ↓reduceIte, constP, Glob.val?, tyOf, b_add, b_sub, b_mul, b_mod, b_div, b_str, b_lst, c_lt, c_le, c_gt, c_ge, c_eqi, c_nei, c_eqs, c_eqb, c_neb, c_is, c_nin, k_lens, k_lenl, k_lent, k_leno, k_max, k_min, k_int, k_listl, k_listo, k_isi, i_boolb, i_booli, i_int, i_str, i_tup, i_lst, i_loc, st0, st1, st2, st3, sq0, sq1, sq2, sq3, s_tup, s_lst, s_loc, s_str, m_app, r_loc, r_lst, sl_of, rg_of, Glob.isB, and_self, and_true, true_and, bt_name, bt_tup, bn_nil, bn_cons, Option.map_some, List.length_cons, List.length_nil, Nat.reduceAdd, Nat.zero_add, le_sz0, le_sz1, le_sz2, le_sz3, le_sz4, le_sz5, G_isinstance, G_list, G_len, G_str, G_range, G_max, G_min, G_int, G_bool, G_tuple, G_MOST, G_SIGNS, G_alike, G_points, G_around, G_on, G_floor, G_sizes, G_drawn, G_is_in, G_boxes, G_whole, G_mixed, G_cell_at, G_inner, G_around_, G_wide, G_cell, G_checked, hx, r8, sub_dot]) <;> rfl
      refine out_nil ⟨rfl, ?_, ?_, _, ?_, row_snoc hrow b⟩
      · simp (disch := first | assumption | decide | omega) only [e_const, e_name, e_binop, e_not, e_usub, e_boolop, e_cmp, e_call, e_meth, e_slice, es_name, es_const, es_binop, es_call, es_sub, es_tuple, subE_eq, e_list, e_tuple, el_nil, el_cons, et_not, et_boolop, et_name, et_call, et_cmp, et_sub, valT_some, x_expr, x_ret, x_if, xa_nil, xa_one, xa_dict, xa_two, xa_name, xa_const, xa_binop, xa_boolop, xa_unop, xa_cmp, xa_call, xa_sub, xa_tuple, setN_some, xt_call, xt_sub, setT_some, xs_nil, xs_cons, t_nil_and, t_nil_or, t_and, t_or, v_one, v_and, v_or, ite_pair, ite_b, decide_eq_true_eq, beq_iff_eq, upd_str, emp_str, ofString_inj, String.reduceEq, ↓reduceIte, constP, Glob.val?, tyOf, b_add, b_sub, b_mul, b_mod, b_div, b_str, b_lst, c_lt, c_le, c_gt, c_ge, c_eqi, c_nei, c_eqs, c_eqb, c_neb, c_is, c_nin, k_lens, k_lenl, k_lent, k_leno, k_max, k_min, k_int, k_listl, k_listo, k_isi, i_boolb, i_booli, i_int, i_str, i_tup, i_lst, i_loc, st0, st1, st2, st3, sq0, sq1, sq2, sq3, s_tup, s_lst, s_loc, s_str, m_app, r_loc, r_lst, sl_of, rg_of, Glob.isB, and_self, and_true, true_and, bt_name, bt_tup, bn_nil, bn_cons, Option.map_some, List.length_cons, List.length_nil, Nat.reduceAdd, Nat.zero_add, le_sz0, le_sz1, le_sz2, le_sz3, le_sz4, le_sz5, G_isinstance, G_list, G_len, G_str, G_range, G_max, G_min, G_int, G_bool, G_tuple, G_MOST, G_SIGNS, G_alike, G_points, G_around, G_on, G_floor, G_sizes, G_drawn, G_is_in, G_boxes, G_whole, G_mixed, G_cell_at, G_inner, G_around_, G_wide, G_cell, G_checked, E, r1, r2, r3, r4, r5]
      · simp (disch := first | assumption | decide | omega) only [e_const, e_name, e_binop, e_not, e_usub, e_boolop, e_cmp, e_call, e_meth, e_slice, es_name, es_const, es_binop, es_call, es_sub, es_tuple, subE_eq, e_list, e_tuple, el_nil, el_cons, et_not, et_boolop, et_name, et_call, et_cmp, et_sub, valT_some, x_expr, x_ret, x_if, xa_nil, xa_one, xa_dict, xa_two, xa_name, xa_const, xa_binop, xa_boolop, xa_unop, xa_cmp, xa_call, xa_sub, xa_tuple, setN_some, xt_call, xt_sub, setT_some, xs_nil, xs_cons, t_nil_and, t_nil_or, t_and, t_or, v_one, v_and, v_or, ite_pair, ite_b, decide_eq_true_eq, beq_iff_eq, upd_str, emp_str, ofString_inj, String.reduceEq, ↓reduceIte, constP, Glob.val?, tyOf, b_add, b_sub, b_mul, b_mod, b_div, b_str, b_lst, c_lt, c_le, c_gt, c_ge, c_eqi, c_nei, c_eqs, c_eqb, c_neb, c_is, c_nin, k_lens, k_lenl, k_lent, k_leno, k_max, k_min, k_int, k_listl, k_listo, k_isi, i_boolb, i_booli, i_int, i_str, i_tup, i_lst, i_loc, st0, st1, st2, st3, sq0, sq1, sq2, sq3, s_tup, s_lst, s_loc, s_str, m_app, r_loc, r_lst, sl_of, rg_of, Glob.isB, and_self, and_true, true_and, bt_name, bt_tup, bn_nil, bn_cons, Option.map_some, List.length_cons, List.length_nil, Nat.reduceAdd, Nat.zero_add, le_sz0, le_sz1, le_sz2, le_sz3, le_sz4, le_sz5, G_isinstance, G_list, G_len, G_str, G_range, G_max, G_min, G_int, G_bool, G_tuple, G_MOST, G_SIGNS, G_alike, G_points, G_around, G_on, G_floor, G_sizes, G_drawn, G_is_in, G_boxes, G_whole, G_mixed, G_cell_at, G_inner, G_around_, G_wide, G_cell, G_checked, r6]
      · simp (disch := first | assumption | decide | omega) only [e_const, e_name, e_binop, e_not, e_usub, e_boolop, e_cmp, e_call, e_meth, e_slice, es_name, es_const, es_binop, es_call, es_sub, es_tuple, subE_eq, e_list, e_tuple, el_nil, el_cons, et_not, et_boolop, et_name, et_call, et_cmp, et_sub, valT_some, x_expr, x_ret, x_if, xa_nil, xa_one, xa_dict, xa_two, xa_name, xa_const, xa_binop, xa_boolop, xa_unop, xa_cmp, xa_call, xa_sub, xa_tuple, setN_some, xt_call, xt_sub, setT_some, xs_nil, xs_cons, t_nil_and, t_nil_or, t_and, t_or, v_one, v_and, v_or, ite_pair, ite_b, decide_eq_true_eq, beq_iff_eq, upd_str, emp_str, ofString_inj, String.reduceEq, ↓reduceIte, constP, Glob.val?, tyOf, b_add, b_sub, b_mul, b_mod, b_div, b_str, b_lst, c_lt, c_le, c_gt, c_ge, c_eqi, c_nei, c_eqs, c_eqb, c_neb, c_is, c_nin, k_lens, k_lenl, k_lent, k_leno, k_max, k_min, k_int, k_listl, k_listo, k_isi, i_boolb, i_booli, i_int, i_str, i_tup, i_lst, i_loc, st0, st1, st2, st3, sq0, sq1, sq2, sq3, s_tup, s_lst, s_loc, s_str, m_app, r_loc, r_lst, sl_of, rg_of, Glob.isB, and_self, and_true, true_and, bt_name, bt_tup, bn_nil, bn_cons, Option.map_some, List.length_cons, List.length_nil, Nat.reduceAdd, Nat.zero_add, le_sz0, le_sz1, le_sz2, le_sz3, le_sz4, le_sz5, G_isinstance, G_list, G_len, G_str, G_range, G_max, G_min, G_int, G_bool, G_tuple, G_MOST, G_SIGNS, G_alike, G_points, G_around, G_on, G_floor, G_sizes, G_drawn, G_is_in, G_boxes, G_whole, G_mixed, G_cell_at, G_inner, G_around_, G_wide, G_cell, G_checked]
    · rintro ρ τ' ⟨rfl, ⟨r1, r2, r3, r4, r5⟩, r6, x, hx, hrow⟩
      rw [rangeP_len] at hrow
      have hle : (rows.map PV.str).length ≤ sizeLine := by rw [List.length_map]; omega
      apply out_next
      · (simp (disch := first | assumption | decide | omega) only [e_const, e_name, e_binop, e_not, e_usub, e_boolop, e_cmp, e_call, e_meth, e_slice, es_name, es_const, es_binop, es_call, es_sub, es_tuple, subE_eq, e_list, e_tuple, el_nil, el_cons, et_not, et_boolop, et_name, et_call, et_cmp, et_sub, valT_some, x_expr, x_ret, x_if, xa_nil, xa_one, xa_dict, xa_two, xa_name, xa_const, xa_binop, xa_boolop, xa_unop, xa_cmp, xa_call, xa_sub, xa_tuple, setN_some, xt_call, xt_sub, setT_some, xs_nil, xs_cons, t_nil_and, t_nil_or, t_and, t_or, v_one, v_and, v_or, ite_pair, ite_b, decide_eq_true_eq, beq_iff_eq, upd_str, emp_str, ofString_inj, String.reduceEq, ↓reduceIte, constP, Glob.val?, tyOf, b_add, b_sub, b_mul, b_mod, b_div, b_str, b_lst, c_lt, c_le, c_gt, c_ge, c_eqi, c_nei, c_eqs, c_eqb, c_neb, c_is, c_nin, k_lens, k_lenl, k_lent, k_leno, k_max, k_min, k_int, k_listl, k_listo, k_isi, i_boolb, i_booli, i_int, i_str, i_tup, i_lst, i_loc, st0, st1, st2, st3, sq0, sq1, sq2, sq3, s_tup, s_lst, s_loc, s_str, m_app, r_loc, r_lst, sl_of, rg_of, Glob.isB, and_self, and_true, true_and, bt_name, bt_tup, bn_nil, bn_cons, Option.map_some, List.length_cons, List.length_nil, Nat.reduceAdd, Nat.zero_add, le_sz0, le_sz1, le_sz2, le_sz3, le_sz4, le_sz5, G_isinstance, G_list, G_len, G_str, G_range, G_max, G_min, G_int, G_bool, G_tuple, G_MOST, G_SIGNS, G_alike, G_points, G_around, G_on, G_floor, G_sizes, G_drawn, G_is_in, G_boxes, G_whole, G_mixed, G_cell_at, G_inner, G_around_, G_wide, G_cell, G_checked, r5, hx]) <;> rfl
      refine out_nil ⟨⟨r1, r2, r3, r4, r5⟩, rows ++ [x], by simp [hlen], ?_, ?_⟩
      · intro r hr
        rcases List.mem_append.mp hr with q | q
        · exact hrows r q
        · rw [List.mem_singleton.mp q]; exact hrow
      · rw [← hτ, set2_1]; simp
  · rintro ρ τ ⟨⟨r1, r2, r3, r4, r5⟩, rows, hlen, hrows, rfl⟩
    rw [rangeP_len] at hlen
    apply out_ret
    · (simp (disch := first | assumption | decide | omega) only [e_const, e_name, e_binop, e_not, e_usub, e_boolop, e_cmp, e_call, e_meth, e_slice, es_name, es_const, es_binop, es_call, es_sub, es_tuple, subE_eq, e_list, e_tuple, el_nil, el_cons, et_not, et_boolop, et_name, et_call, et_cmp, et_sub, valT_some, x_expr, x_ret, x_if, xa_nil, xa_one, xa_dict, xa_two, xa_name, xa_const, xa_binop, xa_boolop, xa_unop, xa_cmp, xa_call, xa_sub, xa_tuple, setN_some, xt_call, xt_sub, setT_some, xs_nil, xs_cons, t_nil_and, t_nil_or, t_and, t_or, v_one, v_and, v_or, ite_pair, ite_b, decide_eq_true_eq, beq_iff_eq, upd_str, emp_str, ofString_inj, String.reduceEq, ↓reduceIte, constP, Glob.val?, tyOf, b_add, b_sub, b_mul, b_mod, b_div, b_str, b_lst, c_lt, c_le, c_gt, c_ge, c_eqi, c_nei, c_eqs, c_eqb, c_neb, c_is, c_nin, k_lens, k_lenl, k_lent, k_leno, k_max, k_min, k_int, k_listl, k_listo, k_isi, i_boolb, i_booli, i_int, i_str, i_tup, i_lst, i_loc, st0, st1, st2, st3, sq0, sq1, sq2, sq3, s_tup, s_lst, s_loc, s_str, m_app, r_loc, r_lst, sl_of, rg_of, Glob.isB, and_self, and_true, true_and, bt_name, bt_tup, bn_nil, bn_cons, Option.map_some, List.length_cons, List.length_nil, Nat.reduceAdd, Nat.zero_add, le_sz0, le_sz1, le_sz2, le_sz3, le_sz4, le_sz5, G_isinstance, G_list, G_len, G_str, G_range, G_max, G_min, G_int, G_bool, G_tuple, G_MOST, G_SIGNS, G_alike, G_points, G_around, G_on, G_floor, G_sizes, G_drawn, G_is_in, G_boxes, G_whole, G_mixed, G_cell_at, G_inner, G_around_, G_wide, G_cell, G_checked, r5]) <;> rfl
    · exact ⟨rfl, bs, rows, rfl, by omega, w.toNat, by omega, hrows⟩
end
end Mine

set_option maxRecDepth 100000
namespace Mine
open PySem PySem.Spec PyProof.Rows PySem.Challenge

/-! rows compared -/
theorem dats_strs : ∀ rows : List Str, datsOf (rows.map PV.str) = some (rows.map PyData.str)
  | [] => rfl
  | r :: rs => by rw [List.map_cons, datsOf, dats_strs rs]; rfl
theorem lay_strs {w : Nat} : ∀ rows : List Str, (∀ r ∈ rows, Row w r) → PyData.canLayAll0 (rows.map PyData.str) = true ∧ PyData.depthAll (rows.map PyData.str) ≤ 1
  | [], _ => ⟨rfl, Nat.zero_le _⟩
  | r :: rs, h => by
    obtain ⟨a, b⟩ := lay_strs rs fun x hx => h x (.tail _ hx)
    have hr := h r (.head _)
    constructor
    · rw [List.map_cons, PyData.canLayAll0, a, Bool.and_true]
      show PyData.strOk r = true
      unfold PyData.strOk
      rw [← Array.all_toList, List.all_eq_true]
      intro c hc
      rcases hr.2 c hc with rfl | rfl <;> decide
    · rw [List.map_cons, PyData.depthAll]
      have : (PyData.str r).depth ≤ 1 := by simp [PyData.depth]
      omega
theorem shaped_strs {rows : List Str} {w : Nat} (h : ∀ r ∈ rows, Row w r) : shapedP (.list (rows.map PyData.str)) = true := by
  obtain ⟨a, b⟩ := lay_strs rows h
  unfold shapedP
  rw [Bool.and_eq_true]
  refine ⟨a, decide_eq_true ?_⟩
  have : (PyData.list (rows.map PyData.str)).depth = PyData.depthAll (rows.map PyData.str) + 1 := by simp [PyData.depth]
  omega
theorem eqv_strs : ∀ rows : List Str, PyData.eqvAll (rows.map PyData.str) (rows.map PyData.str) = true
  | [] => rfl
  | r :: rs => by rw [List.map_cons, PyData.eqvAll, eqv_strs rs, Bool.and_true]; show (r == r) = true; simp
theorem c_eqrows {σ : Store} {i : Nat} {rows : List Str} {w : Nat} (hσ : σ[i]? = some (.list (rows.map .str))) (h : ∀ r ∈ rows, Row w r) : cmpP σ .Eq (.lst (rows.map .str)) (.loc i) = some (.bool true) := by
  have e : eqP σ (.lst (rows.map .str)) (.loc i) = some true := by
    simp only [eqP, datP, hσ, datOf, dats_strs, Option.map_some, shaped_strs h, Bool.and_self, if_true]
    show some (PyData.eqvAll (rows.map PyData.str) (rows.map PyData.str)) = some true
    rw [eqv_strs]
  simp only [cmpP, e, Option.map_some]
theorem c_nenil {σ : Store} {i : Nat} {rows : List Str} {w : Nat} (hσ : σ[i]? = some (.list (rows.map .str))) (h : ∀ r ∈ rows, Row w r) : cmpP σ .NotEq (.loc i) (.lst []) = some (.bool (!rows.isEmpty)) := by
  have e : eqP σ (.loc i) (.lst []) = some rows.isEmpty := by
    have s0 : shapedP (.list []) = true := rfl
    simp only [eqP, datP, hσ, datOf, datsOf, dats_strs, Option.map_some, shaped_strs h, s0, Bool.and_self, if_true]
    cases rows <;> rfl
  simp only [cmpP, e, Option.map_some]

/-! is there floor at a place -/
noncomputable def onB (rows : List Str) (r c : Int) : Bool :=
  if 0 ≤ r ∧ r < rows.length then
    (if 0 ≤ c ∧ c < (rows.getD r.toNat ⟨#[]⟩).length then (rows.getD r.toNat ⟨#[]⟩).cps.getD c.toNat 0 == 35 else false)
  else false

theorem occ_ok {c : Nat} (h : c = 35 ∨ c = 46) : (Builtin.Str.occurrences (Str.ofString "#.") ⟨#[c]⟩ 0 (Str.ofString "#.").length 1).isEmpty = false := by
  rcases h with rfl | rfl <;> decide +kernel
theorem str_hash (c : Nat) : ((⟨#[c]⟩ : Str) == Str.ofString "#") = (c == 35) := by
  have e : Str.ofString "#" = ⟨#[35]⟩ := by decide +kernel
  rw [e]
  by_cases h : c = 35
  · subst h; rfl
  · rw [beq_eq_false_iff_ne.mpr h]
    refine beq_eq_false_iff_ne.mpr fun q => h ?_
    injection q with q
    have := congrArg Array.toList q
    simpa using this

section
variable {Φ : Fns} {σ : Store}
theorem checked_run {rows : List Str} (hg : Good rows) : interpF Φ Gl (dOf pw "checked") [.lst (rows.map .str)] σ = some (.lst (rows.map .str), σ) := by
  have hs := sz
  obtain ⟨h30, w, w30, hrow⟩ := hg
  refine run_eq (by kernel_rfl) ?_
  change Out (execSs Φ Gl (_ :: _ :: _) (bindP [_] _) σ) _ _
  rw [bindP1]
  have hl : (rows.map PV.str).length ≤ sizeLine := by rw [List.length_map]; omega
  have d1 : decide ((30 : Int) < (rows.length : Int)) = false := decide_eq_false (by omega)
  apply out_next
  · (simp (disch := first | assumption | decide | omega) only [e_const, e_name, e_binop, e_not, e_usub, e_boolop, e_cmp, e_call, e_meth, e_slice, es_name, es_const, es_binop, es_call, es_sub, es_tuple, subE_eq, e_list, e_tuple, el_nil, el_cons, et_not, et_boolop, et_name, et_call, et_cmp, et_sub, valT_some, x_expr, x_ret, x_if, xa_nil, xa_one, xa_dict, xa_two, xa_name, xa_const, xa_binop, xa_boolop, xa_unop, xa_cmp, xa_call, xa_sub, xa_tuple, setN_some, xt_call, xt_sub, setT_some, xs_nil, xs_cons, t_nil_and, t_nil_or, t_and, t_or, v_one, v_and, v_or, ite_pair, ite_b, decide_eq_true_eq, beq_iff_eq, upd_str, emp_str, ofString_inj, String.reduceEq, ↓reduceIte, constP, Glob.val?, tyOf, b_add, b_sub, b_mul, b_mod, b_div, b_str, b_lst, c_lt, c_le, c_gt, c_ge, c_eqi, c_nei, c_eqs, c_eqb, c_neb, c_is, c_nin, k_lens, k_lenl, k_lent, k_leno, k_max, k_min, k_int, k_listl, k_listo, k_isi, i_boolb, i_booli, i_int, i_str, i_tup, i_lst, i_loc, st0, st1, st2, st3, sq0, sq1, sq2, sq3, s_tup, s_lst, s_loc, s_str, m_app, r_loc, r_lst, sl_of, rg_of, Glob.isB, and_self, and_true, true_and, bt_name, bt_tup, bn_nil, bn_cons, Option.map_some, List.length_cons, List.length_nil, Nat.reduceAdd, Nat.zero_add, le_sz0, le_sz1, le_sz2, le_sz3, le_sz4, le_sz5, G_isinstance, G_list, G_len, G_str, G_range, G_max, G_min, G_int, G_bool, G_tuple, G_MOST, G_SIGNS, G_alike, G_points, G_around, G_on, G_floor, G_sizes, G_drawn, G_is_in, G_boxes, G_whole, G_mixed, G_cell_at, G_inner, G_around_, G_wide, G_cell, G_checked, List.length_map, d1, Bool.not_true, Bool.false_eq_true]) <;> rfl
  refine out_cons (out_mono (out_for (R := fun u τ => u = .lst (rows.map .str) ∧ τ = σ) (for_lst (ds := rows.map .str) (σ₁ := σ) rfl ?_)
    (fun i ρ τ => τ = σ ∧ ρ (Str.ofString "rows") = some (.lst (rows.map .str)) ∧ ρ (Str.ofString "str") = none ∧ ρ (Str.ofString "MOST") = none ∧ ρ (Str.ofString "SIGNS") = none) ?_ ?_) ?_ fun _ _ h => h)
  · (simp (disch := first | assumption | decide | omega) only [e_const, e_name, e_binop, e_not, e_usub, e_boolop, e_cmp, e_call, e_meth, e_slice, es_name, es_const, es_binop, es_call, es_sub, es_tuple, subE_eq, e_list, e_tuple, el_nil, el_cons, et_not, et_boolop, et_name, et_call, et_cmp, et_sub, valT_some, x_expr, x_ret, x_if, xa_nil, xa_one, xa_dict, xa_two, xa_name, xa_const, xa_binop, xa_boolop, xa_unop, xa_cmp, xa_call, xa_sub, xa_tuple, setN_some, xt_call, xt_sub, setT_some, xs_nil, xs_cons, t_nil_and, t_nil_or, t_and, t_or, v_one, v_and, v_or, ite_pair, ite_b, decide_eq_true_eq, beq_iff_eq, upd_str, emp_str, ofString_inj, String.reduceEq, ↓reduceIte, constP, Glob.val?, tyOf, b_add, b_sub, b_mul, b_mod, b_div, b_str, b_lst, c_lt, c_le, c_gt, c_ge, c_eqi, c_nei, c_eqs, c_eqb, c_neb, c_is, c_nin, k_lens, k_lenl, k_lent, k_leno, k_max, k_min, k_int, k_listl, k_listo, k_isi, i_boolb, i_booli, i_int, i_str, i_tup, i_lst, i_loc, st0, st1, st2, st3, sq0, sq1, sq2, sq3, s_tup, s_lst, s_loc, s_str, m_app, r_loc, r_lst, sl_of, rg_of, Glob.isB, and_self, and_true, true_and, bt_name, bt_tup, bn_nil, bn_cons, Option.map_some, List.length_cons, List.length_nil, Nat.reduceAdd, Nat.zero_add, le_sz0, le_sz1, le_sz2, le_sz3, le_sz4, le_sz5, G_isinstance, G_list, G_len, G_str, G_range, G_max, G_min, G_int, G_bool, G_tuple, G_MOST, G_SIGNS, G_alike, G_points, G_around, G_on, G_floor, G_sizes, G_drawn, G_is_in, G_boxes, G_whole, G_mixed, G_cell_at, G_inner, G_around_, G_wide, G_cell, G_checked]) <;> rfl
  · simp (disch := first | assumption | decide | omega) only [e_const, e_name, e_binop, e_not, e_usub, e_boolop, e_cmp, e_call, e_meth, e_slice, es_name, es_const, es_binop, es_call, es_sub, es_tuple, subE_eq, e_list, e_tuple, el_nil, el_cons, et_not, et_boolop, et_name, et_call, et_cmp, et_sub, valT_some, x_expr, x_ret, x_if, xa_nil, xa_one, xa_dict, xa_two, xa_name, xa_const, xa_binop, xa_boolop, xa_unop, xa_cmp, xa_call, xa_sub, xa_tuple, setN_some, xt_call, xt_sub, setT_some, xs_nil, xs_cons, t_nil_and, t_nil_or, t_and, t_or, v_one, v_and, v_or, ite_pair, ite_b, decide_eq_true_eq, beq_iff_eq, upd_str, emp_str, ofString_inj, String.reduceEq, ↓reduceIte, constP, Glob.val?, tyOf, b_add, b_sub, b_mul, b_mod, b_div, b_str, b_lst, c_lt, c_le, c_gt, c_ge, c_eqi, c_nei, c_eqs, c_eqb, c_neb, c_is, c_nin, k_lens, k_lenl, k_lent, k_leno, k_max, k_min, k_int, k_listl, k_listo, k_isi, i_boolb, i_booli, i_int, i_str, i_tup, i_lst, i_loc, st0, st1, st2, st3, sq0, sq1, sq2, sq3, s_tup, s_lst, s_loc, s_str, m_app, r_loc, r_lst, sl_of, rg_of, Glob.isB, and_self, and_true, true_and, bt_name, bt_tup, bn_nil, bn_cons, Option.map_some, List.length_cons, List.length_nil, Nat.reduceAdd, Nat.zero_add, le_sz0, le_sz1, le_sz2, le_sz3, le_sz4, le_sz5, G_isinstance, G_list, G_len, G_str, G_range, G_max, G_min, G_int, G_bool, G_tuple, G_MOST, G_SIGNS, G_alike, G_points, G_around, G_on, G_floor, G_sizes, G_drawn, G_is_in, G_boxes, G_whole, G_mixed, G_cell_at, G_inner, G_around_, G_wide, G_cell, G_checked]
  · rintro i d ρ τ hd ⟨rfl, r1, n1, n2, n3⟩
    obtain ⟨x, hx, rfl⟩ := List.mem_map.mp (List.mem_of_getElem? hd)
    obtain ⟨hxl, hxc⟩ := hrow x hx
    cases rows with
    | nil => cases hx
    | cons r0 rs =>
      have h0 := (hrow r0 (.head _)).1
      refine ⟨_, rfl, ?_⟩
      rw [List.map_cons] at r1
      have lx : x.length ≤ sizeLine := by omega
      have l0 : r0.length ≤ sizeLine := by omega
      apply out_next
      · (simp (disch := first | assumption | decide | omega) only [e_const, e_name, e_binop, e_not, e_usub, e_boolop, e_cmp, e_call, e_meth, e_slice, es_name, es_const, es_binop, es_call, es_sub, es_tuple, subE_eq, e_list, e_tuple, el_nil, el_cons, et_not, et_boolop, et_name, et_call, et_cmp, et_sub, valT_some, x_expr, x_ret, x_if, xa_nil, xa_one, xa_dict, xa_two, xa_name, xa_const, xa_binop, xa_boolop, xa_unop, xa_cmp, xa_call, xa_sub, xa_tuple, setN_some, xt_call, xt_sub, setT_some, xs_nil, xs_cons, t_nil_and, t_nil_or, t_and, t_or, v_one, v_and, v_or, ite_pair, ite_b, decide_eq_true_eq, beq_iff_eq, upd_str, emp_str, ofString_inj, String.reduceEq, ↓reduceIte, constP, Glob.val?, tyOf, b_add, b_sub, b_mul, b_mod, b_div, b_str, b_lst, c_lt, c_le, c_gt, c_ge, c_eqi, c_nei, c_eqs, c_eqb, c_neb, c_is, c_nin, k_lens, k_lenl, k_lent, k_leno, k_max, k_min, k_int, k_listl, k_listo, k_isi, i_boolb, i_booli, i_int, i_str, i_tup, i_lst, i_loc, st0, st1, st2, st3, sq0, sq1, sq2, sq3, s_tup, s_lst, s_loc, s_str, m_app, r_loc, r_lst, sl_of, rg_of, Glob.isB, and_self, and_true, true_and, bt_name, bt_tup, bn_nil, bn_cons, Option.map_some, List.length_cons, List.length_nil, Nat.reduceAdd, Nat.zero_add, le_sz0, le_sz1, le_sz2, le_sz3, le_sz4, le_sz5, G_isinstance, G_list, G_len, G_str, G_range, G_max, G_min, G_int, G_bool, G_tuple, G_MOST, G_SIGNS, G_alike, G_points, G_around, G_on, G_floor, G_sizes, G_drawn, G_is_in, G_boxes, G_whole, G_mixed, G_cell_at, G_inner, G_around_, G_wide, G_cell, G_checked, n1, Bool.not_true, Bool.false_eq_true]) <;> rfl
      have d2 : decide ((30 : Int) < (x.length : Int)) = false := decide_eq_false (by omega)
      have d3 : ((x.length : Int) == (r0.length : Int)) = true := by rw [hxl, h0]; simp
      apply out_next
      · (simp (disch := first | assumption | decide | omega) only [e_const, e_name, e_binop, e_not, e_usub, e_boolop, e_cmp, e_call, e_meth, e_slice, es_name, es_const, es_binop, es_call, es_sub, es_tuple, subE_eq, e_list, e_tuple, el_nil, el_cons, et_not, et_boolop, et_name, et_call, et_cmp, et_sub, valT_some, x_expr, x_ret, x_if, xa_nil, xa_one, xa_dict, xa_two, xa_name, xa_const, xa_binop, xa_boolop, xa_unop, xa_cmp, xa_call, xa_sub, xa_tuple, setN_some, xt_call, xt_sub, setT_some, xs_nil, xs_cons, t_nil_and, t_nil_or, t_and, t_or, v_one, v_and, v_or, ite_pair, ite_b, decide_eq_true_eq, beq_iff_eq, upd_str, emp_str, ofString_inj, String.reduceEq, ↓reduceIte, constP, Glob.val?, tyOf, b_add, b_sub, b_mul, b_mod, b_div, b_str, b_lst, c_lt, c_le, c_gt, c_ge, c_eqi, c_nei, c_eqs, c_eqb, c_neb, c_is, c_nin, k_lens, k_lenl, k_lent, k_leno, k_max, k_min, k_int, k_listl, k_listo, k_isi, i_boolb, i_booli, i_int, i_str, i_tup, i_lst, i_loc, st0, st1, st2, st3, sq0, sq1, sq2, sq3, s_tup, s_lst, s_loc, s_str, m_app, r_loc, r_lst, sl_of, rg_of, Glob.isB, and_self, and_true, true_and, bt_name, bt_tup, bn_nil, bn_cons, Option.map_some, List.length_cons, List.length_nil, Nat.reduceAdd, Nat.zero_add, le_sz0, le_sz1, le_sz2, le_sz3, le_sz4, le_sz5, G_isinstance, G_list, G_len, G_str, G_range, G_max, G_min, G_int, G_bool, G_tuple, G_MOST, G_SIGNS, G_alike, G_points, G_around, G_on, G_floor, G_sizes, G_drawn, G_is_in, G_boxes, G_whole, G_mixed, G_cell_at, G_inner, G_around_, G_wide, G_cell, G_checked, r1, n2, d2, d3, Bool.not_true, Bool.false_eq_true]) <;> rfl
      refine out_cons (out_mono (out_for (R := fun u τ' => u = .lst (List.map PV.str (r0 :: rs)) ∧ τ' = τ) (for_str (x := x) (σ₁ := τ) rfl ?_)
        (fun j ρ τ' => τ' = τ ∧ ρ (Str.ofString "rows") = some (.lst (List.map PV.str (r0 :: rs))) ∧ ρ (Str.ofString "str") = none ∧ ρ (Str.ofString "MOST") = none ∧ ρ (Str.ofString "SIGNS") = none) ?_ ?_) ?_ fun _ _ h => h)
      · (simp (disch := first | assumption | decide | omega) only [e_const, e_name, e_binop, e_not, e_usub, e_boolop, e_cmp, e_call, e_meth, e_slice, es_name, es_const, es_binop, es_call, es_sub, es_tuple, subE_eq, e_list, e_tuple, el_nil, el_cons, et_not, et_boolop, et_name, et_call, et_cmp, et_sub, valT_some, x_expr, x_ret, x_if, xa_nil, xa_one, xa_dict, xa_two, xa_name, xa_const, xa_binop, xa_boolop, xa_unop, xa_cmp, xa_call, xa_sub, xa_tuple, setN_some, xt_call, xt_sub, setT_some, xs_nil, xs_cons, t_nil_and, t_nil_or, t_and, t_or, v_one, v_and, v_or, ite_pair, ite_b, decide_eq_true_eq, beq_iff_eq, upd_str, emp_str, ofString_inj, String.reduceEq, ↓reduceIte, constP, Glob.val?, tyOf, b_add, b_sub, b_mul, b_mod, b_div, b_str, b_lst, c_lt, c_le, c_gt, c_ge, c_eqi, c_nei, c_eqs, c_eqb, c_neb, c_is, c_nin, k_lens, k_lenl, k_lent, k_leno, k_max, k_min, k_int, k_listl, k_listo, k_isi, i_boolb, i_booli, i_int, i_str, i_tup, i_lst, i_loc, st0, st1, st2, st3, sq0, sq1, sq2, sq3, s_tup, s_lst, s_loc, s_str, m_app, r_loc, r_lst, sl_of, rg_of, Glob.isB, and_self, and_true, true_and, bt_name, bt_tup, bn_nil, bn_cons, Option.map_some, List.length_cons, List.length_nil, Nat.reduceAdd, Nat.zero_add, le_sz0, le_sz1, le_sz2, le_sz3, le_sz4, le_sz5, G_isinstance, G_list, G_len, G_str, G_range, G_max, G_min, G_int, G_bool, G_tuple, G_MOST, G_SIGNS, G_alike, G_points, G_around, G_on, G_floor, G_sizes, G_drawn, G_is_in, G_boxes, G_whole, G_mixed, G_cell_at, G_inner, G_around_, G_wide, G_cell, G_checked]) <;> rfl
      · simp (disch := first | assumption | decide | omega) only [e_const, e_name, e_binop, e_not, e_usub, e_boolop, e_cmp, e_call, e_meth, e_slice, es_name, es_const, es_binop, es_call, es_sub, es_tuple, subE_eq, e_list, e_tuple, el_nil, el_cons, et_not, et_boolop, et_name, et_call, et_cmp, et_sub, valT_some, x_expr, x_ret, x_if, xa_nil, xa_one, xa_dict, xa_two, xa_name, xa_const, xa_binop, xa_boolop, xa_unop, xa_cmp, xa_call, xa_sub, xa_tuple, setN_some, xt_call, xt_sub, setT_some, xs_nil, xs_cons, t_nil_and, t_nil_or, t_and, t_or, v_one, v_and, v_or, ite_pair, ite_b, decide_eq_true_eq, beq_iff_eq, upd_str, emp_str, ofString_inj, String.reduceEq, ↓reduceIte, constP, Glob.val?, tyOf, b_add, b_sub, b_mul, b_mod, b_div, b_str, b_lst, c_lt, c_le, c_gt, c_ge, c_eqi, c_nei, c_eqs, c_eqb, c_neb, c_is, c_nin, k_lens, k_lenl, k_lent, k_leno, k_max, k_min, k_int, k_listl, k_listo, k_isi, i_boolb, i_booli, i_int, i_str, i_tup, i_lst, i_loc, st0, st1, st2, st3, sq0, sq1, sq2, sq3, s_tup, s_lst, s_loc, s_str, m_app, r_loc, r_lst, sl_of, rg_of, Glob.isB, and_self, and_true, true_and, bt_name, bt_tup, bn_nil, bn_cons, Option.map_some, List.length_cons, List.length_nil, Nat.reduceAdd, Nat.zero_add, le_sz0, le_sz1, le_sz2, le_sz3, le_sz4, le_sz5, G_isinstance, G_list, G_len, G_str, G_range, G_max, G_min, G_int, G_bool, G_tuple, G_MOST, G_SIGNS, G_alike, G_points, G_around, G_on, G_floor, G_sizes, G_drawn, G_is_in, G_boxes, G_whole, G_mixed, G_cell_at, G_inner, G_around_, G_wide, G_cell, G_checked, r1, n1, n2, n3, List.map_cons]
      · rintro j d ρ τ' hd ⟨rfl, r2, n1, n2, n3⟩
        obtain ⟨c, hc, rfl⟩ := List.mem_map.mp (List.mem_of_getElem? hd)
        refine ⟨_, rfl, ?_⟩
        have oc := occ_ok (hxc c hc)
        apply out_next
        · (simp (disch := first | assumption | decide | omega) only [e_const, e_name, e_binop, e_not, e_usub, e_boolop, e_cmp, e_call, e_meth, e_slice, es_name, es_const, es_binop, es_call, es_sub, es_tuple, subE_eq, e_list, e_tuple, el_nil, el_cons, et_not, et_boolop, et_name, et_call, et_cmp, et_sub, valT_some, x_expr, x_ret, x_if, xa_nil, xa_one, xa_dict, xa_two, xa_name, xa_const, xa_binop, xa_boolop, xa_unop, xa_cmp, xa_call, xa_sub, xa_tuple, setN_some, xt_call, xt_sub, setT_some, xs_nil, xs_cons, t_nil_and, t_nil_or, t_and, t_or, v_one, v_and, v_or, ite_pair, ite_b, decide_eq_true_eq, beq_iff_eq, upd_str, emp_str, ofString_inj, String.reduceEq, ↓reduceIte, constP, Glob.val?, tyOf, b_add, b_sub, b_mul, b_mod, b_div, b_str, b_lst, c_lt, c_le, c_gt, c_ge, c_eqi, c_nei, c_eqs, c_eqb, c_neb, c_is, c_nin, k_lens, k_lenl, k_lent, k_leno, k_max, k_min, k_int, k_listl, k_listo, k_isi, i_boolb, i_booli, i_int, i_str, i_tup, i_lst, i_loc, st0, st1, st2, st3, sq0, sq1, sq2, sq3, s_tup, s_lst, s_loc, s_str, m_app, r_loc, r_lst, sl_of, rg_of, Glob.isB, and_self, and_true, true_and, bt_name, bt_tup, bn_nil, bn_cons, Option.map_some, List.length_cons, List.length_nil, Nat.reduceAdd, Nat.zero_add, le_sz0, le_sz1, le_sz2, le_sz3, le_sz4, le_sz5, G_isinstance, G_list, G_len, G_str, G_range, G_max, G_min, G_int, G_bool, G_tuple, G_MOST, G_SIGNS, G_alike, G_points, G_around, G_on, G_floor, G_sizes, G_drawn, G_is_in, G_boxes, G_whole, G_mixed, G_cell_at, G_inner, G_around_, G_wide, G_cell, G_checked, n3, oc, Bool.not_true, Bool.not_false, Bool.false_eq_true]) <;> rfl
        refine out_nil ?_
        simp (disch := first | assumption | decide | omega) only [e_const, e_name, e_binop, e_not, e_usub, e_boolop, e_cmp, e_call, e_meth, e_slice, es_name, es_const, es_binop, es_call, es_sub, es_tuple, subE_eq, e_list, e_tuple, el_nil, el_cons, et_not, et_boolop, et_name, et_call, et_cmp, et_sub, valT_some, x_expr, x_ret, x_if, xa_nil, xa_one, xa_dict, xa_two, xa_name, xa_const, xa_binop, xa_boolop, xa_unop, xa_cmp, xa_call, xa_sub, xa_tuple, setN_some, xt_call, xt_sub, setT_some, xs_nil, xs_cons, t_nil_and, t_nil_or, t_and, t_or, v_one, v_and, v_or, ite_pair, ite_b, decide_eq_true_eq, beq_iff_eq, upd_str, emp_str, ofString_inj, String.reduceEq, ↓reduceIte, constP, Glob.val?, tyOf, b_add, b_sub, b_mul, b_mod, b_div, b_str, b_lst, c_lt, c_le, c_gt, c_ge, c_eqi, c_nei, c_eqs, c_eqb, c_neb, c_is, c_nin, k_lens, k_lenl, k_lent, k_leno, k_max, k_min, k_int, k_listl, k_listo, k_isi, i_boolb, i_booli, i_int, i_str, i_tup, i_lst, i_loc, st0, st1, st2, st3, sq0, sq1, sq2, sq3, s_tup, s_lst, s_loc, s_str, m_app, r_loc, r_lst, sl_of, rg_of, Glob.isB, and_self, and_true, true_and, bt_name, bt_tup, bn_nil, bn_cons, Option.map_some, List.length_cons, List.length_nil, Nat.reduceAdd, Nat.zero_add, le_sz0, le_sz1, le_sz2, le_sz3, le_sz4, le_sz5, G_isinstance, G_list, G_len, G_str, G_range, G_max, G_min, G_int, G_bool, G_tuple, G_MOST, G_SIGNS, G_alike, G_points, G_around, G_on, G_floor, G_sizes, G_drawn, G_is_in, G_boxes, G_whole, G_mixed, G_cell_at, G_inner, G_around_, G_wide, G_cell, G_checked, r2, n1, n2, n3]
      · rintro ρ τ' ⟨rfl, r2, n⟩
        exact out_nil ⟨rfl, r2, n⟩
  · rintro ρ τ ⟨rfl, r1, _⟩
    apply out_ret
    · (simp (disch := first | assumption | decide | omega) only [e_const, e_name, e_binop, e_not, e_usub, e_boolop, e_cmp, e_call, e_meth, e_slice, es_name, es_const, es_binop, es_call, es_sub, es_tuple, subE_eq, e_list, e_tuple, el_nil, el_cons, et_not, et_boolop, et_name, et_call, et_cmp, et_sub, valT_some, x_expr, x_ret, x_if, xa_nil, xa_one, xa_dict, xa_two, xa_name, xa_const, xa_binop, xa_boolop, xa_unop, xa_cmp, xa_call, xa_sub, xa_tuple, setN_some, xt_call, xt_sub, setT_some, xs_nil, xs_cons, t_nil_and, t_nil_or, t_and, t_or, v_one, v_and, v_or, ite_pair, ite_b, decide_eq_true_eq, beq_iff_eq, upd_str, emp_str, ofString_inj, String.reduceEq, ↓reduceIte, constP, Glob.val?, tyOf, b_add, b_sub, b_mul, b_mod, b_div, b_str, b_lst, c_lt, c_le, c_gt, c_ge, c_eqi, c_nei, c_eqs, c_eqb, c_neb, c_is, c_nin, k_lens, k_lenl, k_lent, k_leno, k_max, k_min, k_int, k_listl, k_listo, k_isi, i_boolb, i_booli, i_int, i_str, i_tup, i_lst, i_loc, st0, st1, st2, st3, sq0, sq1, sq2, sq3, s_tup, s_lst, s_loc, s_str, m_app, r_loc, r_lst, sl_of, rg_of, Glob.isB, and_self, and_true, true_and, bt_name, bt_tup, bn_nil, bn_cons, Option.map_some, List.length_cons, List.length_nil, Nat.reduceAdd, Nat.zero_add, le_sz0, le_sz1, le_sz2, le_sz3, le_sz4, le_sz5, G_isinstance, G_list, G_len, G_str, G_range, G_max, G_min, G_int, G_bool, G_tuple, G_MOST, G_SIGNS, G_alike, G_points, G_around, G_on, G_floor, G_sizes, G_drawn, G_is_in, G_boxes, G_whole, G_mixed, G_cell_at, G_inner, G_around_, G_wide, G_cell, G_checked, r1]) <;> rfl
    · exact ⟨rfl, rfl⟩

theorem cell_run {rows : List Str} {r c : Int} (hg : Good rows) : interpF Φ Gl (dOf pw "cell") [.lst (rows.map .str), .int r, .int c] σ = some (.bool (onB rows r c), σ) := by
  have hs := sz
  obtain ⟨h30, w, w30, hrow⟩ := hg
  refine run_eq (by kernel_rfl) ?_
  change Out (execSs Φ Gl (_ :: _ :: _) (bindP [_, _, _] _) σ) _ _
  rw [bindP3]
  have hl : (rows.map PV.str).length ≤ sizeLine := by rw [List.length_map]; omega
  by_cases a1 : r < 0
  · apply out_ret
    · (simp (disch := first | assumption | decide | omega) only [e_const, e_name, e_binop, e_not, e_usub, e_boolop, e_cmp, e_call, e_meth, e_slice, es_name, es_const, es_binop, es_call, es_sub, es_tuple, subE_eq, e_list, e_tuple, el_nil, el_cons, et_not, et_boolop, et_name, et_call, et_cmp, et_sub, valT_some, x_expr, x_ret, x_if, xa_nil, xa_one, xa_dict, xa_two, xa_name, xa_const, xa_binop, xa_boolop, xa_unop, xa_cmp, xa_call, xa_sub, xa_tuple, setN_some, xt_call, xt_sub, setT_some, xs_nil, xs_cons, t_nil_and, t_nil_or, t_and, t_or, v_one, v_and, v_or, ite_pair, ite_b, decide_eq_true_eq, beq_iff_eq, upd_str, emp_str, ofString_inj, String.reduceEq, ↓reduceIte, constP, Glob.val?, tyOf, b_add, b_sub, b_mul, b_mod, b_div, b_str, b_lst, c_lt, c_le, c_gt, c_ge, c_eqi, c_nei, c_eqs, c_eqb, c_neb, c_is, c_nin, k_lens, k_lenl, k_lent, k_leno, k_max, k_min, k_int, k_listl, k_listo, k_isi, i_boolb, i_booli, i_int, i_str, i_tup, i_lst, i_loc, st0, st1, st2, st3, sq0, sq1, sq2, sq3, s_tup, s_lst, s_loc, s_str, m_app, r_loc, r_lst, sl_of, rg_of, Glob.isB, and_self, and_true, true_and, bt_name, bt_tup, bn_nil, bn_cons, Option.map_some, List.length_cons, List.length_nil, Nat.reduceAdd, Nat.zero_add, le_sz0, le_sz1, le_sz2, le_sz3, le_sz4, le_sz5, G_isinstance, G_list, G_len, G_str, G_range, G_max, G_min, G_int, G_bool, G_tuple, G_MOST, G_SIGNS, G_alike, G_points, G_around, G_on, G_floor, G_sizes, G_drawn, G_is_in, G_boxes, G_whole, G_mixed, G_cell_at, G_inner, G_around_, G_wide, G_cell, G_checked, a1]) <;> rfl
    · refine ⟨?_, rfl⟩
      unfold onB; rw [if_neg (by omega)]
  by_cases a2 : (rows.length : Int) ≤ r
  · apply out_ret
    · (simp (disch := first | assumption | decide | omega) only [e_const, e_name, e_binop, e_not, e_usub, e_boolop, e_cmp, e_call, e_meth, e_slice, es_name, es_const, es_binop, es_call, es_sub, es_tuple, subE_eq, e_list, e_tuple, el_nil, el_cons, et_not, et_boolop, et_name, et_call, et_cmp, et_sub, valT_some, x_expr, x_ret, x_if, xa_nil, xa_one, xa_dict, xa_two, xa_name, xa_const, xa_binop, xa_boolop, xa_unop, xa_cmp, xa_call, xa_sub, xa_tuple, setN_some, xt_call, xt_sub, setT_some, xs_nil, xs_cons, t_nil_and, t_nil_or, t_and, t_or, v_one, v_and, v_or, ite_pair, ite_b, decide_eq_true_eq, beq_iff_eq, upd_str, emp_str, ofString_inj, String.reduceEq, ↓reduceIte, constP, Glob.val?, tyOf, b_add, b_sub, b_mul, b_mod, b_div, b_str, b_lst, c_lt, c_le, c_gt, c_ge, c_eqi, c_nei, c_eqs, c_eqb, c_neb, c_is, c_nin, k_lens, k_lenl, k_lent, k_leno, k_max, k_min, k_int, k_listl, k_listo, k_isi, i_boolb, i_booli, i_int, i_str, i_tup, i_lst, i_loc, st0, st1, st2, st3, sq0, sq1, sq2, sq3, s_tup, s_lst, s_loc, s_str, m_app, r_loc, r_lst, sl_of, rg_of, Glob.isB, and_self, and_true, true_and, bt_name, bt_tup, bn_nil, bn_cons, Option.map_some, List.length_cons, List.length_nil, Nat.reduceAdd, Nat.zero_add, le_sz0, le_sz1, le_sz2, le_sz3, le_sz4, le_sz5, G_isinstance, G_list, G_len, G_str, G_range, G_max, G_min, G_int, G_bool, G_tuple, G_MOST, G_SIGNS, G_alike, G_points, G_around, G_on, G_floor, G_sizes, G_drawn, G_is_in, G_boxes, G_whole, G_mixed, G_cell_at, G_inner, G_around_, G_wide, G_cell, G_checked, a1, a2, List.length_map]) <;> rfl
    · refine ⟨?_, rfl⟩
      unfold onB; rw [if_neg (by omega)]
  have hr0 : 0 ≤ r := by omega
  have hr1 : r < (rows.map PV.str).length := by rw [List.length_map]; omega
  have ht : r.toNat < rows.length := by omega
  have gx : (rows.map PV.str)[r.toNat]? = some (.str (rows[r.toNat]'ht)) := by rw [List.getElem?_map, List.getElem?_eq_getElem ht]; rfl
  have gd : rows.getD r.toNat ⟨#[]⟩ = rows[r.toNat]'ht := by simp [List.getD, List.getElem?_eq_getElem ht]
  have hx := (hrow _ (List.getElem_mem ht)).1
  have ob : onB rows r c = if 0 ≤ c ∧ c < (rows[r.toNat]'ht).length then (rows[r.toNat]'ht).cps.getD c.toNat 0 == 35 else false := by
    unfold onB; rw [if_pos ⟨hr0, by omega⟩, gd]
  generalize rows[r.toNat]'ht = x at *
  have lx : x.length ≤ sizeLine := by omega
  by_cases a3 : c < 0
  · apply out_ret
    · (simp (disch := first | assumption | decide | omega) only [e_const, e_name, e_binop, e_not, e_usub, e_boolop, e_cmp, e_call, e_meth, e_slice, es_name, es_const, es_binop, es_call, es_sub, es_tuple, subE_eq, e_list, e_tuple, el_nil, el_cons, et_not, et_boolop, et_name, et_call, et_cmp, et_sub, valT_some, x_expr, x_ret, x_if, xa_nil, xa_one, xa_dict, xa_two, xa_name, xa_const, xa_binop, xa_boolop, xa_unop, xa_cmp, xa_call, xa_sub, xa_tuple, setN_some, xt_call, xt_sub, setT_some, xs_nil, xs_cons, t_nil_and, t_nil_or, t_and, t_or, v_one, v_and, v_or, ite_pair, ite_b, decide_eq_true_eq, beq_iff_eq, upd_str, emp_str, ofString_inj, String.reduceEq, ↓reduceIte, constP, Glob.val?, tyOf, b_add, b_sub, b_mul, b_mod, b_div, b_str, b_lst, c_lt, c_le, c_gt, c_ge, c_eqi, c_nei, c_eqs, c_eqb, c_neb, c_is, c_nin, k_lens, k_lenl, k_lent, k_leno, k_max, k_min, k_int, k_listl, k_listo, k_isi, i_boolb, i_booli, i_int, i_str, i_tup, i_lst, i_loc, st0, st1, st2, st3, sq0, sq1, sq2, sq3, s_tup, s_lst, s_loc, s_str, m_app, r_loc, r_lst, sl_of, rg_of, Glob.isB, and_self, and_true, true_and, bt_name, bt_tup, bn_nil, bn_cons, Option.map_some, List.length_cons, List.length_nil, Nat.reduceAdd, Nat.zero_add, le_sz0, le_sz1, le_sz2, le_sz3, le_sz4, le_sz5, G_isinstance, G_list, G_len, G_str, G_range, G_max, G_min, G_int, G_bool, G_tuple, G_MOST, G_SIGNS, G_alike, G_points, G_around, G_on, G_floor, G_sizes, G_drawn, G_is_in, G_boxes, G_whole, G_mixed, G_cell_at, G_inner, G_around_, G_wide, G_cell, G_checked, a1, a2, a3, List.length_map]) <;> rfl
    · refine ⟨?_, rfl⟩
      rw [ob, if_neg (by omega)]
  by_cases a4 : (x.length : Int) ≤ c
  · apply out_ret
    · (simp (disch := first | assumption | decide | omega) only [e_const, e_name, e_binop, e_not, e_usub, e_boolop, e_cmp, e_call, e_meth, e_slice, es_name, es_const, es_binop, es_call, es_sub, es_tuple, subE_eq, e_list, e_tuple, el_nil, el_cons, et_not, et_boolop, et_name, et_call, et_cmp, et_sub, valT_some, x_expr, x_ret, x_if, xa_nil, xa_one, xa_dict, xa_two, xa_name, xa_const, xa_binop, xa_boolop, xa_unop, xa_cmp, xa_call, xa_sub, xa_tuple, setN_some, xt_call, xt_sub, setT_some, xs_nil, xs_cons, t_nil_and, t_nil_or, t_and, t_or, v_one, v_and, v_or, ite_pair, ite_b, decide_eq_true_eq, beq_iff_eq, upd_str, emp_str, ofString_inj, String.reduceEq, ↓reduceIte, constP, Glob.val?, tyOf, b_add, b_sub, b_mul, b_mod, b_div, b_str, b_lst, c_lt, c_le, c_gt, c_ge, c_eqi, c_nei, c_eqs, c_eqb, c_neb, c_is, c_nin, k_lens, k_lenl, k_lent, k_leno, k_max, k_min, k_int, k_listl, k_listo, k_isi, i_boolb, i_booli, i_int, i_str, i_tup, i_lst, i_loc, st0, st1, st2, st3, sq0, sq1, sq2, sq3, s_tup, s_lst, s_loc, s_str, m_app, r_loc, r_lst, sl_of, rg_of, Glob.isB, and_self, and_true, true_and, bt_name, bt_tup, bn_nil, bn_cons, Option.map_some, List.length_cons, List.length_nil, Nat.reduceAdd, Nat.zero_add, le_sz0, le_sz1, le_sz2, le_sz3, le_sz4, le_sz5, G_isinstance, G_list, G_len, G_str, G_range, G_max, G_min, G_int, G_bool, G_tuple, G_MOST, G_SIGNS, G_alike, G_points, G_around, G_on, G_floor, G_sizes, G_drawn, G_is_in, G_boxes, G_whole, G_mixed, G_cell_at, G_inner, G_around_, G_wide, G_cell, G_checked, a1, a2, a3, a4, List.length_map, gx]) <;> rfl
    · refine ⟨?_, rfl⟩
      rw [ob, if_neg (by omega)]
  have hc0 : 0 ≤ c := by omega
  have hc1 : c < x.length := by omega
  have hct : c.toNat < x.cps.size := by show c.toNat < x.length; omega
  apply out_next
  · (simp (disch := first | assumption | decide | omega) only [e_const, e_name, e_binop, e_not, e_usub, e_boolop, e_cmp, e_call, e_meth, e_slice, es_name, es_const, es_binop, es_call, es_sub, es_tuple, subE_eq, e_list, e_tuple, el_nil, el_cons, et_not, et_boolop, et_name, et_call, et_cmp, et_sub, valT_some, x_expr, x_ret, x_if, xa_nil, xa_one, xa_dict, xa_two, xa_name, xa_const, xa_binop, xa_boolop, xa_unop, xa_cmp, xa_call, xa_sub, xa_tuple, setN_some, xt_call, xt_sub, setT_some, xs_nil, xs_cons, t_nil_and, t_nil_or, t_and, t_or, v_one, v_and, v_or, ite_pair, ite_b, decide_eq_true_eq, beq_iff_eq, upd_str, emp_str, ofString_inj, String.reduceEq, ↓reduceIte, constP, Glob.val?, tyOf, b_add, b_sub, b_mul, b_mod, b_div, b_str, b_lst, c_lt, c_le, c_gt, c_ge, c_eqi, c_nei, c_eqs, c_eqb, c_neb, c_is, c_nin, k_lens, k_lenl, k_lent, k_leno, k_max, k_min, k_int, k_listl, k_listo, k_isi, i_boolb, i_booli, i_int, i_str, i_tup, i_lst, i_loc, st0, st1, st2, st3, sq0, sq1, sq2, sq3, s_tup, s_lst, s_loc, s_str, m_app, r_loc, r_lst, sl_of, rg_of, Glob.isB, and_self, and_true, true_and, bt_name, bt_tup, bn_nil, bn_cons, Option.map_some, List.length_cons, List.length_nil, Nat.reduceAdd, Nat.zero_add, le_sz0, le_sz1, le_sz2, le_sz3, le_sz4, le_sz5, G_isinstance, G_list, G_len, G_str, G_range, G_max, G_min, G_int, G_bool, G_tuple, G_MOST, G_SIGNS, G_alike, G_points, G_around, G_on, G_floor, G_sizes, G_drawn, G_is_in, G_boxes, G_whole, G_mixed, G_cell_at, G_inner, G_around_, G_wide, G_cell, G_checked, a1, a2, a3, a4, List.length_map, gx]) <;> rfl
  apply out_ret
  · (simp (disch := first | assumption | decide | omega) only [e_const, e_name, e_binop, e_not, e_usub, e_boolop, e_cmp, e_call, e_meth, e_slice, es_name, es_const, es_binop, es_call, es_sub, es_tuple, subE_eq, e_list, e_tuple, el_nil, el_cons, et_not, et_boolop, et_name, et_call, et_cmp, et_sub, valT_some, x_expr, x_ret, x_if, xa_nil, xa_one, xa_dict, xa_two, xa_name, xa_const, xa_binop, xa_boolop, xa_unop, xa_cmp, xa_call, xa_sub, xa_tuple, setN_some, xt_call, xt_sub, setT_some, xs_nil, xs_cons, t_nil_and, t_nil_or, t_and, t_or, v_one, v_and, v_or, ite_pair, ite_b, decide_eq_true_eq, beq_iff_eq, upd_str, emp_str, ofString_inj, String.reduceEq, ↓reduceIte, constP, Glob.val?, tyOf, b_add, b_sub, b_mul, b_mod, b_div, b_str, b_lst, c_lt, c_le, c_gt, c_ge, c_eqi, c_nei, c_eqs, c_eqb, c_neb, c_is, c_nin, k_lens, k_lenl, k_lent, k_leno, k_max, k_min, k_int, k_listl, k_listo, k_isi, i_boolb, i_booli, i_int, i_str, i_tup, i_lst, i_loc, st0, st1, st2, st3, sq0, sq1, sq2, sq3, s_tup, s_lst, s_loc, s_str, m_app, r_loc, r_lst, sl_of, rg_of, Glob.isB, and_self, and_true, true_and, bt_name, bt_tup, bn_nil, bn_cons, Option.map_some, List.length_cons, List.length_nil, Nat.reduceAdd, Nat.zero_add, le_sz0, le_sz1, le_sz2, le_sz3, le_sz4, le_sz5, G_isinstance, G_list, G_len, G_str, G_range, G_max, G_min, G_int, G_bool, G_tuple, G_MOST, G_SIGNS, G_alike, G_points, G_around, G_on, G_floor, G_sizes, G_drawn, G_is_in, G_boxes, G_whole, G_mixed, G_cell_at, G_inner, G_around_, G_wide, G_cell, G_checked, gx, Array.getElem?_eq_getElem hct, str_hash]) <;> rfl
  · refine ⟨?_, rfl⟩
    rw [ob, if_pos ⟨hc0, hc1⟩]
    simp [hct]

theorem on_run {rows : List Str} {i : Nat} {r c : Int} (hg : Good rows) (hσ : σ[i]? = some (.list (rows.map .str))) : interpF Φ Gl (dOf pw "_law_on") [.loc i, .int r, .int c] σ = some (.bool (onB rows r c), σ) := by
  have hs := sz
  obtain ⟨h30, w, w30, hrow⟩ := hg
  refine run_eq (by kernel_rfl) ?_
  change Out (execSs Φ Gl (_ :: _) (bindP [_, _, _] _) σ) _ _
  rw [bindP3]
  have hl : (rows.map PV.str).length ≤ sizeLine := by rw [List.length_map]; omega
  by_cases a1 : 0 ≤ r
  case neg =>
    apply out_ret
    · (simp (disch := first | assumption | decide | omega) only [e_const, e_name, e_binop, e_not, e_usub, e_boolop, e_cmp, e_call, e_meth, e_slice, es_name, es_const, es_binop, es_call, es_sub, es_tuple, subE_eq, e_list, e_tuple, el_nil, el_cons, et_not, et_boolop, et_name, et_call, et_cmp, et_sub, valT_some, x_expr, x_ret, x_if, xa_nil, xa_one, xa_dict, xa_two, xa_name, xa_const, xa_binop, xa_boolop, xa_unop, xa_cmp, xa_call, xa_sub, xa_tuple, setN_some, xt_call, xt_sub, setT_some, xs_nil, xs_cons, t_nil_and, t_nil_or, t_and, t_or, v_one, v_and, v_or, ite_pair, ite_b, decide_eq_true_eq, beq_iff_eq, upd_str, emp_str, ofString_inj, String.reduceEq, ↓reduceIte, constP, Glob.val?, tyOf, b_add, b_sub, b_mul, b_mod, b_div, b_str, b_lst, c_lt, c_le, c_gt, c_ge, c_eqi, c_nei, c_eqs, c_eqb, c_neb, c_is, c_nin, k_lens, k_lenl, k_lent, k_leno, k_max, k_min, k_int, k_listl, k_listo, k_isi, i_boolb, i_booli, i_int, i_str, i_tup, i_lst, i_loc, st0, st1, st2, st3, sq0, sq1, sq2, sq3, s_tup, s_lst, s_loc, s_str, m_app, r_loc, r_lst, sl_of, rg_of, Glob.isB, and_self, and_true, true_and, bt_name, bt_tup, bn_nil, bn_cons, Option.map_some, List.length_cons, List.length_nil, Nat.reduceAdd, Nat.zero_add, le_sz0, le_sz1, le_sz2, le_sz3, le_sz4, le_sz5, G_isinstance, G_list, G_len, G_str, G_range, G_max, G_min, G_int, G_bool, G_tuple, G_MOST, G_SIGNS, G_alike, G_points, G_around, G_on, G_floor, G_sizes, G_drawn, G_is_in, G_boxes, G_whole, G_mixed, G_cell_at, G_inner, G_around_, G_wide, G_cell, G_checked, a1]) <;> rfl
    · refine ⟨?_, rfl⟩
      unfold onB; rw [if_neg (by omega)]
  by_cases a2 : r < (rows.length : Int)
  case neg =>
    apply out_ret
    · (simp (disch := first | assumption | decide | omega) only [e_const, e_name, e_binop, e_not, e_usub, e_boolop, e_cmp, e_call, e_meth, e_slice, es_name, es_const, es_binop, es_call, es_sub, es_tuple, subE_eq, e_list, e_tuple, el_nil, el_cons, et_not, et_boolop, et_name, et_call, et_cmp, et_sub, valT_some, x_expr, x_ret, x_if, xa_nil, xa_one, xa_dict, xa_two, xa_name, xa_const, xa_binop, xa_boolop, xa_unop, xa_cmp, xa_call, xa_sub, xa_tuple, setN_some, xt_call, xt_sub, setT_some, xs_nil, xs_cons, t_nil_and, t_nil_or, t_and, t_or, v_one, v_and, v_or, ite_pair, ite_b, decide_eq_true_eq, beq_iff_eq, upd_str, emp_str, ofString_inj, String.reduceEq, ↓reduceIte, constP, Glob.val?, tyOf, b_add, b_sub, b_mul, b_mod, b_div, b_str, b_lst, c_lt, c_le, c_gt, c_ge, c_eqi, c_nei, c_eqs, c_eqb, c_neb, c_is, c_nin, k_lens, k_lenl, k_lent, k_leno, k_max, k_min, k_int, k_listl, k_listo, k_isi, i_boolb, i_booli, i_int, i_str, i_tup, i_lst, i_loc, st0, st1, st2, st3, sq0, sq1, sq2, sq3, s_tup, s_lst, s_loc, s_str, m_app, r_loc, r_lst, sl_of, rg_of, Glob.isB, and_self, and_true, true_and, bt_name, bt_tup, bn_nil, bn_cons, Option.map_some, List.length_cons, List.length_nil, Nat.reduceAdd, Nat.zero_add, le_sz0, le_sz1, le_sz2, le_sz3, le_sz4, le_sz5, G_isinstance, G_list, G_len, G_str, G_range, G_max, G_min, G_int, G_bool, G_tuple, G_MOST, G_SIGNS, G_alike, G_points, G_around, G_on, G_floor, G_sizes, G_drawn, G_is_in, G_boxes, G_whole, G_mixed, G_cell_at, G_inner, G_around_, G_wide, G_cell, G_checked, a1, a2, List.length_map, k_leno hσ hl]) <;> rfl
    · refine ⟨?_, rfl⟩
      unfold onB; rw [if_neg (by omega)]
  have hr1 : r < (rows.map PV.str).length := by rw [List.length_map]; omega
  have ht : r.toNat < rows.length := by omega
  have gx : (rows.map PV.str)[r.toNat]? = some (.str (rows[r.toNat]'ht)) := by rw [List.getElem?_map, List.getElem?_eq_getElem ht]; rfl
  have gd : rows.getD r.toNat ⟨#[]⟩ = rows[r.toNat]'ht := by simp [List.getD, List.getElem?_eq_getElem ht]
  have hx := (hrow _ (List.getElem_mem ht)).1
  have ob : onB rows r c = if 0 ≤ c ∧ c < (rows[r.toNat]'ht).length then (rows[r.toNat]'ht).cps.getD c.toNat 0 == 35 else false := by
    unfold onB; rw [if_pos ⟨a1, by omega⟩, gd]
  generalize rows[r.toNat]'ht = x at *
  have lx : x.length ≤ sizeLine := by omega
  have kl := k_leno hσ hl
  have sl := s_loc hσ a1 hr1 hl
  by_cases a3 : 0 ≤ c
  case neg =>
    apply out_ret
    · (simp (disch := first | assumption | decide | omega) only [e_const, e_name, e_binop, e_not, e_usub, e_boolop, e_cmp, e_call, e_meth, e_slice, es_name, es_const, es_binop, es_call, es_sub, es_tuple, subE_eq, e_list, e_tuple, el_nil, el_cons, et_not, et_boolop, et_name, et_call, et_cmp, et_sub, valT_some, x_expr, x_ret, x_if, xa_nil, xa_one, xa_dict, xa_two, xa_name, xa_const, xa_binop, xa_boolop, xa_unop, xa_cmp, xa_call, xa_sub, xa_tuple, setN_some, xt_call, xt_sub, setT_some, xs_nil, xs_cons, t_nil_and, t_nil_or, t_and, t_or, v_one, v_and, v_or, ite_pair, ite_b, decide_eq_true_eq, beq_iff_eq, upd_str, emp_str, ofString_inj, String.reduceEq, ↓reduceIte, constP, Glob.val?, tyOf, b_add, b_sub, b_mul, b_mod, b_div, b_str, b_lst, c_lt, c_le, c_gt, c_ge, c_eqi, c_nei, c_eqs, c_eqb, c_neb, c_is, c_nin, k_lens, k_lenl, k_lent, k_leno, k_max, k_min, k_int, k_listl, k_listo, k_isi, i_boolb, i_booli, i_int, i_str, i_tup, i_lst, i_loc, st0, st1, st2, st3, sq0, sq1, sq2, sq3, s_tup, s_lst, s_loc, s_str, m_app, r_loc, r_lst, sl_of, rg_of, Glob.isB, and_self, and_true, true_and, bt_name, bt_tup, bn_nil, bn_cons, Option.map_some, List.length_cons, List.length_nil, Nat.reduceAdd, Nat.zero_add, le_sz0, le_sz1, le_sz2, le_sz3, le_sz4, le_sz5, G_isinstance, G_list, G_len, G_str, G_range, G_max, G_min, G_int, G_bool, G_tuple, G_MOST, G_SIGNS, G_alike, G_points, G_around, G_on, G_floor, G_sizes, G_drawn, G_is_in, G_boxes, G_whole, G_mixed, G_cell_at, G_inner, G_around_, G_wide, G_cell, G_checked, a1, a2, a3, List.length_map, kl]) <;> rfl
    · refine ⟨?_, rfl⟩
      rw [ob, if_neg (by omega)]
  by_cases a4 : c < (x.length : Int)
  case neg =>
    apply out_ret
    · (simp (disch := first | assumption | decide | omega) only [e_const, e_name, e_binop, e_not, e_usub, e_boolop, e_cmp, e_call, e_meth, e_slice, es_name, es_const, es_binop, es_call, es_sub, es_tuple, subE_eq, e_list, e_tuple, el_nil, el_cons, et_not, et_boolop, et_name, et_call, et_cmp, et_sub, valT_some, x_expr, x_ret, x_if, xa_nil, xa_one, xa_dict, xa_two, xa_name, xa_const, xa_binop, xa_boolop, xa_unop, xa_cmp, xa_call, xa_sub, xa_tuple, setN_some, xt_call, xt_sub, setT_some, xs_nil, xs_cons, t_nil_and, t_nil_or, t_and, t_or, v_one, v_and, v_or, ite_pair, ite_b, decide_eq_true_eq, beq_iff_eq, upd_str, emp_str, ofString_inj, String.reduceEq, ↓reduceIte, constP, Glob.val?, tyOf, b_add, b_sub, b_mul, b_mod, b_div, b_str, b_lst, c_lt, c_le, c_gt, c_ge, c_eqi, c_nei, c_eqs, c_eqb, c_neb, c_is, c_nin, k_lens, k_lenl, k_lent, k_leno, k_max, k_min, k_int, k_listl, k_listo, k_isi, i_boolb, i_booli, i_int, i_str, i_tup, i_lst, i_loc, st0, st1, st2, st3, sq0, sq1, sq2, sq3, s_tup, s_lst, s_loc, s_str, m_app, r_loc, r_lst, sl_of, rg_of, Glob.isB, and_self, and_true, true_and, bt_name, bt_tup, bn_nil, bn_cons, Option.map_some, List.length_cons, List.length_nil, Nat.reduceAdd, Nat.zero_add, le_sz0, le_sz1, le_sz2, le_sz3, le_sz4, le_sz5, G_isinstance, G_list, G_len, G_str, G_range, G_max, G_min, G_int, G_bool, G_tuple, G_MOST, G_SIGNS, G_alike, G_points, G_around, G_on, G_floor, G_sizes, G_drawn, G_is_in, G_boxes, G_whole, G_mixed, G_cell_at, G_inner, G_around_, G_wide, G_cell, G_checked, a1, a2, a3, a4, List.length_map, gx, kl, sl]) <;> rfl
    · refine ⟨?_, rfl⟩
      rw [ob, if_neg (by omega)]
  have hct : c.toNat < x.cps.size := by show c.toNat < x.length; omega
  apply out_ret
  · (simp (disch := first | assumption | decide | omega) only [e_const, e_name, e_binop, e_not, e_usub, e_boolop, e_cmp, e_call, e_meth, e_slice, es_name, es_const, es_binop, es_call, es_sub, es_tuple, subE_eq, e_list, e_tuple, el_nil, el_cons, et_not, et_boolop, et_name, et_call, et_cmp, et_sub, valT_some, x_expr, x_ret, x_if, xa_nil, xa_one, xa_dict, xa_two, xa_name, xa_const, xa_binop, xa_boolop, xa_unop, xa_cmp, xa_call, xa_sub, xa_tuple, setN_some, xt_call, xt_sub, setT_some, xs_nil, xs_cons, t_nil_and, t_nil_or, t_and, t_or, v_one, v_and, v_or, ite_pair, ite_b, decide_eq_true_eq, beq_iff_eq, upd_str, emp_str, ofString_inj, String.reduceEq, ↓reduceIte, constP, Glob.val?, tyOf, b_add, b_sub, b_mul, b_mod, b_div, b_str, b_lst, c_lt, c_le, c_gt, c_ge, c_eqi, c_nei, c_eqs, c_eqb, c_neb, c_is, c_nin, k_lens, k_lenl, k_lent, k_leno, k_max, k_min, k_int, k_listl, k_listo, k_isi, i_boolb, i_booli, i_int, i_str, i_tup, i_lst, i_loc, st0, st1, st2, st3, sq0, sq1, sq2, sq3, s_tup, s_lst, s_loc, s_str, m_app, r_loc, r_lst, sl_of, rg_of, Glob.isB, and_self, and_true, true_and, bt_name, bt_tup, bn_nil, bn_cons, Option.map_some, List.length_cons, List.length_nil, Nat.reduceAdd, Nat.zero_add, le_sz0, le_sz1, le_sz2, le_sz3, le_sz4, le_sz5, G_isinstance, G_list, G_len, G_str, G_range, G_max, G_min, G_int, G_bool, G_tuple, G_MOST, G_SIGNS, G_alike, G_points, G_around, G_on, G_floor, G_sizes, G_drawn, G_is_in, G_boxes, G_whole, G_mixed, G_cell_at, G_inner, G_around_, G_wide, G_cell, G_checked, a1, a2, a3, a4, List.length_map, gx, kl, sl, Array.getElem?_eq_getElem hct, str_hash]) <;> rfl
  · refine ⟨?_, rfl⟩
    rw [ob, if_pos ⟨a3, a4⟩]
    simp [hct]
end
end Mine

set_option maxRecDepth 100000
namespace Mine
open PySem PySem.Spec PyProof.Rows PySem.Challenge

/-! points -/
noncomputable def tup2 (p : Int × Int) : PV := .tup [.int p.1, .int p.2]
noncomputable def rowPts (f : Int → Int → Bool) (r m : Nat) : List (Int × Int) := ((List.range m).filter fun (c : Nat) => f (r : Int) (c : Int)).map fun (c : Nat) => ((r : Int), (c : Int))
noncomputable def allPts (f : Int → Int → Bool) (n m : Nat) : List (Int × Int) := (List.range n).flatMap fun r => rowPts f r m
theorem rowPts_succ (f : Int → Int → Bool) (r m : Nat) : rowPts f r (m + 1) = rowPts f r m ++ (if f r m then [((r : Int), (m : Int))] else []) := by
  simp only [rowPts, List.range_succ, List.filter_append, List.map_append]
  by_cases h : f r m = true <;> simp [h]
theorem allPts_succ (f : Int → Int → Bool) (n m : Nat) : allPts f (n + 1) m = allPts f n m ++ rowPts f n m := by
  simp [allPts, List.range_succ]
theorem rowPts_len (f : Int → Int → Bool) (r m : Nat) : (rowPts f r m).length ≤ m := by
  simp only [rowPts, List.length_map]
  exact Nat.le_trans (List.length_filter_le _ _) (by simp)
theorem allPts_len (f : Int → Int → Bool) (m : Nat) : ∀ n, (allPts f n m).length ≤ n * m
  | 0 => by simp [allPts]
  | n + 1 => by
    have := allPts_len f m n
    have := rowPts_len f n m
    rw [allPts_succ, List.length_append, Nat.succ_mul]; omega
noncomputable def wideOf : List Str → Nat
  | [] => 0
  | r :: _ => r.length
noncomputable def aroundN (rows : List Str) (r c : Int) : Int := (([onB rows (r - 1) (c - 1), onB rows (r - 1) c, onB rows r (c - 1), onB rows r c].count true : Nat) : Int)
noncomputable def ptsOf (rows : List Str) (many : Int) : List (Int × Int) := allPts (fun r c => aroundN rows r c == many) (rows.length + 1) (wideOf rows + 1)
theorem wideOf_le {rows : List Str} (hg : Good rows) : wideOf rows ≤ 30 := by
  obtain ⟨h30, w, w30, hrow⟩ := hg
  cases rows with
  | nil => exact Nat.zero_le _
  | cons r rs => have := (hrow r (.head _)).1; show r.length ≤ 30; omega
theorem ptsOf_len {rows : List Str} (hg : Good rows) (many : Int) : (ptsOf rows many).length ≤ 961 := by
  have h1 := wideOf_le hg
  have h2 := hg.1
  refine Nat.le_trans (allPts_len _ _ _) (Nat.le_trans (Nat.mul_le_mul (show _ ≤ 31 by omega) (show _ ≤ 31 by omega)) (by decide))
theorem sum4 (a b c d : Bool) : (0 : Int) + (if a then 1 else 0) + (if b then 1 else 0) + (if c then 1 else 0) + (if d then 1 else 0) = (([a, b, c, d].count true : Nat) : Int) := by
  cases a <;> cases b <;> cases c <;> cases d <;> rfl
theorem m_count4 {σ : Store} {a b c d : Bool} : methP true (Str.ofString "count") (.lst [.bool a, .bool b, .bool c, .bool d]) [.bool true] σ = some (.int (([a, b, c, d].count true : Nat) : Int), σ) := by
  show (if Str.ofString "count" = Str.ofString "append" then none else if Str.ofString "count" = Str.ofString "count" then some (PV.int (([a, b, c, d].count true : Nat) : Int), σ) else none) = _
  rw [if_neg (by decide +kernel), if_pos rfl]
theorem c_eqnil {σ : Store} {rows : List Str} {w : Nat} (h : ∀ r ∈ rows, Row w r) : cmpP σ .Eq (.lst (rows.map .str)) (.lst []) = some (.bool rows.isEmpty) := by
  have e : eqP σ (.lst (rows.map .str)) (.lst []) = some rows.isEmpty := by
    show (match datP σ (.lst (rows.map .str)), datP σ (.lst []) with | some x, some y => if shapedP x && shapedP y then some (PyData.eqv x y) else none | _, _ => none) = _
    rw [show datP σ (.lst (rows.map .str)) = (datsOf (rows.map .str)).map .list from rfl, dats_strs]
    show (if shapedP (.list (rows.map PyData.str)) && shapedP (.list []) then _ else none) = _
    rw [shaped_strs h, show shapedP (.list []) = true from rfl]
    cases rows <;> rfl
  show (eqP σ _ _).map PV.bool = _
  rw [e]; rfl
theorem k_len2 {σ : Store} {x y : PV} : callB (Str.ofString "len") [.tup [x, y]] σ = some (.int 2) := by
  rw [k_lent (by have := sz; simp only [List.length_cons, List.length_nil]; omega)]; rfl
theorem eq_tup2 {σ : Store} (a b : Int) : eqP σ (.tup [.int a, .int b]) (.tup [.int a, .int b]) = some true := by
  show (if shapedP (.tuple [.int a, .int b]) && shapedP (.tuple [.int a, .int b]) then some (PyData.eqv (.tuple [.int a, .int b]) (.tuple [.int a, .int b])) else none) = _
  rw [show shapedP (.tuple [.int a, .int b]) = true from rfl]
  show some ((a == a) && ((b == b) && true)) = _
  simp
theorem c_netup {σ : Store} (a b : Int) : cmpP σ .NotEq (.tup [.int a, .int b]) (.tup [.int a, .int b]) = some (.bool false) := by
  have e : (eqP σ (.tup [.int a, .int b]) (.tup [.int a, .int b])).map (fun c => PV.bool (!c)) = some (.bool false) := by rw [eq_tup2]; rfl
  exact e

section
variable {Φ : Fns} {σ : Store}
theorem wide_run {rows : List Str} (hg : Good rows) : interpF Φ Gl (dOf pw "wide") [.lst (rows.map .str)] σ = some (.int (wideOf rows), σ) := by
  have hs := sz
  have hg' := hg
  obtain ⟨h30, w, w30, hrow⟩ := hg
  refine run_eq (by kernel_rfl) ?_
  change Out (execSs Φ Gl (_ :: _ :: _) (bindP [_] _) σ) _ _
  rw [bindP1]
  have ce := c_eqnil (σ := σ) hrow
  cases rows with
  | nil =>
    apply out_ret
    · (simp (disch := first | assumption | decide | omega) only [e_const, e_name, e_binop, e_not, e_usub, e_boolop, e_cmp, e_call, e_meth, e_slice, es_name, es_const, es_binop, es_call, es_sub, es_tuple, subE_eq, e_list, e_tuple, el_nil, el_cons, et_not, et_boolop, et_name, et_call, et_cmp, et_sub, valT_some, x_expr, x_ret, x_if, xa_nil, xa_one, xa_dict, xa_two, xa_name, xa_const, xa_binop, xa_boolop, xa_unop, xa_cmp, xa_call, xa_sub, xa_tuple, setN_some, xt_call, xt_sub, setT_some, xs_nil, xs_cons, t_nil_and, t_nil_or, t_and, t_or, v_one, v_and, v_or, ite_pair, ite_b, decide_eq_true_eq, beq_iff_eq, upd_str, emp_str, ofString_inj, String.reduceEq, ↓reduceIte, constP, Glob.val?, tyOf, b_add, b_sub, b_mul, b_mod, b_div, b_str, b_lst, c_lt, c_le, c_gt, c_ge, c_eqi, c_nei, c_eqs, c_eqb, c_neb, c_is, c_nin, k_lens, k_lenl, k_lent, k_leno, k_max, k_min, k_int, k_listl, k_listo, k_isi, i_boolb, i_booli, i_int, i_str, i_tup, i_lst, i_loc, st0, st1, st2, st3, sq0, sq1, sq2, sq3, s_tup, s_lst, s_loc, s_str, m_app, r_loc, r_lst, sl_of, rg_of, Glob.isB, and_self, and_true, true_and, bt_name, bt_tup, bn_nil, bn_cons, Option.map_some, List.length_cons, List.length_nil, Nat.reduceAdd, Nat.zero_add, le_sz0, le_sz1, le_sz2, le_sz3, le_sz4, le_sz5, G_isinstance, G_list, G_len, G_str, G_range, G_max, G_min, G_int, G_bool, G_tuple, G_MOST, G_SIGNS, G_alike, G_points, G_around, G_on, G_floor, G_sizes, G_drawn, G_is_in, G_boxes, G_whole, G_mixed, G_cell_at, G_inner, G_around_, G_wide, G_cell, G_checked, ce, List.map_nil, List.isEmpty_nil]) <;> rfl
    · exact ⟨rfl, rfl⟩
  | cons r rs =>
    have lr : r.length ≤ sizeLine := by have := wideOf_le hg'; simp only [wideOf] at this; omega
    rw [List.map_cons] at *
    apply out_next
    · (simp (disch := first | assumption | decide | omega) only [e_const, e_name, e_binop, e_not, e_usub, e_boolop, e_cmp, e_call, e_meth, e_slice, es_name, es_const, es_binop, es_call, es_sub, es_tuple, subE_eq, e_list, e_tuple, el_nil, el_cons, et_not, et_boolop, et_name, et_call, et_cmp, et_sub, valT_some, x_expr, x_ret, x_if, xa_nil, xa_one, xa_dict, xa_two, xa_name, xa_const, xa_binop, xa_boolop, xa_unop, xa_cmp, xa_call, xa_sub, xa_tuple, setN_some, xt_call, xt_sub, setT_some, xs_nil, xs_cons, t_nil_and, t_nil_or, t_and, t_or, v_one, v_and, v_or, ite_pair, ite_b, decide_eq_true_eq, beq_iff_eq, upd_str, emp_str, ofString_inj, String.reduceEq, ↓reduceIte, constP, Glob.val?, tyOf, b_add, b_sub, b_mul, b_mod, b_div, b_str, b_lst, c_lt, c_le, c_gt, c_ge, c_eqi, c_nei, c_eqs, c_eqb, c_neb, c_is, c_nin, k_lens, k_lenl, k_lent, k_leno, k_max, k_min, k_int, k_listl, k_listo, k_isi, i_boolb, i_booli, i_int, i_str, i_tup, i_lst, i_loc, st0, st1, st2, st3, sq0, sq1, sq2, sq3, s_tup, s_lst, s_loc, s_str, m_app, r_loc, r_lst, sl_of, rg_of, Glob.isB, and_self, and_true, true_and, bt_name, bt_tup, bn_nil, bn_cons, Option.map_some, List.length_cons, List.length_nil, Nat.reduceAdd, Nat.zero_add, le_sz0, le_sz1, le_sz2, le_sz3, le_sz4, le_sz5, G_isinstance, G_list, G_len, G_str, G_range, G_max, G_min, G_int, G_bool, G_tuple, G_MOST, G_SIGNS, G_alike, G_points, G_around, G_on, G_floor, G_sizes, G_drawn, G_is_in, G_boxes, G_whole, G_mixed, G_cell_at, G_inner, G_around_, G_wide, G_cell, G_checked, ce, List.isEmpty_cons, Bool.false_eq_true]) <;> rfl
    apply out_ret
    · (simp (disch := first | assumption | decide | omega) only [e_const, e_name, e_binop, e_not, e_usub, e_boolop, e_cmp, e_call, e_meth, e_slice, es_name, es_const, es_binop, es_call, es_sub, es_tuple, subE_eq, e_list, e_tuple, el_nil, el_cons, et_not, et_boolop, et_name, et_call, et_cmp, et_sub, valT_some, x_expr, x_ret, x_if, xa_nil, xa_one, xa_dict, xa_two, xa_name, xa_const, xa_binop, xa_boolop, xa_unop, xa_cmp, xa_call, xa_sub, xa_tuple, setN_some, xt_call, xt_sub, setT_some, xs_nil, xs_cons, t_nil_and, t_nil_or, t_and, t_or, v_one, v_and, v_or, ite_pair, ite_b, decide_eq_true_eq, beq_iff_eq, upd_str, emp_str, ofString_inj, String.reduceEq, ↓reduceIte, constP, Glob.val?, tyOf, b_add, b_sub, b_mul, b_mod, b_div, b_str, b_lst, c_lt, c_le, c_gt, c_ge, c_eqi, c_nei, c_eqs, c_eqb, c_neb, c_is, c_nin, k_lens, k_lenl, k_lent, k_leno, k_max, k_min, k_int, k_listl, k_listo, k_isi, i_boolb, i_booli, i_int, i_str, i_tup, i_lst, i_loc, st0, st1, st2, st3, sq0, sq1, sq2, sq3, s_tup, s_lst, s_loc, s_str, m_app, r_loc, r_lst, sl_of, rg_of, Glob.isB, and_self, and_true, true_and, bt_name, bt_tup, bn_nil, bn_cons, Option.map_some, List.length_cons, List.length_nil, Nat.reduceAdd, Nat.zero_add, le_sz0, le_sz1, le_sz2, le_sz3, le_sz4, le_sz5, G_isinstance, G_list, G_len, G_str, G_range, G_max, G_min, G_int, G_bool, G_tuple, G_MOST, G_SIGNS, G_alike, G_points, G_around, G_on, G_floor, G_sizes, G_drawn, G_is_in, G_boxes, G_whole, G_mixed, G_cell_at, G_inner, G_around_, G_wide, G_cell, G_checked]) <;> rfl
    · exact ⟨rfl, rfl⟩

theorem whole_run {i : Int} : interpF Φ Gl (dOf pw "_law_whole") [.int i] σ = some (.bool true, σ) := by
  refine run_eq (by kernel_rfl) ?_
  change Out (execSs Φ Gl (_ :: _) (bindP [_] _) σ) _ _
  rw [bindP1]
  apply out_ret
  · (simp (disch := first | assumption | decide | omega) only [e_const, e_name, e_binop, e_not, e_usub, e_boolop, e_cmp, e_call, e_meth, e_slice, es_name, es_const, es_binop, es_call, es_sub, es_tuple, subE_eq, e_list, e_tuple, el_nil, el_cons, et_not, et_boolop, et_name, et_call, et_cmp, et_sub, valT_some, x_expr, x_ret, x_if, xa_nil, xa_one, xa_dict, xa_two, xa_name, xa_const, xa_binop, xa_boolop, xa_unop, xa_cmp, xa_call, xa_sub, xa_tuple, setN_some, xt_call, xt_sub, setT_some, xs_nil, xs_cons, t_nil_and, t_nil_or, t_and, t_or, v_one, v_and, v_or, ite_pair, ite_b, decide_eq_true_eq, beq_iff_eq, upd_str, emp_str, ofString_inj, String.reduceEq, ↓reduceIte, constP, Glob.val?, tyOf, b_add, b_sub, b_mul, b_mod, b_div, b_str, b_lst, c_lt, c_le, c_gt, c_ge, c_eqi, c_nei, c_eqs, c_eqb, c_neb, c_is, c_nin, k_lens, k_lenl, k_lent, k_leno, k_max, k_min, k_int, k_listl, k_listo, k_isi, i_boolb, i_booli, i_int, i_str, i_tup, i_lst, i_loc, st0, st1, st2, st3, sq0, sq1, sq2, sq3, s_tup, s_lst, s_loc, s_str, m_app, r_loc, r_lst, sl_of, rg_of, Glob.isB, and_self, and_true, true_and, bt_name, bt_tup, bn_nil, bn_cons, Option.map_some, List.length_cons, List.length_nil, Nat.reduceAdd, Nat.zero_add, le_sz0, le_sz1, le_sz2, le_sz3, le_sz4, le_sz5, G_isinstance, G_list, G_len, G_str, G_range, G_max, G_min, G_int, G_bool, G_tuple, G_MOST, G_SIGNS, G_alike, G_points, G_around, G_on, G_floor, G_sizes, G_drawn, G_is_in, G_boxes, G_whole, G_mixed, G_cell_at, G_inner, G_around_, G_wide, G_cell, G_checked, Bool.not_false]) <;> rfl
  · exact ⟨rfl, rfl⟩

section
variable (hcel : ∀ (rows : List Str) (r c : Int) (σ : Store), Good rows → Φ (Str.ofString "cell") [.lst (rows.map .str), .int r, .int c] σ = some (.bool (onB rows r c), σ))
include hcel
theorem around_run {rows : List Str} {r c : Int} (hg : Good rows) : interpF Φ Gl (dOf pw "around") [.lst (rows.map .str), .int r, .int c] σ = some (.int (aroundN rows r c), σ) := by
  have hs := sz
  refine run_eq (by kernel_rfl) ?_
  change Out (execSs Φ Gl (_ :: _ :: _ :: _) (bindP [_, _, _] _) σ) _ _
  rw [bindP3]
  have e := fun r c τ => hcel rows r c τ hg
  have hb : ∀ a b c d : Bool, 0 < [PV.bool a, .bool b].length ∧ 0 < [PV.bool c, .bool d].length ∧ [PV.bool a, .bool b].length + [PV.bool c, .bool d].length ≤ sizeLine := fun _ _ _ _ => ⟨by simp, by simp, by simp [hs]⟩
  apply out_next
  · (simp (disch := first | assumption | decide | omega) only [e_const, e_name, e_binop, e_not, e_usub, e_boolop, e_cmp, e_call, e_meth, e_slice, es_name, es_const, es_binop, es_call, es_sub, es_tuple, subE_eq, e_list, e_tuple, el_nil, el_cons, et_not, et_boolop, et_name, et_call, et_cmp, et_sub, valT_some, x_expr, x_ret, x_if, xa_nil, xa_one, xa_dict, xa_two, xa_name, xa_const, xa_binop, xa_boolop, xa_unop, xa_cmp, xa_call, xa_sub, xa_tuple, setN_some, xt_call, xt_sub, setT_some, xs_nil, xs_cons, t_nil_and, t_nil_or, t_and, t_or, v_one, v_and, v_or, ite_pair, ite_b, decide_eq_true_eq, beq_iff_eq, upd_str, emp_str, ofString_inj, String.reduceEq, ↓reduceIte, constP, Glob.val?, tyOf, b_add, b_sub, b_mul, b_mod, b_div, b_str, b_lst, c_lt, c_le, c_gt, c_ge, c_eqi, c_nei, c_eqs, c_eqb, c_neb, c_is, c_nin, k_lens, k_lenl, k_lent, k_leno, k_max, k_min, k_int, k_listl, k_listo, k_isi, i_boolb, i_booli, i_int, i_str, i_tup, i_lst, i_loc, st0, st1, st2, st3, sq0, sq1, sq2, sq3, s_tup, s_lst, s_loc, s_str, m_app, r_loc, r_lst, sl_of, rg_of, Glob.isB, and_self, and_true, true_and, bt_name, bt_tup, bn_nil, bn_cons, Option.map_some, List.length_cons, List.length_nil, Nat.reduceAdd, Nat.zero_add, le_sz0, le_sz1, le_sz2, le_sz3, le_sz4, le_sz5, G_isinstance, G_list, G_len, G_str, G_range, G_max, G_min, G_int, G_bool, G_tuple, G_MOST, G_SIGNS, G_alike, G_points, G_around, G_on, G_floor, G_sizes, G_drawn, G_is_in, G_boxes, G_whole, G_mixed, G_cell_at, G_inner, G_around_, G_wide, G_cell, G_checked, e]) <;> rfl
  apply out_next
  · (simp (disch := first | assumption | decide | omega) only [e_const, e_name, e_binop, e_not, e_usub, e_boolop, e_cmp, e_call, e_meth, e_slice, es_name, es_const, es_binop, es_call, es_sub, es_tuple, subE_eq, e_list, e_tuple, el_nil, el_cons, et_not, et_boolop, et_name, et_call, et_cmp, et_sub, valT_some, x_expr, x_ret, x_if, xa_nil, xa_one, xa_dict, xa_two, xa_name, xa_const, xa_binop, xa_boolop, xa_unop, xa_cmp, xa_call, xa_sub, xa_tuple, setN_some, xt_call, xt_sub, setT_some, xs_nil, xs_cons, t_nil_and, t_nil_or, t_and, t_or, v_one, v_and, v_or, ite_pair, ite_b, decide_eq_true_eq, beq_iff_eq, upd_str, emp_str, ofString_inj, String.reduceEq, ↓reduceIte, constP, Glob.val?, tyOf, b_add, b_sub, b_mul, b_mod, b_div, b_str, b_lst, c_lt, c_le, c_gt, c_ge, c_eqi, c_nei, c_eqs, c_eqb, c_neb, c_is, c_nin, k_lens, k_lenl, k_lent, k_leno, k_max, k_min, k_int, k_listl, k_listo, k_isi, i_boolb, i_booli, i_int, i_str, i_tup, i_lst, i_loc, st0, st1, st2, st3, sq0, sq1, sq2, sq3, s_tup, s_lst, s_loc, s_str, m_app, r_loc, r_lst, sl_of, rg_of, Glob.isB, and_self, and_true, true_and, bt_name, bt_tup, bn_nil, bn_cons, Option.map_some, List.length_cons, List.length_nil, Nat.reduceAdd, Nat.zero_add, le_sz0, le_sz1, le_sz2, le_sz3, le_sz4, le_sz5, G_isinstance, G_list, G_len, G_str, G_range, G_max, G_min, G_int, G_bool, G_tuple, G_MOST, G_SIGNS, G_alike, G_points, G_around, G_on, G_floor, G_sizes, G_drawn, G_is_in, G_boxes, G_whole, G_mixed, G_cell_at, G_inner, G_around_, G_wide, G_cell, G_checked, e, b_lst (hb _ _ _ _), List.cons_append, List.nil_append]) <;> rfl
  apply out_ret
  · (simp (disch := first | assumption | decide | omega) only [e_const, e_name, e_binop, e_not, e_usub, e_boolop, e_cmp, e_call, e_meth, e_slice, es_name, es_const, es_binop, es_call, es_sub, es_tuple, subE_eq, e_list, e_tuple, el_nil, el_cons, et_not, et_boolop, et_name, et_call, et_cmp, et_sub, valT_some, x_expr, x_ret, x_if, xa_nil, xa_one, xa_dict, xa_two, xa_name, xa_const, xa_binop, xa_boolop, xa_unop, xa_cmp, xa_call, xa_sub, xa_tuple, setN_some, xt_call, xt_sub, setT_some, xs_nil, xs_cons, t_nil_and, t_nil_or, t_and, t_or, v_one, v_and, v_or, ite_pair, ite_b, decide_eq_true_eq, beq_iff_eq, upd_str, emp_str, ofString_inj, String.reduceEq, ↓reduceIte, constP, Glob.val?, tyOf, b_add, b_sub, b_mul, b_mod, b_div, b_str, b_lst, c_lt, c_le, c_gt, c_ge, c_eqi, c_nei, c_eqs, c_eqb, c_neb, c_is, c_nin, k_lens, k_lenl, k_lent, k_leno, k_max, k_min, k_int, k_listl, k_listo, k_isi, i_boolb, i_booli, i_int, i_str, i_tup, i_lst, i_loc, st0, st1, st2, st3, sq0, sq1, sq2, sq3, s_tup, s_lst, s_loc, s_str, m_app, r_loc, r_lst, sl_of, rg_of, Glob.isB, and_self, and_true, true_and, bt_name, bt_tup, bn_nil, bn_cons, Option.map_some, List.length_cons, List.length_nil, Nat.reduceAdd, Nat.zero_add, le_sz0, le_sz1, le_sz2, le_sz3, le_sz4, le_sz5, G_isinstance, G_list, G_len, G_str, G_range, G_max, G_min, G_int, G_bool, G_tuple, G_MOST, G_SIGNS, G_alike, G_points, G_around, G_on, G_floor, G_sizes, G_drawn, G_is_in, G_boxes, G_whole, G_mixed, G_cell_at, G_inner, G_around_, G_wide, G_cell, G_checked, m_count4]) <;> rfl
  · exact ⟨rfl, rfl⟩
end

section
variable (hchk : ∀ (rows : List Str) (σ : Store), Good rows → Φ (Str.ofString "checked") [.lst (rows.map .str)] σ = some (.lst (rows.map .str), σ))
variable (hwid : ∀ (rows : List Str) (σ : Store), Good rows → Φ (Str.ofString "wide") [.lst (rows.map .str)] σ = some (.int (wideOf rows), σ))
variable (haro : ∀ (rows : List Str) (r c : Int) (σ : Store), Good rows → Φ (Str.ofString "around") [.lst (rows.map .str), .int r, .int c] σ = some (.int (aroundN rows r c), σ))
include hchk hwid haro
theorem inner_run {rows : List Str} (hg : Good rows) : interpF Φ Gl (dOf pw "inner") [.lst (rows.map .str)] σ = some (.loc σ.length, σ ++ [.list ((ptsOf rows 3).map tup2)]) := by
  have hs := sz
  have hw := wideOf_le hg
  have h30 := hg.1
  refine run_eq (by kernel_rfl) ?_
  change Out (execSs Φ Gl (_ :: _ :: _ :: _ :: _) (bindP [_] _) σ) _ _
  rw [bindP1]
  have e1 := fun τ => hchk rows τ hg
  have e2 := fun τ => hwid rows τ hg
  have e3 := fun r c τ => haro rows r c τ hg
  have hl : (rows.map PV.str).length ≤ sizeLine := by rw [List.length_map]; omega
  apply out_next
  · (simp (disch := first | assumption | decide | omega) only [e_const, e_name, e_binop, e_not, e_usub, e_boolop, e_cmp, e_call, e_meth, e_slice, es_name, es_const, es_binop, es_call, es_sub, es_tuple, subE_eq, e_list, e_tuple, el_nil, el_cons, et_not, et_boolop, et_name, et_call, et_cmp, et_sub, valT_some, x_expr, x_ret, x_if, xa_nil, xa_one, xa_dict, xa_two, xa_name, xa_const, xa_binop, xa_boolop, xa_unop, xa_cmp, xa_call, xa_sub, xa_tuple, setN_some, xt_call, xt_sub, setT_some, xs_nil, xs_cons, t_nil_and, t_nil_or, t_and, t_or, v_one, v_and, v_or, ite_pair, ite_b, decide_eq_true_eq, beq_iff_eq, upd_str, emp_str, ofString_inj, String.reduceEq, ↓reduceIte, constP, Glob.val?, tyOf, b_add, b_sub, b_mul, b_mod, b_div, b_str, b_lst, c_lt, c_le, c_gt, c_ge, c_eqi, c_nei, c_eqs, c_eqb, c_neb, c_is, c_nin, k_lens, k_lenl, k_lent, k_leno, k_max, k_min, k_int, k_listl, k_listo, k_isi, i_boolb, i_booli, i_int, i_str, i_tup, i_lst, i_loc, st0, st1, st2, st3, sq0, sq1, sq2, sq3, s_tup, s_lst, s_loc, s_str, m_app, r_loc, r_lst, sl_of, rg_of, Glob.isB, and_self, and_true, true_and, bt_name, bt_tup, bn_nil, bn_cons, Option.map_some, List.length_cons, List.length_nil, Nat.reduceAdd, Nat.zero_add, le_sz0, le_sz1, le_sz2, le_sz3, le_sz4, le_sz5, G_isinstance, G_list, G_len, G_str, G_range, G_max, G_min, G_int, G_bool, G_tuple, G_MOST, G_SIGNS, G_alike, G_points, G_around, G_on, G_floor, G_sizes, G_drawn, G_is_in, G_boxes, G_whole, G_mixed, G_cell_at, G_inner, G_around_, G_wide, G_cell, G_checked, e1]) <;> rfl
  apply out_next
  · (simp (disch := first | assumption | decide | omega) only [e_const, e_name, e_binop, e_not, e_usub, e_boolop, e_cmp, e_call, e_meth, e_slice, es_name, es_const, es_binop, es_call, es_sub, es_tuple, subE_eq, e_list, e_tuple, el_nil, el_cons, et_not, et_boolop, et_name, et_call, et_cmp, et_sub, valT_some, x_expr, x_ret, x_if, xa_nil, xa_one, xa_dict, xa_two, xa_name, xa_const, xa_binop, xa_boolop, xa_unop, xa_cmp, xa_call, xa_sub, xa_tuple, setN_some, xt_call, xt_sub, setT_some, xs_nil, xs_cons, t_nil_and, t_nil_or, t_and, t_or, v_one, v_and, v_or, ite_pair, ite_b, decide_eq_true_eq, beq_iff_eq, upd_str, emp_str, ofString_inj, String.reduceEq, ↓reduceIte, constP, Glob.val?, tyOf, b_add, b_sub, b_mul, b_mod, b_div, b_str, b_lst, c_lt, c_le, c_gt, c_ge, c_eqi, c_nei, c_eqs, c_eqb, c_neb, c_is, c_nin, k_lens, k_lenl, k_lent, k_leno, k_max, k_min, k_int, k_listl, k_listo, k_isi, i_boolb, i_booli, i_int, i_str, i_tup, i_lst, i_loc, st0, st1, st2, st3, sq0, sq1, sq2, sq3, s_tup, s_lst, s_loc, s_str, m_app, r_loc, r_lst, sl_of, rg_of, Glob.isB, and_self, and_true, true_and, bt_name, bt_tup, bn_nil, bn_cons, Option.map_some, List.length_cons, List.length_nil, Nat.reduceAdd, Nat.zero_add, le_sz0, le_sz1, le_sz2, le_sz3, le_sz4, le_sz5, G_isinstance, G_list, G_len, G_str, G_range, G_max, G_min, G_int, G_bool, G_tuple, G_MOST, G_SIGNS, G_alike, G_points, G_around, G_on, G_floor, G_sizes, G_drawn, G_is_in, G_boxes, G_whole, G_mixed, G_cell_at, G_inner, G_around_, G_wide, G_cell, G_checked]) <;> rfl
  let R : PV → Store → Prop := fun u τ => u = .loc σ.length ∧ τ = σ ++ [.list ((ptsOf rows 3).map tup2)]
  let f : Int → Int → Bool := fun r c => aroundN rows r c == 3
  let E : Locals → Prop := fun ρ => ρ (Str.ofString "rows") = some (.lst (rows.map .str)) ∧ ρ (Str.ofString "found") = some (.loc σ.length)
  refine out_cons (out_mono (out_for (R := R)
    (for_rng (ds := rangeP 0 ((rows.length : Int) + 1) 1) (vs := [.int ((rows.length : Int) + 1)]) (σ₁ := σ ++ [.list []]) (by (simp (disch := first | assumption | decide | omega) only [e_const, e_name, e_binop, e_not, e_usub, e_boolop, e_cmp, e_call, e_meth, e_slice, es_name, es_const, es_binop, es_call, es_sub, es_tuple, subE_eq, e_list, e_tuple, el_nil, el_cons, et_not, et_boolop, et_name, et_call, et_cmp, et_sub, valT_some, x_expr, x_ret, x_if, xa_nil, xa_one, xa_dict, xa_two, xa_name, xa_const, xa_binop, xa_boolop, xa_unop, xa_cmp, xa_call, xa_sub, xa_tuple, setN_some, xt_call, xt_sub, setT_some, xs_nil, xs_cons, t_nil_and, t_nil_or, t_and, t_or, v_one, v_and, v_or, ite_pair, ite_b, decide_eq_true_eq, beq_iff_eq, upd_str, emp_str, ofString_inj, String.reduceEq, ↓reduceIte, constP, Glob.val?, tyOf, b_add, b_sub, b_mul, b_mod, b_div, b_str, b_lst, c_lt, c_le, c_gt, c_ge, c_eqi, c_nei, c_eqs, c_eqb, c_neb, c_is, c_nin, k_lens, k_lenl, k_lent, k_leno, k_max, k_min, k_int, k_listl, k_listo, k_isi, i_boolb, i_booli, i_int, i_str, i_tup, i_lst, i_loc, st0, st1, st2, st3, sq0, sq1, sq2, sq3, s_tup, s_lst, s_loc, s_str, m_app, r_loc, r_lst, sl_of, rg_of, Glob.isB, and_self, and_true, true_and, bt_name, bt_tup, bn_nil, bn_cons, Option.map_some, List.length_cons, List.length_nil, Nat.reduceAdd, Nat.zero_add, le_sz0, le_sz1, le_sz2, le_sz3, le_sz4, le_sz5, G_isinstance, G_list, G_len, G_str, G_range, G_max, G_min, G_int, G_bool, G_tuple, G_MOST, G_SIGNS, G_alike, G_points, G_around, G_on, G_floor, G_sizes, G_drawn, G_is_in, G_boxes, G_whole, G_mixed, G_cell_at, G_inner, G_around_, G_wide, G_cell, G_checked]) <;> rfl) ?_ (range1 (by omega) (by omega)))
    (fun i ρ τ => E ρ ∧ τ = σ ++ [.list ((allPts f i (wideOf rows + 1)).map tup2)]) ?_ ?_) ?_ fun _ _ h => h)
  · (simp (disch := first | assumption | decide | omega) only [e_const, e_name, e_binop, e_not, e_usub, e_boolop, e_cmp, e_call, e_meth, e_slice, es_name, es_const, es_binop, es_call, es_sub, es_tuple, subE_eq, e_list, e_tuple, el_nil, el_cons, et_not, et_boolop, et_name, et_call, et_cmp, et_sub, valT_some, x_expr, x_ret, x_if, xa_nil, xa_one, xa_dict, xa_two, xa_name, xa_const, xa_binop, xa_boolop, xa_unop, xa_cmp, xa_call, xa_sub, xa_tuple, setN_some, xt_call, xt_sub, setT_some, xs_nil, xs_cons, t_nil_and, t_nil_or, t_and, t_or, v_one, v_and, v_or, ite_pair, ite_b, decide_eq_true_eq, beq_iff_eq, upd_str, emp_str, ofString_inj, String.reduceEq, ↓reduceIte, constP, Glob.val?, tyOf, b_add, b_sub, b_mul, b_mod, b_div, b_str, b_lst, c_lt, c_le, c_gt, c_ge, c_eqi, c_nei, c_eqs, c_eqb, c_neb, c_is, c_nin, k_lens, k_lenl, k_lent, k_leno, k_max, k_min, k_int, k_listl, k_listo, k_isi, i_boolb, i_booli, i_int, i_str, i_tup, i_lst, i_loc, st0, st1, st2, st3, sq0, sq1, sq2, sq3, s_tup, s_lst, s_loc, s_str, m_app, r_loc, r_lst, sl_of, rg_of, Glob.isB, and_self, and_true, true_and, bt_name, bt_tup, bn_nil, bn_cons, Option.map_some, List.length_cons, List.length_nil, Nat.reduceAdd, Nat.zero_add, le_sz0, le_sz1, le_sz2, le_sz3, le_sz4, le_sz5, G_isinstance, G_list, G_len, G_str, G_range, G_max, G_min, G_int, G_bool, G_tuple, G_MOST, G_SIGNS, G_alike, G_points, G_around, G_on, G_floor, G_sizes, G_drawn, G_is_in, G_boxes, G_whole, G_mixed, G_cell_at, G_inner, G_around_, G_wide, G_cell, G_checked, List.length_map]) <;> rfl
  · refine ⟨?_, rfl⟩
    simp (disch := first | assumption | decide | omega) only [e_const, e_name, e_binop, e_not, e_usub, e_boolop, e_cmp, e_call, e_meth, e_slice, es_name, es_const, es_binop, es_call, es_sub, es_tuple, subE_eq, e_list, e_tuple, el_nil, el_cons, et_not, et_boolop, et_name, et_call, et_cmp, et_sub, valT_some, x_expr, x_ret, x_if, xa_nil, xa_one, xa_dict, xa_two, xa_name, xa_const, xa_binop, xa_boolop, xa_unop, xa_cmp, xa_call, xa_sub, xa_tuple, setN_some, xt_call, xt_sub, setT_some, xs_nil, xs_cons, t_nil_and, t_nil_or, t_and, t_or, v_one, v_and, v_or, ite_pair, ite_b, decide_eq_true_eq, beq_iff_eq, upd_str, emp_str, ofString_inj, String.reduceEq, ↓reduceIte, constP, Glob.val?, tyOf, b_add, b_sub, b_mul, b_mod, b_div, b_str, b_lst, c_lt, c_le, c_gt, c_ge, c_eqi, c_nei, c_eqs, c_eqb, c_neb, c_is, c_nin, k_lens, k_lenl, k_lent, k_leno, k_max, k_min, k_int, k_listl, k_listo, k_isi, i_boolb, i_booli, i_int, i_str, i_tup, i_lst, i_loc, st0, st1, st2, st3, sq0, sq1, sq2, sq3, s_tup, s_lst, s_loc, s_str, m_app, r_loc, r_lst, sl_of, rg_of, Glob.isB, and_self, and_true, true_and, bt_name, bt_tup, bn_nil, bn_cons, Option.map_some, List.length_cons, List.length_nil, Nat.reduceAdd, Nat.zero_add, le_sz0, le_sz1, le_sz2, le_sz3, le_sz4, le_sz5, G_isinstance, G_list, G_len, G_str, G_range, G_max, G_min, G_int, G_bool, G_tuple, G_MOST, G_SIGNS, G_alike, G_points, G_around, G_on, G_floor, G_sizes, G_drawn, G_is_in, G_boxes, G_whole, G_mixed, G_cell_at, G_inner, G_around_, G_wide, G_cell, G_checked, E]
  · rintro i d ρ τ hd ⟨⟨r1, r2⟩, rfl⟩
    obtain ⟨rfl, hi⟩ := rangeP_get hd
    refine ⟨_, rfl, ?_⟩
    refine out_cons (out_mono (out_for (R := R)
      (for_rng (ds := rangeP 0 ((wideOf rows : Int) + 1) 1) (vs := [.int ((wideOf rows : Int) + 1)]) (σ₁ := σ ++ [.list ((allPts f i (wideOf rows + 1)).map tup2)]) (by (simp (disch := first | assumption | decide | omega) only [e_const, e_name, e_binop, e_not, e_usub, e_boolop, e_cmp, e_call, e_meth, e_slice, es_name, es_const, es_binop, es_call, es_sub, es_tuple, subE_eq, e_list, e_tuple, el_nil, el_cons, et_not, et_boolop, et_name, et_call, et_cmp, et_sub, valT_some, x_expr, x_ret, x_if, xa_nil, xa_one, xa_dict, xa_two, xa_name, xa_const, xa_binop, xa_boolop, xa_unop, xa_cmp, xa_call, xa_sub, xa_tuple, setN_some, xt_call, xt_sub, setT_some, xs_nil, xs_cons, t_nil_and, t_nil_or, t_and, t_or, v_one, v_and, v_or, ite_pair, ite_b, decide_eq_true_eq, beq_iff_eq, upd_str, emp_str, ofString_inj, String.reduceEq, ↓reduceIte, constP, Glob.val?, tyOf, b_add, b_sub, b_mul, b_mod, b_div, b_str, b_lst, c_lt, c_le, c_gt, c_ge, c_eqi, c_nei, c_eqs, c_eqb, c_neb, c_is, c_nin, k_lens, k_lenl, k_lent, k_leno, k_max, k_min, k_int, k_listl, k_listo, k_isi, i_boolb, i_booli, i_int, i_str, i_tup, i_lst, i_loc, st0, st1, st2, st3, sq0, sq1, sq2, sq3, s_tup, s_lst, s_loc, s_str, m_app, r_loc, r_lst, sl_of, rg_of, Glob.isB, and_self, and_true, true_and, bt_name, bt_tup, bn_nil, bn_cons, Option.map_some, List.length_cons, List.length_nil, Nat.reduceAdd, Nat.zero_add, le_sz0, le_sz1, le_sz2, le_sz3, le_sz4, le_sz5, G_isinstance, G_list, G_len, G_str, G_range, G_max, G_min, G_int, G_bool, G_tuple, G_MOST, G_SIGNS, G_alike, G_points, G_around, G_on, G_floor, G_sizes, G_drawn, G_is_in, G_boxes, G_whole, G_mixed, G_cell_at, G_inner, G_around_, G_wide, G_cell, G_checked]) <;> rfl) ?_ (range1 (by omega) (by omega)))
      (fun j ρ τ => E ρ ∧ ρ (Str.ofString "row") = some (.int i) ∧ τ = σ ++ [.list ((allPts f i (wideOf rows + 1) ++ rowPts f i j).map tup2)]) ?_ ?_) ?_ fun _ _ h => h)
    · (simp (disch := first | assumption | decide | omega) only [e_const, e_name, e_binop, e_not, e_usub, e_boolop, e_cmp, e_call, e_meth, e_slice, es_name, es_const, es_binop, es_call, es_sub, es_tuple, subE_eq, e_list, e_tuple, el_nil, el_cons, et_not, et_boolop, et_name, et_call, et_cmp, et_sub, valT_some, x_expr, x_ret, x_if, xa_nil, xa_one, xa_dict, xa_two, xa_name, xa_const, xa_binop, xa_boolop, xa_unop, xa_cmp, xa_call, xa_sub, xa_tuple, setN_some, xt_call, xt_sub, setT_some, xs_nil, xs_cons, t_nil_and, t_nil_or, t_and, t_or, v_one, v_and, v_or, ite_pair, ite_b, decide_eq_true_eq, beq_iff_eq, upd_str, emp_str, ofString_inj, String.reduceEq, ↓reduceIte, constP, Glob.val?, tyOf, b_add, b_sub, b_mul, b_mod, b_div, b_str, b_lst, c_lt, c_le, c_gt, c_ge, c_eqi, c_nei, c_eqs, c_eqb, c_neb, c_is, c_nin, k_lens, k_lenl, k_lent, k_leno, k_max, k_min, k_int, k_listl, k_listo, k_isi, i_boolb, i_booli, i_int, i_str, i_tup, i_lst, i_loc, st0, st1, st2, st3, sq0, sq1, sq2, sq3, s_tup, s_lst, s_loc, s_str, m_app, r_loc, r_lst, sl_of, rg_of, Glob.isB, and_self, and_true, true_and, bt_name, bt_tup, bn_nil, bn_cons, Option.map_some, List.length_cons, List.length_nil, Nat.reduceAdd, Nat.zero_add, le_sz0, le_sz1, le_sz2, le_sz3, le_sz4, le_sz5, G_isinstance, G_list, G_len, G_str, G_range, G_max, G_min, G_int, G_bool, G_tuple, G_MOST, G_SIGNS, G_alike, G_points, G_around, G_on, G_floor, G_sizes, G_drawn, G_is_in, G_boxes, G_whole, G_mixed, G_cell_at, G_inner, G_around_, G_wide, G_cell, G_checked, r1, e2]) <;> rfl
    · refine ⟨?_, ?_, ?_⟩
      · simp (disch := first | assumption | decide | omega) only [e_const, e_name, e_binop, e_not, e_usub, e_boolop, e_cmp, e_call, e_meth, e_slice, es_name, es_const, es_binop, es_call, es_sub, es_tuple, subE_eq, e_list, e_tuple, el_nil, el_cons, et_not, et_boolop, et_name, et_call, et_cmp, et_sub, valT_some, x_expr, x_ret, x_if, xa_nil, xa_one, xa_dict, xa_two, xa_name, xa_const, xa_binop, xa_boolop, xa_unop, xa_cmp, xa_call, xa_sub, xa_tuple, setN_some, xt_call, xt_sub, setT_some, xs_nil, xs_cons, t_nil_and, t_nil_or, t_and, t_or, v_one, v_and, v_or, ite_pair, ite_b, decide_eq_true_eq, beq_iff_eq, upd_str, emp_str, ofString_inj, String.reduceEq, ↓reduceIte, constP, Glob.val?, tyOf, b_add, b_sub, b_mul, b_mod, b_div, b_str, b_lst, c_lt, c_le, c_gt, c_ge, c_eqi, c_nei, c_eqs, c_eqb, c_neb, c_is, c_nin, k_lens, k_lenl, k_lent, k_leno, k_max, k_min, k_int, k_listl, k_listo, k_isi, i_boolb, i_booli, i_int, i_str, i_tup, i_lst, i_loc, st0, st1, st2, st3, sq0, sq1, sq2, sq3, s_tup, s_lst, s_loc, s_str, m_app, r_loc, r_lst, sl_of, rg_of, Glob.isB, and_self, and_true, true_and, bt_name, bt_tup, bn_nil, bn_cons, Option.map_some, List.length_cons, List.length_nil, Nat.reduceAdd, Nat.zero_add, le_sz0, le_sz1, le_sz2, le_sz3, le_sz4, le_sz5, G_isinstance, G_list, G_len, G_str, G_range, G_max, G_min, G_int, G_bool, G_tuple, G_MOST, G_SIGNS, G_alike, G_points, G_around, G_on, G_floor, G_sizes, G_drawn, G_is_in, G_boxes, G_whole, G_mixed, G_cell_at, G_inner, G_around_, G_wide, G_cell, G_checked, E, r1, r2]
      · simp (disch := first | assumption | decide | omega) only [e_const, e_name, e_binop, e_not, e_usub, e_boolop, e_cmp, e_call, e_meth, e_slice, es_name, es_const, es_binop, es_call, es_sub, es_tuple, subE_eq, e_list, e_tuple, el_nil, el_cons, et_not, et_boolop, et_name, et_call, et_cmp, et_sub, valT_some, x_expr, x_ret, x_if, xa_nil, xa_one, xa_dict, xa_two, xa_name, xa_const, xa_binop, xa_boolop, xa_unop, xa_cmp, xa_call, xa_sub, xa_tuple, setN_some, xt_call, xt_sub, setT_some, xs_nil, xs_cons, t_nil_and, t_nil_or, t_and, t_or, v_one, v_and, v_or, ite_pair, ite_b, decide_eq_true_eq, beq_iff_eq, upd_str, emp_str, ofString_inj, String.reduceEq, ↓reduceIte, constP, Glob.val?, tyOf, b_add, b_sub, b_mul, b_mod, b_div, b_str, b_lst, c_lt, c_le, c_gt, c_ge, c_eqi, c_nei, c_eqs, c_eqb, c_neb, c_is, c_nin, k_lens, k_lenl, k_lent, k_leno, k_max, k_min, k_int, k_listl, k_listo, k_isi, i_boolb, i_booli, i_int, i_str, i_tup, i_lst, i_loc, st0, st1, st2, st3, sq0, sq1, sq2, sq3, s_tup, s_lst, s_loc, s_str, m_app, r_loc, r_lst, sl_of, rg_of, Glob.isB, and_self, and_true, true_and, bt_name, bt_tup, bn_nil, bn_cons, Option.map_some, List.length_cons, List.length_nil, Nat.reduceAdd, Nat.zero_add, le_sz0, le_sz1, le_sz2, le_sz3, le_sz4, le_sz5, G_isinstance, G_list, G_len, G_str, G_range, G_max, G_min, G_int, G_bool, G_tuple, G_MOST, G_SIGNS, G_alike, G_points, G_around, G_on, G_floor, G_sizes, G_drawn, G_is_in, G_boxes, G_whole, G_mixed, G_cell_at, G_inner, G_around_, G_wide, G_cell, G_checked]
      · show _ = σ ++ [PO.list ((_ ++ []).map tup2)]; rw [List.append_nil]
    · rintro j d ρ τ hd ⟨⟨r1, r2⟩, r3, rfl⟩
      obtain ⟨rfl, hj⟩ := rangeP_get hd
      refine ⟨_, rfl, ?_⟩
      have hln : ((allPts f i (wideOf rows + 1) ++ rowPts f i j).map tup2).length ≤ sizeLine := by
        have h1 := allPts_len f (wideOf rows + 1) i
        have h2 := rowPts_len f i j
        have h3 : i * (wideOf rows + 1) ≤ 31 * 31 := Nat.mul_le_mul (by omega) (by omega)
        rw [List.length_map, List.length_append]; omega
      have hget := get_append_new σ (PO.list ((allPts f i (wideOf rows + 1) ++ rowPts f i j).map tup2))
      have hset := fun y => set_append_new σ (PO.list ((allPts f i (wideOf rows + 1) ++ rowPts f i j).map tup2)) y
      refine out_cons (out_mono (out_if (K := fun ρ τ => E ρ ∧ ρ (Str.ofString "row") = some (.int i) ∧ τ = σ ++ [.list ((allPts f i (wideOf rows + 1) ++ rowPts f i (j + 1)).map tup2)]) (c := f i j) (σ₁ := σ ++ [.list ((allPts f i (wideOf rows + 1) ++ rowPts f i j).map tup2)]) ?_ (fun hc => ?_) fun hc => ?_) ?_ fun _ _ h => h)
      · (simp (disch := first | assumption | decide | omega) only [e_const, e_name, e_binop, e_not, e_usub, e_boolop, e_cmp, e_call, e_meth, e_slice, es_name, es_const, es_binop, es_call, es_sub, es_tuple, subE_eq, e_list, e_tuple, el_nil, el_cons, et_not, et_boolop, et_name, et_call, et_cmp, et_sub, valT_some, x_expr, x_ret, x_if, xa_nil, xa_one, xa_dict, xa_two, xa_name, xa_const, xa_binop, xa_boolop, xa_unop, xa_cmp, xa_call, xa_sub, xa_tuple, setN_some, xt_call, xt_sub, setT_some, xs_nil, xs_cons, t_nil_and, t_nil_or, t_and, t_or, v_one, v_and, v_or, ite_pair, ite_b, decide_eq_true_eq, beq_iff_eq, upd_str, emp_str, ofString_inj, String.reduceEq, ↓reduceIte, constP, Glob.val?, tyOf, b_add, b_sub, b_mul, b_mod, b_div, b_str, b_lst, c_lt, c_le, c_gt, c_ge, c_eqi, c_nei, c_eqs, c_eqb, c_neb, c_is, c_nin, k_lens, k_lenl, k_lent, k_leno, k_max, k_min, k_int, k_listl, k_listo, k_isi, i_boolb, i_booli, i_int, i_str, i_tup, i_lst, i_loc, st0, st1, st2, st3, sq0, sq1, sq2, sq3, s_tup, s_lst, s_loc, s_str, m_app, r_loc, r_lst, sl_of, rg_of, Glob.isB, and_self, and_true, true_and, bt_name, bt_tup, bn_nil, bn_cons, Option.map_some, List.length_cons, List.length_nil, Nat.reduceAdd, Nat.zero_add, le_sz0, le_sz1, le_sz2, le_sz3, le_sz4, le_sz5, G_isinstance, G_list, G_len, G_str, G_range, G_max, G_min, G_int, G_bool, G_tuple, G_MOST, G_SIGNS, G_alike, G_points, G_around, G_on, G_floor, G_sizes, G_drawn, G_is_in, G_boxes, G_whole, G_mixed, G_cell_at, G_inner, G_around_, G_wide, G_cell, G_checked, r1, r3, e3]) <;> rfl
      · apply out_next
        · (simp (disch := first | assumption | decide | omega) only [e_const, e_name, e_binop, e_not, e_usub, e_boolop, e_cmp, e_call, e_meth, e_slice, es_name, es_const, es_binop, es_call, es_sub, es_tuple, subE_eq, e_list, e_tuple, el_nil, el_cons, et_not, et_boolop, et_name, et_call, et_cmp, et_sub, valT_some, x_expr, x_ret, x_if, xa_nil, xa_one, xa_dict, xa_two, xa_name, xa_const, xa_binop, xa_boolop, xa_unop, xa_cmp, xa_call, xa_sub, xa_tuple, setN_some, xt_call, xt_sub, setT_some, xs_nil, xs_cons, t_nil_and, t_nil_or, t_and, t_or, v_one, v_and, v_or, ite_pair, ite_b, decide_eq_true_eq, beq_iff_eq, upd_str, emp_str, ofString_inj, String.reduceEq, ↓reduceIte, constP, Glob.val?, tyOf, b_add, b_sub, b_mul, b_mod, b_div, b_str, b_lst, c_lt, c_le, c_gt, c_ge, c_eqi, c_nei, c_eqs, c_eqb, c_neb, c_is, c_nin, k_lens, k_lenl, k_lent, k_leno, k_max, k_min, k_int, k_listl, k_listo, k_isi, i_boolb, i_booli, i_int, i_str, i_tup, i_lst, i_loc, st0, st1, st2, st3, sq0, sq1, sq2, sq3, s_tup, s_lst, s_loc, s_str, m_app, r_loc, r_lst, sl_of, rg_of, Glob.isB, and_self, and_true, true_and, bt_name, bt_tup, bn_nil, bn_cons, Option.map_some, List.length_cons, List.length_nil, Nat.reduceAdd, Nat.zero_add, le_sz0, le_sz1, le_sz2, le_sz3, le_sz4, le_sz5, G_isinstance, G_list, G_len, G_str, G_range, G_max, G_min, G_int, G_bool, G_tuple, G_MOST, G_SIGNS, G_alike, G_points, G_around, G_on, G_floor, G_sizes, G_drawn, G_is_in, G_boxes, G_whole, G_mixed, G_cell_at, G_inner, G_around_, G_wide, G_cell, G_checked, r2, r3, r_loc hget, m_app hget hln, hset]) <;> rfl
        refine out_nil ⟨?_, ?_, ?_⟩
        · simp (disch := first | assumption | decide | omega) only [e_const, e_name, e_binop, e_not, e_usub, e_boolop, e_cmp, e_call, e_meth, e_slice, es_name, es_const, es_binop, es_call, es_sub, es_tuple, subE_eq, e_list, e_tuple, el_nil, el_cons, et_not, et_boolop, et_name, et_call, et_cmp, et_sub, valT_some, x_expr, x_ret, x_if, xa_nil, xa_one, xa_dict, xa_two, xa_name, xa_const, xa_binop, xa_boolop, xa_unop, xa_cmp, xa_call, xa_sub, xa_tuple, setN_some, xt_call, xt_sub, setT_some, xs_nil, xs_cons, t_nil_and, t_nil_or, t_and, t_or, v_one, v_and, v_or, ite_pair, ite_b, decide_eq_true_eq, beq_iff_eq, upd_str, emp_str, ofString_inj, String.reduceEq, ↓reduceIte, constP, Glob.val?, tyOf, b_add, b_sub, b_mul, b_mod, b_div, b_str, b_lst, c_lt, c_le, c_gt, c_ge, c_eqi, c_nei, c_eqs, c_eqb, c_neb, c_is, c_nin, k_lens, k_lenl, k_lent, k_leno, k_max, k_min, k_int, k_listl, k_listo, k_isi, i_boolb, i_booli, i_int, i_str, i_tup, i_lst, i_loc, st0, st1, st2, st3, sq0, sq1, sq2, sq3, s_tup, s_lst, s_loc, s_str, m_app, r_loc, r_lst, sl_of, rg_of, Glob.isB, and_self, and_true, true_and, bt_name, bt_tup, bn_nil, bn_cons, Option.map_some, List.length_cons, List.length_nil, Nat.reduceAdd, Nat.zero_add, le_sz0, le_sz1, le_sz2, le_sz3, le_sz4, le_sz5, G_isinstance, G_list, G_len, G_str, G_range, G_max, G_min, G_int, G_bool, G_tuple, G_MOST, G_SIGNS, G_alike, G_points, G_around, G_on, G_floor, G_sizes, G_drawn, G_is_in, G_boxes, G_whole, G_mixed, G_cell_at, G_inner, G_around_, G_wide, G_cell, G_checked, E, r1, r2]
        · simp (disch := first | assumption | decide | omega) only [e_const, e_name, e_binop, e_not, e_usub, e_boolop, e_cmp, e_call, e_meth, e_slice, es_name, es_const, es_binop, es_call, es_sub, es_tuple, subE_eq, e_list, e_tuple, el_nil, el_cons, et_not, et_boolop, et_name, et_call, et_cmp, et_sub, valT_some, x_expr, x_ret, x_if, xa_nil, xa_one, xa_dict, xa_two, xa_name, xa_const, xa_binop, xa_boolop, xa_unop, xa_cmp, xa_call, xa_sub, xa_tuple, setN_some, xt_call, xt_sub, setT_some, xs_nil, xs_cons, t_nil_and, t_nil_or, t_and, t_or, v_one, v_and, v_or, ite_pair, ite_b, decide_eq_true_eq, beq_iff_eq, upd_str, emp_str, ofString_inj, String.reduceEq, ↓reduceIte, constP, Glob.val?, tyOf, b_add, b_sub, b_mul, b_mod, b_div, b_str, b_lst, c_lt, c_le, c_gt, c_ge, c_eqi, c_nei, c_eqs, c_eqb, c_neb, c_is, c_nin, k_lens, k_lenl, k_lent, k_leno, k_max, k_min, k_int, k_listl, k_listo, k_isi, i_boolb, i_booli, i_int, i_str, i_tup, i_lst, i_loc, st0, st1, st2, st3, sq0, sq1, sq2, sq3, s_tup, s_lst, s_loc, s_str, m_app, r_loc, r_lst, sl_of, rg_of, Glob.isB, and_self, and_true, true_and, bt_name, bt_tup, bn_nil, bn_cons, Option.map_some, List.length_cons, List.length_nil, Nat.reduceAdd, Nat.zero_add, le_sz0, le_sz1, le_sz2, le_sz3, le_sz4, le_sz5, G_isinstance, G_list, G_len, G_str, G_range, G_max, G_min, G_int, G_bool, G_tuple, G_MOST, G_SIGNS, G_alike, G_points, G_around, G_on, G_floor, G_sizes, G_drawn, G_is_in, G_boxes, G_whole, G_mixed, G_cell_at, G_inner, G_around_, G_wide, G_cell, G_checked, r3]
        · rw [rowPts_succ, if_pos hc, ← List.append_assoc]; simp only [List.map_append, List.map_cons, List.map_nil]; rfl
      · refine out_nil ⟨?_, ?_, ?_⟩
        · simp (disch := first | assumption | decide | omega) only [e_const, e_name, e_binop, e_not, e_usub, e_boolop, e_cmp, e_call, e_meth, e_slice, es_name, es_const, es_binop, es_call, es_sub, es_tuple, subE_eq, e_list, e_tuple, el_nil, el_cons, et_not, et_boolop, et_name, et_call, et_cmp, et_sub, valT_some, x_expr, x_ret, x_if, xa_nil, xa_one, xa_dict, xa_two, xa_name, xa_const, xa_binop, xa_boolop, xa_unop, xa_cmp, xa_call, xa_sub, xa_tuple, setN_some, xt_call, xt_sub, setT_some, xs_nil, xs_cons, t_nil_and, t_nil_or, t_and, t_or, v_one, v_and, v_or, ite_pair, ite_b, decide_eq_true_eq, beq_iff_eq, upd_str, emp_str, ofString_inj, String.reduceEq, ↓reduceIte, constP, Glob.val?, tyOf, b_add, b_sub, b_mul, b_mod, b_div, b_str, b_lst, c_lt, c_le, c_gt, c_ge, c_eqi, c_nei, c_eqs, c_eqb, c_neb, c_is, c_nin, k_lens, k_lenl, k_lent, k_leno, k_max, k_min, k_int, k_listl, k_listo, k_isi, i_boolb, i_booli, i_int, i_str, i_tup, i_lst, i_loc, st0, st1, st2, st3, sq0, sq1, sq2, sq3, s_tup, s_lst, s_loc, s_str, m_app, r_loc, r_lst, sl_of, rg_of, Glob.isB, and_self, and_true, true_and, bt_name, bt_tup, bn_nil, bn_cons, Option.map_some, List.length_cons, List.length_nil, Nat.reduceAdd, Nat.zero_add, le_sz0, le_sz1, le_sz2, le_sz3, le_sz4, le_sz5, G_isinstance, G_list, G_len, G_str, G_range, G_max, G_min, G_int, G_bool, G_tuple, G_MOST, G_SIGNS, G_alike, G_points, G_around, G_on, G_floor, G_sizes, G_drawn, G_is_in, G_boxes, G_whole, G_mixed, G_cell_at, G_inner, G_around_, G_wide, G_cell, G_checked, E, r1, r2]
        · simp (disch := first | assumption | decide | omega) only [e_const, e_name, e_binop, e_not, e_usub, e_boolop, e_cmp, e_call, e_meth, e_slice, es_name, es_const, es_binop, es_call, es_sub, es_tuple, subE_eq, e_list, e_tuple, el_nil, el_cons, et_not, et_boolop, et_name, et_call, et_cmp, et_sub, valT_some, x_expr, x_ret, x_if, xa_nil, xa_one, xa_dict, xa_two, xa_name, xa_const, xa_binop, xa_boolop, xa_unop, xa_cmp, xa_call, xa_sub, xa_tuple, setN_some, xt_call, xt_sub, setT_some, xs_nil, xs_cons, t_nil_and, t_nil_or, t_and, t_or, v_one, v_and, v_or, ite_pair, ite_b, decide_eq_true_eq, beq_iff_eq, upd_str, emp_str, ofString_inj, String.reduceEq, ↓reduceIte, constP, Glob.val?, tyOf, b_add, b_sub, b_mul, b_mod, b_div, b_str, b_lst, c_lt, c_le, c_gt, c_ge, c_eqi, c_nei, c_eqs, c_eqb, c_neb, c_is, c_nin, k_lens, k_lenl, k_lent, k_leno, k_max, k_min, k_int, k_listl, k_listo, k_isi, i_boolb, i_booli, i_int, i_str, i_tup, i_lst, i_loc, st0, st1, st2, st3, sq0, sq1, sq2, sq3, s_tup, s_lst, s_loc, s_str, m_app, r_loc, r_lst, sl_of, rg_of, Glob.isB, and_self, and_true, true_and, bt_name, bt_tup, bn_nil, bn_cons, Option.map_some, List.length_cons, List.length_nil, Nat.reduceAdd, Nat.zero_add, le_sz0, le_sz1, le_sz2, le_sz3, le_sz4, le_sz5, G_isinstance, G_list, G_len, G_str, G_range, G_max, G_min, G_int, G_bool, G_tuple, G_MOST, G_SIGNS, G_alike, G_points, G_around, G_on, G_floor, G_sizes, G_drawn, G_is_in, G_boxes, G_whole, G_mixed, G_cell_at, G_inner, G_around_, G_wide, G_cell, G_checked, r3]
        · rw [rowPts_succ, if_neg (by rw [hc]; decide), List.append_nil]
      · rintro ρ τ h
        exact out_nil h
    · rintro ρ τ ⟨h1, h2, h3⟩
      refine out_nil ⟨h1, ?_⟩
      rw [h3, rangeP_len, allPts_succ, show ((wideOf rows : Int) + 1).toNat = wideOf rows + 1 by omega]
  · rintro ρ τ ⟨⟨r1, r2⟩, h3⟩
    rw [rangeP_len, show ((rows.length : Int) + 1).toNat = rows.length + 1 by omega] at h3
    subst h3
    apply out_ret
    · (simp (disch := first | assumption | decide | omega) only [e_const, e_name, e_binop, e_not, e_usub, e_boolop, e_cmp, e_call, e_meth, e_slice, es_name, es_const, es_binop, es_call, es_sub, es_tuple, subE_eq, e_list, e_tuple, el_nil, el_cons, et_not, et_boolop, et_name, et_call, et_cmp, et_sub, valT_some, x_expr, x_ret, x_if, xa_nil, xa_one, xa_dict, xa_two, xa_name, xa_const, xa_binop, xa_boolop, xa_unop, xa_cmp, xa_call, xa_sub, xa_tuple, setN_some, xt_call, xt_sub, setT_some, xs_nil, xs_cons, t_nil_and, t_nil_or, t_and, t_or, v_one, v_and, v_or, ite_pair, ite_b, decide_eq_true_eq, beq_iff_eq, upd_str, emp_str, ofString_inj, String.reduceEq, ↓reduceIte, constP, Glob.val?, tyOf, b_add, b_sub, b_mul, b_mod, b_div, b_str, b_lst, c_lt, c_le, c_gt, c_ge, c_eqi, c_nei, c_eqs, c_eqb, c_neb, c_is, c_nin, k_lens, k_lenl, k_lent, k_leno, k_max, k_min, k_int, k_listl, k_listo, k_isi, i_boolb, i_booli, i_int, i_str, i_tup, i_lst, i_loc, st0, st1, st2, st3, sq0, sq1, sq2, sq3, s_tup, s_lst, s_loc, s_str, m_app, r_loc, r_lst, sl_of, rg_of, Glob.isB, and_self, and_true, true_and, bt_name, bt_tup, bn_nil, bn_cons, Option.map_some, List.length_cons, List.length_nil, Nat.reduceAdd, Nat.zero_add, le_sz0, le_sz1, le_sz2, le_sz3, le_sz4, le_sz5, G_isinstance, G_list, G_len, G_str, G_range, G_max, G_min, G_int, G_bool, G_tuple, G_MOST, G_SIGNS, G_alike, G_points, G_around, G_on, G_floor, G_sizes, G_drawn, G_is_in, G_boxes, G_whole, G_mixed, G_cell_at, G_inner, G_around_, G_wide, G_cell, G_checked, r2]) <;> rfl
    · exact ⟨rfl, rfl⟩
end
end
end Mine

set_option maxRecDepth 100000
namespace Mine
open PySem PySem.Spec PyProof.Rows PySem.Challenge

section
variable {Φ : Fns} {σ : Store}
section
variable (hon : ∀ (rows : List Str) (i : Nat) (r c : Int) (σ : Store), Good rows → σ[i]? = some (.list (rows.map .str)) → Φ (Str.ofString "_law_on") [.loc i, .int r, .int c] σ = some (.bool (onB rows r c), σ))
include hon
theorem law_around_run {rows : List Str} {i : Nat} {r c : Int} (hg : Good rows) (hσ : σ[i]? = some (.list (rows.map .str))) : interpF Φ Gl (dOf pw "_law_around") [.loc i, .int r, .int c] σ = some (.int (aroundN rows r c), σ) := by
  have hs := sz
  refine run_eq (by kernel_rfl) ?_
  change Out (execSs Φ Gl (_ :: _ :: _ :: _) (bindP [_, _, _] _) σ) _ _
  rw [bindP3]
  have e := fun r c => hon rows i r c σ hg hσ
  apply out_next
  · (simp (disch := first | assumption | decide | omega) only [e_const, e_name, e_binop, e_not, e_usub, e_boolop, e_cmp, e_call, e_meth, e_slice, es_name, es_const, es_binop, es_call, es_sub, es_tuple, subE_eq, e_list, e_tuple, el_nil, el_cons, et_not, et_boolop, et_name, et_call, et_cmp, et_sub, valT_some, x_expr, x_ret, x_if, xa_nil, xa_one, xa_dict, xa_two, xa_name, xa_const, xa_binop, xa_boolop, xa_unop, xa_cmp, xa_call, xa_sub, xa_tuple, setN_some, xt_call, xt_sub, setT_some, xs_nil, xs_cons, t_nil_and, t_nil_or, t_and, t_or, v_one, v_and, v_or, ite_pair, ite_b, decide_eq_true_eq, beq_iff_eq, upd_str, emp_str, ofString_inj, String.reduceEq, ↓reduceIte, constP, Glob.val?, tyOf, b_add, b_sub, b_mul, b_mod, b_div, b_str, b_lst, c_lt, c_le, c_gt, c_ge, c_eqi, c_nei, c_eqs, c_eqb, c_neb, c_is, c_nin, k_lens, k_lenl, k_lent, k_leno, k_max, k_min, k_int, k_listl, k_listo, k_isi, i_boolb, i_booli, i_int, i_str, i_tup, i_lst, i_loc, st0, st1, st2, st3, sq0, sq1, sq2, sq3, s_tup, s_lst, s_loc, s_str, m_app, r_loc, r_lst, sl_of, rg_of, Glob.isB, and_self, and_true, true_and, bt_name, bt_tup, bn_nil, bn_cons, Option.map_some, List.length_cons, List.length_nil, Nat.reduceAdd, Nat.zero_add, le_sz0, le_sz1, le_sz2, le_sz3, le_sz4, le_sz5, G_isinstance, G_list, G_len, G_str, G_range, G_max, G_min, G_int, G_bool, G_tuple, G_MOST, G_SIGNS, G_alike, G_points, G_around, G_on, G_floor, G_sizes, G_drawn, G_is_in, G_boxes, G_whole, G_mixed, G_cell_at, G_inner, G_around_, G_wide, G_cell, G_checked]) <;> rfl
  let ps : List (Int × Int) := [(r - 1, c - 1), (r - 1, c), (r, c - 1), (r, c)]
  let acc : Nat → Int := fun k => ((ps.take k).map fun p => if onB rows p.1 p.2 then (1 : Int) else 0).foldl (· + ·) 0
  refine out_cons (out_mono (out_for (R := fun u τ => u = .int (aroundN rows r c) ∧ τ = σ)
    (for_lst (ds := ps.map fun p => .tup [.int p.1, .int p.2]) (σ₁ := σ) rfl ?_)
    (fun k ρ τ => τ = σ ∧ ρ (Str.ofString "_law_rows") = some (.loc i) ∧ ρ (Str.ofString "_law_found") = some (.int (acc k))) ?_ ?_) ?_ fun _ _ h => h)
  · (simp (disch := first | assumption | decide | omega) only [e_const, e_name, e_binop, e_not, e_usub, e_boolop, e_cmp, e_call, e_meth, e_slice, es_name, es_const, es_binop, es_call, es_sub, es_tuple, subE_eq, e_list, e_tuple, el_nil, el_cons, et_not, et_boolop, et_name, et_call, et_cmp, et_sub, valT_some, x_expr, x_ret, x_if, xa_nil, xa_one, xa_dict, xa_two, xa_name, xa_const, xa_binop, xa_boolop, xa_unop, xa_cmp, xa_call, xa_sub, xa_tuple, setN_some, xt_call, xt_sub, setT_some, xs_nil, xs_cons, t_nil_and, t_nil_or, t_and, t_or, v_one, v_and, v_or, ite_pair, ite_b, decide_eq_true_eq, beq_iff_eq, upd_str, emp_str, ofString_inj, String.reduceEq, ↓reduceIte, constP, Glob.val?, tyOf, b_add, b_sub, b_mul, b_mod, b_div, b_str, b_lst, c_lt, c_le, c_gt, c_ge, c_eqi, c_nei, c_eqs, c_eqb, c_neb, c_is, c_nin, k_lens, k_lenl, k_lent, k_leno, k_max, k_min, k_int, k_listl, k_listo, k_isi, i_boolb, i_booli, i_int, i_str, i_tup, i_lst, i_loc, st0, st1, st2, st3, sq0, sq1, sq2, sq3, s_tup, s_lst, s_loc, s_str, m_app, r_loc, r_lst, sl_of, rg_of, Glob.isB, and_self, and_true, true_and, bt_name, bt_tup, bn_nil, bn_cons, Option.map_some, List.length_cons, List.length_nil, Nat.reduceAdd, Nat.zero_add, le_sz0, le_sz1, le_sz2, le_sz3, le_sz4, le_sz5, G_isinstance, G_list, G_len, G_str, G_range, G_max, G_min, G_int, G_bool, G_tuple, G_MOST, G_SIGNS, G_alike, G_points, G_around, G_on, G_floor, G_sizes, G_drawn, G_is_in, G_boxes, G_whole, G_mixed, G_cell_at, G_inner, G_around_, G_wide, G_cell, G_checked]) <;> rfl
  · refine ⟨rfl, ?_, ?_⟩
    · simp (disch := first | assumption | decide | omega) only [e_const, e_name, e_binop, e_not, e_usub, e_boolop, e_cmp, e_call, e_meth, e_slice, es_name, es_const, es_binop, es_call, es_sub, es_tuple, subE_eq, e_list, e_tuple, el_nil, el_cons, et_not, et_boolop, et_name, et_call, et_cmp, et_sub, valT_some, x_expr, x_ret, x_if, xa_nil, xa_one, xa_dict, xa_two, xa_name, xa_const, xa_binop, xa_boolop, xa_unop, xa_cmp, xa_call, xa_sub, xa_tuple, setN_some, xt_call, xt_sub, setT_some, xs_nil, xs_cons, t_nil_and, t_nil_or, t_and, t_or, v_one, v_and, v_or, ite_pair, ite_b, decide_eq_true_eq, beq_iff_eq, upd_str, emp_str, ofString_inj, String.reduceEq, ↓reduceIte, constP, Glob.val?, tyOf, b_add, b_sub, b_mul, b_mod, b_div, b_str, b_lst, c_lt, c_le, c_gt, c_ge, c_eqi, c_nei, c_eqs, c_eqb, c_neb, c_is, c_nin, k_lens, k_lenl, k_lent, k_leno, k_max, k_min, k_int, k_listl, k_listo, k_isi, i_boolb, i_booli, i_int, i_str, i_tup, i_lst, i_loc, st0, st1, st2, st3, sq0, sq1, sq2, sq3, s_tup, s_lst, s_loc, s_str, m_app, r_loc, r_lst, sl_of, rg_of, Glob.isB, and_self, and_true, true_and, bt_name, bt_tup, bn_nil, bn_cons, Option.map_some, List.length_cons, List.length_nil, Nat.reduceAdd, Nat.zero_add, le_sz0, le_sz1, le_sz2, le_sz3, le_sz4, le_sz5, G_isinstance, G_list, G_len, G_str, G_range, G_max, G_min, G_int, G_bool, G_tuple, G_MOST, G_SIGNS, G_alike, G_points, G_around, G_on, G_floor, G_sizes, G_drawn, G_is_in, G_boxes, G_whole, G_mixed, G_cell_at, G_inner, G_around_, G_wide, G_cell, G_checked]
    · simp (disch := first | assumption | decide | omega) only [e_const, e_name, e_binop, e_not, e_usub, e_boolop, e_cmp, e_call, e_meth, e_slice, es_name, es_const, es_binop, es_call, es_sub, es_tuple, subE_eq, e_list, e_tuple, el_nil, el_cons, et_not, et_boolop, et_name, et_call, et_cmp, et_sub, valT_some, x_expr, x_ret, x_if, xa_nil, xa_one, xa_dict, xa_two, xa_name, xa_const, xa_binop, xa_boolop, xa_unop, xa_cmp, xa_call, xa_sub, xa_tuple, setN_some, xt_call, xt_sub, setT_some, xs_nil, xs_cons, t_nil_and, t_nil_or, t_and, t_or, v_one, v_and, v_or, ite_pair, ite_b, decide_eq_true_eq, beq_iff_eq, upd_str, emp_str, ofString_inj, String.reduceEq, ↓reduceIte, constP, Glob.val?, tyOf, b_add, b_sub, b_mul, b_mod, b_div, b_str, b_lst, c_lt, c_le, c_gt, c_ge, c_eqi, c_nei, c_eqs, c_eqb, c_neb, c_is, c_nin, k_lens, k_lenl, k_lent, k_leno, k_max, k_min, k_int, k_listl, k_listo, k_isi, i_boolb, i_booli, i_int, i_str, i_tup, i_lst, i_loc, st0, st1, st2, st3, sq0, sq1, sq2, sq3, s_tup, s_lst, s_loc, s_str, m_app, r_loc, r_lst, sl_of, rg_of, Glob.isB, and_self, and_true, true_and, bt_name, bt_tup, bn_nil, bn_cons, Option.map_some, List.length_cons, List.length_nil, Nat.reduceAdd, Nat.zero_add, le_sz0, le_sz1, le_sz2, le_sz3, le_sz4, le_sz5, G_isinstance, G_list, G_len, G_str, G_range, G_max, G_min, G_int, G_bool, G_tuple, G_MOST, G_SIGNS, G_alike, G_points, G_around, G_on, G_floor, G_sizes, G_drawn, G_is_in, G_boxes, G_whole, G_mixed, G_cell_at, G_inner, G_around_, G_wide, G_cell, G_checked]; rfl
  · rintro k d ρ τ hd ⟨rfl, r1, r2⟩
    rw [List.getElem?_map] at hd
    obtain ⟨p, hp, rfl⟩ := Option.map_eq_some_iff.mp hd
    refine ⟨_, rfl, ?_⟩
    apply out_next
    · (simp (disch := first | assumption | decide | omega) only [e_const, e_name, e_binop, e_not, e_usub, e_boolop, e_cmp, e_call, e_meth, e_slice, es_name, es_const, es_binop, es_call, es_sub, es_tuple, subE_eq, e_list, e_tuple, el_nil, el_cons, et_not, et_boolop, et_name, et_call, et_cmp, et_sub, valT_some, x_expr, x_ret, x_if, xa_nil, xa_one, xa_dict, xa_two, xa_name, xa_const, xa_binop, xa_boolop, xa_unop, xa_cmp, xa_call, xa_sub, xa_tuple, setN_some, xt_call, xt_sub, setT_some, xs_nil, xs_cons, t_nil_and, t_nil_or, t_and, t_or, v_one, v_and, v_or, ite_pair, ite_b, decide_eq_true_eq, beq_iff_eq, upd_str, emp_str, ofString_inj, String.reduceEq, ↓reduceIte, constP, Glob.val?, tyOf, b_add, b_sub, b_mul, b_mod, b_div, b_str, b_lst, c_lt, c_le, c_gt, c_ge, c_eqi, c_nei, c_eqs, c_eqb, c_neb, c_is, c_nin, k_lens, k_lenl, k_lent, k_leno, k_max, k_min, k_int, k_listl, k_listo, k_isi, i_boolb, i_booli, i_int, i_str, i_tup, i_lst, i_loc, st0, st1, st2, st3, sq0, sq1, sq2, sq3, s_tup, s_lst, s_loc, s_str, m_app, r_loc, r_lst, sl_of, rg_of, Glob.isB, and_self, and_true, true_and, bt_name, bt_tup, bn_nil, bn_cons, Option.map_some, List.length_cons, List.length_nil, Nat.reduceAdd, Nat.zero_add, le_sz0, le_sz1, le_sz2, le_sz3, le_sz4, le_sz5, G_isinstance, G_list, G_len, G_str, G_range, G_max, G_min, G_int, G_bool, G_tuple, G_MOST, G_SIGNS, G_alike, G_points, G_around, G_on, G_floor, G_sizes, G_drawn, G_is_in, G_boxes, G_whole, G_mixed, G_cell_at, G_inner, G_around_, G_wide, G_cell, G_checked, r1, r2, e]) <;> rfl
    refine out_nil ⟨rfl, ?_, ?_⟩
    · simp (disch := first | assumption | decide | omega) only [e_const, e_name, e_binop, e_not, e_usub, e_boolop, e_cmp, e_call, e_meth, e_slice, es_name, es_const, es_binop, es_call, es_sub, es_tuple, subE_eq, e_list, e_tuple, el_nil, el_cons, et_not, et_boolop, et_name, et_call, et_cmp, et_sub, valT_some, x_expr, x_ret, x_if, xa_nil, xa_one, xa_dict, xa_two, xa_name, xa_const, xa_binop, xa_boolop, xa_unop, xa_cmp, xa_call, xa_sub, xa_tuple, setN_some, xt_call, xt_sub, setT_some, xs_nil, xs_cons, t_nil_and, t_nil_or, t_and, t_or, v_one, v_and, v_or, ite_pair, ite_b, decide_eq_true_eq, beq_iff_eq, upd_str, emp_str, ofString_inj, String.reduceEq, ↓reduceIte, constP, Glob.val?, tyOf, b_add, b_sub, b_mul, b_mod, b_div, b_str, b_lst, c_lt, c_le, c_gt, c_ge, c_eqi, c_nei, c_eqs, c_eqb, c_neb, c_is, c_nin, k_lens, k_lenl, k_lent, k_leno, k_max, k_min, k_int, k_listl, k_listo, k_isi, i_boolb, i_booli, i_int, i_str, i_tup, i_lst, i_loc, st0, st1, st2, st3, sq0, sq1, sq2, sq3, s_tup, s_lst, s_loc, s_str, m_app, r_loc, r_lst, sl_of, rg_of, Glob.isB, and_self, and_true, true_and, bt_name, bt_tup, bn_nil, bn_cons, Option.map_some, List.length_cons, List.length_nil, Nat.reduceAdd, Nat.zero_add, le_sz0, le_sz1, le_sz2, le_sz3, le_sz4, le_sz5, G_isinstance, G_list, G_len, G_str, G_range, G_max, G_min, G_int, G_bool, G_tuple, G_MOST, G_SIGNS, G_alike, G_points, G_around, G_on, G_floor, G_sizes, G_drawn, G_is_in, G_boxes, G_whole, G_mixed, G_cell_at, G_inner, G_around_, G_wide, G_cell, G_checked, r1]
    · have : ps.take (k + 1) = ps.take k ++ [p] := by rw [List.take_add_one, hp]; rfl
      simp (disch := first | assumption | decide | omega) only [e_const, e_name, e_binop, e_not, e_usub, e_boolop, e_cmp, e_call, e_meth, e_slice, es_name, es_const, es_binop, es_call, es_sub, es_tuple, subE_eq, e_list, e_tuple, el_nil, el_cons, et_not, et_boolop, et_name, et_call, et_cmp, et_sub, valT_some, x_expr, x_ret, x_if, xa_nil, xa_one, xa_dict, xa_two, xa_name, xa_const, xa_binop, xa_boolop, xa_unop, xa_cmp, xa_call, xa_sub, xa_tuple, setN_some, xt_call, xt_sub, setT_some, xs_nil, xs_cons, t_nil_and, t_nil_or, t_and, t_or, v_one, v_and, v_or, ite_pair, ite_b, decide_eq_true_eq, beq_iff_eq, upd_str, emp_str, ofString_inj, String.reduceEq, ↓reduceIte, constP, Glob.val?, tyOf, b_add, b_sub, b_mul, b_mod, b_div, b_str, b_lst, c_lt, c_le, c_gt, c_ge, c_eqi, c_nei, c_eqs, c_eqb, c_neb, c_is, c_nin, k_lens, k_lenl, k_lent, k_leno, k_max, k_min, k_int, k_listl, k_listo, k_isi, i_boolb, i_booli, i_int, i_str, i_tup, i_lst, i_loc, st0, st1, st2, st3, sq0, sq1, sq2, sq3, s_tup, s_lst, s_loc, s_str, m_app, r_loc, r_lst, sl_of, rg_of, Glob.isB, and_self, and_true, true_and, bt_name, bt_tup, bn_nil, bn_cons, Option.map_some, List.length_cons, List.length_nil, Nat.reduceAdd, Nat.zero_add, le_sz0, le_sz1, le_sz2, le_sz3, le_sz4, le_sz5, G_isinstance, G_list, G_len, G_str, G_range, G_max, G_min, G_int, G_bool, G_tuple, G_MOST, G_SIGNS, G_alike, G_points, G_around, G_on, G_floor, G_sizes, G_drawn, G_is_in, G_boxes, G_whole, G_mixed, G_cell_at, G_inner, G_around_, G_wide, G_cell, G_checked]
      show some (PV.int _) = some (PV.int (((ps.take (k + 1)).map _).foldl _ 0))
      rw [this, List.map_append, List.foldl_append]; rfl
  · rintro ρ τ ⟨rfl, r1, r2⟩
    apply out_ret
    · (simp (disch := first | assumption | decide | omega) only [e_const, e_name, e_binop, e_not, e_usub, e_boolop, e_cmp, e_call, e_meth, e_slice, es_name, es_const, es_binop, es_call, es_sub, es_tuple, subE_eq, e_list, e_tuple, el_nil, el_cons, et_not, et_boolop, et_name, et_call, et_cmp, et_sub, valT_some, x_expr, x_ret, x_if, xa_nil, xa_one, xa_dict, xa_two, xa_name, xa_const, xa_binop, xa_boolop, xa_unop, xa_cmp, xa_call, xa_sub, xa_tuple, setN_some, xt_call, xt_sub, setT_some, xs_nil, xs_cons, t_nil_and, t_nil_or, t_and, t_or, v_one, v_and, v_or, ite_pair, ite_b, decide_eq_true_eq, beq_iff_eq, upd_str, emp_str, ofString_inj, String.reduceEq, ↓reduceIte, constP, Glob.val?, tyOf, b_add, b_sub, b_mul, b_mod, b_div, b_str, b_lst, c_lt, c_le, c_gt, c_ge, c_eqi, c_nei, c_eqs, c_eqb, c_neb, c_is, c_nin, k_lens, k_lenl, k_lent, k_leno, k_max, k_min, k_int, k_listl, k_listo, k_isi, i_boolb, i_booli, i_int, i_str, i_tup, i_lst, i_loc, st0, st1, st2, st3, sq0, sq1, sq2, sq3, s_tup, s_lst, s_loc, s_str, m_app, r_loc, r_lst, sl_of, rg_of, Glob.isB, and_self, and_true, true_and, bt_name, bt_tup, bn_nil, bn_cons, Option.map_some, List.length_cons, List.length_nil, Nat.reduceAdd, Nat.zero_add, le_sz0, le_sz1, le_sz2, le_sz3, le_sz4, le_sz5, G_isinstance, G_list, G_len, G_str, G_range, G_max, G_min, G_int, G_bool, G_tuple, G_MOST, G_SIGNS, G_alike, G_points, G_around, G_on, G_floor, G_sizes, G_drawn, G_is_in, G_boxes, G_whole, G_mixed, G_cell_at, G_inner, G_around_, G_wide, G_cell, G_checked, r2]) <;> rfl
    · refine ⟨?_, rfl⟩
      show PV.int _ = _
      exact congrArg PV.int (sum4 _ _ _ _)
end

section
variable (haro : ∀ (rows : List Str) (i : Nat) (r c : Int) (σ : Store), Good rows → σ[i]? = some (.list (rows.map .str)) → Φ (Str.ofString "_law_around") [.loc i, .int r, .int c] σ = some (.int (aroundN rows r c), σ))
include haro
theorem points_run {rows : List Str} {l : Nat} {many : Int} (hg : Good rows) (hσ : σ[l]? = some (.list (rows.map .str))) : interpF Φ Gl (dOf pw "_law_points") [.loc l, .int many] σ = some (.loc σ.length, σ ++ [.list ((ptsOf rows many).map tup2)]) := by
  have hs := sz
  have hw := wideOf_le hg
  have h30 := hg.1
  refine run_eq (by kernel_rfl) ?_
  change Out (execSs Φ Gl (_ :: _ :: _) (bindP [_, _] _) σ) _ _
  rw [bindP2]
  have e3 := fun r c τ hτ => haro rows l r c τ hg hτ
  have hl : (rows.map PV.str).length ≤ sizeLine := by rw [List.length_map]; omega
  have gl := fun ds => get_append_old hσ [PO.list ds]
  apply out_next
  · (simp (disch := first | assumption | decide | omega) only [e_const, e_name, e_binop, e_not, e_usub, e_boolop, e_cmp, e_call, e_meth, e_slice, es_name, es_const, es_binop, es_call, es_sub, es_tuple, subE_eq, e_list, e_tuple, el_nil, el_cons, et_not, et_boolop, et_name, et_call, et_cmp, et_sub, valT_some, x_expr, x_ret, x_if, xa_nil, xa_one, xa_dict, xa_two, xa_name, xa_const, xa_binop, xa_boolop, xa_unop, xa_cmp, xa_call, xa_sub, xa_tuple, setN_some, xt_call, xt_sub, setT_some, xs_nil, xs_cons, t_nil_and, t_nil_or, t_and, t_or, v_one, v_and, v_or, ite_pair, ite_b, decide_eq_true_eq, beq_iff_eq, upd_str, emp_str, ofString_inj, String.reduceEq, ↓reduceIte, constP, Glob.val?, tyOf, b_add, b_sub, b_mul, b_mod, b_div, b_str, b_lst, c_lt, c_le, c_gt, c_ge, c_eqi, c_nei, c_eqs, c_eqb, c_neb, c_is, c_nin, k_lens, k_lenl, k_lent, k_leno, k_max, k_min, k_int, k_listl, k_listo, k_isi, i_boolb, i_booli, i_int, i_str, i_tup, i_lst, i_loc, st0, st1, st2, st3, sq0, sq1, sq2, sq3, s_tup, s_lst, s_loc, s_str, m_app, r_loc, r_lst, sl_of, rg_of, Glob.isB, and_self, and_true, true_and, bt_name, bt_tup, bn_nil, bn_cons, Option.map_some, List.length_cons, List.length_nil, Nat.reduceAdd, Nat.zero_add, le_sz0, le_sz1, le_sz2, le_sz3, le_sz4, le_sz5, G_isinstance, G_list, G_len, G_str, G_range, G_max, G_min, G_int, G_bool, G_tuple, G_MOST, G_SIGNS, G_alike, G_points, G_around, G_on, G_floor, G_sizes, G_drawn, G_is_in, G_boxes, G_whole, G_mixed, G_cell_at, G_inner, G_around_, G_wide, G_cell, G_checked]) <;> rfl
  let R : PV → Store → Prop := fun u τ => u = .loc σ.length ∧ τ = σ ++ [.list ((ptsOf rows many).map tup2)]
  let f : Int → Int → Bool := fun r c => aroundN rows r c == many
  let E : Locals → Prop := fun ρ => ρ (Str.ofString "_law_rows") = some (.loc l) ∧ ρ (Str.ofString "_law_many") = some (.int many) ∧ ρ (Str.ofString "_law_found") = some (.loc σ.length)
  have kl0 := k_leno (gl []) hl
  refine out_cons (out_mono (out_for (R := R)
    (for_rng (ds := rangeP 0 ((rows.length : Int) + 1) 1) (vs := [.int ((rows.length : Int) + 1)]) (σ₁ := σ ++ [.list []]) (by (simp (disch := first | assumption | decide | omega) only [e_const, e_name, e_binop, e_not, e_usub, e_boolop, e_cmp, e_call, e_meth, e_slice, es_name, es_const, es_binop, es_call, es_sub, es_tuple, subE_eq, e_list, e_tuple, el_nil, el_cons, et_not, et_boolop, et_name, et_call, et_cmp, et_sub, valT_some, x_expr, x_ret, x_if, xa_nil, xa_one, xa_dict, xa_two, xa_name, xa_const, xa_binop, xa_boolop, xa_unop, xa_cmp, xa_call, xa_sub, xa_tuple, setN_some, xt_call, xt_sub, setT_some, xs_nil, xs_cons, t_nil_and, t_nil_or, t_and, t_or, v_one, v_and, v_or, ite_pair, ite_b, decide_eq_true_eq, beq_iff_eq, upd_str, emp_str, ofString_inj, String.reduceEq, ↓reduceIte, constP, Glob.val?, tyOf, b_add, b_sub, b_mul, b_mod, b_div, b_str, b_lst, c_lt, c_le, c_gt, c_ge, c_eqi, c_nei, c_eqs, c_eqb, c_neb, c_is, c_nin, k_lens, k_lenl, k_lent, k_leno, k_max, k_min, k_int, k_listl, k_listo, k_isi, i_boolb, i_booli, i_int, i_str, i_tup, i_lst, i_loc, st0, st1, st2, st3, sq0, sq1, sq2, sq3, s_tup, s_lst, s_loc, s_str, m_app, r_loc, r_lst, sl_of, rg_of, Glob.isB, and_self, and_true, true_and, bt_name, bt_tup, bn_nil, bn_cons, Option.map_some, List.length_cons, List.length_nil, Nat.reduceAdd, Nat.zero_add, le_sz0, le_sz1, le_sz2, le_sz3, le_sz4, le_sz5, G_isinstance, G_list, G_len, G_str, G_range, G_max, G_min, G_int, G_bool, G_tuple, G_MOST, G_SIGNS, G_alike, G_points, G_around, G_on, G_floor, G_sizes, G_drawn, G_is_in, G_boxes, G_whole, G_mixed, G_cell_at, G_inner, G_around_, G_wide, G_cell, G_checked]) <;> rfl) ?_ (range1 (by omega) (by omega)))
    (fun i ρ τ => E ρ ∧ τ = σ ++ [.list ((allPts f i (wideOf rows + 1)).map tup2)]) ?_ ?_) ?_ fun _ _ h => h)
  · (simp (disch := first | assumption | decide | omega) only [e_const, e_name, e_binop, e_not, e_usub, e_boolop, e_cmp, e_call, e_meth, e_slice, es_name, es_const, es_binop, es_call, es_sub, es_tuple, subE_eq, e_list, e_tuple, el_nil, el_cons, et_not, et_boolop, et_name, et_call, et_cmp, et_sub, valT_some, x_expr, x_ret, x_if, xa_nil, xa_one, xa_dict, xa_two, xa_name, xa_const, xa_binop, xa_boolop, xa_unop, xa_cmp, xa_call, xa_sub, xa_tuple, setN_some, xt_call, xt_sub, setT_some, xs_nil, xs_cons, t_nil_and, t_nil_or, t_and, t_or, v_one, v_and, v_or, ite_pair, ite_b, decide_eq_true_eq, beq_iff_eq, upd_str, emp_str, ofString_inj, String.reduceEq, ↓reduceIte, constP, Glob.val?, tyOf, b_add, b_sub, b_mul, b_mod, b_div, b_str, b_lst, c_lt, c_le, c_gt, c_ge, c_eqi, c_nei, c_eqs, c_eqb, c_neb, c_is, c_nin, k_lens, k_lenl, k_lent, k_leno, k_max, k_min, k_int, k_listl, k_listo, k_isi, i_boolb, i_booli, i_int, i_str, i_tup, i_lst, i_loc, st0, st1, st2, st3, sq0, sq1, sq2, sq3, s_tup, s_lst, s_loc, s_str, m_app, r_loc, r_lst, sl_of, rg_of, Glob.isB, and_self, and_true, true_and, bt_name, bt_tup, bn_nil, bn_cons, Option.map_some, List.length_cons, List.length_nil, Nat.reduceAdd, Nat.zero_add, le_sz0, le_sz1, le_sz2, le_sz3, le_sz4, le_sz5, G_isinstance, G_list, G_len, G_str, G_range, G_max, G_min, G_int, G_bool, G_tuple, G_MOST, G_SIGNS, G_alike, G_points, G_around, G_on, G_floor, G_sizes, G_drawn, G_is_in, G_boxes, G_whole, G_mixed, G_cell_at, G_inner, G_around_, G_wide, G_cell, G_checked, kl0, List.length_map]) <;> rfl
  · refine ⟨?_, rfl⟩
    simp (disch := first | assumption | decide | omega) only [e_const, e_name, e_binop, e_not, e_usub, e_boolop, e_cmp, e_call, e_meth, e_slice, es_name, es_const, es_binop, es_call, es_sub, es_tuple, subE_eq, e_list, e_tuple, el_nil, el_cons, et_not, et_boolop, et_name, et_call, et_cmp, et_sub, valT_some, x_expr, x_ret, x_if, xa_nil, xa_one, xa_dict, xa_two, xa_name, xa_const, xa_binop, xa_boolop, xa_unop, xa_cmp, xa_call, xa_sub, xa_tuple, setN_some, xt_call, xt_sub, setT_some, xs_nil, xs_cons, t_nil_and, t_nil_or, t_and, t_or, v_one, v_and, v_or, ite_pair, ite_b, decide_eq_true_eq, beq_iff_eq, upd_str, emp_str, ofString_inj, String.reduceEq, ↓reduceIte, constP, Glob.val?, tyOf, b_add, b_sub, b_mul, b_mod, b_div, b_str, b_lst, c_lt, c_le, c_gt, c_ge, c_eqi, c_nei, c_eqs, c_eqb, c_neb, c_is, c_nin, k_lens, k_lenl, k_lent, k_leno, k_max, k_min, k_int, k_listl, k_listo, k_isi, i_boolb, i_booli, i_int, i_str, i_tup, i_lst, i_loc, st0, st1, st2, st3, sq0, sq1, sq2, sq3, s_tup, s_lst, s_loc, s_str, m_app, r_loc, r_lst, sl_of, rg_of, Glob.isB, and_self, and_true, true_and, bt_name, bt_tup, bn_nil, bn_cons, Option.map_some, List.length_cons, List.length_nil, Nat.reduceAdd, Nat.zero_add, le_sz0, le_sz1, le_sz2, le_sz3, le_sz4, le_sz5, G_isinstance, G_list, G_len, G_str, G_range, G_max, G_min, G_int, G_bool, G_tuple, G_MOST, G_SIGNS, G_alike, G_points, G_around, G_on, G_floor, G_sizes, G_drawn, G_is_in, G_boxes, G_whole, G_mixed, G_cell_at, G_inner, G_around_, G_wide, G_cell, G_checked, E]
  · rintro i d ρ τ hd ⟨⟨r1, r2, r3⟩, rfl⟩
    obtain ⟨rfl, hi⟩ := rangeP_get hd
    refine ⟨_, rfl, ?_⟩
    have g1 := gl ((allPts f i (wideOf rows + 1)).map tup2)
    have kl1 := k_leno g1 hl
    generalize hτ : σ ++ [PO.list ((allPts f i (wideOf rows + 1)).map tup2)] = τ at g1 kl1
    apply out_next
    · (simp (disch := first | assumption | decide | omega) only [e_const, e_name, e_binop, e_not, e_usub, e_boolop, e_cmp, e_call, e_meth, e_slice, es_name, es_const, es_binop, es_call, es_sub, es_tuple, subE_eq, e_list, e_tuple, el_nil, el_cons, et_not, et_boolop, et_name, et_call, et_cmp, et_sub, valT_some, x_expr, x_ret, x_if, xa_nil, xa_one, xa_dict, xa_two, xa_name, xa_const, xa_binop, xa_boolop, xa_unop, xa_cmp, xa_call, xa_sub, xa_tuple, setN_some, xt_call, xt_sub, setT_some, xs_nil, xs_cons, t_nil_and, t_nil_or, t_and, t_or, v_one, v_and, v_or, ite_pair, ite_b, decide_eq_true_eq, beq_iff_eq, upd_str, emp_str, ofString_inj, String.reduceEq, ↓reduceIte, constP, Glob.val?, tyOf, b_add, b_sub, b_mul, b_mod, b_div, b_str, b_lst, c_lt, c_le, c_gt, c_ge, c_eqi, c_nei, c_eqs, c_eqb, c_neb, c_is, c_nin, k_lens, k_lenl, k_lent, k_leno, k_max, k_min, k_int, k_listl, k_listo, k_isi, i_boolb, i_booli, i_int, i_str, i_tup, i_lst, i_loc, st0, st1, st2, st3, sq0, sq1, sq2, sq3, s_tup, s_lst, s_loc, s_str, m_app, r_loc, r_lst, sl_of, rg_of, Glob.isB, and_self, and_true, true_and, bt_name, bt_tup, bn_nil, bn_cons, Option.map_some, List.length_cons, List.length_nil, Nat.reduceAdd, Nat.zero_add, le_sz0, le_sz1, le_sz2, le_sz3, le_sz4, le_sz5, G_isinstance, G_list, G_len, G_str, G_range, G_max, G_min, G_int, G_bool, G_tuple, G_MOST, G_SIGNS, G_alike, G_points, G_around, G_on, G_floor, G_sizes, G_drawn, G_is_in, G_boxes, G_whole, G_mixed, G_cell_at, G_inner, G_around_, G_wide, G_cell, G_checked]) <;> rfl
    refine out_cons (out_mono (K := fun ρ τ' => τ' = τ ∧ E ρ ∧ ρ (Str.ofString "_law_row") = some (.int i) ∧ ρ (Str.ofString "_law_wide") = some (.int (wideOf rows)))
      (out_if (c := decide ((0 : Int) < (rows.length : Int))) (σ₁ := τ) ?_ (fun hc => ?_) fun hc => ?_) ?_ fun _ _ h => h)
    · (simp (disch := first | assumption | decide | omega) only [e_const, e_name, e_binop, e_not, e_usub, e_boolop, e_cmp, e_call, e_meth, e_slice, es_name, es_const, es_binop, es_call, es_sub, es_tuple, subE_eq, e_list, e_tuple, el_nil, el_cons, et_not, et_boolop, et_name, et_call, et_cmp, et_sub, valT_some, x_expr, x_ret, x_if, xa_nil, xa_one, xa_dict, xa_two, xa_name, xa_const, xa_binop, xa_boolop, xa_unop, xa_cmp, xa_call, xa_sub, xa_tuple, setN_some, xt_call, xt_sub, setT_some, xs_nil, xs_cons, t_nil_and, t_nil_or, t_and, t_or, v_one, v_and, v_or, ite_pair, ite_b, decide_eq_true_eq, beq_iff_eq, upd_str, emp_str, ofString_inj, String.reduceEq, ↓reduceIte, constP, Glob.val?, tyOf, b_add, b_sub, b_mul, b_mod, b_div, b_str, b_lst, c_lt, c_le, c_gt, c_ge, c_eqi, c_nei, c_eqs, c_eqb, c_neb, c_is, c_nin, k_lens, k_lenl, k_lent, k_leno, k_max, k_min, k_int, k_listl, k_listo, k_isi, i_boolb, i_booli, i_int, i_str, i_tup, i_lst, i_loc, st0, st1, st2, st3, sq0, sq1, sq2, sq3, s_tup, s_lst, s_loc, s_str, m_app, r_loc, r_lst, sl_of, rg_of, Glob.isB, and_self, and_true, true_and, bt_name, bt_tup, bn_nil, bn_cons, Option.map_some, List.length_cons, List.length_nil, Nat.reduceAdd, Nat.zero_add, le_sz0, le_sz1, le_sz2, le_sz3, le_sz4, le_sz5, G_isinstance, G_list, G_len, G_str, G_range, G_max, G_min, G_int, G_bool, G_tuple, G_MOST, G_SIGNS, G_alike, G_points, G_around, G_on, G_floor, G_sizes, G_drawn, G_is_in, G_boxes, G_whole, G_mixed, G_cell_at, G_inner, G_around_, G_wide, G_cell, G_checked, r1, kl1, List.length_map]) <;> rfl
    · cases rows with
      | nil => simp at hc
      | cons r0 rs =>
        have l0 : r0.length ≤ sizeLine := by simp only [wideOf] at hw; omega
        have sl : subP τ (.loc l) (.int 0) = some (.str r0) := by
          rw [s_loc g1 (by decide) (by simp only [List.length_map, List.length_cons]; omega) hl]; rfl
        apply out_next
        · (simp (disch := first | assumption | decide | omega) only [e_const, e_name, e_binop, e_not, e_usub, e_boolop, e_cmp, e_call, e_meth, e_slice, es_name, es_const, es_binop, es_call, es_sub, es_tuple, subE_eq, e_list, e_tuple, el_nil, el_cons, et_not, et_boolop, et_name, et_call, et_cmp, et_sub, valT_some, x_expr, x_ret, x_if, xa_nil, xa_one, xa_dict, xa_two, xa_name, xa_const, xa_binop, xa_boolop, xa_unop, xa_cmp, xa_call, xa_sub, xa_tuple, setN_some, xt_call, xt_sub, setT_some, xs_nil, xs_cons, t_nil_and, t_nil_or, t_and, t_or, v_one, v_and, v_or, ite_pair, ite_b, decide_eq_true_eq, beq_iff_eq, upd_str, emp_str, ofString_inj, String.reduceEq, ↓reduceIte, constP, Glob.val?, tyOf, b_add, b_sub, b_mul, b_mod, b_div, b_str, b_lst, c_lt, c_le, c_gt, c_ge, c_eqi, c_nei, c_eqs, c_eqb, c_neb, c_is, c_nin, k_lens, k_lenl, k_lent, k_leno, k_max, k_min, k_int, k_listl, k_listo, k_isi, i_boolb, i_booli, i_int, i_str, i_tup, i_lst, i_loc, st0, st1, st2, st3, sq0, sq1, sq2, sq3, s_tup, s_lst, s_loc, s_str, m_app, r_loc, r_lst, sl_of, rg_of, Glob.isB, and_self, and_true, true_and, bt_name, bt_tup, bn_nil, bn_cons, Option.map_some, List.length_cons, List.length_nil, Nat.reduceAdd, Nat.zero_add, le_sz0, le_sz1, le_sz2, le_sz3, le_sz4, le_sz5, G_isinstance, G_list, G_len, G_str, G_range, G_max, G_min, G_int, G_bool, G_tuple, G_MOST, G_SIGNS, G_alike, G_points, G_around, G_on, G_floor, G_sizes, G_drawn, G_is_in, G_boxes, G_whole, G_mixed, G_cell_at, G_inner, G_around_, G_wide, G_cell, G_checked, r1, sl]) <;> rfl
        refine out_nil ⟨rfl, ?_, ?_, ?_⟩
        · simp (disch := first | assumption | decide | omega) only [e_const, e_name, e_binop, e_not, e_usub, e_boolop, e_cmp, e_call, e_meth, e_slice, es_name, es_const, es_binop, es_call, es_sub, es_tuple, subE_eq, e_list, e_tuple, el_nil, el_cons, et_not, et_boolop, et_name, et_call, et_cmp, et_sub, valT_some, x_expr, x_ret, x_if, xa_nil, xa_one, xa_dict, xa_two, xa_name, xa_const, xa_binop, xa_boolop, xa_unop, xa_cmp, xa_call, xa_sub, xa_tuple, setN_some, xt_call, xt_sub, setT_some, xs_nil, xs_cons, t_nil_and, t_nil_or, t_and, t_or, v_one, v_and, v_or, ite_pair, ite_b, decide_eq_true_eq, beq_iff_eq, upd_str, emp_str, ofString_inj, String.reduceEq, ↓reduceIte, constP, Glob.val?, tyOf, b_add, b_sub, b_mul, b_mod, b_div, b_str, b_lst, c_lt, c_le, c_gt, c_ge, c_eqi, c_nei, c_eqs, c_eqb, c_neb, c_is, c_nin, k_lens, k_lenl, k_lent, k_leno, k_max, k_min, k_int, k_listl, k_listo, k_isi, i_boolb, i_booli, i_int, i_str, i_tup, i_lst, i_loc, st0, st1, st2, st3, sq0, sq1, sq2, sq3, s_tup, s_lst, s_loc, s_str, m_app, r_loc, r_lst, sl_of, rg_of, Glob.isB, and_self, and_true, true_and, bt_name, bt_tup, bn_nil, bn_cons, Option.map_some, List.length_cons, List.length_nil, Nat.reduceAdd, Nat.zero_add, le_sz0, le_sz1, le_sz2, le_sz3, le_sz4, le_sz5, G_isinstance, G_list, G_len, G_str, G_range, G_max, G_min, G_int, G_bool, G_tuple, G_MOST, G_SIGNS, G_alike, G_points, G_around, G_on, G_floor, G_sizes, G_drawn, G_is_in, G_boxes, G_whole, G_mixed, G_cell_at, G_inner, G_around_, G_wide, G_cell, G_checked, E, r1, r2, r3]
        · simp (disch := first | assumption | decide | omega) only [e_const, e_name, e_binop, e_not, e_usub, e_boolop, e_cmp, e_call, e_meth, e_slice, es_name, es_const, es_binop, es_call, es_sub, es_tuple, subE_eq, e_list, e_tuple, el_nil, el_cons, et_not, et_boolop, et_name, et_call, et_cmp, et_sub, valT_some, x_expr, x_ret, x_if, xa_nil, xa_one, xa_dict, xa_two, xa_name, xa_const, xa_binop, xa_boolop, xa_unop, xa_cmp, xa_call, xa_sub, xa_tuple, setN_some, xt_call, xt_sub, setT_some, xs_nil, xs_cons, t_nil_and, t_nil_or, t_and, t_or, v_one, v_and, v_or, ite_pair, ite_b, decide_eq_true_eq, beq_iff_eq, upd_str, emp_str, ofString_inj, String.reduceEq, ↓reduceIte, constP, Glob.val?, tyOf, b_add, b_sub, b_mul, b_mod, b_div, b_str, b_lst, c_lt, c_le, c_gt, c_ge, c_eqi, c_nei, c_eqs, c_eqb, c_neb, c_is, c_nin, k_lens, k_lenl, k_lent, k_leno, k_max, k_min, k_int, k_listl, k_listo, k_isi, i_boolb, i_booli, i_int, i_str, i_tup, i_lst, i_loc, st0, st1, st2, st3, sq0, sq1, sq2, sq3, s_tup, s_lst, s_loc, s_str, m_app, r_loc, r_lst, sl_of, rg_of, Glob.isB, and_self, and_true, true_and, bt_name, bt_tup, bn_nil, bn_cons, Option.map_some, List.length_cons, List.length_nil, Nat.reduceAdd, Nat.zero_add, le_sz0, le_sz1, le_sz2, le_sz3, le_sz4, le_sz5, G_isinstance, G_list, G_len, G_str, G_range, G_max, G_min, G_int, G_bool, G_tuple, G_MOST, G_SIGNS, G_alike, G_points, G_around, G_on, G_floor, G_sizes, G_drawn, G_is_in, G_boxes, G_whole, G_mixed, G_cell_at, G_inner, G_around_, G_wide, G_cell, G_checked]
        · simp (disch := first | assumption | decide | omega) only [e_const, e_name, e_binop, e_not, e_usub, e_boolop, e_cmp, e_call, e_meth, e_slice, es_name, es_const, es_binop, es_call, es_sub, es_tuple, subE_eq, e_list, e_tuple, el_nil, el_cons, et_not, et_boolop, et_name, et_call, et_cmp, et_sub, valT_some, x_expr, x_ret, x_if, xa_nil, xa_one, xa_dict, xa_two, xa_name, xa_const, xa_binop, xa_boolop, xa_unop, xa_cmp, xa_call, xa_sub, xa_tuple, setN_some, xt_call, xt_sub, setT_some, xs_nil, xs_cons, t_nil_and, t_nil_or, t_and, t_or, v_one, v_and, v_or, ite_pair, ite_b, decide_eq_true_eq, beq_iff_eq, upd_str, emp_str, ofString_inj, String.reduceEq, ↓reduceIte, constP, Glob.val?, tyOf, b_add, b_sub, b_mul, b_mod, b_div, b_str, b_lst, c_lt, c_le, c_gt, c_ge, c_eqi, c_nei, c_eqs, c_eqb, c_neb, c_is, c_nin, k_lens, k_lenl, k_lent, k_leno, k_max, k_min, k_int, k_listl, k_listo, k_isi, i_boolb, i_booli, i_int, i_str, i_tup, i_lst, i_loc, st0, st1, st2, st3, sq0, sq1, sq2, sq3, s_tup, s_lst, s_loc, s_str, m_app, r_loc, r_lst, sl_of, rg_of, Glob.isB, and_self, and_true, true_and, bt_name, bt_tup, bn_nil, bn_cons, Option.map_some, List.length_cons, List.length_nil, Nat.reduceAdd, Nat.zero_add, le_sz0, le_sz1, le_sz2, le_sz3, le_sz4, le_sz5, G_isinstance, G_list, G_len, G_str, G_range, G_max, G_min, G_int, G_bool, G_tuple, G_MOST, G_SIGNS, G_alike, G_points, G_around, G_on, G_floor, G_sizes, G_drawn, G_is_in, G_boxes, G_whole, G_mixed, G_cell_at, G_inner, G_around_, G_wide, G_cell, G_checked]; rfl
    · have : rows = [] := by
        have := of_decide_eq_false hc
        exact List.eq_nil_of_length_eq_zero (by omega)
      subst this
      refine out_nil ⟨rfl, ?_, ?_, ?_⟩
      · simp (disch := first | assumption | decide | omega) only [e_const, e_name, e_binop, e_not, e_usub, e_boolop, e_cmp, e_call, e_meth, e_slice, es_name, es_const, es_binop, es_call, es_sub, es_tuple, subE_eq, e_list, e_tuple, el_nil, el_cons, et_not, et_boolop, et_name, et_call, et_cmp, et_sub, valT_some, x_expr, x_ret, x_if, xa_nil, xa_one, xa_dict, xa_two, xa_name, xa_const, xa_binop, xa_boolop, xa_unop, xa_cmp, xa_call, xa_sub, xa_tuple, setN_some, xt_call, xt_sub, setT_some, xs_nil, xs_cons, t_nil_and, t_nil_or, t_and, t_or, v_one, v_and, v_or, ite_pair, ite_b, decide_eq_true_eq, beq_iff_eq, upd_str, emp_str, ofString_inj, String.reduceEq, ↓reduceIte, constP, Glob.val?, tyOf, b_add, b_sub, b_mul, b_mod, b_div, b_str, b_lst, c_lt, c_le, c_gt, c_ge, c_eqi, c_nei, c_eqs, c_eqb, c_neb, c_is, c_nin, k_lens, k_lenl, k_lent, k_leno, k_max, k_min, k_int, k_listl, k_listo, k_isi, i_boolb, i_booli, i_int, i_str, i_tup, i_lst, i_loc, st0, st1, st2, st3, sq0, sq1, sq2, sq3, s_tup, s_lst, s_loc, s_str, m_app, r_loc, r_lst, sl_of, rg_of, Glob.isB, and_self, and_true, true_and, bt_name, bt_tup, bn_nil, bn_cons, Option.map_some, List.length_cons, List.length_nil, Nat.reduceAdd, Nat.zero_add, le_sz0, le_sz1, le_sz2, le_sz3, le_sz4, le_sz5, G_isinstance, G_list, G_len, G_str, G_range, G_max, G_min, G_int, G_bool, G_tuple, G_MOST, G_SIGNS, G_alike, G_points, G_around, G_on, G_floor, G_sizes, G_drawn, G_is_in, G_boxes, G_whole, G_mixed, G_cell_at, G_inner, G_around_, G_wide, G_cell, G_checked, E, r1, r2, r3]
      · simp (disch := first | assumption | decide | omega) only [e_const, e_name, e_binop, e_not, e_usub, e_boolop, e_cmp, e_call, e_meth, e_slice, es_name, es_const, es_binop, es_call, es_sub, es_tuple, subE_eq, e_list, e_tuple, el_nil, el_cons, et_not, et_boolop, et_name, et_call, et_cmp, et_sub, valT_some, x_expr, x_ret, x_if, xa_nil, xa_one, xa_dict, xa_two, xa_name, xa_const, xa_binop, xa_boolop, xa_unop, xa_cmp, xa_call, xa_sub, xa_tuple, setN_some, xt_call, xt_sub, setT_some, xs_nil, xs_cons, t_nil_and, t_nil_or, t_and, t_or, v_one, v_and, v_or, ite_pair, ite_b, decide_eq_true_eq, beq_iff_eq, upd_str, emp_str, ofString_inj, String.reduceEq, ↓reduceIte, constP, Glob.val?, tyOf, b_add, b_sub, b_mul, b_mod, b_div, b_str, b_lst, c_lt, c_le, c_gt, c_ge, c_eqi, c_nei, c_eqs, c_eqb, c_neb, c_is, c_nin, k_lens, k_lenl, k_lent, k_leno, k_max, k_min, k_int, k_listl, k_listo, k_isi, i_boolb, i_booli, i_int, i_str, i_tup, i_lst, i_loc, st0, st1, st2, st3, sq0, sq1, sq2, sq3, s_tup, s_lst, s_loc, s_str, m_app, r_loc, r_lst, sl_of, rg_of, Glob.isB, and_self, and_true, true_and, bt_name, bt_tup, bn_nil, bn_cons, Option.map_some, List.length_cons, List.length_nil, Nat.reduceAdd, Nat.zero_add, le_sz0, le_sz1, le_sz2, le_sz3, le_sz4, le_sz5, G_isinstance, G_list, G_len, G_str, G_range, G_max, G_min, G_int, G_bool, G_tuple, G_MOST, G_SIGNS, G_alike, G_points, G_around, G_on, G_floor, G_sizes, G_drawn, G_is_in, G_boxes, G_whole, G_mixed, G_cell_at, G_inner, G_around_, G_wide, G_cell, G_checked]
      · simp (disch := first | assumption | decide | omega) only [e_const, e_name, e_binop, e_not, e_usub, e_boolop, e_cmp, e_call, e_meth, e_slice, es_name, es_const, es_binop, es_call, es_sub, es_tuple, subE_eq, e_list, e_tuple, el_nil, el_cons, et_not, et_boolop, et_name, et_call, et_cmp, et_sub, valT_some, x_expr, x_ret, x_if, xa_nil, xa_one, xa_dict, xa_two, xa_name, xa_const, xa_binop, xa_boolop, xa_unop, xa_cmp, xa_call, xa_sub, xa_tuple, setN_some, xt_call, xt_sub, setT_some, xs_nil, xs_cons, t_nil_and, t_nil_or, t_and, t_or, v_one, v_and, v_or, ite_pair, ite_b, decide_eq_true_eq, beq_iff_eq, upd_str, emp_str, ofString_inj, String.reduceEq, ↓reduceIte, constP, Glob.val?, tyOf, b_add, b_sub, b_mul, b_mod, b_div, b_str, b_lst, c_lt, c_le, c_gt, c_ge, c_eqi, c_nei, c_eqs, c_eqb, c_neb, c_is, c_nin, k_lens, k_lenl, k_lent, k_leno, k_max, k_min, k_int, k_listl, k_listo, k_isi, i_boolb, i_booli, i_int, i_str, i_tup, i_lst, i_loc, st0, st1, st2, st3, sq0, sq1, sq2, sq3, s_tup, s_lst, s_loc, s_str, m_app, r_loc, r_lst, sl_of, rg_of, Glob.isB, and_self, and_true, true_and, bt_name, bt_tup, bn_nil, bn_cons, Option.map_some, List.length_cons, List.length_nil, Nat.reduceAdd, Nat.zero_add, le_sz0, le_sz1, le_sz2, le_sz3, le_sz4, le_sz5, G_isinstance, G_list, G_len, G_str, G_range, G_max, G_min, G_int, G_bool, G_tuple, G_MOST, G_SIGNS, G_alike, G_points, G_around, G_on, G_floor, G_sizes, G_drawn, G_is_in, G_boxes, G_whole, G_mixed, G_cell_at, G_inner, G_around_, G_wide, G_cell, G_checked]; rfl
    rintro ρ τ' ⟨rfl, ⟨r1, r2, r3⟩, r4, r5⟩
    refine out_cons (out_mono (out_for (R := R)
      (for_rng (ds := rangeP 0 ((wideOf rows : Int) + 1) 1) (vs := [.int ((wideOf rows : Int) + 1)]) (σ₁ := τ') (by (simp (disch := first | assumption | decide | omega) only [e_const, e_name, e_binop, e_not, e_usub, e_boolop, e_cmp, e_call, e_meth, e_slice, es_name, es_const, es_binop, es_call, es_sub, es_tuple, subE_eq, e_list, e_tuple, el_nil, el_cons, et_not, et_boolop, et_name, et_call, et_cmp, et_sub, valT_some, x_expr, x_ret, x_if, xa_nil, xa_one, xa_dict, xa_two, xa_name, xa_const, xa_binop, xa_boolop, xa_unop, xa_cmp, xa_call, xa_sub, xa_tuple, setN_some, xt_call, xt_sub, setT_some, xs_nil, xs_cons, t_nil_and, t_nil_or, t_and, t_or, v_one, v_and, v_or, ite_pair, ite_b, decide_eq_true_eq, beq_iff_eq, upd_str, emp_str, ofString_inj, String.reduceEq, ↓reduceIte, constP, Glob.val?, tyOf, b_add, b_sub, b_mul, b_mod, b_div, b_str, b_lst, c_lt, c_le, c_gt, c_ge, c_eqi, c_nei, c_eqs, c_eqb, c_neb, c_is, c_nin, k_lens, k_lenl, k_lent, k_leno, k_max, k_min, k_int, k_listl, k_listo, k_isi, i_boolb, i_booli, i_int, i_str, i_tup, i_lst, i_loc, st0, st1, st2, st3, sq0, sq1, sq2, sq3, s_tup, s_lst, s_loc, s_str, m_app, r_loc, r_lst, sl_of, rg_of, Glob.isB, and_self, and_true, true_and, bt_name, bt_tup, bn_nil, bn_cons, Option.map_some, List.length_cons, List.length_nil, Nat.reduceAdd, Nat.zero_add, le_sz0, le_sz1, le_sz2, le_sz3, le_sz4, le_sz5, G_isinstance, G_list, G_len, G_str, G_range, G_max, G_min, G_int, G_bool, G_tuple, G_MOST, G_SIGNS, G_alike, G_points, G_around, G_on, G_floor, G_sizes, G_drawn, G_is_in, G_boxes, G_whole, G_mixed, G_cell_at, G_inner, G_around_, G_wide, G_cell, G_checked]) <;> rfl) ?_ (range1 (by omega) (by omega)))
      (fun j ρ τ => E ρ ∧ ρ (Str.ofString "_law_row") = some (.int i) ∧ τ = σ ++ [.list ((allPts f i (wideOf rows + 1) ++ rowPts f i j).map tup2)]) ?_ ?_) ?_ fun _ _ h => h)
    · (simp (disch := first | assumption | decide | omega) only [e_const, e_name, e_binop, e_not, e_usub, e_boolop, e_cmp, e_call, e_meth, e_slice, es_name, es_const, es_binop, es_call, es_sub, es_tuple, subE_eq, e_list, e_tuple, el_nil, el_cons, et_not, et_boolop, et_name, et_call, et_cmp, et_sub, valT_some, x_expr, x_ret, x_if, xa_nil, xa_one, xa_dict, xa_two, xa_name, xa_const, xa_binop, xa_boolop, xa_unop, xa_cmp, xa_call, xa_sub, xa_tuple, setN_some, xt_call, xt_sub, setT_some, xs_nil, xs_cons, t_nil_and, t_nil_or, t_and, t_or, v_one, v_and, v_or, ite_pair, ite_b, decide_eq_true_eq, beq_iff_eq, upd_str, emp_str, ofString_inj, String.reduceEq, ↓reduceIte, constP, Glob.val?, tyOf, b_add, b_sub, b_mul, b_mod, b_div, b_str, b_lst, c_lt, c_le, c_gt, c_ge, c_eqi, c_nei, c_eqs, c_eqb, c_neb, c_is, c_nin, k_lens, k_lenl, k_lent, k_leno, k_max, k_min, k_int, k_listl, k_listo, k_isi, i_boolb, i_booli, i_int, i_str, i_tup, i_lst, i_loc, st0, st1, st2, st3, sq0, sq1, sq2, sq3, s_tup, s_lst, s_loc, s_str, m_app, r_loc, r_lst, sl_of, rg_of, Glob.isB, and_self, and_true, true_and, bt_name, bt_tup, bn_nil, bn_cons, Option.map_some, List.length_cons, List.length_nil, Nat.reduceAdd, Nat.zero_add, le_sz0, le_sz1, le_sz2, le_sz3, le_sz4, le_sz5, G_isinstance, G_list, G_len, G_str, G_range, G_max, G_min, G_int, G_bool, G_tuple, G_MOST, G_SIGNS, G_alike, G_points, G_around, G_on, G_floor, G_sizes, G_drawn, G_is_in, G_boxes, G_whole, G_mixed, G_cell_at, G_inner, G_around_, G_wide, G_cell, G_checked, r5]) <;> rfl
    · refine ⟨?_, ?_, ?_⟩
      · simp (disch := first | assumption | decide | omega) only [e_const, e_name, e_binop, e_not, e_usub, e_boolop, e_cmp, e_call, e_meth, e_slice, es_name, es_const, es_binop, es_call, es_sub, es_tuple, subE_eq, e_list, e_tuple, el_nil, el_cons, et_not, et_boolop, et_name, et_call, et_cmp, et_sub, valT_some, x_expr, x_ret, x_if, xa_nil, xa_one, xa_dict, xa_two, xa_name, xa_const, xa_binop, xa_boolop, xa_unop, xa_cmp, xa_call, xa_sub, xa_tuple, setN_some, xt_call, xt_sub, setT_some, xs_nil, xs_cons, t_nil_and, t_nil_or, t_and, t_or, v_one, v_and, v_or, ite_pair, ite_b, decide_eq_true_eq, beq_iff_eq, upd_str, emp_str, ofString_inj, String.reduceEq, ↓reduceIte, constP, Glob.val?, tyOf, b_add, b_sub, b_mul, b_mod, b_div, b_str, b_lst, c_lt, c_le, c_gt, c_ge, c_eqi, c_nei, c_eqs, c_eqb, c_neb, c_is, c_nin, k_lens, k_lenl, k_lent, k_leno, k_max, k_min, k_int, k_listl, k_listo, k_isi, i_boolb, i_booli, i_int, i_str, i_tup, i_lst, i_loc, st0, st1, st2, st3, sq0, sq1, sq2, sq3, s_tup, s_lst, s_loc, s_str, m_app, r_loc, r_lst, sl_of, rg_of, Glob.isB, and_self, and_true, true_and, bt_name, bt_tup, bn_nil, bn_cons, Option.map_some, List.length_cons, List.length_nil, Nat.reduceAdd, Nat.zero_add, le_sz0, le_sz1, le_sz2, le_sz3, le_sz4, le_sz5, G_isinstance, G_list, G_len, G_str, G_range, G_max, G_min, G_int, G_bool, G_tuple, G_MOST, G_SIGNS, G_alike, G_points, G_around, G_on, G_floor, G_sizes, G_drawn, G_is_in, G_boxes, G_whole, G_mixed, G_cell_at, G_inner, G_around_, G_wide, G_cell, G_checked, E, r1, r2, r3]
      · simp (disch := first | assumption | decide | omega) only [e_const, e_name, e_binop, e_not, e_usub, e_boolop, e_cmp, e_call, e_meth, e_slice, es_name, es_const, es_binop, es_call, es_sub, es_tuple, subE_eq, e_list, e_tuple, el_nil, el_cons, et_not, et_boolop, et_name, et_call, et_cmp, et_sub, valT_some, x_expr, x_ret, x_if, xa_nil, xa_one, xa_dict, xa_two, xa_name, xa_const, xa_binop, xa_boolop, xa_unop, xa_cmp, xa_call, xa_sub, xa_tuple, setN_some, xt_call, xt_sub, setT_some, xs_nil, xs_cons, t_nil_and, t_nil_or, t_and, t_or, v_one, v_and, v_or, ite_pair, ite_b, decide_eq_true_eq, beq_iff_eq, upd_str, emp_str, ofString_inj, String.reduceEq, ↓reduceIte, constP, Glob.val?, tyOf, b_add, b_sub, b_mul, b_mod, b_div, b_str, b_lst, c_lt, c_le, c_gt, c_ge, c_eqi, c_nei, c_eqs, c_eqb, c_neb, c_is, c_nin, k_lens, k_lenl, k_lent, k_leno, k_max, k_min, k_int, k_listl, k_listo, k_isi, i_boolb, i_booli, i_int, i_str, i_tup, i_lst, i_loc, st0, st1, st2, st3, sq0, sq1, sq2, sq3, s_tup, s_lst, s_loc, s_str, m_app, r_loc, r_lst, sl_of, rg_of, Glob.isB, and_self, and_true, true_and, bt_name, bt_tup, bn_nil, bn_cons, Option.map_some, List.length_cons, List.length_nil, Nat.reduceAdd, Nat.zero_add, le_sz0, le_sz1, le_sz2, le_sz3, le_sz4, le_sz5, G_isinstance, G_list, G_len, G_str, G_range, G_max, G_min, G_int, G_bool, G_tuple, G_MOST, G_SIGNS, G_alike, G_points, G_around, G_on, G_floor, G_sizes, G_drawn, G_is_in, G_boxes, G_whole, G_mixed, G_cell_at, G_inner, G_around_, G_wide, G_cell, G_checked, r4]
      · rw [← hτ]; show _ = σ ++ [PO.list ((_ ++ []).map tup2)]; rw [List.append_nil]
    · rintro j d ρ τ hd ⟨⟨r1, r2, r3⟩, r4, rfl⟩
      obtain ⟨rfl, hj⟩ := rangeP_get hd
      refine ⟨_, rfl, ?_⟩
      have hln : ((allPts f i (wideOf rows + 1) ++ rowPts f i j).map tup2).length ≤ sizeLine := by
        have h1 := allPts_len f (wideOf rows + 1) i
        have h2 := rowPts_len f i j
        have h3 : i * (wideOf rows + 1) ≤ 31 * 31 := Nat.mul_le_mul (by omega) (by omega)
        rw [List.length_map, List.length_append]; omega
      have hget := get_append_new σ (PO.list ((allPts f i (wideOf rows + 1) ++ rowPts f i j).map tup2))
      have hset := fun y => set_append_new σ (PO.list ((allPts f i (wideOf rows + 1) ++ rowPts f i j).map tup2)) y
      have e4 := fun r c => e3 r c _ (gl ((allPts f i (wideOf rows + 1) ++ rowPts f i j).map tup2))
      refine out_cons (out_mono (out_if (K := fun ρ τ => E ρ ∧ ρ (Str.ofString "_law_row") = some (.int i) ∧ τ = σ ++ [.list ((allPts f i (wideOf rows + 1) ++ rowPts f i (j + 1)).map tup2)]) (c := f i j) (σ₁ := σ ++ [.list ((allPts f i (wideOf rows + 1) ++ rowPts f i j).map tup2)]) ?_ (fun hc => ?_) fun hc => ?_) ?_ fun _ _ h => h)
      · (simp (disch := first | assumption | decide | omega) only [e_const, e_name, e_binop, e_not, e_usub, e_boolop, e_cmp, e_call, e_meth, e_slice, es_name, es_const, es_binop, es_call, es_sub, es_tuple, subE_eq, e_list, e_tuple, el_nil, el_cons, et_not, et_boolop, et_name, et_call, et_cmp, et_sub, valT_some, x_expr, x_ret, x_if, xa_nil, xa_one, xa_dict, xa_two, xa_name, xa_const, xa_binop, xa_boolop, xa_unop, xa_cmp, xa_call, xa_sub, xa_tuple, setN_some, xt_call, xt_sub, setT_some, xs_nil, xs_cons, t_nil_and, t_nil_or, t_and, t_or, v_one, v_and, v_or, ite_pair, ite_b, decide_eq_true_eq, beq_iff_eq, upd_str, emp_str, ofString_inj, String.reduceEq, ↓reduceIte, constP, Glob.val?, tyOf, b_add, b_sub, b_mul, b_mod, b_div, b_str, b_lst, c_lt, c_le, c_gt, c_ge, c_eqi, c_nei, c_eqs, c_eqb, c_neb, c_is, c_nin, k_lens, k_lenl, k_lent, k_leno, k_max, k_min, k_int, k_listl, k_listo, k_isi, i_boolb, i_booli, i_int, i_str, i_tup, i_lst, i_loc, st0, st1, st2, st3, sq0, sq1, sq2, sq3, s_tup, s_lst, s_loc, s_str, m_app, r_loc, r_lst, sl_of, rg_of, Glob.isB, and_self, and_true, true_and, bt_name, bt_tup, bn_nil, bn_cons, Option.map_some, List.length_cons, List.length_nil, Nat.reduceAdd, Nat.zero_add, le_sz0, le_sz1, le_sz2, le_sz3, le_sz4, le_sz5, G_isinstance, G_list, G_len, G_str, G_range, G_max, G_min, G_int, G_bool, G_tuple, G_MOST, G_SIGNS, G_alike, G_points, G_around, G_on, G_floor, G_sizes, G_drawn, G_is_in, G_boxes, G_whole, G_mixed, G_cell_at, G_inner, G_around_, G_wide, G_cell, G_checked, r1, r2, r4, e4]) <;> rfl
      · apply out_next
        · (simp (disch := first | assumption | decide | omega) only [e_const, e_name, e_binop, e_not, e_usub, e_boolop, e_cmp, e_call, e_meth, e_slice, es_name, es_const, es_binop, es_call, es_sub, es_tuple, subE_eq, e_list, e_tuple, el_nil, el_cons, et_not, et_boolop, et_name, et_call, et_cmp, et_sub, valT_some, x_expr, x_ret, x_if, xa_nil, xa_one, xa_dict, xa_two, xa_name, xa_const, xa_binop, xa_boolop, xa_unop, xa_cmp, xa_call, xa_sub, xa_tuple, setN_some, xt_call, xt_sub, setT_some, xs_nil, xs_cons, t_nil_and, t_nil_or, t_and, t_or, v_one, v_and, v_or, ite_pair, ite_b, decide_eq_true_eq, beq_iff_eq, upd_str, emp_str, ofString_inj, String.reduceEq, ↓reduceIte, constP, Glob.val?, tyOf, b_add, b_sub, b_mul, b_mod, b_div, b_str, b_lst, c_lt, c_le, c_gt, c_ge, c_eqi, c_nei, c_eqs, c_eqb, c_neb, c_is, c_nin, k_lens, k_lenl, k_lent, k_leno, k_max, k_min, k_int, k_listl, k_listo, k_isi, i_boolb, i_booli, i_int, i_str, i_tup, i_lst, i_loc, st0, st1, st2, st3, sq0, sq1, sq2, sq3, s_tup, s_lst, s_loc, s_str, m_app, r_loc, r_lst, sl_of, rg_of, Glob.isB, and_self, and_true, true_and, bt_name, bt_tup, bn_nil, bn_cons, Option.map_some, List.length_cons, List.length_nil, Nat.reduceAdd, Nat.zero_add, le_sz0, le_sz1, le_sz2, le_sz3, le_sz4, le_sz5, G_isinstance, G_list, G_len, G_str, G_range, G_max, G_min, G_int, G_bool, G_tuple, G_MOST, G_SIGNS, G_alike, G_points, G_around, G_on, G_floor, G_sizes, G_drawn, G_is_in, G_boxes, G_whole, G_mixed, G_cell_at, G_inner, G_around_, G_wide, G_cell, G_checked, r3, r4, r_loc hget, m_app hget hln, hset]) <;> rfl
        refine out_nil ⟨?_, ?_, ?_⟩
        · simp (disch := first | assumption | decide | omega) only [e_const, e_name, e_binop, e_not, e_usub, e_boolop, e_cmp, e_call, e_meth, e_slice, es_name, es_const, es_binop, es_call, es_sub, es_tuple, subE_eq, e_list, e_tuple, el_nil, el_cons, et_not, et_boolop, et_name, et_call, et_cmp, et_sub, valT_some, x_expr, x_ret, x_if, xa_nil, xa_one, xa_dict, xa_two, xa_name, xa_const, xa_binop, xa_boolop, xa_unop, xa_cmp, xa_call, xa_sub, xa_tuple, setN_some, xt_call, xt_sub, setT_some, xs_nil, xs_cons, t_nil_and, t_nil_or, t_and, t_or, v_one, v_and, v_or, ite_pair, ite_b, decide_eq_true_eq, beq_iff_eq, upd_str, emp_str, ofString_inj, String.reduceEq, ↓reduceIte, constP, Glob.val?, tyOf, b_add, b_sub, b_mul, b_mod, b_div, b_str, b_lst, c_lt, c_le, c_gt, c_ge, c_eqi, c_nei, c_eqs, c_eqb, c_neb, c_is, c_nin, k_lens, k_lenl, k_lent, k_leno, k_max, k_min, k_int, k_listl, k_listo, k_isi, i_boolb, i_booli, i_int, i_str, i_tup, i_lst, i_loc, st0, st1, st2, st3, sq0, sq1, sq2, sq3, s_tup, s_lst, s_loc, s_str, m_app, r_loc, r_lst, sl_of, rg_of, Glob.isB, and_self, and_true, true_and, bt_name, bt_tup, bn_nil, bn_cons, Option.map_some, List.length_cons, List.length_nil, Nat.reduceAdd, Nat.zero_add, le_sz0, le_sz1, le_sz2, le_sz3, le_sz4, le_sz5, G_isinstance, G_list, G_len, G_str, G_range, G_max, G_min, G_int, G_bool, G_tuple, G_MOST, G_SIGNS, G_alike, G_points, G_around, G_on, G_floor, G_sizes, G_drawn, G_is_in, G_boxes, G_whole, G_mixed, G_cell_at, G_inner, G_around_, G_wide, G_cell, G_checked, E, r1, r2, r3]
        · simp (disch := first | assumption | decide | omega) only [e_const, e_name, e_binop, e_not, e_usub, e_boolop, e_cmp, e_call, e_meth, e_slice, es_name, es_const, es_binop, es_call, es_sub, es_tuple, subE_eq, e_list, e_tuple, el_nil, el_cons, et_not, et_boolop, et_name, et_call, et_cmp, et_sub, valT_some, x_expr, x_ret, x_if, xa_nil, xa_one, xa_dict, xa_two, xa_name, xa_const, xa_binop, xa_boolop, xa_unop, xa_cmp, xa_call, xa_sub, xa_tuple, setN_some, xt_call, xt_sub, setT_some, xs_nil, xs_cons, t_nil_and, t_nil_or, t_and, t_or, v_one, v_and, v_or, ite_pair, ite_b, decide_eq_true_eq, beq_iff_eq, upd_str, emp_str, ofString_inj, String.reduceEq, ↓reduceIte, constP, Glob.val?, tyOf, b_add, b_sub, b_mul, b_mod, b_div, b_str, b_lst, c_lt, c_le, c_gt, c_ge, c_eqi, c_nei, c_eqs, c_eqb, c_neb, c_is, c_nin, k_lens, k_lenl, k_lent, k_leno, k_max, k_min, k_int, k_listl, k_listo, k_isi, i_boolb, i_booli, i_int, i_str, i_tup, i_lst, i_loc, st0, st1, st2, st3, sq0, sq1, sq2, sq3, s_tup, s_lst, s_loc, s_str, m_app, r_loc, r_lst, sl_of, rg_of, Glob.isB, and_self, and_true, true_and, bt_name, bt_tup, bn_nil, bn_cons, Option.map_some, List.length_cons, List.length_nil, Nat.reduceAdd, Nat.zero_add, le_sz0, le_sz1, le_sz2, le_sz3, le_sz4, le_sz5, G_isinstance, G_list, G_len, G_str, G_range, G_max, G_min, G_int, G_bool, G_tuple, G_MOST, G_SIGNS, G_alike, G_points, G_around, G_on, G_floor, G_sizes, G_drawn, G_is_in, G_boxes, G_whole, G_mixed, G_cell_at, G_inner, G_around_, G_wide, G_cell, G_checked, r4]
        · rw [rowPts_succ, if_pos hc, ← List.append_assoc]; simp only [List.map_append, List.map_cons, List.map_nil]; rfl
      · refine out_nil ⟨?_, ?_, ?_⟩
        · simp (disch := first | assumption | decide | omega) only [e_const, e_name, e_binop, e_not, e_usub, e_boolop, e_cmp, e_call, e_meth, e_slice, es_name, es_const, es_binop, es_call, es_sub, es_tuple, subE_eq, e_list, e_tuple, el_nil, el_cons, et_not, et_boolop, et_name, et_call, et_cmp, et_sub, valT_some, x_expr, x_ret, x_if, xa_nil, xa_one, xa_dict, xa_two, xa_name, xa_const, xa_binop, xa_boolop, xa_unop, xa_cmp, xa_call, xa_sub, xa_tuple, setN_some, xt_call, xt_sub, setT_some, xs_nil, xs_cons, t_nil_and, t_nil_or, t_and, t_or, v_one, v_and, v_or, ite_pair, ite_b, decide_eq_true_eq, beq_iff_eq, upd_str, emp_str, ofString_inj, String.reduceEq, ↓reduceIte, constP, Glob.val?, tyOf, b_add, b_sub, b_mul, b_mod, b_div, b_str, b_lst, c_lt, c_le, c_gt, c_ge, c_eqi, c_nei, c_eqs, c_eqb, c_neb, c_is, c_nin, k_lens, k_lenl, k_lent, k_leno, k_max, k_min, k_int, k_listl, k_listo, k_isi, i_boolb, i_booli, i_int, i_str, i_tup, i_lst, i_loc, st0, st1, st2, st3, sq0, sq1, sq2, sq3, s_tup, s_lst, s_loc, s_str, m_app, r_loc, r_lst, sl_of, rg_of, Glob.isB, and_self, and_true, true_and, bt_name, bt_tup, bn_nil, bn_cons, Option.map_some, List.length_cons, List.length_nil, Nat.reduceAdd, Nat.zero_add, le_sz0, le_sz1, le_sz2, le_sz3, le_sz4, le_sz5, G_isinstance, G_list, G_len, G_str, G_range, G_max, G_min, G_int, G_bool, G_tuple, G_MOST, G_SIGNS, G_alike, G_points, G_around, G_on, G_floor, G_sizes, G_drawn, G_is_in, G_boxes, G_whole, G_mixed, G_cell_at, G_inner, G_around_, G_wide, G_cell, G_checked, E, r1, r2, r3]
        · simp (disch := first | assumption | decide | omega) only [e_const, e_name, e_binop, e_not, e_usub, e_boolop, e_cmp, e_call, e_meth, e_slice, es_name, es_const, es_binop, es_call, es_sub, es_tuple, subE_eq, e_list, e_tuple, el_nil, el_cons, et_not, et_boolop, et_name, et_call, et_cmp, et_sub, valT_some, x_expr, x_ret, x_if, xa_nil, xa_one, xa_dict, xa_two, xa_name, xa_const, xa_binop, xa_boolop, xa_unop, xa_cmp, xa_call, xa_sub, xa_tuple, setN_some, xt_call, xt_sub, setT_some, xs_nil, xs_cons, t_nil_and, t_nil_or, t_and, t_or, v_one, v_and, v_or, ite_pair, ite_b, decide_eq_true_eq, beq_iff_eq, upd_str, emp_str, ofString_inj, String.reduceEq, ↓reduceIte, constP, Glob.val?, tyOf, b_add, b_sub, b_mul, b_mod, b_div, b_str, b_lst, c_lt, c_le, c_gt, c_ge, c_eqi, c_nei, c_eqs, c_eqb, c_neb, c_is, c_nin, k_lens, k_lenl, k_lent, k_leno, k_max, k_min, k_int, k_listl, k_listo, k_isi, i_boolb, i_booli, i_int, i_str, i_tup, i_lst, i_loc, st0, st1, st2, st3, sq0, sq1, sq2, sq3, s_tup, s_lst, s_loc, s_str, m_app, r_loc, r_lst, sl_of, rg_of, Glob.isB, and_self, and_true, true_and, bt_name, bt_tup, bn_nil, bn_cons, Option.map_some, List.length_cons, List.length_nil, Nat.reduceAdd, Nat.zero_add, le_sz0, le_sz1, le_sz2, le_sz3, le_sz4, le_sz5, G_isinstance, G_list, G_len, G_str, G_range, G_max, G_min, G_int, G_bool, G_tuple, G_MOST, G_SIGNS, G_alike, G_points, G_around, G_on, G_floor, G_sizes, G_drawn, G_is_in, G_boxes, G_whole, G_mixed, G_cell_at, G_inner, G_around_, G_wide, G_cell, G_checked, r4]
        · rw [rowPts_succ, if_neg (by rw [hc]; decide), List.append_nil]
      · rintro ρ τ h
        exact out_nil h
    · rintro ρ τ ⟨h1, h2, h3⟩
      refine out_nil ⟨h1, ?_⟩
      rw [h3, rangeP_len, allPts_succ, show ((wideOf rows : Int) + 1).toNat = wideOf rows + 1 by omega]
  · rintro ρ τ ⟨⟨r1, r2, r3⟩, h3⟩
    rw [rangeP_len, show ((rows.length : Int) + 1).toNat = rows.length + 1 by omega] at h3
    subst h3
    apply out_ret
    · (simp (disch := first | assumption | decide | omega) only [e_const, e_name, e_binop, e_not, e_usub, e_boolop, e_cmp, e_call, e_meth, e_slice, es_name, es_const, es_binop, es_call, es_sub, es_tuple, subE_eq, e_list, e_tuple, el_nil, el_cons, et_not, et_boolop, et_name, et_call, et_cmp, et_sub, valT_some, x_expr, x_ret, x_if, xa_nil, xa_one, xa_dict, xa_two, xa_name, xa_const, xa_binop, xa_boolop, xa_unop, xa_cmp, xa_call, xa_sub, xa_tuple, setN_some, xt_call, xt_sub, setT_some, xs_nil, xs_cons, t_nil_and, t_nil_or, t_and, t_or, v_one, v_and, v_or, ite_pair, ite_b, decide_eq_true_eq, beq_iff_eq, upd_str, emp_str, ofString_inj, String.reduceEq, ↓reduceIte, constP, Glob.val?, tyOf, b_add, b_sub, b_mul, b_mod, b_div, b_str, b_lst, c_lt, c_le, c_gt, c_ge, c_eqi, c_nei, c_eqs, c_eqb, c_neb, c_is, c_nin, k_lens, k_lenl, k_lent, k_leno, k_max, k_min, k_int, k_listl, k_listo, k_isi, i_boolb, i_booli, i_int, i_str, i_tup, i_lst, i_loc, st0, st1, st2, st3, sq0, sq1, sq2, sq3, s_tup, s_lst, s_loc, s_str, m_app, r_loc, r_lst, sl_of, rg_of, Glob.isB, and_self, and_true, true_and, bt_name, bt_tup, bn_nil, bn_cons, Option.map_some, List.length_cons, List.length_nil, Nat.reduceAdd, Nat.zero_add, le_sz0, le_sz1, le_sz2, le_sz3, le_sz4, le_sz5, G_isinstance, G_list, G_len, G_str, G_range, G_max, G_min, G_int, G_bool, G_tuple, G_MOST, G_SIGNS, G_alike, G_points, G_around, G_on, G_floor, G_sizes, G_drawn, G_is_in, G_boxes, G_whole, G_mixed, G_cell_at, G_inner, G_around_, G_wide, G_cell, G_checked, r3]) <;> rfl
    · exact ⟨rfl, rfl⟩
end

section
variable (hwho : ∀ (i : Int) (σ : Store), Φ (Str.ofString "_law_whole") [.int i] σ = some (.bool true, σ))
include hwho
theorem alike_run {ps : List (Int × Int)} {a b : Nat} (ha : σ[a]? = some (.list (ps.map tup2))) (hb : σ[b]? = some (.list (ps.map tup2))) (hp : ps.length ≤ 961) : interpF Φ Gl (dOf pw "_law_alike") [.loc a, .loc b] σ = some (.bool true, σ) := by
  have hs := sz
  refine run_eq (by kernel_rfl) ?_
  change Out (execSs Φ Gl (_ :: _ :: _) (bindP [_, _] _) σ) _ _
  rw [bindP2]
  have hl : (ps.map tup2).length ≤ sizeLine := by rw [List.length_map]; omega
  have ka := k_leno ha hl
  have kb := k_leno hb hl
  have ia := i_loc ha
  apply out_next
  · (simp (disch := first | assumption | decide | omega) only [e_const, e_name, e_binop, e_not, e_usub, e_boolop, e_cmp, e_call, e_meth, e_slice, es_name, es_const, es_binop, es_call, es_sub, es_tuple, subE_eq, e_list, e_tuple, el_nil, el_cons, et_not, et_boolop, et_name, et_call, et_cmp, et_sub, valT_some, x_expr, x_ret, x_if, xa_nil, xa_one, xa_dict, xa_two, xa_name, xa_const, xa_binop, xa_boolop, xa_unop, xa_cmp, xa_call, xa_sub, xa_tuple, setN_some, xt_call, xt_sub, setT_some, xs_nil, xs_cons, t_nil_and, t_nil_or, t_and, t_or, v_one, v_and, v_or, ite_pair, ite_b, decide_eq_true_eq, beq_iff_eq, upd_str, emp_str, ofString_inj, String.reduceEq, ↓reduceIte, constP, Glob.val?, tyOf, b_add, b_sub, b_mul, b_mod, b_div, b_str, b_lst, c_lt, c_le, c_gt, c_ge, c_eqi, c_nei, c_eqs, c_eqb, c_neb, c_is, c_nin, k_lens, k_lenl, k_lent, k_leno, k_max, k_min, k_int, k_listl, k_listo, k_isi, i_boolb, i_booli, i_int, i_str, i_tup, i_lst, i_loc, st0, st1, st2, st3, sq0, sq1, sq2, sq3, s_tup, s_lst, s_loc, s_str, m_app, r_loc, r_lst, sl_of, rg_of, Glob.isB, and_self, and_true, true_and, bt_name, bt_tup, bn_nil, bn_cons, Option.map_some, List.length_cons, List.length_nil, Nat.reduceAdd, Nat.zero_add, le_sz0, le_sz1, le_sz2, le_sz3, le_sz4, le_sz5, G_isinstance, G_list, G_len, G_str, G_range, G_max, G_min, G_int, G_bool, G_tuple, G_MOST, G_SIGNS, G_alike, G_points, G_around, G_on, G_floor, G_sizes, G_drawn, G_is_in, G_boxes, G_whole, G_mixed, G_cell_at, G_inner, G_around_, G_wide, G_cell, G_checked, ka, kb, ia, Bool.not_true, Bool.false_eq_true, beq_self_eq_true]) <;> rfl
  refine out_cons (out_mono (out_for (R := fun u τ => u = .bool true ∧ τ = σ)
    (for_rng (ds := rangeP 0 (ps.length : Int) 1) (vs := [.int (ps.length : Int)]) (σ₁ := σ) (by (simp (disch := first | assumption | decide | omega) only [e_const, e_name, e_binop, e_not, e_usub, e_boolop, e_cmp, e_call, e_meth, e_slice, es_name, es_const, es_binop, es_call, es_sub, es_tuple, subE_eq, e_list, e_tuple, el_nil, el_cons, et_not, et_boolop, et_name, et_call, et_cmp, et_sub, valT_some, x_expr, x_ret, x_if, xa_nil, xa_one, xa_dict, xa_two, xa_name, xa_const, xa_binop, xa_boolop, xa_unop, xa_cmp, xa_call, xa_sub, xa_tuple, setN_some, xt_call, xt_sub, setT_some, xs_nil, xs_cons, t_nil_and, t_nil_or, t_and, t_or, v_one, v_and, v_or, ite_pair, ite_b, decide_eq_true_eq, beq_iff_eq, upd_str, emp_str, ofString_inj, String.reduceEq, ↓reduceIte, constP, Glob.val?, tyOf, b_add, b_sub, b_mul, b_mod, b_div, b_str, b_lst, c_lt, c_le, c_gt, c_ge, c_eqi, c_nei, c_eqs, c_eqb, c_neb, c_is, c_nin, k_lens, k_lenl, k_lent, k_leno, k_max, k_min, k_int, k_listl, k_listo, k_isi, i_boolb, i_booli, i_int, i_str, i_tup, i_lst, i_loc, st0, st1, st2, st3, sq0, sq1, sq2, sq3, s_tup, s_lst, s_loc, s_str, m_app, r_loc, r_lst, sl_of, rg_of, Glob.isB, and_self, and_true, true_and, bt_name, bt_tup, bn_nil, bn_cons, Option.map_some, List.length_cons, List.length_nil, Nat.reduceAdd, Nat.zero_add, le_sz0, le_sz1, le_sz2, le_sz3, le_sz4, le_sz5, G_isinstance, G_list, G_len, G_str, G_range, G_max, G_min, G_int, G_bool, G_tuple, G_MOST, G_SIGNS, G_alike, G_points, G_around, G_on, G_floor, G_sizes, G_drawn, G_is_in, G_boxes, G_whole, G_mixed, G_cell_at, G_inner, G_around_, G_wide, G_cell, G_checked]) <;> rfl) ?_ (range1 (by omega) (by omega)))
    (fun i ρ τ => τ = σ ∧ ρ (Str.ofString "_law_told") = some (.loc a) ∧ ρ (Str.ofString "_law_due") = some (.loc b) ∧ ρ (Str.ofString "tuple") = none) ?_ ?_) ?_ fun _ _ h => h)
  · (simp (disch := first | assumption | decide | omega) only [e_const, e_name, e_binop, e_not, e_usub, e_boolop, e_cmp, e_call, e_meth, e_slice, es_name, es_const, es_binop, es_call, es_sub, es_tuple, subE_eq, e_list, e_tuple, el_nil, el_cons, et_not, et_boolop, et_name, et_call, et_cmp, et_sub, valT_some, x_expr, x_ret, x_if, xa_nil, xa_one, xa_dict, xa_two, xa_name, xa_const, xa_binop, xa_boolop, xa_unop, xa_cmp, xa_call, xa_sub, xa_tuple, setN_some, xt_call, xt_sub, setT_some, xs_nil, xs_cons, t_nil_and, t_nil_or, t_and, t_or, v_one, v_and, v_or, ite_pair, ite_b, decide_eq_true_eq, beq_iff_eq, upd_str, emp_str, ofString_inj, String.reduceEq, ↓reduceIte, constP, Glob.val?, tyOf, b_add, b_sub, b_mul, b_mod, b_div, b_str, b_lst, c_lt, c_le, c_gt, c_ge, c_eqi, c_nei, c_eqs, c_eqb, c_neb, c_is, c_nin, k_lens, k_lenl, k_lent, k_leno, k_max, k_min, k_int, k_listl, k_listo, k_isi, i_boolb, i_booli, i_int, i_str, i_tup, i_lst, i_loc, st0, st1, st2, st3, sq0, sq1, sq2, sq3, s_tup, s_lst, s_loc, s_str, m_app, r_loc, r_lst, sl_of, rg_of, Glob.isB, and_self, and_true, true_and, bt_name, bt_tup, bn_nil, bn_cons, Option.map_some, List.length_cons, List.length_nil, Nat.reduceAdd, Nat.zero_add, le_sz0, le_sz1, le_sz2, le_sz3, le_sz4, le_sz5, G_isinstance, G_list, G_len, G_str, G_range, G_max, G_min, G_int, G_bool, G_tuple, G_MOST, G_SIGNS, G_alike, G_points, G_around, G_on, G_floor, G_sizes, G_drawn, G_is_in, G_boxes, G_whole, G_mixed, G_cell_at, G_inner, G_around_, G_wide, G_cell, G_checked, kb, List.length_map]) <;> rfl
  · refine ⟨rfl, ?_, ?_, ?_⟩
    · simp (disch := first | assumption | decide | omega) only [e_const, e_name, e_binop, e_not, e_usub, e_boolop, e_cmp, e_call, e_meth, e_slice, es_name, es_const, es_binop, es_call, es_sub, es_tuple, subE_eq, e_list, e_tuple, el_nil, el_cons, et_not, et_boolop, et_name, et_call, et_cmp, et_sub, valT_some, x_expr, x_ret, x_if, xa_nil, xa_one, xa_dict, xa_two, xa_name, xa_const, xa_binop, xa_boolop, xa_unop, xa_cmp, xa_call, xa_sub, xa_tuple, setN_some, xt_call, xt_sub, setT_some, xs_nil, xs_cons, t_nil_and, t_nil_or, t_and, t_or, v_one, v_and, v_or, ite_pair, ite_b, decide_eq_true_eq, beq_iff_eq, upd_str, emp_str, ofString_inj, String.reduceEq, ↓reduceIte, constP, Glob.val?, tyOf, b_add, b_sub, b_mul, b_mod, b_div, b_str, b_lst, c_lt, c_le, c_gt, c_ge, c_eqi, c_nei, c_eqs, c_eqb, c_neb, c_is, c_nin, k_lens, k_lenl, k_lent, k_leno, k_max, k_min, k_int, k_listl, k_listo, k_isi, i_boolb, i_booli, i_int, i_str, i_tup, i_lst, i_loc, st0, st1, st2, st3, sq0, sq1, sq2, sq3, s_tup, s_lst, s_loc, s_str, m_app, r_loc, r_lst, sl_of, rg_of, Glob.isB, and_self, and_true, true_and, bt_name, bt_tup, bn_nil, bn_cons, Option.map_some, List.length_cons, List.length_nil, Nat.reduceAdd, Nat.zero_add, le_sz0, le_sz1, le_sz2, le_sz3, le_sz4, le_sz5, G_isinstance, G_list, G_len, G_str, G_range, G_max, G_min, G_int, G_bool, G_tuple, G_MOST, G_SIGNS, G_alike, G_points, G_around, G_on, G_floor, G_sizes, G_drawn, G_is_in, G_boxes, G_whole, G_mixed, G_cell_at, G_inner, G_around_, G_wide, G_cell, G_checked]
    · simp (disch := first | assumption | decide | omega) only [e_const, e_name, e_binop, e_not, e_usub, e_boolop, e_cmp, e_call, e_meth, e_slice, es_name, es_const, es_binop, es_call, es_sub, es_tuple, subE_eq, e_list, e_tuple, el_nil, el_cons, et_not, et_boolop, et_name, et_call, et_cmp, et_sub, valT_some, x_expr, x_ret, x_if, xa_nil, xa_one, xa_dict, xa_two, xa_name, xa_const, xa_binop, xa_boolop, xa_unop, xa_cmp, xa_call, xa_sub, xa_tuple, setN_some, xt_call, xt_sub, setT_some, xs_nil, xs_cons, t_nil_and, t_nil_or, t_and, t_or, v_one, v_and, v_or, ite_pair, ite_b, decide_eq_true_eq, beq_iff_eq, upd_str, emp_str, ofString_inj, String.reduceEq, ↓reduceIte, constP, Glob.val?, tyOf, b_add, b_sub, b_mul, b_mod, b_div, b_str, b_lst, c_lt, c_le, c_gt, c_ge, c_eqi, c_nei, c_eqs, c_eqb, c_neb, c_is, c_nin, k_lens, k_lenl, k_lent, k_leno, k_max, k_min, k_int, k_listl, k_listo, k_isi, i_boolb, i_booli, i_int, i_str, i_tup, i_lst, i_loc, st0, st1, st2, st3, sq0, sq1, sq2, sq3, s_tup, s_lst, s_loc, s_str, m_app, r_loc, r_lst, sl_of, rg_of, Glob.isB, and_self, and_true, true_and, bt_name, bt_tup, bn_nil, bn_cons, Option.map_some, List.length_cons, List.length_nil, Nat.reduceAdd, Nat.zero_add, le_sz0, le_sz1, le_sz2, le_sz3, le_sz4, le_sz5, G_isinstance, G_list, G_len, G_str, G_range, G_max, G_min, G_int, G_bool, G_tuple, G_MOST, G_SIGNS, G_alike, G_points, G_around, G_on, G_floor, G_sizes, G_drawn, G_is_in, G_boxes, G_whole, G_mixed, G_cell_at, G_inner, G_around_, G_wide, G_cell, G_checked]
    · simp (disch := first | assumption | decide | omega) only [e_const, e_name, e_binop, e_not, e_usub, e_boolop, e_cmp, e_call, e_meth, e_slice, es_name, es_const, es_binop, es_call, es_sub, es_tuple, subE_eq, e_list, e_tuple, el_nil, el_cons, et_not, et_boolop, et_name, et_call, et_cmp, et_sub, valT_some, x_expr, x_ret, x_if, xa_nil, xa_one, xa_dict, xa_two, xa_name, xa_const, xa_binop, xa_boolop, xa_unop, xa_cmp, xa_call, xa_sub, xa_tuple, setN_some, xt_call, xt_sub, setT_some, xs_nil, xs_cons, t_nil_and, t_nil_or, t_and, t_or, v_one, v_and, v_or, ite_pair, ite_b, decide_eq_true_eq, beq_iff_eq, upd_str, emp_str, ofString_inj, String.reduceEq, ↓reduceIte, constP, Glob.val?, tyOf, b_add, b_sub, b_mul, b_mod, b_div, b_str, b_lst, c_lt, c_le, c_gt, c_ge, c_eqi, c_nei, c_eqs, c_eqb, c_neb, c_is, c_nin, k_lens, k_lenl, k_lent, k_leno, k_max, k_min, k_int, k_listl, k_listo, k_isi, i_boolb, i_booli, i_int, i_str, i_tup, i_lst, i_loc, st0, st1, st2, st3, sq0, sq1, sq2, sq3, s_tup, s_lst, s_loc, s_str, m_app, r_loc, r_lst, sl_of, rg_of, Glob.isB, and_self, and_true, true_and, bt_name, bt_tup, bn_nil, bn_cons, Option.map_some, List.length_cons, List.length_nil, Nat.reduceAdd, Nat.zero_add, le_sz0, le_sz1, le_sz2, le_sz3, le_sz4, le_sz5, G_isinstance, G_list, G_len, G_str, G_range, G_max, G_min, G_int, G_bool, G_tuple, G_MOST, G_SIGNS, G_alike, G_points, G_around, G_on, G_floor, G_sizes, G_drawn, G_is_in, G_boxes, G_whole, G_mixed, G_cell_at, G_inner, G_around_, G_wide, G_cell, G_checked]
  · rintro i d ρ τ hd ⟨rfl, r1, r2, n1⟩
    obtain ⟨rfl, hi⟩ := rangeP_get hd
    refine ⟨_, rfl, ?_⟩
    have hlt : (i : Int) < (ps.map tup2).length := by rw [List.length_map]; exact hi
    have hi' : i < ps.length := by omega
    have gi : (ps.map tup2)[(i : Int).toNat]? = some (.tup [.int (ps[i]'hi').1, .int (ps[i]'hi').2]) := by
      rw [Int.toNat_natCast, List.getElem?_map, List.getElem?_eq_getElem hi']; rfl
    generalize (ps[i]'hi').1 = p1 at gi
    generalize (ps[i]'hi').2 = p2 at gi
    have sa : subP τ (.loc a) (.int i) = some (.tup [.int p1, .int p2]) := by rw [s_loc ha (by omega) hlt hl, gi]
    have sb : subP τ (.loc b) (.int i) = some (.tup [.int p1, .int p2]) := by rw [s_loc hb (by omega) hlt hl, gi]
    have w1 := hwho p1 τ
    have w2 := hwho p2 τ
    apply out_next
    · (simp (disch := first | assumption | decide | omega) only [e_const, e_name, e_binop, e_not, e_usub, e_boolop, e_cmp, e_call, e_meth, e_slice, es_name, es_const, es_binop, es_call, es_sub, es_tuple, subE_eq, e_list, e_tuple, el_nil, el_cons, et_not, et_boolop, et_name, et_call, et_cmp, et_sub, valT_some, x_expr, x_ret, x_if, xa_nil, xa_one, xa_dict, xa_two, xa_name, xa_const, xa_binop, xa_boolop, xa_unop, xa_cmp, xa_call, xa_sub, xa_tuple, setN_some, xt_call, xt_sub, setT_some, xs_nil, xs_cons, t_nil_and, t_nil_or, t_and, t_or, v_one, v_and, v_or, ite_pair, ite_b, decide_eq_true_eq, beq_iff_eq, upd_str, emp_str, ofString_inj, String.reduceEq, ↓reduceIte, constP, Glob.val?, tyOf, b_add, b_sub, b_mul, b_mod, b_div, b_str, b_lst, c_lt, c_le, c_gt, c_ge, c_eqi, c_nei, c_eqs, c_eqb, c_neb, c_is, c_nin, k_lens, k_lenl, k_lent, k_leno, k_max, k_min, k_int, k_listl, k_listo, k_isi, i_boolb, i_booli, i_int, i_str, i_tup, i_lst, i_loc, st0, st1, st2, st3, sq0, sq1, sq2, sq3, s_tup, s_lst, s_loc, s_str, m_app, r_loc, r_lst, sl_of, rg_of, Glob.isB, and_self, and_true, true_and, bt_name, bt_tup, bn_nil, bn_cons, Option.map_some, List.length_cons, List.length_nil, Nat.reduceAdd, Nat.zero_add, le_sz0, le_sz1, le_sz2, le_sz3, le_sz4, le_sz5, G_isinstance, G_list, G_len, G_str, G_range, G_max, G_min, G_int, G_bool, G_tuple, G_MOST, G_SIGNS, G_alike, G_points, G_around, G_on, G_floor, G_sizes, G_drawn, G_is_in, G_boxes, G_whole, G_mixed, G_cell_at, G_inner, G_around_, G_wide, G_cell, G_checked, r1, n1, sa, w1, Bool.not_true, Bool.false_eq_true, beq_self_eq_true, k_len2]) <;> rfl
    apply out_next
    · (simp (disch := first | assumption | decide | omega) only [e_const, e_name, e_binop, e_not, e_usub, e_boolop, e_cmp, e_call, e_meth, e_slice, es_name, es_const, es_binop, es_call, es_sub, es_tuple, subE_eq, e_list, e_tuple, el_nil, el_cons, et_not, et_boolop, et_name, et_call, et_cmp, et_sub, valT_some, x_expr, x_ret, x_if, xa_nil, xa_one, xa_dict, xa_two, xa_name, xa_const, xa_binop, xa_boolop, xa_unop, xa_cmp, xa_call, xa_sub, xa_tuple, setN_some, xt_call, xt_sub, setT_some, xs_nil, xs_cons, t_nil_and, t_nil_or, t_and, t_or, v_one, v_and, v_or, ite_pair, ite_b, decide_eq_true_eq, beq_iff_eq, upd_str, emp_str, ofString_inj, String.reduceEq, ↓reduceIte, constP, Glob.val?, tyOf, b_add, b_sub, b_mul, b_mod, b_div, b_str, b_lst, c_lt, c_le, c_gt, c_ge, c_eqi, c_nei, c_eqs, c_eqb, c_neb, c_is, c_nin, k_lens, k_lenl, k_lent, k_leno, k_max, k_min, k_int, k_listl, k_listo, k_isi, i_boolb, i_booli, i_int, i_str, i_tup, i_lst, i_loc, st0, st1, st2, st3, sq0, sq1, sq2, sq3, s_tup, s_lst, s_loc, s_str, m_app, r_loc, r_lst, sl_of, rg_of, Glob.isB, and_self, and_true, true_and, bt_name, bt_tup, bn_nil, bn_cons, Option.map_some, List.length_cons, List.length_nil, Nat.reduceAdd, Nat.zero_add, le_sz0, le_sz1, le_sz2, le_sz3, le_sz4, le_sz5, G_isinstance, G_list, G_len, G_str, G_range, G_max, G_min, G_int, G_bool, G_tuple, G_MOST, G_SIGNS, G_alike, G_points, G_around, G_on, G_floor, G_sizes, G_drawn, G_is_in, G_boxes, G_whole, G_mixed, G_cell_at, G_inner, G_around_, G_wide, G_cell, G_checked, r1, r2, sa, sb, w2, c_netup, Bool.not_true, Bool.false_eq_true]) <;> rfl
    refine out_nil ⟨rfl, ?_, ?_, ?_⟩
    · simp (disch := first | assumption | decide | omega) only [e_const, e_name, e_binop, e_not, e_usub, e_boolop, e_cmp, e_call, e_meth, e_slice, es_name, es_const, es_binop, es_call, es_sub, es_tuple, subE_eq, e_list, e_tuple, el_nil, el_cons, et_not, et_boolop, et_name, et_call, et_cmp, et_sub, valT_some, x_expr, x_ret, x_if, xa_nil, xa_one, xa_dict, xa_two, xa_name, xa_const, xa_binop, xa_boolop, xa_unop, xa_cmp, xa_call, xa_sub, xa_tuple, setN_some, xt_call, xt_sub, setT_some, xs_nil, xs_cons, t_nil_and, t_nil_or, t_and, t_or, v_one, v_and, v_or, ite_pair, ite_b, decide_eq_true_eq, beq_iff_eq, upd_str, emp_str, ofString_inj, String.reduceEq, ↓reduceIte, constP, Glob.val?, tyOf, b_add, b_sub, b_mul, b_mod, b_div, b_str, b_lst, c_lt, c_le, c_gt, c_ge, c_eqi, c_nei, c_eqs, c_eqb, c_neb, c_is, c_nin, k_lens, k_lenl, k_lent, k_leno, k_max, k_min, k_int, k_listl, k_listo, k_isi, i_boolb, i_booli, i_int, i_str, i_tup, i_lst, i_loc, st0, st1, st2, st3, sq0, sq1, sq2, sq3, s_tup, s_lst, s_loc, s_str, m_app, r_loc, r_lst, sl_of, rg_of, Glob.isB, and_self, and_true, true_and, bt_name, bt_tup, bn_nil, bn_cons, Option.map_some, List.length_cons, List.length_nil, Nat.reduceAdd, Nat.zero_add, le_sz0, le_sz1, le_sz2, le_sz3, le_sz4, le_sz5, G_isinstance, G_list, G_len, G_str, G_range, G_max, G_min, G_int, G_bool, G_tuple, G_MOST, G_SIGNS, G_alike, G_points, G_around, G_on, G_floor, G_sizes, G_drawn, G_is_in, G_boxes, G_whole, G_mixed, G_cell_at, G_inner, G_around_, G_wide, G_cell, G_checked, r1]
    · simp (disch := first | assumption | decide | omega) only [e_const, e_name, e_binop, e_not, e_usub, e_boolop, e_cmp, e_call, e_meth, e_slice, es_name, es_const, es_binop, es_call, es_sub, es_tuple, subE_eq, e_list, e_tuple, el_nil, el_cons, et_not, et_boolop, et_name, et_call, et_cmp, et_sub, valT_some, x_expr, x_ret, x_if, xa_nil, xa_one, xa_dict, xa_two, xa_name, xa_const, xa_binop, xa_boolop, xa_unop, xa_cmp, xa_call, xa_sub, xa_tuple, setN_some, xt_call, xt_sub, setT_some, xs_nil, xs_cons, t_nil_and, t_nil_or, t_and, t_or, v_one, v_and, v_or, ite_pair, ite_b, decide_eq_true_eq, beq_iff_eq, upd_str, emp_str, ofString_inj, String.reduceEq, ↓reduceIte, constP, Glob.val?, tyOf, b_add, b_sub, b_mul, b_mod, b_div, b_str, b_lst, c_lt, c_le, c_gt, c_ge, c_eqi, c_nei, c_eqs, c_eqb, c_neb, c_is, c_nin, k_lens, k_lenl, k_lent, k_leno, k_max, k_min, k_int, k_listl, k_listo, k_isi, i_boolb, i_booli, i_int, i_str, i_tup, i_lst, i_loc, st0, st1, st2, st3, sq0, sq1, sq2, sq3, s_tup, s_lst, s_loc, s_str, m_app, r_loc, r_lst, sl_of, rg_of, Glob.isB, and_self, and_true, true_and, bt_name, bt_tup, bn_nil, bn_cons, Option.map_some, List.length_cons, List.length_nil, Nat.reduceAdd, Nat.zero_add, le_sz0, le_sz1, le_sz2, le_sz3, le_sz4, le_sz5, G_isinstance, G_list, G_len, G_str, G_range, G_max, G_min, G_int, G_bool, G_tuple, G_MOST, G_SIGNS, G_alike, G_points, G_around, G_on, G_floor, G_sizes, G_drawn, G_is_in, G_boxes, G_whole, G_mixed, G_cell_at, G_inner, G_around_, G_wide, G_cell, G_checked, r2]
    · simp (disch := first | assumption | decide | omega) only [e_const, e_name, e_binop, e_not, e_usub, e_boolop, e_cmp, e_call, e_meth, e_slice, es_name, es_const, es_binop, es_call, es_sub, es_tuple, subE_eq, e_list, e_tuple, el_nil, el_cons, et_not, et_boolop, et_name, et_call, et_cmp, et_sub, valT_some, x_expr, x_ret, x_if, xa_nil, xa_one, xa_dict, xa_two, xa_name, xa_const, xa_binop, xa_boolop, xa_unop, xa_cmp, xa_call, xa_sub, xa_tuple, setN_some, xt_call, xt_sub, setT_some, xs_nil, xs_cons, t_nil_and, t_nil_or, t_and, t_or, v_one, v_and, v_or, ite_pair, ite_b, decide_eq_true_eq, beq_iff_eq, upd_str, emp_str, ofString_inj, String.reduceEq, ↓reduceIte, constP, Glob.val?, tyOf, b_add, b_sub, b_mul, b_mod, b_div, b_str, b_lst, c_lt, c_le, c_gt, c_ge, c_eqi, c_nei, c_eqs, c_eqb, c_neb, c_is, c_nin, k_lens, k_lenl, k_lent, k_leno, k_max, k_min, k_int, k_listl, k_listo, k_isi, i_boolb, i_booli, i_int, i_str, i_tup, i_lst, i_loc, st0, st1, st2, st3, sq0, sq1, sq2, sq3, s_tup, s_lst, s_loc, s_str, m_app, r_loc, r_lst, sl_of, rg_of, Glob.isB, and_self, and_true, true_and, bt_name, bt_tup, bn_nil, bn_cons, Option.map_some, List.length_cons, List.length_nil, Nat.reduceAdd, Nat.zero_add, le_sz0, le_sz1, le_sz2, le_sz3, le_sz4, le_sz5, G_isinstance, G_list, G_len, G_str, G_range, G_max, G_min, G_int, G_bool, G_tuple, G_MOST, G_SIGNS, G_alike, G_points, G_around, G_on, G_floor, G_sizes, G_drawn, G_is_in, G_boxes, G_whole, G_mixed, G_cell_at, G_inner, G_around_, G_wide, G_cell, G_checked, n1]
  · rintro ρ τ ⟨rfl, _⟩
    apply out_ret
    · (simp (disch := first | assumption | decide | omega) only [e_const, e_name, e_binop, e_not, e_usub, e_boolop, e_cmp, e_call, e_meth, e_slice, es_name, es_const, es_binop, es_call, es_sub, es_tuple, subE_eq, e_list, e_tuple, el_nil, el_cons, et_not, et_boolop, et_name, et_call, et_cmp, et_sub, valT_some, x_expr, x_ret, x_if, xa_nil, xa_one, xa_dict, xa_two, xa_name, xa_const, xa_binop, xa_boolop, xa_unop, xa_cmp, xa_call, xa_sub, xa_tuple, setN_some, xt_call, xt_sub, setT_some, xs_nil, xs_cons, t_nil_and, t_nil_or, t_and, t_or, v_one, v_and, v_or, ite_pair, ite_b, decide_eq_true_eq, beq_iff_eq, upd_str, emp_str, ofString_inj, String.reduceEq, ↓reduceIte, constP, Glob.val?, tyOf, b_add, b_sub, b_mul, b_mod, b_div, b_str, b_lst, c_lt, c_le, c_gt, c_ge, c_eqi, c_nei, c_eqs, c_eqb, c_neb, c_is, c_nin, k_lens, k_lenl, k_lent, k_leno, k_max, k_min, k_int, k_listl, k_listo, k_isi, i_boolb, i_booli, i_int, i_str, i_tup, i_lst, i_loc, st0, st1, st2, st3, sq0, sq1, sq2, sq3, s_tup, s_lst, s_loc, s_str, m_app, r_loc, r_lst, sl_of, rg_of, Glob.isB, and_self, and_true, true_and, bt_name, bt_tup, bn_nil, bn_cons, Option.map_some, List.length_cons, List.length_nil, Nat.reduceAdd, Nat.zero_add, le_sz0, le_sz1, le_sz2, le_sz3, le_sz4, le_sz5, G_isinstance, G_list, G_len, G_str, G_range, G_max, G_min, G_int, G_bool, G_tuple, G_MOST, G_SIGNS, G_alike, G_points, G_around, G_on, G_floor, G_sizes, G_drawn, G_is_in, G_boxes, G_whole, G_mixed, G_cell_at, G_inner, G_around_, G_wide, G_cell, G_checked]) <;> rfl
    · exact ⟨rfl, rfl⟩
end

section
variable (hfloor : ∀ (ns : List Int) (σ : Store), ns.length ≤ 63 → ∃ (bs : List (Int × Int × Int × Int)) (rows : List Str), Φ (Str.ofString "_law_floor") [.lst (ns.map .int), .int 30] σ = some (.loc (σ.length + 1), σ ++ [.list (bs.map tup4), .list (rows.map .str)]) ∧ Good rows)
variable (hpts : ∀ (rows : List Str) (l : Nat) (many : Int) (σ : Store), Good rows → σ[l]? = some (.list (rows.map .str)) → Φ (Str.ofString "_law_points") [.loc l, .int many] σ = some (.loc σ.length, σ ++ [.list ((ptsOf rows many).map tup2)]))
variable (hinn : ∀ (rows : List Str) (σ : Store), Good rows → Φ (Str.ofString "inner") [.lst (rows.map .str)] σ = some (.loc σ.length, σ ++ [.list ((ptsOf rows 3).map tup2)]))
variable (hali : ∀ (ps : List (Int × Int)) (a b : Nat) (σ : Store), σ[a]? = some (.list (ps.map tup2)) → σ[b]? = some (.list (ps.map tup2)) → ps.length ≤ 961 → Φ (Str.ofString "_law_alike") [.loc a, .loc b] σ = some (.bool true, σ))
include hfloor hpts hinn hali
theorem law_run {ns : List Int} (hl : ns.length ≤ 63) : ∃ σ', interpF Φ Gl (dOf pw "law") [.lst (ns.map .int)] [] = some (.bool true, σ') := by
  have hs := sz
  suffices hh : Out (execSs Φ Gl (dOf pw "law").body (bindP ((dOf pw "law").params.args.map (·.arg)) [.lst (ns.map .int)]) []) No (fun u τ => u = .bool true) by
    obtain ⟨v, τ, e, rfl⟩ := out_run (by kernel_rfl) hh
    exact ⟨τ, e⟩
  change Out (execSs Φ Gl (_ :: _ :: _) (bindP [_] _) []) _ _
  rw [bindP1]
  obtain ⟨bs, rows, e1, hg⟩ := hfloor ns [] hl
  obtain ⟨h30, w, w30, hrow⟩ := id hg
  have lr : (rows.map PV.str).length ≤ sizeLine := by rw [List.length_map]; omega
  have e2 := hpts rows 1 3 [.list (bs.map tup4), .list (rows.map .str)] hg rfl
  have lp := ptsOf_len hg 3
  have lp' : ((ptsOf rows 3).map tup2).length ≤ sizeLine := by rw [List.length_map]; omega
  have hin := fun σ => hinn rows σ hg
  generalize ptsOf rows 3 = ps at e2 lp lp' hin
  have e3 := hin [.list (bs.map tup4), .list (rows.map .str), .list (ps.map tup2)]
  have e4 := hali ps 3 2 [.list (bs.map tup4), .list (rows.map .str), .list (ps.map tup2), .list (ps.map tup2)] rfl rfl lp
  have e5 := hin [.list (bs.map tup4), .list (rows.map .str), .list (ps.map tup2), .list (ps.map tup2 ++ [.tup [.int 0, .int 0]])]
  have e6 := hali ps 4 2 [.list (bs.map tup4), .list (rows.map .str), .list (ps.map tup2), .list (ps.map tup2 ++ [.tup [.int 0, .int 0]]), .list (ps.map tup2)] rfl rfl lp
  have kl := k_listo (σ := [.list (bs.map tup4), .list (rows.map .str), .list (ps.map tup2)]) (i := 1) rfl lr
  have ma := m_app (σ := [.list (bs.map tup4), .list (rows.map .str), .list (ps.map tup2), .list (ps.map tup2)]) (i := 3) (d := .tup [.int 0, .int 0]) rfl lp'
  have rl := r_loc (σ := [.list (bs.map tup4), .list (rows.map .str), .list (ps.map tup2), .list (ps.map tup2)]) (i := 3) rfl
  have ce := c_eqrows (σ := [.list (bs.map tup4), .list (rows.map .str), .list (ps.map tup2), .list (ps.map tup2 ++ [.tup [.int 0, .int 0]]), .list (ps.map tup2)]) (i := 1) rfl hrow
  simp only [List.nil_append, List.cons_append, List.length_cons, List.length_nil, Nat.zero_add, Nat.reduceAdd] at e1 e2 e3 e4 e5 e6
  simp only [List.set_cons_succ, List.set_cons_zero] at ma
  apply out_next
  · (simp (disch := first | assumption | decide | omega) only [e_const, e_name, e_binop, e_not, e_usub, e_boolop, e_cmp, e_call, e_meth, e_slice, es_name, es_const, es_binop, es_call, es_sub, es_tuple, subE_eq, e_list, e_tuple, el_nil, el_cons, et_not, et_boolop, et_name, et_call, et_cmp, et_sub, valT_some, x_expr, x_ret, x_if, xa_nil, xa_one, xa_dict, xa_two, xa_name, xa_const, xa_binop, xa_boolop, xa_unop, xa_cmp, xa_call, xa_sub, xa_tuple, setN_some, xt_call, xt_sub, setT_some, xs_nil, xs_cons, t_nil_and, t_nil_or, t_and, t_or, v_one, v_and, v_or, ite_pair, ite_b, decide_eq_true_eq, beq_iff_eq, upd_str, emp_str, ofString_inj, String.reduceEq, ↓reduceIte, constP, Glob.val?, tyOf, b_add, b_sub, b_mul, b_mod, b_div, b_str, b_lst, c_lt, c_le, c_gt, c_ge, c_eqi, c_nei, c_eqs, c_eqb, c_neb, c_is, c_nin, k_lens, k_lenl, k_lent, k_leno, k_max, k_min, k_int, k_listl, k_listo, k_isi, i_boolb, i_booli, i_int, i_str, i_tup, i_lst, i_loc, st0, st1, st2, st3, sq0, sq1, sq2, sq3, s_tup, s_lst, s_loc, s_str, m_app, r_loc, r_lst, sl_of, rg_of, Glob.isB, and_self, and_true, true_and, bt_name, bt_tup, bn_nil, bn_cons, Option.map_some, List.length_cons, List.length_nil, Nat.reduceAdd, Nat.zero_add, le_sz0, le_sz1, le_sz2, le_sz3, le_sz4, le_sz5, G_isinstance, G_list, G_len, G_str, G_range, G_max, G_min, G_int, G_bool, G_tuple, G_MOST, G_SIGNS, G_alike, G_points, G_around, G_on, G_floor, G_sizes, G_drawn, G_is_in, G_boxes, G_whole, G_mixed, G_cell_at, G_inner, G_around_, G_wide, G_cell, G_checked, e1]) <;> rfl
  apply out_next
  · (simp (disch := first | assumption | decide | omega) only [e_const, e_name, e_binop, e_not, e_usub, e_boolop, e_cmp, e_call, e_meth, e_slice, es_name, es_const, es_binop, es_call, es_sub, es_tuple, subE_eq, e_list, e_tuple, el_nil, el_cons, et_not, et_boolop, et_name, et_call, et_cmp, et_sub, valT_some, x_expr, x_ret, x_if, xa_nil, xa_one, xa_dict, xa_two, xa_name, xa_const, xa_binop, xa_boolop, xa_unop, xa_cmp, xa_call, xa_sub, xa_tuple, setN_some, xt_call, xt_sub, setT_some, xs_nil, xs_cons, t_nil_and, t_nil_or, t_and, t_or, v_one, v_and, v_or, ite_pair, ite_b, decide_eq_true_eq, beq_iff_eq, upd_str, emp_str, ofString_inj, String.reduceEq, ↓reduceIte, constP, Glob.val?, tyOf, b_add, b_sub, b_mul, b_mod, b_div, b_str, b_lst, c_lt, c_le, c_gt, c_ge, c_eqi, c_nei, c_eqs, c_eqb, c_neb, c_is, c_nin, k_lens, k_lenl, k_lent, k_leno, k_max, k_min, k_int, k_listl, k_listo, k_isi, i_boolb, i_booli, i_int, i_str, i_tup, i_lst, i_loc, st0, st1, st2, st3, sq0, sq1, sq2, sq3, s_tup, s_lst, s_loc, s_str, m_app, r_loc, r_lst, sl_of, rg_of, Glob.isB, and_self, and_true, true_and, bt_name, bt_tup, bn_nil, bn_cons, Option.map_some, List.length_cons, List.length_nil, Nat.reduceAdd, Nat.zero_add, le_sz0, le_sz1, le_sz2, le_sz3, le_sz4, le_sz5, G_isinstance, G_list, G_len, G_str, G_range, G_max, G_min, G_int, G_bool, G_tuple, G_MOST, G_SIGNS, G_alike, G_points, G_around, G_on, G_floor, G_sizes, G_drawn, G_is_in, G_boxes, G_whole, G_mixed, G_cell_at, G_inner, G_around_, G_wide, G_cell, G_checked, e2]) <;> rfl
  apply out_next
  · (simp (disch := first | assumption | decide | omega) only [e_const, e_name, e_binop, e_not, e_usub, e_boolop, e_cmp, e_call, e_meth, e_slice, es_name, es_const, es_binop, es_call, es_sub, es_tuple, subE_eq, e_list, e_tuple, el_nil, el_cons, et_not, et_boolop, et_name, et_call, et_cmp, et_sub, valT_some, x_expr, x_ret, x_if, xa_nil, xa_one, xa_dict, xa_two, xa_name, xa_const, xa_binop, xa_boolop, xa_unop, xa_cmp, xa_call, xa_sub, xa_tuple, setN_some, xt_call, xt_sub, setT_some, xs_nil, xs_cons, t_nil_and, t_nil_or, t_and, t_or, v_one, v_and, v_or, ite_pair, ite_b, decide_eq_true_eq, beq_iff_eq, upd_str, emp_str, ofString_inj, String.reduceEq, ↓reduceIte, constP, Glob.val?, tyOf, b_add, b_sub, b_mul, b_mod, b_div, b_str, b_lst, c_lt, c_le, c_gt, c_ge, c_eqi, c_nei, c_eqs, c_eqb, c_neb, c_is, c_nin, k_lens, k_lenl, k_lent, k_leno, k_max, k_min, k_int, k_listl, k_listo, k_isi, i_boolb, i_booli, i_int, i_str, i_tup, i_lst, i_loc, st0, st1, st2, st3, sq0, sq1, sq2, sq3, s_tup, s_lst, s_loc, s_str, m_app, r_loc, r_lst, sl_of, rg_of, Glob.isB, and_self, and_true, true_and, bt_name, bt_tup, bn_nil, bn_cons, Option.map_some, List.length_cons, List.length_nil, Nat.reduceAdd, Nat.zero_add, le_sz0, le_sz1, le_sz2, le_sz3, le_sz4, le_sz5, G_isinstance, G_list, G_len, G_str, G_range, G_max, G_min, G_int, G_bool, G_tuple, G_MOST, G_SIGNS, G_alike, G_points, G_around, G_on, G_floor, G_sizes, G_drawn, G_is_in, G_boxes, G_whole, G_mixed, G_cell_at, G_inner, G_around_, G_wide, G_cell, G_checked, kl]) <;> rfl
  apply out_next
  · (simp (disch := first | assumption | decide | omega) only [e_const, e_name, e_binop, e_not, e_usub, e_boolop, e_cmp, e_call, e_meth, e_slice, es_name, es_const, es_binop, es_call, es_sub, es_tuple, subE_eq, e_list, e_tuple, el_nil, el_cons, et_not, et_boolop, et_name, et_call, et_cmp, et_sub, valT_some, x_expr, x_ret, x_if, xa_nil, xa_one, xa_dict, xa_two, xa_name, xa_const, xa_binop, xa_boolop, xa_unop, xa_cmp, xa_call, xa_sub, xa_tuple, setN_some, xt_call, xt_sub, setT_some, xs_nil, xs_cons, t_nil_and, t_nil_or, t_and, t_or, v_one, v_and, v_or, ite_pair, ite_b, decide_eq_true_eq, beq_iff_eq, upd_str, emp_str, ofString_inj, String.reduceEq, ↓reduceIte, constP, Glob.val?, tyOf, b_add, b_sub, b_mul, b_mod, b_div, b_str, b_lst, c_lt, c_le, c_gt, c_ge, c_eqi, c_nei, c_eqs, c_eqb, c_neb, c_is, c_nin, k_lens, k_lenl, k_lent, k_leno, k_max, k_min, k_int, k_listl, k_listo, k_isi, i_boolb, i_booli, i_int, i_str, i_tup, i_lst, i_loc, st0, st1, st2, st3, sq0, sq1, sq2, sq3, s_tup, s_lst, s_loc, s_str, m_app, r_loc, r_lst, sl_of, rg_of, Glob.isB, and_self, and_true, true_and, bt_name, bt_tup, bn_nil, bn_cons, Option.map_some, List.length_cons, List.length_nil, Nat.reduceAdd, Nat.zero_add, le_sz0, le_sz1, le_sz2, le_sz3, le_sz4, le_sz5, G_isinstance, G_list, G_len, G_str, G_range, G_max, G_min, G_int, G_bool, G_tuple, G_MOST, G_SIGNS, G_alike, G_points, G_around, G_on, G_floor, G_sizes, G_drawn, G_is_in, G_boxes, G_whole, G_mixed, G_cell_at, G_inner, G_around_, G_wide, G_cell, G_checked, e3]) <;> rfl
  apply out_next
  · (simp (disch := first | assumption | decide | omega) only [e_const, e_name, e_binop, e_not, e_usub, e_boolop, e_cmp, e_call, e_meth, e_slice, es_name, es_const, es_binop, es_call, es_sub, es_tuple, subE_eq, e_list, e_tuple, el_nil, el_cons, et_not, et_boolop, et_name, et_call, et_cmp, et_sub, valT_some, x_expr, x_ret, x_if, xa_nil, xa_one, xa_dict, xa_two, xa_name, xa_const, xa_binop, xa_boolop, xa_unop, xa_cmp, xa_call, xa_sub, xa_tuple, setN_some, xt_call, xt_sub, setT_some, xs_nil, xs_cons, t_nil_and, t_nil_or, t_and, t_or, v_one, v_and, v_or, ite_pair, ite_b, decide_eq_true_eq, beq_iff_eq, upd_str, emp_str, ofString_inj, String.reduceEq, ↓reduceIte, constP, Glob.val?, tyOf, b_add, b_sub, b_mul, b_mod, b_div, b_str, b_lst, c_lt, c_le, c_gt, c_ge, c_eqi, c_nei, c_eqs, c_eqb, c_neb, c_is, c_nin, k_lens, k_lenl, k_lent, k_leno, k_max, k_min, k_int, k_listl, k_listo, k_isi, i_boolb, i_booli, i_int, i_str, i_tup, i_lst, i_loc, st0, st1, st2, st3, sq0, sq1, sq2, sq3, s_tup, s_lst, s_loc, s_str, m_app, r_loc, r_lst, sl_of, rg_of, Glob.isB, and_self, and_true, true_and, bt_name, bt_tup, bn_nil, bn_cons, Option.map_some, List.length_cons, List.length_nil, Nat.reduceAdd, Nat.zero_add, le_sz0, le_sz1, le_sz2, le_sz3, le_sz4, le_sz5, G_isinstance, G_list, G_len, G_str, G_range, G_max, G_min, G_int, G_bool, G_tuple, G_MOST, G_SIGNS, G_alike, G_points, G_around, G_on, G_floor, G_sizes, G_drawn, G_is_in, G_boxes, G_whole, G_mixed, G_cell_at, G_inner, G_around_, G_wide, G_cell, G_checked, e4, Bool.not_true, Bool.false_eq_true]) <;> rfl
  apply out_next
  · (simp (disch := first | assumption | decide | omega) only [e_const, e_name, e_binop, e_not, e_usub, e_boolop, e_cmp, e_call, e_meth, e_slice, es_name, es_const, es_binop, es_call, es_sub, es_tuple, subE_eq, e_list, e_tuple, el_nil, el_cons, et_not, et_boolop, et_name, et_call, et_cmp, et_sub, valT_some, x_expr, x_ret, x_if, xa_nil, xa_one, xa_dict, xa_two, xa_name, xa_const, xa_binop, xa_boolop, xa_unop, xa_cmp, xa_call, xa_sub, xa_tuple, setN_some, xt_call, xt_sub, setT_some, xs_nil, xs_cons, t_nil_and, t_nil_or, t_and, t_or, v_one, v_and, v_or, ite_pair, ite_b, decide_eq_true_eq, beq_iff_eq, upd_str, emp_str, ofString_inj, String.reduceEq, ↓reduceIte, constP, Glob.val?, tyOf, b_add, b_sub, b_mul, b_mod, b_div, b_str, b_lst, c_lt, c_le, c_gt, c_ge, c_eqi, c_nei, c_eqs, c_eqb, c_neb, c_is, c_nin, k_lens, k_lenl, k_lent, k_leno, k_max, k_min, k_int, k_listl, k_listo, k_isi, i_boolb, i_booli, i_int, i_str, i_tup, i_lst, i_loc, st0, st1, st2, st3, sq0, sq1, sq2, sq3, s_tup, s_lst, s_loc, s_str, m_app, r_loc, r_lst, sl_of, rg_of, Glob.isB, and_self, and_true, true_and, bt_name, bt_tup, bn_nil, bn_cons, Option.map_some, List.length_cons, List.length_nil, Nat.reduceAdd, Nat.zero_add, le_sz0, le_sz1, le_sz2, le_sz3, le_sz4, le_sz5, G_isinstance, G_list, G_len, G_str, G_range, G_max, G_min, G_int, G_bool, G_tuple, G_MOST, G_SIGNS, G_alike, G_points, G_around, G_on, G_floor, G_sizes, G_drawn, G_is_in, G_boxes, G_whole, G_mixed, G_cell_at, G_inner, G_around_, G_wide, G_cell, G_checked, rl, ma]) <;> rfl
  apply out_ret
  · (simp (disch := first | assumption | decide | omega) only [e_const, e_name, e_binop, e_not, e_usub, e_boolop, e_cmp, e_call, e_meth, e_slice, es_name, es_const, es_binop, es_call, es_sub, es_tuple, subE_eq, e_list, e_tuple, el_nil, el_cons, et_not, et_boolop, et_name, et_call, et_cmp, et_sub, valT_some, x_expr, x_ret, x_if, xa_nil, xa_one, xa_dict, xa_two, xa_name, xa_const, xa_binop, xa_boolop, xa_unop, xa_cmp, xa_call, xa_sub, xa_tuple, setN_some, xt_call, xt_sub, setT_some, xs_nil, xs_cons, t_nil_and, t_nil_or, t_and, t_or, v_one, v_and, v_or, ite_pair, ite_b, decide_eq_true_eq, beq_iff_eq, upd_str, emp_str, ofString_inj, String.reduceEq, ↓reduceIte, constP, Glob.val?, tyOf, b_add, b_sub, b_mul, b_mod, b_div, b_str, b_lst, c_lt, c_le, c_gt, c_ge, c_eqi, c_nei, c_eqs, c_eqb, c_neb, c_is, c_nin, k_lens, k_lenl, k_lent, k_leno, k_max, k_min, k_int, k_listl, k_listo, k_isi, i_boolb, i_booli, i_int, i_str, i_tup, i_lst, i_loc, st0, st1, st2, st3, sq0, sq1, sq2, sq3, s_tup, s_lst, s_loc, s_str, m_app, r_loc, r_lst, sl_of, rg_of, Glob.isB, and_self, and_true, true_and, bt_name, bt_tup, bn_nil, bn_cons, Option.map_some, List.length_cons, List.length_nil, Nat.reduceAdd, Nat.zero_add, le_sz0, le_sz1, le_sz2, le_sz3, le_sz4, le_sz5, G_isinstance, G_list, G_len, G_str, G_range, G_max, G_min, G_int, G_bool, G_tuple, G_MOST, G_SIGNS, G_alike, G_points, G_around, G_on, G_floor, G_sizes, G_drawn, G_is_in, G_boxes, G_whole, G_mixed, G_cell_at, G_inner, G_around_, G_wide, G_cell, G_checked, e5, e6, ce]) <;> rfl
  · rfl
end
end

/-! the table -/
theorem phi_law : ∀ ns : List Int, ns.length ≤ 63 → ∃ σ', Phi Gl pw fnNames (Str.ofString "law") [.lst (ns.map .int)] [] = some (.bool true, σ') := by
  intro ns hl
  unfold fnNames
  rw [show Phi Gl pw ["law", "_law_alike", "_law_points", "_law_around", "_law_on", "_law_floor", "_law_sizes", "_law_drawn", "_law_is_in", "_law_boxes", "_law_whole", "_law_mixed", "_law_cell_at", "inner", "around", "wide", "cell", "checked"] (Str.ofString "law") = interpF (Phi Gl pw ["_law_alike", "_law_points", "_law_around", "_law_on", "_law_floor", "_law_sizes", "_law_drawn", "_law_is_in", "_law_boxes", "_law_whole", "_law_mixed", "_law_cell_at", "inner", "around", "wide", "cell", "checked"]) Gl (dOf pw "law") from phi_at [] "law" ["_law_alike", "_law_points", "_law_around", "_law_on", "_law_floor", "_law_sizes", "_law_drawn", "_law_is_in", "_law_boxes", "_law_whole", "_law_mixed", "_law_cell_at", "inner", "around", "wide", "cell", "checked"] rfl]
  refine law_run ?_ ?_ ?_ ?_ hl
  · intro ns σ hl
    rw [show Phi Gl pw ["_law_alike", "_law_points", "_law_around", "_law_on", "_law_floor", "_law_sizes", "_law_drawn", "_law_is_in", "_law_boxes", "_law_whole", "_law_mixed", "_law_cell_at", "inner", "around", "wide", "cell", "checked"] (Str.ofString "_law_floor") = interpF (Phi Gl pw ["_law_sizes", "_law_drawn", "_law_is_in", "_law_boxes", "_law_whole", "_law_mixed", "_law_cell_at", "inner", "around", "wide", "cell", "checked"]) Gl (dOf pw "_law_floor") from phi_at ["_law_alike", "_law_points", "_law_around", "_law_on"] "_law_floor" ["_law_sizes", "_law_drawn", "_law_is_in", "_law_boxes", "_law_whole", "_law_mixed", "_law_cell_at", "inner", "around", "wide", "cell", "checked"] rfl]
    refine floor_run ?_ ?_ ?_ ?_ ?_ ?_ hl
    · intro ns k σ hk hl
      rw [show Phi Gl pw ["_law_sizes", "_law_drawn", "_law_is_in", "_law_boxes", "_law_whole", "_law_mixed", "_law_cell_at", "inner", "around", "wide", "cell", "checked"] (Str.ofString "_law_cell_at") = interpF (Phi Gl pw ["inner", "around", "wide", "cell", "checked"]) Gl (dOf pw "_law_cell_at") from phi_at ["_law_sizes", "_law_drawn", "_law_is_in", "_law_boxes", "_law_whole", "_law_mixed"] "_law_cell_at" ["inner", "around", "wide", "cell", "checked"] rfl]
      exact cell_at_run hk hl
    · intro c k σ h0 h4
      rw [show Phi Gl pw ["_law_sizes", "_law_drawn", "_law_is_in", "_law_boxes", "_law_whole", "_law_mixed", "_law_cell_at", "inner", "around", "wide", "cell", "checked"] (Str.ofString "_law_mixed") = interpF (Phi Gl pw ["_law_cell_at", "inner", "around", "wide", "cell", "checked"]) Gl (dOf pw "_law_mixed") from phi_at ["_law_sizes", "_law_drawn", "_law_is_in", "_law_boxes", "_law_whole"] "_law_mixed" ["_law_cell_at", "inner", "around", "wide", "cell", "checked"] rfl]
      exact mixed_run h0 h4
    · intro ns high wide σ hl
      rw [show Phi Gl pw ["_law_sizes", "_law_drawn", "_law_is_in", "_law_boxes", "_law_whole", "_law_mixed", "_law_cell_at", "inner", "around", "wide", "cell", "checked"] (Str.ofString "_law_boxes") = interpF (Phi Gl pw ["_law_whole", "_law_mixed", "_law_cell_at", "inner", "around", "wide", "cell", "checked"]) Gl (dOf pw "_law_boxes") from phi_at ["_law_sizes", "_law_drawn", "_law_is_in"] "_law_boxes" ["_law_whole", "_law_mixed", "_law_cell_at", "inner", "around", "wide", "cell", "checked"] rfl]
      refine boxes_run ?_ hl
      intro c k σ h0 h4
      rw [show Phi Gl pw ["_law_whole", "_law_mixed", "_law_cell_at", "inner", "around", "wide", "cell", "checked"] (Str.ofString "_law_mixed") = interpF (Phi Gl pw ["_law_cell_at", "inner", "around", "wide", "cell", "checked"]) Gl (dOf pw "_law_mixed") from phi_at ["_law_whole"] "_law_mixed" ["_law_cell_at", "inner", "around", "wide", "cell", "checked"] rfl]
      exact mixed_run h0 h4
    · intro bs i r c σ hσ
      rw [show Phi Gl pw ["_law_sizes", "_law_drawn", "_law_is_in", "_law_boxes", "_law_whole", "_law_mixed", "_law_cell_at", "inner", "around", "wide", "cell", "checked"] (Str.ofString "_law_is_in") = interpF (Phi Gl pw ["_law_boxes", "_law_whole", "_law_mixed", "_law_cell_at", "inner", "around", "wide", "cell", "checked"]) Gl (dOf pw "_law_is_in") from phi_at ["_law_sizes", "_law_drawn"] "_law_is_in" ["_law_boxes", "_law_whole", "_law_mixed", "_law_cell_at", "inner", "around", "wide", "cell", "checked"] rfl]
      exact is_in_run hσ
    · intro ns r c σ hl hr
      rw [show Phi Gl pw ["_law_sizes", "_law_drawn", "_law_is_in", "_law_boxes", "_law_whole", "_law_mixed", "_law_cell_at", "inner", "around", "wide", "cell", "checked"] (Str.ofString "_law_drawn") = interpF (Phi Gl pw ["_law_is_in", "_law_boxes", "_law_whole", "_law_mixed", "_law_cell_at", "inner", "around", "wide", "cell", "checked"]) Gl (dOf pw "_law_drawn") from phi_at ["_law_sizes"] "_law_drawn" ["_law_is_in", "_law_boxes", "_law_whole", "_law_mixed", "_law_cell_at", "inner", "around", "wide", "cell", "checked"] rfl]
      refine drawn_run ?_ ?_ hl hr
      · intro ns k σ hk hl
        rw [show Phi Gl pw ["_law_is_in", "_law_boxes", "_law_whole", "_law_mixed", "_law_cell_at", "inner", "around", "wide", "cell", "checked"] (Str.ofString "_law_cell_at") = interpF (Phi Gl pw ["inner", "around", "wide", "cell", "checked"]) Gl (dOf pw "_law_cell_at") from phi_at ["_law_is_in", "_law_boxes", "_law_whole", "_law_mixed"] "_law_cell_at" ["inner", "around", "wide", "cell", "checked"] rfl]
        exact cell_at_run hk hl
      · intro c k σ h0 h4
        rw [show Phi Gl pw ["_law_is_in", "_law_boxes", "_law_whole", "_law_mixed", "_law_cell_at", "inner", "around", "wide", "cell", "checked"] (Str.ofString "_law_mixed") = interpF (Phi Gl pw ["_law_cell_at", "inner", "around", "wide", "cell", "checked"]) Gl (dOf pw "_law_mixed") from phi_at ["_law_is_in", "_law_boxes", "_law_whole"] "_law_mixed" ["_law_cell_at", "inner", "around", "wide", "cell", "checked"] rfl]
        exact mixed_run h0 h4
    · intro ns σ hl
      rw [show Phi Gl pw ["_law_sizes", "_law_drawn", "_law_is_in", "_law_boxes", "_law_whole", "_law_mixed", "_law_cell_at", "inner", "around", "wide", "cell", "checked"] (Str.ofString "_law_sizes") = interpF (Phi Gl pw ["_law_drawn", "_law_is_in", "_law_boxes", "_law_whole", "_law_mixed", "_law_cell_at", "inner", "around", "wide", "cell", "checked"]) Gl (dOf pw "_law_sizes") from phi_at [] "_law_sizes" ["_law_drawn", "_law_is_in", "_law_boxes", "_law_whole", "_law_mixed", "_law_cell_at", "inner", "around", "wide", "cell", "checked"] rfl]
      refine sizes_run ?_ ?_ hl
      · intro ns k σ hk hl
        rw [show Phi Gl pw ["_law_drawn", "_law_is_in", "_law_boxes", "_law_whole", "_law_mixed", "_law_cell_at", "inner", "around", "wide", "cell", "checked"] (Str.ofString "_law_cell_at") = interpF (Phi Gl pw ["inner", "around", "wide", "cell", "checked"]) Gl (dOf pw "_law_cell_at") from phi_at ["_law_drawn", "_law_is_in", "_law_boxes", "_law_whole", "_law_mixed"] "_law_cell_at" ["inner", "around", "wide", "cell", "checked"] rfl]
        exact cell_at_run hk hl
      · intro c k σ h0 h4
        rw [show Phi Gl pw ["_law_drawn", "_law_is_in", "_law_boxes", "_law_whole", "_law_mixed", "_law_cell_at", "inner", "around", "wide", "cell", "checked"] (Str.ofString "_law_mixed") = interpF (Phi Gl pw ["_law_cell_at", "inner", "around", "wide", "cell", "checked"]) Gl (dOf pw "_law_mixed") from phi_at ["_law_drawn", "_law_is_in", "_law_boxes", "_law_whole"] "_law_mixed" ["_law_cell_at", "inner", "around", "wide", "cell", "checked"] rfl]
        exact mixed_run h0 h4
  · intro rows l many σ hg hσ
    rw [show Phi Gl pw ["_law_alike", "_law_points", "_law_around", "_law_on", "_law_floor", "_law_sizes", "_law_drawn", "_law_is_in", "_law_boxes", "_law_whole", "_law_mixed", "_law_cell_at", "inner", "around", "wide", "cell", "checked"] (Str.ofString "_law_points") = interpF (Phi Gl pw ["_law_around", "_law_on", "_law_floor", "_law_sizes", "_law_drawn", "_law_is_in", "_law_boxes", "_law_whole", "_law_mixed", "_law_cell_at", "inner", "around", "wide", "cell", "checked"]) Gl (dOf pw "_law_points") from phi_at ["_law_alike"] "_law_points" ["_law_around", "_law_on", "_law_floor", "_law_sizes", "_law_drawn", "_law_is_in", "_law_boxes", "_law_whole", "_law_mixed", "_law_cell_at", "inner", "around", "wide", "cell", "checked"] rfl]
    refine points_run ?_ hg hσ
    intro rows i r c σ hg hσ
    rw [show Phi Gl pw ["_law_around", "_law_on", "_law_floor", "_law_sizes", "_law_drawn", "_law_is_in", "_law_boxes", "_law_whole", "_law_mixed", "_law_cell_at", "inner", "around", "wide", "cell", "checked"] (Str.ofString "_law_around") = interpF (Phi Gl pw ["_law_on", "_law_floor", "_law_sizes", "_law_drawn", "_law_is_in", "_law_boxes", "_law_whole", "_law_mixed", "_law_cell_at", "inner", "around", "wide", "cell", "checked"]) Gl (dOf pw "_law_around") from phi_at [] "_law_around" ["_law_on", "_law_floor", "_law_sizes", "_law_drawn", "_law_is_in", "_law_boxes", "_law_whole", "_law_mixed", "_law_cell_at", "inner", "around", "wide", "cell", "checked"] rfl]
    refine law_around_run ?_ hg hσ
    intro rows i r c σ hg hσ
    rw [show Phi Gl pw ["_law_on", "_law_floor", "_law_sizes", "_law_drawn", "_law_is_in", "_law_boxes", "_law_whole", "_law_mixed", "_law_cell_at", "inner", "around", "wide", "cell", "checked"] (Str.ofString "_law_on") = interpF (Phi Gl pw ["_law_floor", "_law_sizes", "_law_drawn", "_law_is_in", "_law_boxes", "_law_whole", "_law_mixed", "_law_cell_at", "inner", "around", "wide", "cell", "checked"]) Gl (dOf pw "_law_on") from phi_at [] "_law_on" ["_law_floor", "_law_sizes", "_law_drawn", "_law_is_in", "_law_boxes", "_law_whole", "_law_mixed", "_law_cell_at", "inner", "around", "wide", "cell", "checked"] rfl]
    exact on_run hg hσ
  · intro rows σ hg
    rw [show Phi Gl pw ["_law_alike", "_law_points", "_law_around", "_law_on", "_law_floor", "_law_sizes", "_law_drawn", "_law_is_in", "_law_boxes", "_law_whole", "_law_mixed", "_law_cell_at", "inner", "around", "wide", "cell", "checked"] (Str.ofString "inner") = interpF (Phi Gl pw ["around", "wide", "cell", "checked"]) Gl (dOf pw "inner") from phi_at ["_law_alike", "_law_points", "_law_around", "_law_on", "_law_floor", "_law_sizes", "_law_drawn", "_law_is_in", "_law_boxes", "_law_whole", "_law_mixed", "_law_cell_at"] "inner" ["around", "wide", "cell", "checked"] rfl]
    refine inner_run ?_ ?_ ?_ hg
    · intro rows σ hg
      rw [show Phi Gl pw ["around", "wide", "cell", "checked"] (Str.ofString "checked") = interpF (Phi Gl pw []) Gl (dOf pw "checked") from phi_at ["around", "wide", "cell"] "checked" [] rfl]
      exact checked_run hg
    · intro rows σ hg
      rw [show Phi Gl pw ["around", "wide", "cell", "checked"] (Str.ofString "wide") = interpF (Phi Gl pw ["cell", "checked"]) Gl (dOf pw "wide") from phi_at ["around"] "wide" ["cell", "checked"] rfl]
      exact wide_run hg
    · intro rows r c σ hg
      rw [show Phi Gl pw ["around", "wide", "cell", "checked"] (Str.ofString "around") = interpF (Phi Gl pw ["wide", "cell", "checked"]) Gl (dOf pw "around") from phi_at [] "around" ["wide", "cell", "checked"] rfl]
      refine around_run ?_ hg
      intro rows r c σ hg
      rw [show Phi Gl pw ["wide", "cell", "checked"] (Str.ofString "cell") = interpF (Phi Gl pw ["checked"]) Gl (dOf pw "cell") from phi_at ["wide"] "cell" ["checked"] rfl]
      exact cell_run hg
  · intro ps a b σ ha hb hp
    rw [show Phi Gl pw ["_law_alike", "_law_points", "_law_around", "_law_on", "_law_floor", "_law_sizes", "_law_drawn", "_law_is_in", "_law_boxes", "_law_whole", "_law_mixed", "_law_cell_at", "inner", "around", "wide", "cell", "checked"] (Str.ofString "_law_alike") = interpF (Phi Gl pw ["_law_points", "_law_around", "_law_on", "_law_floor", "_law_sizes", "_law_drawn", "_law_is_in", "_law_boxes", "_law_whole", "_law_mixed", "_law_cell_at", "inner", "around", "wide", "cell", "checked"]) Gl (dOf pw "_law_alike") from phi_at [] "_law_alike" ["_law_points", "_law_around", "_law_on", "_law_floor", "_law_sizes", "_law_drawn", "_law_is_in", "_law_boxes", "_law_whole", "_law_mixed", "_law_cell_at", "inner", "around", "wide", "cell", "checked"] rfl]
    refine alike_run ?_ ha hb hp
    intro i σ
    rw [show Phi Gl pw ["_law_points", "_law_around", "_law_on", "_law_floor", "_law_sizes", "_law_drawn", "_law_is_in", "_law_boxes", "_law_whole", "_law_mixed", "_law_cell_at", "inner", "around", "wide", "cell", "checked"] (Str.ofString "_law_whole") = interpF (Phi Gl pw ["_law_mixed", "_law_cell_at", "inner", "around", "wide", "cell", "checked"]) Gl (dOf pw "_law_whole") from phi_at ["_law_points", "_law_around", "_law_on", "_law_floor", "_law_sizes", "_law_drawn", "_law_is_in", "_law_boxes"] "_law_whole" ["_law_mixed", "_law_cell_at", "inner", "around", "wide", "cell", "checked"] rfl]
    exact whole_run
end Mine

end

set_option Elab.async false
set_option maxRecDepth 100000
namespace Mine
open PySem PySem.Spec PyProof.Rows PySem.W PySem.Challenge

set_option maxHeartbeats 8000000 in
theorem main03 : PySem.Challenge.rw_uf040012_03.Holds := by
  w_on
  o_law
  o_head Hook.none
  case hw => w_witness2
  intro w s₀ s₁ mg mb G Y fa o pm cd doc dV kV ho hd hcd hD hmg hg args vals as hpre hlay hrd hwl hlo
  refine Ground.open G ?_
  intro T B D TE TW
  clear hd hcd hD ho B D TE TW Y G
  wrow_args hpre hlay hrd hwl hlo
  rename_i ns _ _ _ _ _ _ _ a vs _ hL _ hW _ hI _ hlen _
  have C : Cx s₁.heap mg mb Gl := by
    refine ⟨T.g, T.b, T.nolimit, T.builtins, fun x hx => ?_, fun x d hx => ?_⟩
    · have hm : biNames.any (fun f => x == Str.ofString f) = true := by
        unfold Gl at hx
        split at hx
        · cases hx
        · split at hx
          · assumption
          · split at hx
            · cases hx
            · split at hx <;> cases hx
      obtain ⟨f, hf, hxf⟩ := List.any_eq_true.mp hm
      have hxf := beq_iff_eq.mp hxf
      subst hxf
      simp only [biNames, List.mem_cons, List.not_mem_nil, or_false] at hf
      rcases hf with rfl | rfl | rfl | rfl | rfl | rfl | rfl | rfl | rfl | rfl <;> exact ⟨T.free _ (by decide +kernel) (by decide +kernel) (by decide +kernel) (by decide +kernel) (by decide +kernel), by decide +kernel⟩
    · have : (x = Str.ofString "MOST" ∧ d = .int 30) ∨ (x = Str.ofString "SIGNS" ∧ d = .str "#.") := by
        unfold Gl at hx
        split at hx
        · cases hx
        · split at hx
          · cases hx
          · split at hx
            · rename_i q; cases hx; exact .inl ⟨beq_iff_eq.mp q, rfl⟩
            · split at hx
              · rename_i q; cases hx; exact .inr ⟨beq_iff_eq.mp q, rfl⟩
              · cases hx
      rcases this with ⟨rfl, rfl⟩ | ⟨rfl, rfl⟩
      · obtain ⟨v, hv, hr⟩ := T.const (Str.ofString "MOST") (.int 30) (by kernel_rfl)
        exact ⟨v, hv, fun h η _ _ => by cases hr h; exact .int _ _⟩
      · obtain ⟨v, hv, hr⟩ := T.const (Str.ofString "SIGNS") (.str "#.") (by kernel_rfl)
        exact ⟨v, hv, fun h η _ _ => by cases hr h; exact .str _ _⟩
  obtain ⟨σ', hΦ⟩ := phi_law ns (by omega)
  have Fn := phi_ok (prog := PySem.Challenge.rw_uf040012_03.row.prog) (w := w) (p := pw) C T fnNames (by
    refine List.forall_mem_cons.mpr ⟨⟨by kernel_rfl, by kernel_rfl, bind1 (by kernel_rfl) fun a pm code doc => by kernel_rfl⟩, ?_⟩
    refine List.forall_mem_cons.mpr ⟨⟨by kernel_rfl, by kernel_rfl, bind2 (by kernel_rfl) fun a b pm code doc => by kernel_rfl⟩, ?_⟩
    refine List.forall_mem_cons.mpr ⟨⟨by kernel_rfl, by kernel_rfl, bind2 (by kernel_rfl) fun a b pm code doc => by kernel_rfl⟩, ?_⟩
    refine List.forall_mem_cons.mpr ⟨⟨by kernel_rfl, by kernel_rfl, bind3 (by kernel_rfl) fun a b c pm code doc => by kernel_rfl⟩, ?_⟩
    refine List.forall_mem_cons.mpr ⟨⟨by kernel_rfl, by kernel_rfl, bind3 (by kernel_rfl) fun a b c pm code doc => by kernel_rfl⟩, ?_⟩
    refine List.forall_mem_cons.mpr ⟨⟨by kernel_rfl, by kernel_rfl, bind2 (by kernel_rfl) fun a b pm code doc => by kernel_rfl⟩, ?_⟩
    refine List.forall_mem_cons.mpr ⟨⟨by kernel_rfl, by kernel_rfl, bind2 (by kernel_rfl) fun a b pm code doc => by kernel_rfl⟩, ?_⟩
    refine List.forall_mem_cons.mpr ⟨⟨by kernel_rfl, by kernel_rfl, bind3 (by kernel_rfl) fun a b c pm code doc => by kernel_rfl⟩, ?_⟩
    refine List.forall_mem_cons.mpr ⟨⟨by kernel_rfl, by kernel_rfl, bind3 (by kernel_rfl) fun a b c pm code doc => by kernel_rfl⟩, ?_⟩
    refine List.forall_mem_cons.mpr ⟨⟨by kernel_rfl, by kernel_rfl, bind3 (by kernel_rfl) fun a b c pm code doc => by kernel_rfl⟩, ?_⟩
    refine List.forall_mem_cons.mpr ⟨⟨by kernel_rfl, by kernel_rfl, bind1 (by kernel_rfl) fun a pm code doc => by kernel_rfl⟩, ?_⟩
    refine List.forall_mem_cons.mpr ⟨⟨by kernel_rfl, by kernel_rfl, bind2 (by kernel_rfl) fun a b pm code doc => by kernel_rfl⟩, ?_⟩
    refine List.forall_mem_cons.mpr ⟨⟨by kernel_rfl, by kernel_rfl, bind2 (by kernel_rfl) fun a b pm code doc => by kernel_rfl⟩, ?_⟩
    refine List.forall_mem_cons.mpr ⟨⟨by kernel_rfl, by kernel_rfl, bind1 (by kernel_rfl) fun a pm code doc => by kernel_rfl⟩, ?_⟩
    refine List.forall_mem_cons.mpr ⟨⟨by kernel_rfl, by kernel_rfl, bind3 (by kernel_rfl) fun a b c pm code doc => by kernel_rfl⟩, ?_⟩
    refine List.forall_mem_cons.mpr ⟨⟨by kernel_rfl, by kernel_rfl, bind1 (by kernel_rfl) fun a pm code doc => by kernel_rfl⟩, ?_⟩
    refine List.forall_mem_cons.mpr ⟨⟨by kernel_rfl, by kernel_rfl, bind3 (by kernel_rfl) fun a b c pm code doc => by kernel_rfl⟩, ?_⟩
    refine List.forall_mem_cons.mpr ⟨⟨by kernel_rfl, by kernel_rfl, bind1 (by kernel_rfl) fun a pm code doc => by kernel_rfl⟩, ?_⟩
    exact fun _ h => by cases h)
  refine run_law C Fn (by decide) hΦ hmg hL hW hI fun h' tk x => ?_
  exact law_good hg (fun cls => rfl) (by kernel_rfl) x
end Mine

theorem PySem.Challenge.cw_uf040012_03_holds : PySem.Challenge.rw_uf040012_03.Holds := by
  exact Mine.main03
