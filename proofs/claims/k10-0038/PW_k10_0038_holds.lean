import PyProof.Rows.All
import Wide.All
import OpenK.AllK
import Wide.FinOn
import PyProof.Rows.RowHeap
import PyProof.EqLayable
import PyProof.PlainList
import PyProof.Rows.Tup
import KE.KSortTup
import KE.KItem
import PySem.Challenge.RW_k10_0038
set_option Elab.async false
set_option linter.unusedSimpArgs false
/-! Deep embedding, part A: data, reading relation, syntax, evaluator. -/
set_option autoImplicit false
namespace Mine
open PySem PyProof.Rows

/-! ### values -/
inductive AV where
  | val (d : PyData)
  | own (ds : List PyData)
inductive BV where
  | val (d : PyData)
  | own (ds : List PyData)
  | bor (ds : List PyData)
noncomputable def BV.d : BV → PyData
  | .val d => d
  | .own ds => .list ds
  | .bor ds => .list ds
noncomputable def BV.isBor : BV → Bool
  | .bor _ => true
  | _ => false

noncomputable def szLine : Nat := 16777216
mutual
noncomputable def small : PyData → Bool
  | .none => true
  | .bool _ => true
  | .int _ => true
  | .str _ => true
  | .list xs => decide (xs.length ≤ szLine) && smalls xs
  | .tuple xs => decide (xs.length ≤ szLine) && smalls xs
  | .dict _ => false
noncomputable def smalls : List PyData → Bool
  | [] => true
  | x :: xs => small x && smalls xs
end
mutual
noncomputable def listFree : PyData → Bool
  | .none => true
  | .bool _ => true
  | .int _ => true
  | .str _ => true
  | .list _ => false
  | .tuple xs => listFrees xs
  | .dict _ => false
noncomputable def listFrees : List PyData → Bool
  | [] => true
  | x :: xs => listFree x && listFrees xs
end
noncomputable def BV.free : BV → Bool
  | .val d => listFree d
  | .own ds => listFrees ds
  | .bor _ => false

/-! ### syntax -/
set_option genSizeOf false
set_option genInjectivity false
inductive Op where
  | add | sub | mul | fdiv | mod | pow
inductive Cm where
  | eq | ne | lt | le | gt | ge
inductive Ck where
  | none | bool (b : Bool)
inductive Tg where
  | one (k : Nat)
  | many (ks : List Nat)

mutual
inductive E where
  | int (i : Int)
  | bool (b : Bool)
  | none
  | var (k : Nat)
  | data (d : PyData)
  | bin (op : Op) (a b : E)
  | neg (a : E)
  | not (a : E)
  | cmp (op : Cm) (a b : E)
  | cmp2 (op op' : Cm) (a b c : E)
  | isC (neg : Bool) (a : E) (c : Ck)
  | isTy (neg : Bool) (a : E) (t : String)
  | and (a b : E)
  | or (a b : E)
  | call (f : Nat) (args : List E)
  | len (a : E)
  | abs (a : E)
  | min2 (a b : E)
  | max2 (a b : E)
  | max1 (a : E)
  | sum1 (a : E)
  | sorted (a : E)
  | list1 (a : E)
  | count (a v : E)
  | idx (a i : E)
  | sl (a : E) (lo hi : Option E)
  | tup (es : List E)
  | lst (es : List E)
  | comp (elt : E) (tg : Tg) (cap : List Nat) (it : It) (conds : List E)
inductive It where
  | rng1 (b : E)
  | rng2 (a b : E)
  | rng3 (a b c : E)
  | ex (e : E)
end

inductive S where
  | asg (k : Nat) (keep : Bool) (e : E)
  | unp (ks : List Nat) (e : E)
  | setI (k : Nat) (i e : E)
  | delLast (k : Nat)
  | app (k : Nat) (e : E)
  | ife (c : E) (t e : List S)
  | for_ (tg : Tg) (it : It) (body : List S)
  | while_ (c : E) (body : List S)
  | ret (e : E)
  | retV (k : Nat)
  | fail

set_option genSizeOf true
set_option genInjectivity true
structure Fn where
  nv : Nat
  np : Nat
  body : List S

/-! ### evaluation -/
abbrev Gam := List (Option AV)
noncomputable def look (G : Gam) (k : Nat) : Option AV := match G[k]? with
  | some (some a) => some a
  | _ => none
noncomputable def asInt : PyData → Option Int
  | .int i => some i
  | _ => none
noncomputable def asBool : PyData → Option Bool
  | .bool b => some b
  | _ => none
noncomputable def asInts : List PyData → Option (List Int)
  | [] => some []
  | .int i :: r => (asInts r).map (i :: ·)
  | _ :: _ => none

noncomputable def binD : Op → PyData → PyData → Option BV
  | .add, .int a, .int b => some (.val (.int (a + b)))
  | .sub, .int a, .int b => some (.val (.int (a - b)))
  | .mul, .int a, .int b => if -18446744073709551616 < a ∧ a < 18446744073709551616 ∨ -18446744073709551616 < b ∧ b < 18446744073709551616 then some (.val (.int (a * b))) else none
  | .fdiv, .int a, .int b => if b = 0 ∨ b ≤ -340282366920938463463374607431768211456 ∨ 340282366920938463463374607431768211456 ≤ b then none else some (.val (.int (a.fdiv b)))
  | .mod, .int a, .int b => if b = 0 then none else some (.val (.int (a.fmod b)))
  | .pow, .int a, .int b => if 0 ≤ b ∧ b ≤ 1024 ∧ -18446744073709551616 < a ∧ a < 18446744073709551616 then some (.val (.int (a ^ b.toNat))) else none
  | .add, .list xs, .list ys => if xs.length + ys.length ≤ szLine then some (.own (xs ++ ys)) else none
  | .mul, .list xs, .int n => if xs.length * n.toNat ≤ szLine ∧ -9223372036854775808 ≤ n ∧ n < 9223372036854775808 then some (.own (List.replicate n.toNat xs).flatten) else none
  | _, _, _ => none
noncomputable def cmpD : Cm → PyData → PyData → Option Bool
  | .eq, a, b => if SeqAt.shaped a && SeqAt.shaped b then some (PyData.eqv a b) else none
  | .ne, a, b => if SeqAt.shaped a && SeqAt.shaped b then some (!PyData.eqv a b) else none
  | .lt, .int a, .int b => some (decide (a < b))
  | .le, .int a, .int b => some (decide (a ≤ b))
  | .gt, .int a, .int b => some (decide (b < a))
  | .ge, .int a, .int b => some (decide (b ≤ a))
  | _, _, _ => none
noncomputable def isCk : PyData → Ck → Bool
  | .none, .none => true
  | .bool a, .bool b => a == b
  | _, _ => false
noncomputable def tyOf : PyData → String
  | .none => "NoneType"
  | .bool _ => "bool"
  | .int _ => "int"
  | .str _ => "str"
  | .list _ => "list"
  | .tuple _ => "tuple"
  | .dict _ => "dict"
noncomputable def itemD (xs : List PyData) (k : Int) : Option PyData :=
  if 0 ≤ k then xs[k.toNat]? else if 0 ≤ k + xs.length then xs[(k + xs.length).toNat]? else none
noncomputable def idxD : PyData → PyData → Option PyData
  | .list xs, .int k => itemD xs k
  | .tuple xs, .int k => itemD xs k
  | _, _ => none
noncomputable def bound : Option PyData → Option (Option Nat)
  | none => some none
  | some (.int k) => if 0 ≤ k then some (some k.toNat) else none
  | some _ => none
noncomputable def sliceD (xs : List PyData) (lo hi : Option Nat) : List PyData :=
  ((match hi with | some n => xs.take n | none => xs)).drop (match lo with | some n => n | none => 0)
noncomputable def rangeD (a b c : Int) : Option (List PyData) :=
  if 0 < c ∧ c ≤ 1048576 ∧ -2305843009213693952 ≤ a ∧ a ≤ 2305843009213693952 ∧ -2305843009213693952 ≤ b ∧ b ≤ 2305843009213693952 then
    some ((List.range (if a < b then (b - a - 1) / c + 1 else 0).toNat).map fun (i : Nat) => PyData.int (a + (i : Int) * c))
  else none
noncomputable def maxL : Int → List Int → Int
  | m, [] => m
  | m, x :: r => maxL (if x > m then x else m) r
noncomputable def insI (x : Int) : List Int → List Int
  | [] => [x]
  | y :: r => if x ≤ y then x :: y :: r else y :: insI x r
noncomputable def sortI : List Int → List Int
  | [] => []
  | x :: r => insI x (sortI r)
noncomputable def ltP (p q : Int × Int) : Bool := if p.1 = q.1 then decide (p.2 < q.2) else decide (p.1 < q.1)
noncomputable def sortD (xs : List PyData) : Option (List PyData) :=
  if 64 ≤ xs.length then none else (asInts xs).map fun l => (sortI l).map .int

noncomputable def bindTg (G : Gam) : Tg → PyData → Option Gam
  | .one k, d => some (G.set k (some (.val d)))
  | .many ks, .tuple ds => if ks.length = ds.length then some ((ks.zip ds).foldl (fun G p => G.set p.1 (some (.val p.2))) G) else none
  | .many _, _ => none
noncomputable def keepOnly (cap : List Nat) (G : Gam) : Gam := (List.range G.length).map fun k => if cap.contains k then (match G[k]? with | some x => x | none => none) else none

/-- a comprehension's items, given what one turn yields -/
noncomputable def compGo (f : PyData → Option (Option PyData)) : List PyData → Option (List PyData)
  | [] => some []
  | x :: r => match f x with
    | some (some y) => (compGo f r).map (y :: ·)
    | some none => compGo f r
    | none => none

variable (F : Nat → List PyData → Option BV)
mutual
noncomputable def ev (G : Gam) : E → Option BV
  | .int i => some (.val (.int i))
  | .bool b => some (.val (.bool b))
  | .none => some (.val .none)
  | .data d => some (.val d)
  | .var k => match look G k with
    | some (.val d) => some (.val d)
    | some (.own ds) => some (.bor ds)
    | none => none
  | .bin op a b => (ev G a).bind fun x => (ev G b).bind fun y => binD op x.d y.d
  | .neg a => (ev G a).bind fun x => (asInt x.d).map fun i => .val (.int (-i))
  | .not a => (ev G a).bind fun x => (asBool x.d).map fun b => .val (.bool (!b))
  | .cmp op a b => (ev G a).bind fun x => (ev G b).bind fun y => (cmpD op x.d y.d).map fun b => .val (.bool b)
  | .cmp2 op op' a b c => (ev G a).bind fun x => (ev G b).bind fun y => (cmpD op x.d y.d).bind fun t => match t with
    | false => some (.val (.bool false))
    | true => (ev G c).bind fun z => (cmpD op' y.d z.d).map fun b => .val (.bool b)
  | .isC n a c => (ev G a).bind fun x => some (.val (.bool (isCk x.d c != n)))
  | .isTy n a t => (ev G a).bind fun x => some (.val (.bool ((tyOf x.d == t) != n)))
  | .and a b => (ev G a).bind fun x => (asBool x.d).bind fun t => match t with
    | false => some (.val (.bool false))
    | true => (ev G b).bind fun y => (asBool y.d).map fun t => .val (.bool t)
  | .or a b => (ev G a).bind fun x => (asBool x.d).bind fun t => match t with
    | true => some (.val (.bool true))
    | false => (ev G b).bind fun y => (asBool y.d).map fun t => .val (.bool t)
  | .call f args => (evs G args).bind fun xs => (F f (xs.map BV.d)).bind fun r => if r.isBor || (xs.any BV.isBor && !r.free) then none else some r
  | .len a => (ev G a).bind fun x => match x.d with
    | .list xs => some (.val (.int xs.length))
    | .tuple xs => some (.val (.int xs.length))
    | _ => none
  | .abs a => (ev G a).bind fun x => (asInt x.d).map fun i => .val (.int (if i < 0 then -i else i))
  | .min2 a b => (ev G a).bind fun x => (ev G b).bind fun y => (asInt x.d).bind fun i => (asInt y.d).map fun j => .val (.int (if j < i then j else i))
  | .max2 a b => (ev G a).bind fun x => (ev G b).bind fun y => (asInt x.d).bind fun i => (asInt y.d).map fun j => .val (.int (if j > i then j else i))
  | .max1 a => (ev G a).bind fun x => match x.d with
    | .list xs => (asInts xs).bind fun l => match l with
      | [] => none
      | i :: r => some (.val (.int (maxL i r)))
    | _ => none
  | .sum1 a => (ev G a).bind fun x => match x.d with
    | .list xs => (asInts xs).map fun l => .val (.int l.sum)
    | _ => none
  | .sorted a => (ev G a).bind fun x => match x.d with
    | .list xs => (sortD xs).map .own
    | _ => none
  | .list1 a => (ev G a).bind fun x => match x.d with
    | .list xs => some (.own xs)
    | _ => none
  | .count a v => (ev G a).bind fun x => (ev G v).bind fun y => match x.d with
    | .list xs => (asInts xs).bind fun l => (asInt y.d).map fun i => .val (.int (l.count i))
    | _ => none
  | .idx a i => (ev G a).bind fun x => (ev G i).bind fun y => (idxD x.d y.d).map .val
  | .sl a lo hi => (ev G a).bind fun x => (evo G lo).bind fun l => (evo G hi).bind fun h => (bound l).bind fun l => (bound h).bind fun h => match x.d with
    | .list xs => some (.own (sliceD xs l h))
    | _ => none
  | .tup es => (evs G es).bind fun xs => if xs.any BV.isBor || decide (szLine < xs.length) then none else some (.val (.tuple (xs.map BV.d)))
  | .lst es => (evs G es).bind fun xs => if xs.any BV.isBor || decide (szLine < xs.length) then none else some (.own (xs.map BV.d))
  | .comp elt tg cap it conds => (evIt G it).bind fun q => if szLine < q.1.length then none else
      (compGo (fun x => (bindTg (keepOnly cap G) tg x).bind fun G' => (evAll G' conds).bind fun t => match t with
        | false => some none
        | true => (ev G' elt).bind fun y => if y.isBor then none else some (some y.d)) q.1).map .own
noncomputable def evs (G : Gam) : List E → Option (List BV)
  | [] => some []
  | e :: r => (ev G e).bind fun x => (evs G r).map (x :: ·)
noncomputable def evo (G : Gam) : Option E → Option (Option PyData)
  | none => some none
  | some e => (ev G e).map fun x => some x.d
noncomputable def evAll (G : Gam) : List E → Option Bool
  | [] => some true
  | e :: r => (ev G e).bind fun x => (asBool x.d).bind fun t => match t with
    | false => some false
    | true => evAll G r
noncomputable def evIt (G : Gam) : It → Option (List PyData × Bool)
  | .rng1 b => (ev G b).bind fun y => (asInt y.d).bind fun y => (rangeD 0 y 1).map (·, false)
  | .rng2 a b => (ev G a).bind fun x => (ev G b).bind fun y => (asInt x.d).bind fun x => (asInt y.d).bind fun y => (rangeD x y 1).map (·, false)
  | .rng3 a b c => (ev G a).bind fun x => (ev G b).bind fun y => (ev G c).bind fun z => (asInt x.d).bind fun x => (asInt y.d).bind fun y => (asInt z.d).bind fun z => (rangeD x y z).map (·, false)
  | .ex e => (ev G e).bind fun x => match x.d with
    | .list xs => some (xs, x.isBor)
    | _ => none
end

/-- a loop over an own list gives the list up -/
noncomputable def frzG (G : Gam) : It → Gam
  | .ex (.var k) => match look G k with
    | some (.own ds) => G.set k (some (.val (.list ds)))
    | _ => G
  | _ => G
inductive Fl where
  | next
  | ret (r : BV)

noncomputable def asgG (G : Gam) (k : Nat) (keep : Bool) : BV → Option (Gam × Fl)
  | .val d => some (G.set k (some (.val d)), .next)
  | .own ds => some (G.set k (some (if keep then .own ds else .val (.list ds))), .next)
  | .bor _ => none
noncomputable def whileGo (t : Gam → Option Bool) (b : Gam → Option (Gam × Fl)) : Nat → Gam → Option (Gam × Fl)
  | 0, _ => none
  | n + 1, G => (t G).bind fun c => match c with
    | false => some (G, .next)
    | true => (b G).bind fun r => match r with
      | (G', .next) => whileGo t b n G'
      | (G', .ret r) => some (G', .ret r)
noncomputable def forGo (b : Gam → PyData → Option (Gam × Fl)) : List PyData → Gam → Option (Gam × Fl)
  | [], G => some (G, .next)
  | x :: r, G => (b G x).bind fun q => match q with
    | (G', .next) => forGo b r G'
    | (G', .ret r) => some (G', .ret r)

variable (wf : Nat)
mutual
noncomputable def ex (G : Gam) : S → Option (Gam × Fl)
  | .asg k keep e => (ev F G e).bind (asgG G k keep)
  | .unp ks e => (ev F G e).bind fun x => (bindTg G (.many ks) x.d).map fun G => (G, .next)
  | .setI k i e => (ev F G e).bind fun x => if x.isBor then none else (ev F G i).bind fun y => (asInt y.d).bind fun j => match look G k with
    | some (.own ds) => if 0 ≤ j ∧ j < ds.length then some (G.set k (some (.own (ds.set j.toNat x.d))), .next) else none
    | _ => none
  | .delLast k => match look G k with
    | some (.own ds) => if ds.isEmpty then none else some (G.set k (some (.own ds.dropLast)), .next)
    | _ => none
  | .app k e => (ev F G e).bind fun x => if x.isBor then none else match look G k with
    | some (.own ds) => if ds.length < szLine then some (G.set k (some (.own (ds ++ [x.d]))), .next) else none
    | _ => none
  | .ife c t e => (ev F G c).bind fun x => (asBool x.d).bind fun b => match b with
    | true => exs G t
    | false => exs G e
  | .for_ tg it body => (evIt F (frzG G it) it).bind fun q => if q.2 then none else forGo (fun G x => (bindTg G tg x).bind fun G => exs G body) q.1 (frzG G it)
  | .while_ c body => whileGo (fun G => (ev F G c).bind fun x => asBool x.d) (fun G => exs G body) wf G
  | .ret e => (ev F G e).bind fun x => if x.isBor then none else some (G, .ret x)
  | .retV k => match look G k with
    | some (.val d) => some (G, .ret (.val d))
    | some (.own ds) => some (G, .ret (.own ds))
    | none => none
  | .fail => none
noncomputable def exs (G : Gam) : List S → Option (Gam × Fl)
  | [] => some (G, .next)
  | s :: r => (ex G s).bind fun q => match q with
    | (G', .next) => exs G' r
    | (G', .ret v) => some (G', .ret v)
end

noncomputable def run1 (fn : Fn) (args : List PyData) : Option BV :=
  if args.length = fn.np then
    match exs F wf (args.map (fun d => some (AV.val d)) ++ List.replicate (fn.nv - fn.np) none) fn.body with
    | some (_, .ret r) => some r
    | some (_, .next) => some (.val .none)
    | none => none
  else none
noncomputable def callF (fns : List Fn) : Nat → Nat → List PyData → Option BV
  | 0, _, _ => none
  | n + 1, f, args => match fns[f]? with
    | some fn => run1 (callF fns n) wf fn args
    | none => none
end Mine

/-! Deep embedding, part B: reading data off a heap. -/
set_option autoImplicit false
namespace Mine
open PySem PyProof.Rows

noncomputable def Grow (h h' : Heap) : Prop := ∀ b o, h.get? b = some o → h'.get? b = some o
theorem Grow.refl (h : Heap) : Grow h h := fun _ _ e => e
theorem Grow.trans {a b c : Heap} (x : Grow a b) (y : Grow b c) : Grow a c := fun _ _ e => y _ _ (x _ _ e)
theorem Grow.push (h : Heap) (o : Obj) : Grow h (h.push o) := fun _ _ e => Heap.get?_push_of_some _ e

noncomputable def Rest (s s' : Shared) : Prop := ∃ h tk, s' = { s with heap := h, toks := tk }
theorem Rest.refl (s : Shared) : Rest s s := ⟨s.heap, s.toks, rfl⟩
theorem Rest.trans {a b c : Shared} (x : Rest a b) (y : Rest b c) : Rest a c := by
  obtain ⟨h, tk, rfl⟩ := x
  obtain ⟨h', tk', rfl⟩ := y
  exact ⟨h', tk', rfl⟩
theorem Rest.mk' (s : Shared) (h : Heap) (tk : Nat) : Rest s { s with heap := h, toks := tk } := ⟨h, tk, rfl⟩

abbrev Ex := Addr → Prop
/-- an object without a dict of its own -/
noncomputable def NoD (h : Heap) (a : Addr) : Prop := ∃ o, h.get? a = some o ∧ o.dict = none
noncomputable def Fre (h : Heap) (X : Ex) (a : Addr) : Prop := ¬ X a ∧ NoD h a
theorem Fre.grow {h h' : Heap} {X : Ex} {a : Addr} (f : Fre h X a) (g : Grow h h') : Fre h' X a := ⟨f.1, let ⟨o, e, d⟩ := f.2; ⟨o, g _ _ e, d⟩⟩
noncomputable def Rd (h : Heap) (X : Ex) (v : Value) (d : PyData) : Prop := ∃ as, Reads h v d as ∧ (∀ a ∈ as, Fre h X a) ∧ small d = true
inductive Rds (h : Heap) (X : Ex) : List Value → List PyData → Prop
  | nil : Rds h X [] []
  | cons {v : Value} {vs : List Value} {d : PyData} {ds : List PyData} : Rd h X v d → Rds h X vs ds → Rds h X (v :: vs) (d :: ds)

section
variable {h h' : Heap} {X Y : Ex} {v : Value} {vs ws : List Value} {d : PyData} {ds es : List PyData}

theorem Rds.length (r : Rds h X vs ds) : vs.length = ds.length := by
  induction r with
  | nil => rfl
  | cons _ _ ih => simp [ih]
theorem Rds.sm (r : Rds h X vs ds) : smalls ds = true := by
  induction r with
  | nil => rfl
  | cons hd _ ih =>
    obtain ⟨_, _, _, q⟩ := hd
    simp [smalls, q, ih]
theorem Rds.all (r : Rds h X vs ds) : ∃ as, ReadsAll h vs ds as ∧ ∀ a ∈ as, Fre h X a := by
  induction r with
  | nil => exact ⟨[], .nil, (fun _ h => (nomatch h))⟩
  | cons hd _ ih =>
    obtain ⟨as, r1, n1, _⟩ := hd
    obtain ⟨bs, r2, n2⟩ := ih
    exact ⟨as ++ bs, .cons r1 r2, fun a ha => (List.mem_append.mp ha).elim (n1 a) (n2 a)⟩
theorem Rds.of {as : List Addr} : ∀ {vs : List Value} {ds : List PyData} {as : List Addr}, ReadsAll h vs ds as → (∀ a ∈ as, Fre h X a) → smalls ds = true → Rds h X vs ds
  | _, _, _, .nil, _, _ => .nil
  | _, _, _, .cons r1 r2, n, s => by
    simp only [smalls, Bool.and_eq_true] at s
    exact .cons ⟨_, r1, fun a ha => n a (List.mem_append.mpr (.inl ha)), s.1⟩ (Rds.of (as := []) r2 (fun a ha => n a (List.mem_append.mpr (.inr ha))) s.2)
theorem Rds.append (r : Rds h X vs ds) (q : Rds h X ws es) : Rds h X (vs ++ ws) (ds ++ es) := by
  induction r with
  | nil => exact q
  | cons hd _ ih => exact .cons hd ih
theorem Rds.get (r : Rds h X vs ds) {k : Nat} (hd : ds[k]? = some d) : ∃ v, vs[k]? = some v ∧ Rd h X v d := by
  induction r generalizing k with
  | nil => simp at hd
  | cons h1 _ ih =>
    cases k with
    | zero => simp at hd; subst hd; exact ⟨_, rfl, h1⟩
    | succ k => simpa using ih (by simpa using hd)
theorem Rds.take (r : Rds h X vs ds) (n : Nat) : Rds h X (vs.take n) (ds.take n) := by
  induction r generalizing n with
  | nil => simp; exact .nil
  | cons h1 _ ih => cases n with
    | zero => exact .nil
    | succ n => exact .cons h1 (ih n)
theorem Rds.drop (r : Rds h X vs ds) (n : Nat) : Rds h X (vs.drop n) (ds.drop n) := by
  induction r generalizing n with
  | nil => simp; exact .nil
  | cons h1 h2 ih => cases n with
    | zero => exact .cons h1 h2
    | succ n => exact ih n
theorem Rds.set (r : Rds h X vs ds) {k : Nat} (hd : Rd h X v d) : Rds h X (vs.set k v) (ds.set k d) := by
  induction r generalizing k with
  | nil => exact .nil
  | cons h1 h2 ih => cases k with
    | zero => exact .cons hd h2
    | succ k => exact .cons h1 ih
theorem Rds.mono (r : Rds h X vs ds) (f : ∀ v d, Rd h X v d → Rd h' Y v d) : Rds h' Y vs ds := by
  induction r with
  | nil => exact .nil
  | cons h1 _ ih => exact .cons (f _ _ h1) ih
theorem Rds.replicate (r : Rds h X vs ds) (n : Nat) : Rds h X (List.replicate n vs).flatten (List.replicate n ds).flatten := by
  induction n with
  | zero => exact .nil
  | succ n ih => simp only [List.replicate_succ, List.flatten_cons]; exact r.append ih

theorem Rd.grow (r : Rd h X v d) (g : Grow h h') : Rd h' X v d := let ⟨as, a, b, c⟩ := r; ⟨as, Reads.keeps g a, fun x hx => (b x hx).grow g, c⟩
theorem Rds.grow (r : Rds h X vs ds) (g : Grow h h') : Rds h' X vs ds := r.mono fun _ _ q => q.grow g
theorem Rd.weaken (r : Rd h X v d) (k : ∀ a, Y a → X a) : Rd h Y v d := let ⟨as, a, b, c⟩ := r; ⟨as, a, fun x hx => ⟨fun y => (b x hx).1 (k x y), (b x hx).2⟩, c⟩
theorem Rds.weaken (r : Rds h X vs ds) (k : ∀ a, Y a → X a) : Rds h Y vs ds := r.mono fun _ _ q => q.weaken k

mutual
theorem reads_seq : ∀ {v : Value} {d : PyData} {as : List Addr}, Reads h v d as → small d = true → ∀ a ∈ as, ∃ o xs n, h.get? a = some o ∧ o.data = .seq xs n
  | _, _, _, .none, _, _, ha => nomatch ha
  | _, _, _, .bool _, _, _, ha => nomatch ha
  | _, _, _, .int _ _, _, _, ha => nomatch ha
  | _, _, _, .str _ _, _, _, ha => nomatch ha
  | _, _, _, .list h1 _ h3 h4, s, a, ha => (List.mem_cons.mp ha).elim (fun e => e ▸ ⟨_, _, _, h1, h3⟩) (readsAll_seq h4 (by simp only [small, Bool.and_eq_true] at s; exact s.2) a)
  | _, _, _, .tuple _ _ _ h4, s, a, ha => readsAll_seq h4 (by simp only [small, Bool.and_eq_true] at s; exact s.2) a ha
  | _, _, _, .dict h1 _ _ h4 h5, s, a, ha => by simp [small] at s
theorem readsAll_seq : ∀ {vs : List Value} {ds : List PyData} {as : List Addr}, ReadsAll h vs ds as → smalls ds = true → ∀ a ∈ as, ∃ o xs n, h.get? a = some o ∧ o.data = .seq xs n
  | _, _, _, .nil, _, _, ha => nomatch ha
  | _, _, _, .cons h1 h2, s, a, ha => (List.mem_append.mp ha).elim (reads_seq h1 (by simp only [smalls, Bool.and_eq_true] at s; exact s.1) a) (readsAll_seq h2 (by simp only [smalls, Bool.and_eq_true] at s; exact s.2) a)
end
/-- what was read stays unread at an address that is new -/
theorem Rd.fresh (r : Rd h X v d) {a : Addr} (n : h.get? a = none) : Rd h (fun b => X b ∨ b = a) v d := by
  obtain ⟨as, r1, r2, r3⟩ := r
  refine ⟨as, r1, fun b hb => ⟨fun q => q.elim (r2 b hb).1 fun e => ?_, (r2 b hb).2⟩, r3⟩
  obtain ⟨o, _, _, ho, _⟩ := reads_seq r1 r3 b hb
  rw [e, n] at ho; cases ho
theorem Rds.fresh (r : Rds h X vs ds) {a : Addr} (n : h.get? a = none) : Rds h (fun b => X b ∨ b = a) vs ds := r.mono fun _ _ q => q.fresh n

mutual
theorem reads_keep (k : ∀ b o xs n, h.get? b = some o → o.data = .seq xs n → (o.cls = .type "tuple" ∨ ¬ X b) → h'.get? b = some o) :
    ∀ {v : Value} {d : PyData} {as : List Addr}, Reads h v d as → (∀ a ∈ as, ¬ X a) → small d = true → Reads h' v d as
  | _, _, _, .none, _, _ => .none
  | _, _, _, .bool b, _, _ => .bool b
  | _, _, _, .int i t, _, _ => .int i t
  | _, _, _, .str x t, _, _ => .str x t
  | _, _, _, .list h1 h2 h3 h4, n, s => by
    simp only [small, Bool.and_eq_true] at s
    exact .list (k _ _ _ _ h1 h3 (.inr (n _ (.head _)))) h2 h3 (readsAll_keep k h4 (fun a ha => n a (.tail _ ha)) s.2)
  | _, _, _, .tuple h1 h2 h3 h4, n, s => by
    simp only [small, Bool.and_eq_true] at s
    exact .tuple (k _ _ _ _ h1 h3 (.inl h2)) h2 h3 (readsAll_keep k h4 n s.2)
  | _, _, _, .dict _ _ _ _ _, _, s => by simp [small] at s
theorem readsAll_keep (k : ∀ b o xs n, h.get? b = some o → o.data = .seq xs n → (o.cls = .type "tuple" ∨ ¬ X b) → h'.get? b = some o) :
    ∀ {vs : List Value} {ds : List PyData} {as : List Addr}, ReadsAll h vs ds as → (∀ a ∈ as, ¬ X a) → smalls ds = true → ReadsAll h' vs ds as
  | _, _, _, .nil, _, _ => .nil
  | _, _, _, .cons h1 h2, n, s => by
    simp only [smalls, Bool.and_eq_true] at s
    exact .cons (reads_keep k h1 (fun a ha => n a (List.mem_append.mpr (.inl ha))) s.1) (readsAll_keep k h2 (fun a ha => n a (List.mem_append.mpr (.inr ha))) s.2)
end
theorem Rd.keep (r : Rd h X v d) (k : ∀ b o xs n, h.get? b = some o → o.data = .seq xs n → (o.cls = .type "tuple" ∨ ¬ X b) → h'.get? b = some o) : Rd h' X v d :=
  let ⟨as, a, b, c⟩ := r; ⟨as, reads_keep k a (fun x hx => (b x hx).1) c, fun x hx => ⟨(b x hx).1, by
    obtain ⟨o, xs, n, e, d⟩ := reads_seq a c x hx
    obtain ⟨o', e', d'⟩ := (b x hx).2
    rw [e] at e'; cases e'
    exact ⟨o, k x o xs n e d (.inr (b x hx).1), d'⟩⟩, c⟩
theorem Rds.keep (r : Rds h X vs ds) (k : ∀ b o xs n, h.get? b = some o → o.data = .seq xs n → (o.cls = .type "tuple" ∨ ¬ X b) → h'.get? b = some o) : Rds h' X vs ds := r.mono fun _ _ q => q.keep k

mutual
theorem reads_free : ∀ {v : Value} {d : PyData} {as : List Addr}, Reads h v d as → listFree d = true → as = []
  | _, _, _, .none, _ => rfl
  | _, _, _, .bool _, _ => rfl
  | _, _, _, .int _ _, _ => rfl
  | _, _, _, .str _ _, _ => rfl
  | _, _, _, .list _ _ _ _, s => by simp [listFree] at s
  | _, _, _, .tuple _ _ _ h4, s => readsAll_free h4 (by simpa [listFree] using s)
  | _, _, _, .dict _ _ _ _ _, s => by simp [listFree] at s
theorem readsAll_free : ∀ {vs : List Value} {ds : List PyData} {as : List Addr}, ReadsAll h vs ds as → listFrees ds = true → as = []
  | _, _, _, .nil, _ => rfl
  | _, _, _, .cons h1 h2, s => by
    simp only [listFrees, Bool.and_eq_true] at s
    rw [reads_free h1 s.1, readsAll_free h2 s.2]; rfl
end
theorem Rd.anyX (r : Rd h X v d) (f : listFree d = true) : Rd h Y v d := by
  obtain ⟨as, r1, _, r3⟩ := r
  have e := reads_free r1 f
  subst e
  exact ⟨[], r1, (fun _ h => (nomatch h)), r3⟩
theorem Rds.anyX (r : Rds h X vs ds) (f : listFrees ds = true) : Rds h Y vs ds := by
  induction r with
  | nil => exact .nil
  | cons h1 _ ih =>
    simp only [listFrees, Bool.and_eq_true] at f
    exact .cons (h1.anyX f.1) (ih f.2)

/-! what a value is, by its datum -/
theorem Rd.none' (r : Rd h X v .none) : v = .none := by obtain ⟨_, r, _⟩ := r; cases r; rfl
theorem Rd.bool' {b : Bool} (r : Rd h X v (.bool b)) : v = .bool b := by obtain ⟨_, r, _⟩ := r; cases r; rfl
theorem Rd.int' {i : Int} (r : Rd h X v (.int i)) : ∃ t, v = .int i t := by obtain ⟨_, r, _⟩ := r; cases r; exact ⟨_, rfl⟩
theorem Rd.mkNone : Rd h X .none .none := ⟨_, .none, (fun _ h => (nomatch h)), rfl⟩
theorem Rd.mkBool (b : Bool) : Rd h X (.bool b) (.bool b) := ⟨_, .bool b, (fun _ h => (nomatch h)), rfl⟩
theorem Rd.mkInt (i : Int) (t : Tok) : Rd h X (.int i t) (.int i) := ⟨_, .int i t, (fun _ h => (nomatch h)), rfl⟩
theorem Rd.tuple' (r : Rd h X v (.tuple ds)) : ∃ a vs, v = .ref a ∧ IsTup h a vs.toArray ∧ Rds h X vs ds ∧ ds.length ≤ szLine := by
  obtain ⟨as, r, n, s⟩ := r
  simp only [small, Bool.and_eq_true, decide_eq_true_eq] at s
  cases r with
  | @tuple a o vs k _ _ h1 h2 h3 h4 => exact ⟨a, vs.toList, rfl, ⟨o, h1, h2, k, by simpa using h3⟩, Rds.of (as := []) h4 n s.2, s.1⟩
theorem Rd.list' (r : Rd h X v (.list ds)) : ∃ a vs, v = .ref a ∧ h.IsList a vs.toArray ∧ Rds h X vs ds ∧ ds.length ≤ szLine ∧ ¬ X a := by
  obtain ⟨as, r, n, s⟩ := r
  simp only [small, Bool.and_eq_true, decide_eq_true_eq] at s
  cases r with
  | @list a o vs k _ as h1 h2 h3 h4 => exact ⟨a, vs.toList, rfl, ⟨o, h1, h2, k, by simpa using h3⟩, Rds.of (as := []) h4 (fun b hb => n b (.tail _ hb)) s.2, s.1, (n a (.head _)).1⟩
theorem Rd.nod {a : Addr} (r : Rd h X (.ref a) (.list ds)) : NoD h a := by
  obtain ⟨as, r, n, s⟩ := r
  cases r with
  | list h1 h2 h3 h4 => exact (n a (.head _)).2
theorem Rd.mkTuple {a : Addr} (t : IsTup h a vs.toArray) (r : Rds h X vs ds) (l : ds.length ≤ szLine) : Rd h X (.ref a) (.tuple ds) := by
  obtain ⟨o, h1, h2, n, h3⟩ := t
  obtain ⟨as, r1, r2⟩ := r.all
  exact ⟨as, .tuple h1 h2 h3 (by simpa using r1), r2, by simp [small, r.sm, l]⟩
theorem Rd.mkList {a : Addr} (t : h.IsList a vs.toArray) (r : Rds h X vs ds) (l : ds.length ≤ szLine) (n : ¬ X a) (nd : NoD h a) : Rd h X (.ref a) (.list ds) := by
  obtain ⟨o, h1, h2, k, h3⟩ := t
  obtain ⟨as, r1, r2⟩ := r.all
  exact ⟨a :: as, .list h1 h2 h3 (by simpa using r1), fun b hb => (List.mem_cons.mp hb).elim (fun e => e ▸ ⟨n, nd⟩) (r2 b), by simp [small, r.sm, l]⟩
end

/-! ### results -/
noncomputable def ResOk (h h' : Heap) (X : Ex) (v : Value) : BV → Prop
  | .val d => Rd h' X v d
  | .own ds => ∃ a vs, v = .ref a ∧ h.get? a = none ∧ h'.PlainList a vs.toArray ∧ Rds h' (fun b => X b ∨ b = a) vs ds ∧ ds.length ≤ szLine
  | .bor ds => ∃ a vs, v = .ref a ∧ h'.PlainList a vs.toArray ∧ Rds h' X vs ds ∧ ds.length ≤ szLine
noncomputable def XDom (X : Ex) (h : Heap) : Prop := ∀ a, X a → ∃ its, h.IsList a its
theorem XDom.grow {X : Ex} {h h' : Heap} (x : XDom X h) (g : Grow h h') : XDom X h' := fun a ha => let ⟨its, o, e, r⟩ := x a ha; ⟨its, o, g _ _ e, r⟩

section
variable {h h' h'' : Heap} {X : Ex} {v : Value} {r : BV} {ds : List PyData} {d : PyData}
theorem ResOk.grow (q : ResOk h h' X v r) (g : Grow h' h'') : ResOk h h'' X v r := by
  cases r with
  | val d => exact Rd.grow q g
  | own ds => obtain ⟨a, vs, e, n, ⟨k, p⟩, r, l⟩ := q; exact ⟨a, vs, e, n, ⟨k, g _ _ p⟩, r.grow g, l⟩
  | bor ds => obtain ⟨a, vs, e, ⟨k, p⟩, r, l⟩ := q; exact ⟨a, vs, e, ⟨k, g _ _ p⟩, r.grow g, l⟩
theorem ResOk.elder {g : Heap} (q : ResOk h h' X v r) (k : Grow g h) : ResOk g h' X v r := by
  cases r with
  | val d => exact q
  | own ds =>
    obtain ⟨a, vs, e, n, r⟩ := q
    refine ⟨a, vs, e, ?_, r⟩
    cases hq : g.get? a with
    | none => rfl
    | some o => rw [k _ _ hq] at n; cases n
  | bor ds => exact q
theorem ResOk.list (q : ResOk h h' X v r) (e : r.d = .list ds) : ∃ a vs, v = .ref a ∧ h'.IsList a vs.toArray ∧ Rds h' X vs ds ∧ ds.length ≤ szLine := by
  cases r with
  | val d => subst e; obtain ⟨a, vs, e, l, r, z, _⟩ := Rd.list' q; exact ⟨a, vs, e, l, r, z⟩
  | own es => cases e; obtain ⟨a, vs, e, n, p, r, l⟩ := q; exact ⟨a, vs, e, p.isList, r.weaken fun _ => .inl, l⟩
  | bor es => cases e; obtain ⟨a, vs, e, p, r, l⟩ := q; exact ⟨a, vs, e, p.isList, r, l⟩
theorem ResOk.tuple (q : ResOk h h' X v r) (e : r.d = .tuple ds) : ∃ a vs, v = .ref a ∧ IsTup h' a vs.toArray ∧ Rds h' X vs ds ∧ ds.length ≤ szLine := by
  cases r with
  | val d => subst e; exact Rd.tuple' q
  | own es => cases e
  | bor es => cases e
theorem ResOk.int {i : Int} (q : ResOk h h' X v r) (e : r.d = .int i) : ∃ t, v = .int i t := by
  cases r with
  | val d => subst e; exact Rd.int' q
  | own es => cases e
  | bor es => cases e
theorem ResOk.bool {b : Bool} (q : ResOk h h' X v r) (e : r.d = .bool b) : v = .bool b := by
  cases r with
  | val d => subst e; exact Rd.bool' q
  | own es => cases e
  | bor es => cases e
theorem ResOk.nod {a : Addr} (q : ResOk h h' X (.ref a) r) (e : r.d = .list ds) : NoD h' a := by
  cases r with
  | val d => subst e; exact Rd.nod q
  | own es => obtain ⟨b, vs, e, n, ⟨k, p⟩, r, l⟩ := q; cases e; exact ⟨_, p, rfl⟩
  | bor es => obtain ⟨b, vs, e, ⟨k, p⟩, r, l⟩ := q; cases e; exact ⟨_, p, rfl⟩
theorem ResOk.rd (q : ResOk h h' X v r) (x : XDom X h) (nb : r.isBor = false) : Rd h' X v r.d := by
  cases r with
  | val d => exact q
  | own es =>
    obtain ⟨a, vs, rfl, n, p, r, l⟩ := q
    exact Rd.mkList p.isList (r.weaken fun _ => .inl) l (fun xa => by obtain ⟨_, o, e, _⟩ := x a xa; rw [n] at e; cases e) (let ⟨_, p⟩ := p; ⟨_, p, rfl⟩)
  | bor es => cases nb
theorem ResOk.reads (q : ResOk h h' X v r) : ∃ as, Reads h' v r.d as := by
  cases r with
  | val d => obtain ⟨as, r, _⟩ := q; exact ⟨as, r⟩
  | own es =>
    obtain ⟨a, vs, rfl, n, ⟨k, p⟩, r, l⟩ := q
    obtain ⟨as, r1, _⟩ := r.all
    exact ⟨_, .list p rfl rfl (by simpa using r1)⟩
  | bor es =>
    obtain ⟨a, vs, rfl, ⟨k, p⟩, r, l⟩ := q
    obtain ⟨as, r1, _⟩ := r.all
    exact ⟨_, .list p rfl rfl (by simpa using r1)⟩
end
end Mine

/-! Deep embedding, part C: the operations. -/
set_option autoImplicit false
namespace Mine
open PySem PyProof.Rows

noncomputable def Opd (h : Heap) (X : Ex) (v : Value) (d : PyData) : Prop := (∃ as, Reads h v d as) ∧ match d with
  | .list ds => ∃ a vs, v = .ref a ∧ h.IsList a vs.toArray ∧ Rds h X vs ds ∧ ds.length ≤ szLine
  | .tuple ds => ∃ a vs, v = .ref a ∧ IsTup h a vs.toArray ∧ Rds h X vs ds ∧ ds.length ≤ szLine
  | .int i => ∃ t, v = .int i t
  | .bool b => v = .bool b
  | .none => v = .none
  | _ => True
theorem ResOk.opd {h h' : Heap} {X : Ex} {v : Value} {r : BV} (q : ResOk h h' X v r) : Opd h' X v r.d := by
  refine ⟨q.reads, ?_⟩
  cases e : r.d with
  | list ds => exact q.list e
  | tuple ds => exact q.tuple e
  | int i => exact q.int e
  | bool b => exact q.bool e
  | none => cases r with
    | val d => subst e; exact Rd.none' q
    | own _ => cases e
    | bor _ => cases e
  | str _ => trivial
  | dict _ => trivial
theorem Opd.grow {h h' : Heap} {X : Ex} {v : Value} {d : PyData} (q : Opd h X v d) (g : Grow h h') : Opd h' X v d := by
  obtain ⟨⟨as, r⟩, q⟩ := q
  refine ⟨⟨as, Reads.keeps g r⟩, ?_⟩
  cases d with
  | list ds => obtain ⟨a, vs, e, ⟨o, l1, l2⟩, r, l⟩ := q; exact ⟨a, vs, e, ⟨o, g _ _ l1, l2⟩, r.grow g, l⟩
  | tuple ds => obtain ⟨a, vs, e, t, r, l⟩ := q; exact ⟨a, vs, e, t.keeps g, r.grow g, l⟩
  | _ => exact q

theorem fresh_size (h : Heap) : h.get? h.objs.size = none := by
  cases e : h.get? h.objs.size with
  | none => rfl
  | some o => exact absurd (Heap.lt_size e) (Nat.lt_irrefl _)

section
variable {prog : Program} {w : World} {A : Around} {E : Value → Shared → Prop} {s : Shared} {X : Ex} {Q : Value → Shared → Prop}

abbrev K (s : Shared) (X : Ex) (Q : Value → Shared → Prop) (r : BV) : Prop := ∀ v s', Grow s.heap s'.heap → Rest s s' → ResOk s.heap s'.heap X v r → Q v s'

theorem k_int {i : Int} {t tk : Tok} (k : K s X Q (.val (.int i))) : Q (.int i t) { s with toks := tk } := k _ _ (Grow.refl _) (Rest.mk' s s.heap tk) (Rd.mkInt _ _)
theorem k_bool {b : Bool} (k : K s X Q (.val (.bool b))) : Q (.bool b) s := k _ _ (Grow.refl _) (Rest.refl s) (Rd.mkBool _)
/-- a new list -/
theorem k_list {h' : Heap} {a : Addr} {vs : List Value} {ds : List PyData} {tk : Nat} (g : Grow s.heap h') (n : s.heap.get? a = none) (p : h'.PlainList a vs.toArray) (r : Rds s.heap X vs ds) (l : ds.length ≤ szLine)
    (k : K s X Q (.own ds)) : Q (.ref a) { s with heap := h', toks := tk } :=
  k _ _ g (Rest.mk' s h' tk) ⟨a, vs, rfl, n, p, (r.fresh n).grow g, l⟩
theorem k_push {vs : List Value} {ds : List PyData} {n : Nat} (r : Rds s.heap X vs ds) (l : ds.length ≤ szLine) (k : K s X Q (.own ds)) :
    Q (.ref s.heap.objs.size) { s with heap := s.heap.push { cls := .type "list", data := .seq vs.toArray n } } :=
  k_list (tk := s.toks) (Grow.push _ _) (fresh_size _) ⟨n, Heap.get?_push_size _ rfl⟩ r l k

theorem bits64 {a : Int} (h : -18446744073709551616 < a ∧ a < 18446744073709551616) : Builtin.Int.intBits a ≤ 64 := intBits_le_64 h.1 h.2

noncomputable def opPy : Op → Operator
  | .add => .Add
  | .sub => .Sub
  | .mul => .Mult
  | .fdiv => .FloorDiv
  | .mod => .Mod
  | .pow => .Pow

theorem log2_128 {b : Int} (h : -340282366920938463463374607431768211456 < b) (h' : b < 340282366920938463463374607431768211456) : b.natAbs.log2 < 9000 := by
  by_cases h0 : b.natAbs = 0
  · rw [h0]; decide
  · have : b.natAbs < 2 ^ 128 := by omega
    have := (Nat.log2_lt h0).mpr this
    omega

theorem bin_ok {op : Op} {a b : Value} {d e : PyData} {r : BV} (o : binD op d e = some r) (ha : Opd s.heap X a d) (hb : Opd s.heap X b e) (k : K s X Q r) :
    wpAny (model prog w) A (binaryOp (opPy op) a b) Q E s := by
  unfold binD at o
  split at o
  · cases o; obtain ⟨t, rfl⟩ := ha.2; obtain ⟨u, rfl⟩ := hb.2; exact add_int (k_int k)
  · cases o; obtain ⟨t, rfl⟩ := ha.2; obtain ⟨u, rfl⟩ := hb.2; exact sub_int (k_int k)
  · split at o
    · rename_i c
      cases o; obtain ⟨t, rfl⟩ := ha.2; obtain ⟨u, rfl⟩ := hb.2
      exact mul_int (k_int k) (c.elim (fun c => .of_left (bits64 c)) fun c => .of_right (bits64 c))
    · cases o
  · split at o
    · cases o
    · rename_i c
      cases o; obtain ⟨t, rfl⟩ := ha.2; obtain ⟨u, rfl⟩ := hb.2
      exact floordiv_int (by omega) (k_int k) (.inl (PyProof.noPylong_of_log2 (log2_128 (by omega) (by omega))))
  · split at o
    · cases o
    · rename_i c
      cases o; obtain ⟨t, rfl⟩ := ha.2; obtain ⟨u, rfl⟩ := hb.2
      exact mod_int c (k_int k)
  · split at o
    · rename_i x y c
      cases o; obtain ⟨t, rfl⟩ := ha.2; obtain ⟨u, rfl⟩ := hb.2
      refine pow_int c.1 ?_ (k_int k)
      have h1 : (Builtin.Int.intBits x : Int) ≤ 64 := by have := bits64 c.2.2; omega
      have h2 : (Builtin.Int.intBits x : Int) * y ≤ 64 * 1024 := Int.mul_le_mul h1 c.2.1 c.1 (by decide)
      exact Int.le_trans h2 (by decide)
    · cases o
  · split at o
    · rename_i xs ys c
      cases o
      obtain ⟨l, vs, rfl, hl, rl, zl⟩ := ha.2
      obtain ⟨m, ws, rfl, hm, rm, zm⟩ := hb.2
      have hz : vs.length + ws.length ≤ sizeLine := by rw [rl.length, rm.length]; exact c
      obtain ⟨⟨cls, dd, data, sl⟩, ho, hc, n, hd⟩ := id hl
      obtain ⟨⟨cls2, dd2, data2, sl2⟩, ho2, hc2, n2, hd2⟩ := id hm
      simp only at hc hd hc2 hd2
      subst hc hd hc2 hd2
      have e : vs.toArray ++ ws.toArray = (vs ++ ws).toArray := by simp
      refine concat_meets ⟨_, ho, rfl⟩ ⟨_, ho2, rfl⟩ noFill_list_add seq_list_add PySem.F.slot_list_add PySem.F.entry_list_add (PySem.F.args_list_add_2 _ _) (list_addW l m vs.toArray ws.toArray n n2 dd dd2 sl sl2 (by simpa using hz)) ⟨ho, ho2, ?_⟩
      rw [e]
      exact k_push (rl.append rm) (by rw [List.length_append]; exact c) k
    · cases o
  · split at o
    · rename_i xs x c
      cases o
      obtain ⟨l, vs, rfl, hl, rl, zl⟩ := ha.2
      obtain ⟨u, rfl⟩ := hb.2
      obtain ⟨⟨cls, d, data, sl⟩, ho, hcl, n, hd⟩ := id hl
      simp only at hcl hd
      subst hcl hd
      have hsz' : vs.toArray.size * x.toNat ≤ 2 ^ 24 := by have := c.1; rw [List.size_toArray, rl.length]; exact this
      refine wpAny_binaryOp_repeat_ref (T := "list") (U := "int") (by decide) ⟨_, ho, rfl⟩ (fun s' => typeIs_int s' x u) noFill_list_mul F.fills_int_mul F.slot_int_rmul repeat_list F.slot_int_index.lookup
        (call_meets F.slot_int_rmul (typeIs_int s x u) F.entry_int_rmul (F.args_int_rmul_2 _ _) (lm_int_rmul_list_any x u l vs.toArray n d sl)
          ⟨ho, rfl, ⟨_, ho, rfl⟩, call_meets F.slot_list_mul ⟨_, ho, rfl⟩ F.entry_list_mul (F.args_list_mul_2 _ _)
            (lm_list_mul_any l vs.toArray n d sl x u (by simp [Builtin.List.listFitsIndex]; omega) (by omega) (by simp [Builtin.List.listTooLong, sizeLine]; omega))
            ⟨ho, ?_⟩⟩)
      rw [listMul_foldl_if]
      refine k_push (rl.replicate _) ?_ k
      have e : (List.replicate x.toNat xs).flatten.length = x.toNat * xs.length := by simp
      rw [e, Nat.mul_comm]; exact c.1
    · cases o
  · cases o

noncomputable def cmPy : Cm → CmpOp
  | .eq => .Eq
  | .ne => .NotEq
  | .lt => .Lt
  | .le => .LtE
  | .gt => .Gt
  | .ge => .GtE
theorem cmp_ok {op : Cm} {a b : Value} {d e : PyData} {r : Bool} (hu : A.units + 64 < cLine) (o : cmpD op d e = some r) (ha : Opd s.heap X a d) (hb : Opd s.heap X b e) (k : Q (.bool r) s) :
    wpAny (model prog w) A (compareOp (cmPy op) a b) Q E s := by
  unfold cmpD at o
  split at o
  · split at o
    · rename_i c
      rw [Bool.and_eq_true] at c
      cases o
      obtain ⟨_, ra⟩ := ha.1
      obtain ⟨_, rb⟩ := hb.1
      exact eq_dataH ra rb c.1 c.2 hu k
    · cases o
  · split at o
    · rename_i c
      rw [Bool.and_eq_true] at c
      cases o
      obtain ⟨_, ra⟩ := ha.1
      obtain ⟨_, rb⟩ := hb.1
      exact ne_dataH ra rb c.1 c.2 hu k
    · cases o
  · cases o; obtain ⟨t, rfl⟩ := ha.2; obtain ⟨u, rfl⟩ := hb.2; exact lt_int k
  · cases o; obtain ⟨t, rfl⟩ := ha.2; obtain ⟨u, rfl⟩ := hb.2; exact le_int k
  · cases o; obtain ⟨t, rfl⟩ := ha.2; obtain ⟨u, rfl⟩ := hb.2; exact gt_int k
  · cases o; obtain ⟨t, rfl⟩ := ha.2; obtain ⟨u, rfl⟩ := hb.2; exact ge_int k
  · cases o

noncomputable def ckV : Ck → Value
  | .none => .none
  | .bool b => .bool b
theorem isCk_eq {h : Heap} {v : Value} {d : PyData} {c : Ck} (hv : Opd h X v d) : plainIs v (ckV c) = true ∧ (v == ckV c) = isCk d c := by
  obtain ⟨⟨as, r⟩, q⟩ := hv
  cases r <;> cases c <;> refine ⟨rfl, ?_⟩ <;> first | rfl | (rename_i a b; cases a <;> cases b <;> rfl)
theorem is_ok {v : Value} {d : PyData} {c : Ck} (hv : Opd s.heap X v d) (k : Q (.bool (isCk d c)) s) : wpAny (model prog w) A (compareOp .Is v (ckV c)) Q E s := by
  obtain ⟨p, e⟩ := isCk_eq (c := c) hv
  refine wpAny_is_plain p ?_
  rw [e]; exact k
theorem isNot_ok {v : Value} {d : PyData} {c : Ck} (hv : Opd s.heap X v d) (k : Q (.bool (!isCk d c)) s) : wpAny (model prog w) A (compareOp .IsNot v (ckV c)) Q E s := by
  obtain ⟨p, e⟩ := isCk_eq (c := c) hv
  refine wpAny_isNot_plain p ?_
  rw [e]; exact k
theorem len_ok {v : Value} {d : PyData} {n : Nat} (hv : Opd s.heap X v d) (e : (∃ xs, d = .list xs ∧ n = xs.length) ∨ ∃ xs, d = .tuple xs ∧ n = xs.length) (k : K s X Q (.val (.int n))) :
    wpAny (model prog w) A (call (.builtin "len") [v]) Q E s := by
  rcases e with ⟨xs, rfl, rfl⟩ | ⟨xs, rfl, rfl⟩
  · obtain ⟨a, vs, rfl, l, r, z⟩ := hv.2
    have hz : vs.toArray.size = xs.length := by simp [r.length]
    have hb : xs.length ≤ 16777216 := z
    refine len_list l (by rw [hz]; omega) ?_
    rw [hz]; exact k_int k
  · obtain ⟨a, vs, rfl, l, r, z⟩ := hv.2
    have hz : vs.toArray.size = xs.length := by simp [r.length]
    have hb : xs.length ≤ 16777216 := z
    refine len_tuple l (by rw [hz]; omega) ?_
    rw [hz]; exact k_int k

theorem Rds.ints {h : Heap} {vs : List Value} : ∀ {ds : List PyData} {l : List Int}, Rds h X vs ds → asInts ds = some l → IntsAre vs l := by
  intro ds l r
  induction r generalizing l with
  | nil => intro e; cases e; exact .nil
  | @cons v vs d ds h1 h2 ih =>
    intro e
    cases d with
    | int i =>
      simp only [asInts, Option.map_eq_some_iff] at e
      obtain ⟨l', e1, rfl⟩ := e
      obtain ⟨t, rfl⟩ := h1.int'
      exact .cons i t (ih e1)
    | _ => cases e
theorem sum_ok {v : Value} {ds : List PyData} {l : List Int} (hh : A.handled = none) (hv : Opd s.heap X v (.list ds)) (e : asInts ds = some l) (k : K s X Q (.val (.int l.sum))) :
    wpAny (model prog w) A (call (.builtin "sum") [v]) Q E s := by
  obtain ⟨a, vs, rfl, hl, r, z⟩ := hv.2
  have hi := r.ints e
  have hall := hi.allInts
  obtain ⟨xs, hx⟩ := hall.items
  rw [hx] at hl
  refine sum_intListG hh hl fun h' tk t' hk => ?_
  have en : (xs.toList.map (·.1)) = l := by
    have := hi.numsOf
    rw [← nums_intItems, ← hx]; exact this
  rw [preSum_eq, List.take_of_length_le (by simp), en]
  exact k _ _ hk (Rest.mk' s h' tk) (Rd.mkInt _ _)
theorem list1_ok {v : Value} {ds : List PyData} (hv : Opd s.heap X v (.list ds)) (k : K s X Q (.own ds)) : wpAny (model prog w) A (call (.type "list") [v]) Q E s := by
  obtain ⟨a, vs, rfl, ⟨o, ho, hc, n, hd⟩, r, z⟩ := hv.2
  refine call_list_seq a (.inl rfl) ho hc hd (fun h' c' g p => ?_) (by rw [List.size_toArray, r.length]; exact z)
  exact k_list (tk := s.toks) g (fresh_size _) ⟨c', p⟩ r z k
theorem min2_ok {i j : Int} {t u : Tok} (hh : A.handled = none) (k : K s X Q (.val (.int (if j < i then j else i)))) : wpAny (model prog w) A (call (.builtin "min") [.int i t, .int j u]) Q E s := by
  refine min_two_ints hh fun h' tk hk => ?_
  split
  · rename_i c; rw [if_pos c] at k; exact k _ _ hk (Rest.mk' s h' tk) (Rd.mkInt _ _)
  · rename_i c; rw [if_neg c] at k; exact k _ _ hk (Rest.mk' s h' tk) (Rd.mkInt _ _)
theorem seqIdx_pos {i : Int} {n : Nat} (h0 : 0 ≤ i) (h1 : i < n) : seqIndex? i n = some i.toNat := by
  unfold seqIndex?
  have : ¬ i < 0 := by omega
  simp [this, h0, h1]
theorem seqIdx_neg {i : Int} {n : Nat} (h0 : i < 0) (h1 : 0 ≤ i + n) : seqIndex? i n = some (i + n).toNat := by
  unfold seqIndex?
  have : i + n < n := by omega
  simp [h0, h1, this]
theorem idx_ok {v i : Value} {d e r : PyData} {value slice : Expr} (hv : Opd s.heap X v d) (hi : Opd s.heap X i e) (o : idxD d e = some r) (k : K s X Q (.val r))
    (hs : ∀ a b t, subscripted slice false (.ref a) (.int b t) = operate [.ref a, .int b t] (getItem (.ref a) (.int b t))) :
    wpAny (model prog w) A (subscriptTail value slice v i) Q E s := by
  have kk : ∀ v, Rd s.heap X v r → Q v s := fun v hr => k v s (Grow.refl _) (Rest.refl _) hr
  unfold idxD at o
  split at o
  · rename_i xs j
    obtain ⟨a, vs, rfl, hl, rl, z⟩ := hv.2
    obtain ⟨t, rfl⟩ := hi.2
    have z' : xs.length ≤ 16777216 := z
    have hz : vs.toArray.size = xs.length := by simp [rl.length]
    unfold itemD at o
    refine tail_any (ops := [.ref a, .int j t]) hl.typeIs slot_list_getitem.lookup ?_ (hs _ _ _)
    split at o
    · rename_i c
      obtain ⟨u, e1, e2⟩ := rl.get o
      have := (List.getElem?_eq_some_iff.mp o).1
      exact wpAny_getItem_list hl c (by omega) (by simpa using e1) (kk u e2)
    · split at o
      · rename_i c c'
        obtain ⟨u, e1, e2⟩ := rl.get o
        exact wpAny_getItem_list_neg hl (by omega) (by omega) (by omega) (by rw [hz]; simpa using e1) (kk u e2)
      · cases o
  · rename_i xs j
    obtain ⟨a, vs, rfl, hl, rl, z⟩ := hv.2
    obtain ⟨t, rfl⟩ := hi.2
    have z' : xs.length ≤ 16777216 := z
    have hz : vs.toArray.size = xs.length := by simp [rl.length]
    unfold itemD at o
    refine tail_any (ops := [.ref a, .int j t]) hl.typeIs slot_tuple_getitem.lookup ?_ (hs _ _ _)
    split at o
    · rename_i c
      obtain ⟨u, e1, e2⟩ := rl.get o
      have := (List.getElem?_eq_some_iff.mp o).1
      exact PyProof.Rows.getItem_tuple hl (by omega) (by omega) (j := j.toNat) (by rw [hz]; exact seqIdx_pos c (by omega)) (by simpa using e1) (kk u e2)
    · split at o
      · rename_i c c'
        obtain ⟨u, e1, e2⟩ := rl.get o
        exact PyProof.Rows.getItem_tuple hl (by omega) (by omega) (j := (j + xs.length).toNat) (by rw [hz]; exact seqIdx_neg (by omega) c') (by simpa using e1) (kk u e2)
      · cases o
  · cases o

theorem sliceD_pick {h : Heap} {vs : List Value} {ds : List PyData} {lo hi : Option Nat} (r : Rds h X vs ds) :
    Rds h X (slicePick vs.toArray (lo.map Int.ofNat) (hi.map Int.ofNat) none).toList (sliceD ds lo hi) := by
  rw [slicePick_plain]
  have hz : vs.length = ds.length := r.length
  have e : ((vs.toArray.toList.drop ((lo.map Int.ofNat).elim 0 (clipAt vs.toArray.size))).take ((hi.map Int.ofNat).elim vs.toArray.size (clipAt vs.toArray.size) - (lo.map Int.ofNat).elim 0 (clipAt vs.toArray.size))) =
      ((match hi with | some n => vs.take n | none => vs)).drop (match lo with | some n => n | none => 0) := by
    cases lo with
    | none => cases hi with
      | none => simp [List.take_of_length_le]
      | some b => simp [clipAt_nat]
    | some a => cases hi with
      | none =>
        simp only [Option.map_some, Option.map_none, Option.elim, Int.ofNat_eq_natCast, clipAt_nat, List.size_toArray]
        by_cases q : a ≤ vs.length
        · rw [Nat.min_eq_left q, List.take_of_length_le (by simp)]
        · rw [Nat.min_eq_right (by omega), List.drop_eq_nil_of_le (by simp), List.drop_eq_nil_of_le (by omega), List.take_nil]
      | some b =>
        simp only [Option.map_some, Option.elim, Int.ofNat_eq_natCast, clipAt_nat, List.size_toArray]
        rw [List.drop_take]
        by_cases q : a ≤ vs.length
        · rw [Nat.min_eq_left q, List.take_eq_take_iff]; simp; omega
        · have q' : vs.length ≤ a := by omega
          rw [Nat.min_eq_right q', List.drop_eq_nil_of_le (as := vs.toArray.toList) (by simp), List.drop_eq_nil_of_le (as := vs) q', List.take_nil, List.take_nil]
  show Rds h X (List.take _ (List.drop _ _)).toArray.toList (sliceD ds lo hi)
  rw [List.toList_toArray, e]
  unfold sliceD
  cases hi with
  | none => exact r.drop _
  | some n => exact (r.take n).drop _
theorem sliceD_len (ds : List PyData) (lo hi : Option Nat) : (sliceD ds lo hi).length ≤ ds.length := by
  unfold sliceD
  cases hi <;> simp <;> omega

theorem tuple_ok {vs : List Value} {ds : List PyData} (r : Rds s.heap X vs ds) (z : ds.length ≤ szLine) (k : K s X Q (.val (.tuple ds))) : wpAny (model prog w) A (newTuple vs) Q E s := by
  refine wpAny_newObj_type ?_ (by show vs.toArray.size ≤ sizeLine; rw [List.size_toArray, r.length]; exact z)
  exact k _ _ (Grow.push _ _) (Rest.mk' s _ s.toks) (Rd.mkTuple ⟨_, Heap.get?_push_size _ rfl, rfl, _, rfl⟩ (r.grow (Grow.push _ _)) z)
theorem newlist_ok {vs : List Value} {ds : List PyData} (r : Rds s.heap X vs ds) (z : ds.length ≤ szLine) (k : K s X Q (.own ds)) : wpAny (model prog w) A (newList vs) Q E s := by
  refine wpAny_newObj_type ?_ (by show vs.toArray.size ≤ sizeLine; rw [List.size_toArray, r.length]; exact z)
  exact k_push r z k

end
end Mine

/-! Deep embedding, part D: iterators, environments, the relation between the two syntaxes. -/
set_option autoImplicit false
namespace Mine
open PySem PyProof.Rows PySem.Calls

/-! ### iterators -/
noncomputable def Flds (h : Heap) (I : Addr) : Prop := ∃ o vs, h.get? I = some o ∧ o.data = .fields vs
theorem Flds.seq {h : Heap} {I b : Addr} {o : Obj} {xs : Array Value} {n : Nat} (f : Flds h I) (e : h.get? b = some o) (d : o.data = .seq xs n) : b ≠ I := by
  rintro rfl
  obtain ⟨o', vs, q1, q2⟩ := f
  rw [q1] at e; cases e; rw [q2] at d; cases d
section
variable {h h' : Heap} {X W : Ex} {I : Addr} {v : Value} {vs : List Value} {d : PyData} {ds : List PyData}
theorem Rd.ext (r : Rd h X v d) (f : Flds h I) (e : Heap.ExtBut I h h') : Rd h' X v d := r.keep fun b o _ _ hb hd _ => e b o (f.seq hb hd) hb
theorem Rds.ext (r : Rds h X vs ds) (f : Flds h I) (e : Heap.ExtBut I h h') : Rds h' X vs ds := r.keep fun b o _ _ hb hd _ => e b o (f.seq hb hd) hb
theorem isList_ext {a : Addr} {its : Array Value} (l : h.IsList a its) (f : Flds h I) (e : Heap.ExtBut I h h') : h'.IsList a its :=
  let ⟨o, h1, h2, n, h3⟩ := l; ⟨o, e a o (f.seq h1 h3) h1, h2, n, h3⟩
end
noncomputable def ItAt (h : Heap) (X W : Ex) (I : Addr) (xs : List PyData) : Prop :=
  (∃ ax vs ds i, h.IsListIter I ax i ∧ h.IsList ax vs.toArray ∧ ¬ W ax ∧ Rds h X vs ds ∧ xs = ds.drop i) ∨
  (∃ (x step : Int) (n : Nat), IsRangeIter h I x n step ∧ xs = (List.range n).map fun (i : Nat) => PyData.int (x + (i : Int) * step))
theorem ItAt.flds {h : Heap} {X W : Ex} {I : Addr} {xs : List PyData} (i : ItAt h X W I xs) : Flds h I := by
  rcases i with ⟨_, _, _, _, ⟨o, h1, _, h2⟩, _⟩ | ⟨_, _, _, h1, _⟩
  · exact ⟨o, _, h1, h2⟩
  · exact ⟨_, _, h1, rfl⟩
section
variable {prog : Program} {w : World} {A : Around} {E : Value → Shared → Prop} {s : Shared} {X W : Ex} {I : Addr}
theorem it_next {x : PyData} {xs : List PyData} {Q : Option Value → Shared → Prop} (i : ItAt s.heap X W I (x :: xs))
    (k : ∀ v h' tk, Rd s.heap X v x → ItAt h' X W I xs → Heap.ExtBut I s.heap h' → Q (some v) { s with heap := h', toks := tk }) : wpAny (model prog w) A (pyNext (.ref I)) Q E s := by
  have f := i.flds
  rcases i with ⟨ax, vs, ds, j, h1, h2, h3, h4, e⟩ | ⟨x₀, step, n, h1, e⟩
  · have hx : ds[j]? = some x := by
      have := congrArg (fun l => l[0]?) e
      simpa using this.symm
    have hr : xs = ds.drop (j + 1) := by
      have := congrArg List.tail e
      simpa using this
    obtain ⟨v, e1, e2⟩ := h4.get hx
    refine wpAny_pyNext_list_item h1 h2 (by simpa using e1) fun h' q1 q2 => ?_
    exact k v h' s.toks e2 (.inl ⟨ax, vs, ds, j + 1, q1, isList_ext h2 f q2.extBut, h3, h4.ext f q2.extBut, hr⟩) q2.extBut
  · cases n with
    | zero => cases e
    | succ n =>
      rw [List.range_succ_eq_map, List.map_cons] at e
      injection e with e1 e2
      refine wpAny_pyNext_range_item h1 (by omega) fun h' q1 q2 => ?_
      have hn : ((n + 1 : Nat) : Int) - 1 = (n : Int) := by omega
      rw [hn] at q1
      refine k _ h' _ ?_ (.inr ⟨x₀ + step, step, n, q1, ?_⟩) q2.extBut
      · rw [e1]; simpa using Rd.mkInt x₀ s.toks
      · rw [e2, List.map_map]
        refine List.map_congr_left fun i _ => ?_
        simp only [Function.comp, Nat.succ_eq_add_one, PyData.int.injEq]
        rw [Int.natCast_add, Int.add_mul]
        simp; omega
theorem it_end {Q : Option Value → Shared → Prop} (hh : A.handled = none) (i : ItAt s.heap X W I [])
    (k : ∀ h', Heap.ExtBut I s.heap h' → Q none { s with heap := h' }) : wpAny (model prog w) A (pyNext (.ref I)) Q E s := by
  rcases i with ⟨ax, vs, ds, j, h1, h2, h3, h4, e⟩ | ⟨x₀, step, n, h1, e⟩
  · have hx : vs.length ≤ j := by
      rw [h4.length]
      have := congrArg List.length e
      simp at this; omega
    exact wpAny_pyNext_list_end hh h1 h2 (by simp [hx]) k
  · have : n = 0 := by
      have := congrArg List.length e
      simpa using this.symm
    subst this
    exact wpAny_pyNext_range_end hh h1 (by simp) k
theorem ItAt.keep {h h' : Heap} {Y V : Ex} {xs : List PyData} (i : ItAt h X W I xs) (kI : ∀ o, h.get? I = some o → h'.get? I = some o) (kW : ∀ b o xs n, h.get? b = some o → o.data = .seq xs n → ¬ W b → h'.get? b = some o ∧ ¬ V b)
    (f : ∀ v d, Rd h X v d → Rd h' Y v d) : ItAt h' Y V I xs := by
  rcases i with ⟨ax, vs, ds, j, ⟨o, a1, a2, a3⟩, ⟨o', b1, b2, n, b3⟩, h3, h4, e⟩ | ⟨x₀, step, n, h1, e⟩
  · obtain ⟨q1, q2⟩ := kW _ _ _ _ b1 b3 h3
    exact .inl ⟨ax, vs, ds, j, ⟨o, kI o a1, a2, a3⟩, ⟨o', q1, b2, n, b3⟩, q2, h4.mono f, e⟩
  · exact .inr ⟨x₀, step, n, kI _ h1, e⟩
end

/-! ### environments -/
structure EnvOk (env : Env) : Prop where
  globals : env.globals = mainGlobals
  builtins : env.builtins = builtinsNs
  kind : env.scope.kind = .function
  cells : ∀ x, env.scope.names.lookup x = some .cell → ∃ c, env.cells.lookup x = some c
noncomputable def Loads (env : Env) (h : Heap) (x : Str) (v : Value) : Prop :=
  (env.scope.names.lookup x = some .local ∧ ∃ m, h.Ns env.locals m ∧ m x = some v) ∨
  (env.scope.names.lookup x = some .cell ∧ ∃ c, env.cells.lookup x = some c ∧ h.IsCell c (some v))
theorem Loads.grow {env : Env} {h h' : Heap} {x : Str} {v : Value} (l : Loads env h x v) (g : Grow h h') : Loads env h' x v := by
  rcases l with ⟨a, m, b, c⟩ | ⟨a, c, b, d⟩
  · exact .inl ⟨a, m, b.keeps g, c⟩
  · exact .inr ⟨a, c, b, d.keeps g⟩
noncomputable def AvOk (h : Heap) (X : Ex) (v : Value) : AV → Prop
  | .val d => Rd h X v d
  | .own ds => ∃ a vs, v = .ref a ∧ h.PlainList a vs.toArray ∧ Rds h X vs ds ∧ ds.length ≤ szLine
theorem AvOk.grow {h h' : Heap} {X : Ex} {v : Value} {a : AV} (q : AvOk h X v a) (g : Grow h h') : AvOk h' X v a := by
  cases a with
  | val d => exact Rd.grow q g
  | own ds => obtain ⟨a, vs, e, ⟨n, p⟩, r, z⟩ := q; exact ⟨a, vs, e, ⟨n, g _ _ p⟩, r.grow g, z⟩
noncomputable def VarsOk (nm : List Str) (env : Env) (h : Heap) (X : Ex) (G : Gam) : Prop :=
  ∀ k a x, look G k = some a → nm[k]? = some x → ∃ v, Loads env h x v ∧ AvOk h X v a
theorem VarsOk.grow {nm : List Str} {env : Env} {h h' : Heap} {X : Ex} {G : Gam} (q : VarsOk nm env h X G) (g : Grow h h') : VarsOk nm env h' X G :=
  fun k a x e1 e2 => let ⟨v, l, o⟩ := q k a x e1 e2; ⟨v, l.grow g, o.grow g⟩

/-- the functions, and the global tuples of ints -/
structure Nf where
  fs : List DefRec
  ls : List (Str × List Int)
noncomputable def biNames : List Str := ["len", "range", "abs", "min", "max", "sum", "sorted", "list", "type", "int", "tuple", "all"]
structure Cx (nf : Nf) (mg mb : Str → Option Value) (h : Heap) : Prop where
  g : h.Ns mainGlobals mg
  b : h.Ns builtinsNs mb
  nolimit : h.NoLimit
  fn : ∀ (i : Nat) (d : DefRec), nf.fs[i]? = some d → ∃ a o pm code doc, mg d.name = some (.ref a) ∧ h.get? a = some o ∧ o.data = .func (docDef d.name d.params d.body d.scope pm code doc) ∧ h.CodeRec code d.name
  bi : ∀ x ∈ biNames, mg x = none ∧ mb x = bootBuiltins x
  lit : ∀ q ∈ nf.ls, ∃ a vs, mg q.1 = some (.ref a) ∧ IsTup h a vs.toArray ∧ IntsAre vs q.2
theorem Cx.keeps {nf : Nf} {mg mb : Str → Option Value} {h h' : Heap} (c : Cx nf mg mb h) (g : Grow h h') : Cx nf mg mb h' :=
  ⟨c.g.keeps g, c.b.keeps g, c.nolimit.keeps g, fun i d e => let ⟨a, o, pm, code, doc, h1, h2, h3, h4⟩ := c.fn i d e; ⟨a, o, pm, code, doc, h1, g _ _ h2, h3, h4.keeps g⟩, c.bi, fun q hq => let ⟨a, vs, h1, h2, h3⟩ := c.lit q hq; ⟨a, vs, h1, h2.keeps g, h3⟩⟩
noncomputable def Room (A : Around) (n : Nat) : Prop := A.handled = none ∧ A.depth + n < recursionLimit ∧ A.units + 8 * n + 200 < cLine

structure Ctx (n : Nat) (nm : List Str) (nf : Nf) (mg mb : Str → Option Value) (A : Around) (env : Env) (s : Shared) (X : Ex) (G : Gam) : Prop where
  room : Room A n
  eo : EnvOk env
  cx : Cx nf mg mb s.heap
  dom : XDom X s.heap
  vars : VarsOk nm env s.heap X G
theorem Ctx.grow {n : Nat} {nm : List Str} {nf : Nf} {mg mb : Str → Option Value} {A : Around} {env : Env} {s s' : Shared} {X : Ex} {G : Gam} (c : Ctx n nm nf mg mb A env s X G) (g : Grow s.heap s'.heap) : Ctx n nm nf mg mb A env s' X G :=
  ⟨c.room, c.eo, c.cx.keeps g, c.dom.grow g, c.vars.grow g⟩

section
variable {M : Model} {A : Around} {E : Value → Shared → Prop} {s : Shared} {env : Env} {x : Str} {pos : Pos} {v : Value} {Q : Value → Shared → Prop}
theorem loads_ok (eo : EnvOk env) (l : Loads env s.heap x v) (hd : (x == ("__debug__" : Str)) = false) (k : Q v s) : wpAny M A (eval (.Name x pos) env) Q E s := by
  rcases l with ⟨a, m, b, c⟩ | ⟨a, c, b, d⟩
  · exact wpAny_Name (wpAny_loadName_local eo.kind a b c k) hd
  · exact wpAny_Name (wpAny_loadName_cell eo.kind a b d k) hd
theorem glob_ok {mg : Str → Option Value} (eo : EnvOk env) (hg : s.heap.Ns mainGlobals mg) (hx : env.scope.names.lookup x = some .globalImplicit) (hd : (x == ("__debug__" : Str)) = false) (hv : mg x = some v) (k : Q v s) :
    wpAny M A (eval (.Name x pos) env) Q E s :=
  Name_function_global eo.kind hx (loadGlobal_global (env := env) (by rw [eo.globals]; exact hg) hv k) hd
theorem bi_ok {nf : Nf} {mg mb : Str → Option Value} (eo : EnvOk env) (c : Cx nf mg mb s.heap) (hx : env.scope.names.lookup x = some .globalImplicit) (hm : x ∈ biNames) (hv : bootBuiltins x = some v) (hd : (x == ("__debug__" : Str)) = false) (k : Q v s) :
    wpAny M A (eval (.Name x pos) env) Q E s :=
  Name_function_global eo.kind hx (loadGlobal_builtin (env := env) (by rw [eo.globals]; exact c.g) (c.bi x hm).1 (by rw [eo.builtins]; exact c.b) ((c.bi x hm).2.trans hv) k) hd
end

/-! ### the relation of the two syntaxes -/
noncomputable def relab (scope sc : Scope) : Scope :=
  { scope with names := scope.names.map fun (n, k) => if (k == .free && sc.kind == .function && sc.names.lookup n == some .cell) then (n, .cell) else (n, k) }
noncomputable def ckC : Ck → Const
  | .none => .none
  | .bool b => .bool b
noncomputable def isOp (neg : Bool) : CmpOp := if neg then .IsNot else .Is
noncomputable def notSlice : Expr → Bool
  | .Slice .. => false
  | _ => true
noncomputable def GI (sc : Scope) (x : Str) : Prop := sc.names.lookup x = some .globalImplicit
/-- the target of a loop or of an assignment of several names -/
inductive CT (nm : List Str) (sc : Scope) : Expr → Tg → Prop
  | one {x : Str} {pos : Pos} {k : Nat} : nm[k]? = some x → (sc.names.lookup x = some .local ∨ sc.names.lookup x = some .cell) → CT nm sc (.Name x pos) (.one k)
  | two {x y : Str} {p q pos : Pos} {i j k : Nat} : nm[i]? = some x → nm[j]? = some y → (sc.names.lookup x = some .local ∨ sc.names.lookup x = some .cell) → (sc.names.lookup y = some .local ∨ sc.names.lookup y = some .cell) → i ≠ j →
      CT nm sc (.Tuple [.Name x p, .Name y q] k pos) (.many [i, j])
  | three {x y z : Str} {p q r pos : Pos} {i j l k : Nat} : nm[i]? = some x → nm[j]? = some y → nm[l]? = some z → (sc.names.lookup x = some .local ∨ sc.names.lookup x = some .cell) → (sc.names.lookup y = some .local ∨ sc.names.lookup y = some .cell) →
      (sc.names.lookup z = some .local ∨ sc.names.lookup z = some .cell) → i ≠ j → i ≠ l → j ≠ l → CT nm sc (.Tuple [.Name x p, .Name y q, .Name z r] k pos) (.many [i, j, l])

/-- neither a starred expression nor a set's display -/
noncomputable def plain : Expr → Bool
  | .Starred .. => false
  | .Set .. => false
  | _ => true
noncomputable def plains : List Expr → Bool
  | [] => true
  | x :: r => plain x && plains r
end Mine

/-! Deep embedding, part E: expressions are as their evaluation says (all but comprehensions). -/
set_option autoImplicit false
namespace Mine
open PySem PyProof.Rows PySem.Calls

structure Par where
  prog : Program
  w : World
  F : Nat → List PyData → Option BV
  n : Nat
  nm : List Str
  nf : Nf
  mg : Str → Option Value
  mb : Str → Option Value
variable {P : Par}
abbrev Cxt (P : Par) (A : Around) (env : Env) (s : Shared) (X : Ex) (G : Gam) : Prop := Ctx P.n P.nm P.nf P.mg P.mb A env s X G
abbrev Ok (P : Par) (sc : Scope) (e : Expr) (e' : E) : Prop :=
  ∀ {G : Gam} {r : BV} {A : Around} {env : Env} {s : Shared} {X : Ex} {Q : Value → Shared → Prop} {E' : Value → Shared → Prop},
    ev P.F G e' = some r → Cxt P A env s X G → env.scope = sc → K s X Q r → wpAny (model P.prog P.w) A (eval e env) Q E' s
abbrev OkT (P : Par) (sc : Scope) (e : Expr) (e' : E) : Prop :=
  ∀ {G : Gam} {x : BV} {b : Bool} {A : Around} {env : Env} {s : Shared} {X : Ex} {Q : Bool → Shared → Prop} {E' : Value → Shared → Prop},
    ev P.F G e' = some x → asBool x.d = some b → Cxt P A env s X G → env.scope = sc → (∀ s', Grow s.heap s'.heap → Rest s s' → Q b s') → wpAny (model P.prog P.w) A (isTrue e env (eval e env)) Q E' s
noncomputable def Sound1 (P : Par) (f : Nat) (args : List PyData) (r : BV) : Prop :=
  ∀ {A : Around} {s : Shared} {X : Ex} {Q : Value → Shared → Prop} {E' : Value → Shared → Prop} {vs : List Value} {a : Addr} {d : DefRec},
    Room A P.n → Cx P.nf P.mg P.mb s.heap → XDom X s.heap → Rds s.heap X vs args → P.nf.fs[f]? = some d → P.mg d.name = some (.ref a) → r.isBor = false → K s X Q r → wpAny (model P.prog P.w) A (call (.ref a) vs) Q E' s

theorem K.after {s s₂ : Shared} {X : Ex} {Q : Value → Shared → Prop} {r : BV} (k : K s X Q r) (g : Grow s.heap s₂.heap) (t : Rest s s₂) : K s₂ X Q r :=
  fun v s' g' t' q => k v s' (g.trans g') (t.trans t') (q.elder g)
theorem asBool_eq {d : PyData} {b : Bool} (h : asBool d = some b) : d = .bool b := by cases d <;> cases h <;> rfl
theorem asInt_eq {d : PyData} {i : Int} (h : asInt d = some i) : d = .int i := by cases d <;> cases h <;> rfl
theorem units_ok {A : Around} {n : Nat} (r : Room A n) : A.units + 64 < cLine := by have := r.2.2; omega

theorem okT_of {sc : Scope} {e : Expr} {e' : E} (h : Ok P sc e e') (he : ∀ env whole, isTrue e env whole = (do let v ← whole; standAt e.pos; holding [v] (truthy v))) : OkT P sc e e' := by
  intro G x b A env s X Q E' hx hb c hs k
  refine isTrue_plain (h hx c hs fun v s' g t q => ?_) (he _ _)
  rw [q.bool (asBool_eq hb)]
  exact wpAny_truthy_bool (k s' g t)

section
variable {sc : Scope} {l r x y z i : Expr} {a b c : E} {pos p : Pos}

theorem ok_int {i : Int} {k : Nat} : Ok P sc (.Constant (.int i) k pos) (.int i) := by
  intro G r A env s X Q E' h c hs k
  cases h
  exact wpAny_Constant_int (k_int k)
theorem ok_bool {b : Bool} {k : Nat} : Ok P sc (.Constant (.bool b) k pos) (.bool b) := by
  intro G r A env s X Q E' h c hs k
  cases h
  exact wpAny_pure (k_bool k)
theorem ok_none {k : Nat} : Ok P sc (.Constant .none k pos) .none := by
  intro G r A env s X Q E' h c hs k
  cases h
  exact wpAny_pure (k _ _ (Grow.refl _) (Rest.refl _) Rd.mkNone)
theorem ok_var {x : Str} {k : Nat} (hk : P.nm[k]? = some x) (hd : (x == ("__debug__" : Str)) = false) : Ok P sc (.Name x pos) (.var k) := by
  intro G r A env s X Q E' h c hs kk
  simp only [ev] at h
  split at h
  · rename_i d hl
    cases h
    obtain ⟨v, l, o⟩ := c.vars k _ x hl hk
    exact loads_ok c.eo l hd (kk _ _ (Grow.refl _) (Rest.refl _) o)
  · rename_i ds hl
    cases h
    obtain ⟨v, l, o⟩ := c.vars k _ x hl hk
    exact loads_ok c.eo l hd (kk _ _ (Grow.refl _) (Rest.refl _) o)
  · cases h
theorem ok_bin {o : Op} {op : Operator} (ho : opPy o = op) (h1 : Ok P sc l a) (h2 : Ok P sc r b) : Ok P sc (.BinOp l op r pos) (.bin o a b) := by
  intro G v A env s X Q E' h c hs k
  subst ho
  simp only [ev, Option.bind_eq_some_iff] at h
  obtain ⟨x, hx, y, hy, h⟩ := h
  refine wpAny_BinOp (h1 hx c hs fun v1 s1 g1 t1 q1 => h2 hy (c.grow g1) hs fun v2 s2 g2 t2 q2 => ?_)
  exact bin_ok h (q1.opd.grow g2) q2.opd (k.after (g1.trans g2) (t1.trans t2))
theorem wpAny_UnaryOp {M : Model} {A : Around} {E : Value → Shared → Prop} {s : Shared} {env : Env} {op : UnaryOp} {x : Expr} {Q : Value → Shared → Prop}
    (h : wpAny M A (eval x env) (fun v s₁ => wpAny M A (unaryOp op v) Q E s₁) E s) : wpAny M A (eval (.UnaryOp op x pos) env) Q E s := by
  show wpAny M A (do let v ← eval x env; standAt pos; holding [v] (unaryOp op v)) Q E s
  exact wpAny_bind (wpAny_mono h (fun v s₁ h₁ => wpAny_bind (wpAny_standAt (wpAny_holding h₁))) fun _ _ e => e)
theorem ok_neg (h1 : Ok P sc x a) : Ok P sc (.UnaryOp .USub x pos) (.neg a) := by
  intro G v A env s X Q E' h c hs k
  simp only [ev, Option.bind_eq_some_iff, Option.map_eq_some_iff] at h
  obtain ⟨x, hx, i, hi, rfl⟩ := h
  refine wpAny_UnaryOp (h1 hx c hs fun v1 s1 g1 t1 q1 => ?_)
  obtain ⟨t, rfl⟩ := q1.int (asInt_eq hi)
  exact neg_int (k_int (k.after g1 t1))
theorem ok_not (h1 : Ok P sc x a) : Ok P sc (.UnaryOp .Not x pos) (.not a) := by
  intro G v A env s X Q E' h c hs k
  simp only [ev, Option.bind_eq_some_iff, Option.map_eq_some_iff] at h
  obtain ⟨x, hx, i, hi, rfl⟩ := h
  refine wpAny_UnaryOp (h1 hx c hs fun v1 s1 g1 t1 q1 => ?_)
  rw [q1.bool (asBool_eq hi)]
  exact not_of (wpAny_truthy_bool (k_bool (k.after g1 t1)))
theorem okT_not (h1 : OkT P sc x a) : OkT P sc (.UnaryOp .Not x pos) (.not a) := by
  intro G v b A env s X Q E' h hb c hs k
  simp only [ev, Option.bind_eq_some_iff, Option.map_eq_some_iff] at h
  obtain ⟨x, hx, i, hi, rfl⟩ := h
  cases hb
  exact isTrue_not (h1 hx hi c hs k)
theorem ok_cmp {o : Cm} {op : CmpOp} (ho : cmPy o = op) (hm : behindInMarks op r = false) (h1 : Ok P sc l a) (h2 : Ok P sc r b) : Ok P sc (.Compare l [op] [r] pos) (.cmp o a b) := by
  intro G v A env s X Q E' h c hs k
  subst ho
  simp only [ev, Option.bind_eq_some_iff, Option.map_eq_some_iff] at h
  obtain ⟨x, hx, y, hy, b, h, rfl⟩ := h
  refine wpAny_Compare1 (h1 hx c hs fun v1 s1 g1 t1 q1 => h2 hy (c.grow g1) hs fun v2 s2 g2 t2 q2 => ?_) hm
  exact cmp_ok (units_ok c.room) h (q1.opd.grow g2) q2.opd (k_bool (k.after (g1.trans g2) (t1.trans t2)))
theorem okT_cmp {o : Cm} {op : CmpOp} (ho : cmPy o = op) (hm : behindInMarks op r = false) (h1 : Ok P sc l a) (h2 : Ok P sc r b) : OkT P sc (.Compare l [op] [r] pos) (.cmp o a b) := by
  intro G v t A env s X Q E' h hb c hs k
  subst ho
  simp only [ev, Option.bind_eq_some_iff, Option.map_eq_some_iff] at h
  obtain ⟨x, hx, y, hy, b, h, rfl⟩ := h
  cases hb
  refine wpAny_isTrue_Compare1 (h1 hx c hs fun v1 s1 g1 t1 q1 => h2 hy (c.grow g1) hs fun v2 s2 g2 t2 q2 => ?_) hm
  exact cmp_ok (units_ok c.room) h (q1.opd.grow g2) q2.opd (wpAny_truthy_bool (k s2 (g1.trans g2) (t1.trans t2)))
theorem isop_ok {prog : Program} {w : World} {A : Around} {E : Value → Shared → Prop} {s : Shared} {X : Ex} {Q : Value → Shared → Prop} {v : Value} {d : PyData} {c : Ck} {n : Bool} (hv : Opd s.heap X v d) (k : Q (.bool (isCk d c != n)) s) :
    wpAny (model prog w) A (compareOp (isOp n) v (ckV c)) Q E s := by
  cases n with
  | false => exact is_ok hv (by simpa using k)
  | true => exact isNot_ok hv (by simpa using k)
theorem const_ok {M : Model} {A : Around} {E : Value → Shared → Prop} {s : Shared} {env : Env} {c : Ck} {k : Nat} {Q : Value → Shared → Prop} (h : Q (ckV c) s) : wpAny M A (eval (.Constant (ckC c) k p) env) Q E s := by
  cases c <;> exact wpAny_pure h
theorem ok_isC {n : Bool} {ck : Ck} {op : CmpOp} {cc : Const} {k : Nat} (ho : isOp n = op) (hc : ckC ck = cc) (h1 : Ok P sc l a) : Ok P sc (.Compare l [op] [.Constant cc k p] pos) (.isC n a ck) := by
  intro G v A env s X Q E' h c hs kk
  subst ho hc
  simp only [ev, Option.bind_eq_some_iff, Option.some.injEq] at h
  obtain ⟨x, hx, rfl⟩ := h
  refine wpAny_Compare1 (h1 hx c hs fun v1 s1 g1 t1 q1 => const_ok ?_) (by cases n <;> rfl)
  exact isop_ok q1.opd (k_bool (kk.after g1 t1))
theorem okT_isC {n : Bool} {ck : Ck} {op : CmpOp} {cc : Const} {k : Nat} (ho : isOp n = op) (hc : ckC ck = cc) (h1 : Ok P sc l a) : OkT P sc (.Compare l [op] [.Constant cc k p] pos) (.isC n a ck) := by
  intro G v b A env s X Q E' h hb c hs kk
  subst ho hc
  simp only [ev, Option.bind_eq_some_iff, Option.some.injEq] at h
  obtain ⟨x, hx, rfl⟩ := h
  cases hb
  refine wpAny_isTrue_Compare1 (h1 hx c hs fun v1 s1 g1 t1 q1 => const_ok ?_) (by cases n <;> rfl)
  exact isop_ok q1.opd (wpAny_truthy_bool (kk _ g1 t1))
theorem ce_call1 {env : Env} {x : Expr} (hst : starEach [x] env = [(false, eval x env)]) {M : Model} {A : Around} {E : Value → Shared → Prop} {s : Shared} {Q : List Value → Shared → Prop}
    (h : wpAny M A (eval x env) (fun v s₁ => Q [v] s₁) E s) : wpAny M A (spliced (backTo pos (starEach [x] env))) Q E s :=
  args_cons (wpAny_mono h (fun _ _ q => args_nil q) fun _ _ e => e) (by rw [hst]; rfl)

theorem ce_star {env : Env} {rest : List Expr} (h : plain x = true) : starEach (x :: rest) env = (false, eval x env) :: starEach rest env := by
  cases x <;> first | rfl | exact (Bool.false_ne_true h).elim
theorem call_fn_ok {x : Str} {v : Value} {env : Env} {args : List Expr} {A : Around} {s : Shared} {X : Ex} {G : Gam} {Q : Value → Shared → Prop} {E' : Value → Shared → Prop} (c : Cxt P A env s X G) (hx : env.scope.names.lookup x = some .globalImplicit)
    (hm : x ∈ biNames) (hv : bootBuiltins x = some v) (hd : (x == ("__debug__" : Str)) = false) (h : wpAny (model P.prog P.w) A (callWith pos v [] (backTo pos (starEach args env)) []) Q E' s) :
    wpAny (model P.prog P.w) A (eval (.Call (.Name x p) args [] pos) env) Q E' s :=
  Call_ (bi_ok c.eo c.cx hx hm hv hd h)
theorem bi1 {env : Env} {id : String} {A : Around} {s : Shared} {Q : Value → Shared → Prop} {E' : Value → Shared → Prop} (hc : plain x = true)
    (h : wpAny (model P.prog P.w) A (eval x env) (fun v s₁ => wpAny (model P.prog P.w) A (call (.builtin id) [v]) Q E' s₁) E' s) :
    wpAny (model P.prog P.w) A (callWith pos (.builtin id) [] (backTo pos (starEach [x] env)) []) Q E' s :=
  callWith_builtin1 (ce_call1 (by rw [ce_star hc]; rfl) h) (ce_star hc)
theorem ty1 {env : Env} {id : String} {A : Around} {s : Shared} {Q : Value → Shared → Prop} {E' : Value → Shared → Prop} (hc : plain x = true)
    (h : wpAny (model P.prog P.w) A (eval x env) (fun v s₁ => wpAny (model P.prog P.w) A (call (.type id) [v]) Q E' s₁) E' s) :
    wpAny (model P.prog P.w) A (callWith pos (.type id) [] (backTo pos (starEach [x] env)) []) Q E' s :=
  PyProof.Rows.callWith_type1 (ce_call1 (by rw [ce_star hc]; rfl) h) (ce_star hc)
/-! and, or -/
abbrev OkB (P : Par) (sc : Scope) (op : BoolOp) (es : List Expr) (e' : E) : Prop :=
  ∀ {G : Gam} {x : BV} {b : Bool} {A : Around} {env : Env} {s : Shared} {X : Ex} {Q : Value → Shared → Prop} {E' : Value → Shared → Prop} {pos : Pos},
    ev P.F G e' = some x → asBool x.d = some b → Cxt P A env s X G → env.scope = sc → (∀ s', Grow s.heap s'.heap → Rest s s' → Q (.bool b) s') → wpAny (model P.prog P.w) A (boolOp pos op (evalEach es env)) Q E' s
abbrev OkBT (P : Par) (sc : Scope) (op : BoolOp) (es : List Expr) (e' : E) : Prop :=
  ∀ {G : Gam} {x : BV} {b : Bool} {A : Around} {env : Env} {s : Shared} {X : Ex} {Q : Bool → Shared → Prop} {E' : Value → Shared → Prop},
    ev P.F G e' = some x → asBool x.d = some b → Cxt P A env s X G → env.scope = sc → (∀ s', Grow s.heap s'.heap → Rest s s' → Q b s') → wpAny (model P.prog P.w) A (allTrue op es env) Q E' s
theorem okB_one {op : BoolOp} (h1 : Ok P sc x a) : OkB P sc op [x] a := by
  intro G v b A env s X Q E' pos h hb c hs k
  refine h1 h c hs fun v1 s1 g1 t1 q1 => ?_
  rw [q1.bool (asBool_eq hb)]
  exact k s1 g1 t1
theorem allTrue_cons {M : Model} {A : Around} {E : Value → Shared → Prop} {s : Shared} {env : Env} {op : BoolOp} {x : Expr} {r : List Expr} {Q : Bool → Shared → Prop}
    (h : wpAny M A (isTrue x env (eval x env)) (fun t s₁ => match op, t with | .And, false => Q false s₁ | .Or, true => Q true s₁ | _, _ => wpAny M A (allTrue op r env) Q E s₁) E s) : wpAny M A (allTrue op (x :: r) env) Q E s := by
  show wpAny M A (do match op, ← isTrue x env (eval x env) with | .And, false => pure false | .Or, true => pure true | _, _ => allTrue op r env) Q E s
  refine wpAny_bind (wpAny_mono h (fun t s₁ h₁ => ?_) fun _ _ e => e)
  cases op <;> cases t <;> first | exact wpAny_pure h₁ | exact h₁
theorem boolOp_cons {M : Model} {A : Around} {E : Value → Shared → Prop} {s : Shared} {op : BoolOp} {t u : Sem Value} {r : List (Sem Value)} {Q : Value → Shared → Prop}
    (h : wpAny M A t (fun v s₁ => wpAny M A (truthy v) (fun b s₂ => match op, b with | .And, false => Q v s₂ | .Or, true => Q v s₂ | _, _ => wpAny M A (boolOp pos op (u :: r)) Q E s₂) E s₁) E s) : wpAny M A (boolOp pos op (t :: u :: r)) Q E s := by
  show wpAny M A (do let v ← t; standAt pos; let b ← holding [v] (truthy v); match op, b with | .And, false => pure v | .Or, true => pure v | _, _ => boolOp pos op (u :: r)) Q E s
  refine wpAny_bind (wpAny_mono h (fun v s₁ h₁ => wpAny_bind (wpAny_standAt (wpAny_bind (wpAny_holding (wpAny_mono h₁ (fun b s₂ h₂ => ?_) fun _ _ e => e))))) fun _ _ e => e)
  cases op <;> cases b <;> first | exact wpAny_pure h₂ | exact h₂
theorem okBT_one {op : BoolOp} (h1 : OkT P sc x a) : OkBT P sc op [x] a := by
  intro G v b A env s X Q E' h hb c hs k
  refine allTrue_cons (h1 h hb c hs fun s1 g1 t1 => ?_)
  cases op <;> cases b <;> first | exact k s1 g1 t1 | exact wpAny_pure (k s1 g1 t1)
theorem okB_and {r : List Expr} (h1 : Ok P sc x a) (h2 : OkB P sc .And (y :: r) b) : OkB P sc .And (x :: y :: r) (.and a b) := by
  intro G v t A env s X Q E' pos h hb c hs k
  simp only [ev, Option.bind_eq_some_iff] at h
  obtain ⟨x, hx, u, hu, h⟩ := h
  refine boolOp_cons (r := evalEach r env) (h1 hx c hs fun v1 s1 g1 t1 q1 => ?_)
  rw [q1.bool (asBool_eq hu)]
  refine wpAny_truthy_bool ?_
  cases u with
  | false => cases h; cases hb; exact k s1 g1 t1
  | true =>
    simp only [Option.bind_eq_some_iff, Option.map_eq_some_iff] at h
    obtain ⟨y, hy, d, hd, rfl⟩ := h
    cases hb
    exact h2 hy hd (c.grow g1) hs fun s2 g2 t2 => k s2 (g1.trans g2) (t1.trans t2)
theorem okB_or {r : List Expr} (h1 : Ok P sc x a) (h2 : OkB P sc .Or (y :: r) b) : OkB P sc .Or (x :: y :: r) (.or a b) := by
  intro G v t A env s X Q E' pos h hb c hs k
  simp only [ev, Option.bind_eq_some_iff] at h
  obtain ⟨x, hx, u, hu, h⟩ := h
  refine boolOp_cons (r := evalEach r env) (h1 hx c hs fun v1 s1 g1 t1 q1 => ?_)
  rw [q1.bool (asBool_eq hu)]
  refine wpAny_truthy_bool ?_
  cases u with
  | true => cases h; cases hb; exact k s1 g1 t1
  | false =>
    simp only [Option.bind_eq_some_iff, Option.map_eq_some_iff] at h
    obtain ⟨y, hy, d, hd, rfl⟩ := h
    cases hb
    exact h2 hy hd (c.grow g1) hs fun s2 g2 t2 => k s2 (g1.trans g2) (t1.trans t2)
theorem okBT_and {r : List Expr} (h1 : OkT P sc x a) (h2 : OkBT P sc .And (y :: r) b) : OkBT P sc .And (x :: y :: r) (.and a b) := by
  intro G v t A env s X Q E' h hb c hs k
  simp only [ev, Option.bind_eq_some_iff] at h
  obtain ⟨x, hx, u, hu, h⟩ := h
  refine allTrue_cons (h1 hx hu c hs fun s1 g1 t1 => ?_)
  cases u with
  | false => cases h; cases hb; exact k s1 g1 t1
  | true =>
    simp only [Option.bind_eq_some_iff, Option.map_eq_some_iff] at h
    obtain ⟨y, hy, d, hd, rfl⟩ := h
    cases hb
    exact h2 hy hd (c.grow g1) hs fun s2 g2 t2 => k s2 (g1.trans g2) (t1.trans t2)
theorem okBT_or {r : List Expr} (h1 : OkT P sc x a) (h2 : OkBT P sc .Or (y :: r) b) : OkBT P sc .Or (x :: y :: r) (.or a b) := by
  intro G v t A env s X Q E' h hb c hs k
  simp only [ev, Option.bind_eq_some_iff] at h
  obtain ⟨x, hx, u, hu, h⟩ := h
  refine allTrue_cons (h1 hx hu c hs fun s1 g1 t1 => ?_)
  cases u with
  | true => cases h; cases hb; exact k s1 g1 t1
  | false =>
    simp only [Option.bind_eq_some_iff, Option.map_eq_some_iff] at h
    obtain ⟨y, hy, d, hd, rfl⟩ := h
    cases hb
    exact h2 hy hd (c.grow g1) hs fun s2 g2 t2 => k s2 (g1.trans g2) (t1.trans t2)
theorem boolRes {G : Gam} {e : E} {v : BV} (hv : ev P.F G e = some v) (he : (∃ a b, e = .and a b) ∨ ∃ a b, e = .or a b) : ∃ b, v = .val (.bool b) := by
  rcases he with ⟨a, b, rfl⟩ | ⟨a, b, rfl⟩
  · simp only [ev, Option.bind_eq_some_iff] at hv
    obtain ⟨x, hx, u, hu, h⟩ := hv
    cases u with
    | false => cases h; exact ⟨_, rfl⟩
    | true =>
      simp only [Option.bind_eq_some_iff, Option.map_eq_some_iff] at h
      obtain ⟨y, hy, d, hd, rfl⟩ := h
      exact ⟨_, rfl⟩
  · simp only [ev, Option.bind_eq_some_iff] at hv
    obtain ⟨x, hx, u, hu, h⟩ := hv
    cases u with
    | true => cases h; exact ⟨_, rfl⟩
    | false =>
      simp only [Option.bind_eq_some_iff, Option.map_eq_some_iff] at h
      obtain ⟨y, hy, d, hd, rfl⟩ := h
      exact ⟨_, rfl⟩
theorem ok_boolop {op : BoolOp} {es : List Expr} {e : E} (he : (∃ a b, e = .and a b) ∨ ∃ a b, e = .or a b) (h1 : OkB P sc op es e) : Ok P sc (.BoolOp op es pos) e := by
  intro G v A env s X Q E' h c hs k
  obtain ⟨b, rfl⟩ := boolRes h he
  exact h1 h rfl c hs fun s' g t => k _ _ g t (Rd.mkBool _)
theorem okT_boolop {op : BoolOp} {es : List Expr} {e : E} (h1 : OkBT P sc op es e) : OkT P sc (.BoolOp op es pos) e := by
  intro G v b A env s X Q E' h hb c hs k
  exact h1 h hb c hs k

/-! arguments -/
inductive RsOk (h h' : Heap) (X : Ex) : List Value → List BV → Prop
  | nil : RsOk h h' X [] []
  | cons {v : Value} {vs : List Value} {r : BV} {rs : List BV} : ResOk h h' X v r → RsOk h h' X vs rs → RsOk h h' X (v :: vs) (r :: rs)
abbrev OkS (P : Par) (sc : Scope) (es : List Expr) (as : List E) : Prop :=
  ∀ {G : Gam} {xs : List BV} {A : Around} {env : Env} {s : Shared} {X : Ex} {Q : List Value → Shared → Prop} {E' : Value → Shared → Prop} {pos : Pos},
    evs P.F G as = some xs → Cxt P A env s X G → env.scope = sc → (∀ vs s', Grow s.heap s'.heap → Rest s s' → RsOk s.heap s'.heap X vs xs → Q vs s') → wpAny (model P.prog P.w) A (spliced (backTo pos (starEach es env))) Q E' s
theorem okS_nil : OkS P sc [] [] := by
  intro G xs A env s X Q E' pos h c hs k
  cases h
  exact args_nil (k [] s (Grow.refl _) (Rest.refl _) .nil)
theorem RsOk.elder {h g h' : Heap} {X : Ex} {vs : List Value} {rs : List BV} (r : RsOk h h' X vs rs) (k : Grow g h) : RsOk g h' X vs rs := by
  induction r with
  | nil => exact .nil
  | cons q _ ih => exact .cons (q.elder k) ih
theorem okS_cons {r : List Expr} {as : List E} (hc : plain x = true) (h1 : Ok P sc x a) (h2 : OkS P sc r as) : OkS P sc (x :: r) (a :: as) := by
  intro G xs A env s X Q E' pos h c hs k
  simp only [evs, Option.bind_eq_some_iff, Option.map_eq_some_iff] at h
  obtain ⟨y, hy, ys, hys, rfl⟩ := h
  refine args_cons (h1 hy c hs fun v1 s1 g1 t1 q1 => h2 hys (c.grow g1) hs fun vs s2 g2 t2 q2 => ?_) (ce_star hc)
  exact k _ s2 (g1.trans g2) (t1.trans t2) (.cons (q1.grow g2) (q2.elder g1))
theorem RsOk.rds {h h' : Heap} {X : Ex} {vs : List Value} {rs : List BV} (r : RsOk h h' X vs rs) (x : XDom X h) (nb : rs.any BV.isBor = false) : Rds h' X vs (rs.map BV.d) := by
  induction r with
  | nil => exact .nil
  | cons q _ ih =>
    simp only [List.any_cons, Bool.or_eq_false_iff] at nb
    exact .cons (q.rd x nb.1) (ih nb.2)
theorem ok_tup {es : List Expr} {as : List E} {k : Nat} (h1 : OkS P sc es as) : Ok P sc (.Tuple es k pos) (.tup as) := by
  intro G v A env s X Q E' h c hs k
  simp only [ev, Option.bind_eq_some_iff] at h
  obtain ⟨xs, hx, h⟩ := h
  split at h
  · cases h
  · rename_i q
    cases h
    simp only [Bool.or_eq_true, not_or, Bool.not_eq_true, decide_eq_false_iff_not, Nat.not_lt] at q
    refine Tuple_ (h1 hx c hs fun vs s1 g1 t1 q1 => ?_)
    have r := q1.rds c.dom q.1
    exact tuple_ok r (by rw [List.length_map]; exact q.2) (k.after g1 t1)
theorem ok_lst {es : List Expr} {as : List E} (h1 : OkS P sc es as) : Ok P sc (.List es pos) (.lst as) := by
  intro G v A env s X Q E' h c hs k
  simp only [ev, Option.bind_eq_some_iff] at h
  obtain ⟨xs, hx, h⟩ := h
  split at h
  · cases h
  · rename_i q
    cases h
    simp only [Bool.or_eq_true, not_or, Bool.not_eq_true, decide_eq_false_iff_not, Nat.not_lt] at q
    refine List_ (h1 hx c hs fun vs s1 g1 t1 q1 => ?_)
    have r := q1.rds c.dom q.1
    exact newlist_ok r (by rw [List.length_map]; exact q.2) (k.after g1 t1)
end
end Mine

/-! Deep embedding, part F: calls, items, slices. -/
set_option autoImplicit false
namespace Mine
open PySem PyProof.Rows PySem.Calls
variable {P : Par}
section
variable {sc : Scope} {l r x y z i : Expr} {a b c : E} {pos p : Pos}

theorem RsOk.rdsB {h h' : Heap} {X Y : Ex} {vs : List Value} {rs : List BV} (r : RsOk h h' X vs rs) (x : XDom X h) (sub : ∀ b, Y b → X b) (off : ∀ b, Y b → Value.ref b ∉ vs) : Rds h' Y vs (rs.map BV.d) := by
  induction r with
  | nil => exact .nil
  | @cons v vs r rs q _ ih =>
    refine .cons ?_ (ih fun b hb hm => off b hb (.tail _ hm))
    cases r with
    | val d => exact Rd.weaken q sub
    | own ds => exact (q.rd x rfl).weaken sub
    | bor ds =>
      obtain ⟨a, us, rfl, p, r, z⟩ := q
      exact Rd.mkList p.isList (r.weaken sub) z (fun ya => off a ya (.head _)) (let ⟨_, p⟩ := p; ⟨_, p, rfl⟩)
theorem ResOk.anyX {h h' : Heap} {X Y : Ex} {v : Value} {r : BV} (q : ResOk h h' X v r) (f : r.free = true) : ResOk h h' Y v r := by
  cases r with
  | val d => exact Rd.anyX q f
  | own ds => obtain ⟨a, vs, e, n, p, r, z⟩ := q; exact ⟨a, vs, e, n, p, r.anyX f, z⟩
  | bor ds => cases f

theorem ok_call {g : Str} {args : List Expr} {f : Nat} {as : List E} {d : DefRec} (hF : ∀ f args r, P.F f args = some r → Sound1 P f args r) (hd : P.nf.fs[f]? = some d) (hg : d.name = g) (gi : GI sc g) (hdb : (g == ("__debug__" : Str)) = false)
    (hc : plains args = true) (hl : args.length = as.length) (h1 : OkS P sc args as) : Ok P sc (.Call (.Name g p) args [] pos) (.call f as) := by
  intro G v A env s X Q E' h c hs k
  subst hg hs
  simp only [ev, Option.bind_eq_some_iff] at h
  obtain ⟨xs, hx, r, hr, h⟩ := h
  split at h
  · cases h
  rename_i q
  cases h
  simp only [Bool.or_eq_true, not_or, Bool.not_eq_true] at q
  obtain ⟨af, o, pm, code, doc, m1, m2, m3, m4⟩ := c.cx.fn f d hd
  have body : ∀ vs s1, Grow s.heap s1.heap → Rest s s1 → RsOk s.heap s1.heap X vs xs → wpAny (model P.prog P.w) A (call (.ref af) vs) Q E' s1 := by
    intro vs s1 g1 t1 q1
    cases hb : xs.any BV.isBor with
    | false => exact hF f _ v hr c.room (c.cx.keeps g1) (c.dom.grow g1) (q1.rds c.dom hb) hd m1 q.1 (k.after g1 t1)
    | true =>
      have fr : v.free = true := by
        have := q.2
        rw [hb] at this
        simpa using this
      refine hF f _ v hr (X := fun b => X b ∧ Value.ref b ∉ vs) c.room (c.cx.keeps g1) (fun b hb => c.dom.grow g1 b hb.1) (q1.rdsB c.dom (fun _ h => h.1) fun _ h => h.2) hd m1 q.1 fun v' s' g' t' q' => ?_
      exact k.after g1 t1 v' s' g' t' (q'.anyX fr)
  refine Call_ (glob_ok c.eo c.cx.g gi hdb m1 ?_)
  cases args with
  | nil =>
    refine callWith_function (o := o) (fd := docDef d.name d.params d.body d.scope pm code doc) (first := []) (PySem.evalArgs_none ⟨⟨m2, m3⟩, ?_⟩)
    cases as with
    | cons _ _ => cases hl
    | nil =>
      cases hx
      exact body [] s (Grow.refl _) (Rest.refl _) .nil
  | cons y r =>
    have ce : plain y = true := (Bool.and_eq_true_iff.mp hc).1
    refine callWith_def (o := o) (fd := docDef d.name d.params d.body d.scope pm code doc) m3 (h1 hx c rfl fun vs s1 g1 t1 q1 => ⟨g1 _ _ m2, body vs s1 g1 t1 q1⟩) (ce_star ce)

theorem ok_len (gi : GI sc "len") (hc : plain x = true) (h1 : Ok P sc x a) : Ok P sc (.Call (.Name "len" p) [x] [] pos) (.len a) := by
  intro G v A env s X Q E' h c hs k
  subst hs
  simp only [ev, Option.bind_eq_some_iff] at h
  obtain ⟨y, hy, h⟩ := h
  refine call_fn_ok c gi (by decide) (by decide +kernel) (by decide) (bi1 (id := "len") hc (h1 hy c rfl fun v1 s1 g1 t1 q1 => ?_))
  split at h
  · rename_i xs e
    cases h
    exact len_ok q1.opd (.inl ⟨xs, e, rfl⟩) (k.after g1 t1)
  · rename_i xs e
    cases h
    exact len_ok q1.opd (.inr ⟨xs, e, rfl⟩) (k.after g1 t1)
  · cases h
theorem ok_abs (gi : GI sc "abs") (hc : plain x = true) (h1 : Ok P sc x a) : Ok P sc (.Call (.Name "abs" p) [x] [] pos) (.abs a) := by
  intro G v A env s X Q E' h c hs k
  subst hs
  simp only [ev, Option.bind_eq_some_iff, Option.map_eq_some_iff] at h
  obtain ⟨y, hy, i, hi, rfl⟩ := h
  refine call_fn_ok c gi (by decide) (by decide +kernel) (by decide) (bi1 (id := "abs") hc (h1 hy c rfl fun v1 s1 g1 t1 q1 => ?_))
  obtain ⟨t, rfl⟩ := q1.int (asInt_eq hi)
  exact call_abs_int fun u tk => k_int (k.after g1 t1)
theorem ok_sum (gi : GI sc "sum") (hc : plain x = true) (h1 : Ok P sc x a) : Ok P sc (.Call (.Name "sum" p) [x] [] pos) (.sum1 a) := by
  intro G v A env s X Q E' h c hs k
  subst hs
  simp only [ev, Option.bind_eq_some_iff] at h
  obtain ⟨y, hy, h⟩ := h
  refine call_fn_ok c gi (by decide) (by decide +kernel) (by decide) (bi1 (id := "sum") hc (h1 hy c rfl fun v1 s1 g1 t1 q1 => ?_))
  split at h
  · rename_i xs e
    simp only [Option.map_eq_some_iff] at h
    obtain ⟨l, hl, rfl⟩ := h
    have o := q1.opd
    rw [e] at o
    exact sum_ok c.room.1 o hl (k.after g1 t1)
  · cases h
theorem ok_list1 (gi : GI sc "list") (hc : plain x = true) (h1 : Ok P sc x a) : Ok P sc (.Call (.Name "list" p) [x] [] pos) (.list1 a) := by
  intro G v A env s X Q E' h c hs k
  subst hs
  simp only [ev, Option.bind_eq_some_iff] at h
  obtain ⟨y, hy, h⟩ := h
  refine call_fn_ok c gi (by decide) (by decide +kernel) (by decide) (ty1 (id := "list") hc (h1 hy c rfl fun v1 s1 g1 t1 q1 => ?_))
  split at h
  · rename_i xs e
    cases h
    have o := q1.opd
    rw [e] at o
    exact list1_ok o (k.after g1 t1)
  · cases h
/-- a global tuple of ints -/
noncomputable def tupD (ns : List Int) : PyData := .tuple (ns.map .int)
theorem ok_data {g : Str} {ns : List Int} (hq : (g, ns) ∈ P.nf.ls) (gi : GI sc g) (hd : (g == ("__debug__" : Str)) = false) (hz : ns.length ≤ 100) : Ok P sc (.Name g pos) (.data (tupD ns)) := by
  intro G v A env s X Q E' h c hs k
  subst hs
  simp only [ev, Option.some.injEq] at h
  subst h
  obtain ⟨a, vs, h1, h2, h3⟩ := c.cx.lit _ hq
  refine glob_ok c.eo c.cx.g gi hd h1 (k _ _ (Grow.refl _) (Rest.refl _) ?_)
  have key : ∀ {vs : List Value} {ns : List Int}, IntsAre vs ns → Rds s.heap X vs (ns.map .int) := by
    intro vs ns hi
    induction hi with
    | nil => exact .nil
    | cons n t _ ih => exact .cons (Rd.mkInt n t) ih
  exact Rd.mkTuple h2 (key h3) (by rw [List.length_map]; show ns.length ≤ 16777216; omega)
theorem bi2 {env : Env} {id : String} {A : Around} {s : Shared} {Q : Value → Shared → Prop} {E' : Value → Shared → Prop} (hc : plain x = true) (hc' : plain y = true)
    (h : wpAny (model P.prog P.w) A (eval x env) (fun v s₁ => wpAny (model P.prog P.w) A (eval y env) (fun u s₂ => wpAny (model P.prog P.w) A (call (.builtin id) [v, u]) Q E' s₂) E' s₁) E' s) :
    wpAny (model P.prog P.w) A (callWith pos (.builtin id) [] (backTo pos (starEach [x, y] env)) []) Q E' s :=
  callWith_builtin1 (args_cons (wpAny_mono h (fun _ _ q => ce_call1 (by rw [ce_star hc']; rfl) q) fun _ _ e => e) (ce_star hc)) (ce_star hc) (by rw [ce_star hc']; rfl)
theorem ok_min2 (gi : GI sc "min") (hc : plain x = true) (hc' : plain y = true) (h1 : Ok P sc x a) (h2 : Ok P sc y b) : Ok P sc (.Call (.Name "min" p) [x, y] [] pos) (.min2 a b) := by
  intro G v A env s X Q E' h c hs k
  subst hs
  simp only [ev, Option.bind_eq_some_iff, Option.map_eq_some_iff] at h
  obtain ⟨u, hu, w, hw, i, hi, j, hj, rfl⟩ := h
  refine call_fn_ok c gi (by decide) (by decide +kernel) (by decide) (bi2 (id := "min") hc hc' (h1 hu c rfl fun v1 s1 g1 t1 q1 => h2 hw (c.grow g1) rfl fun v2 s2 g2 t2 q2 => ?_))
  obtain ⟨t, rfl⟩ := q1.int (asInt_eq hi)
  obtain ⟨t', rfl⟩ := q2.int (asInt_eq hj)
  exact min2_ok c.room.1 (k.after (g1.trans g2) (t1.trans t2))
theorem ok_idx (hn : notSlice i = true) (h1 : Ok P sc x a) (h2 : Ok P sc i b) : Ok P sc (.Subscript x i pos) (.idx a b) := by
  intro G v A env s X Q E' h c hs k
  simp only [ev, Option.bind_eq_some_iff, Option.map_eq_some_iff] at h
  obtain ⟨u, hu, w, hw, d, hd, rfl⟩ := h
  refine Subscript_ (h1 hu c hs fun v1 s1 g1 t1 q1 => h2 hw (c.grow g1) hs fun v2 s2 g2 t2 q2 => ?_)
  refine idx_ok (q1.opd.grow g2) q2.opd hd (k.after (g1.trans g2) (t1.trans t2)) fun a b t => ?_
  cases i <;> first | rfl | cases hn

abbrev OkO (P : Par) (sc : Scope) (e : Option Expr) (e' : Option E) : Prop :=
  ∀ {G : Gam} {d : Option PyData} {k : Option Nat} {A : Around} {env : Env} {s : Shared} {X : Ex} {Q : Value → Shared → Prop} {E' : Value → Shared → Prop},
    evo P.F G e' = some d → bound d = some k → Cxt P A env s X G → env.scope = sc → (∀ v s', Grow s.heap s'.heap → Rest s s' → IsPart v (k.map Int.ofNat) → Q v s') → wpAny (model P.prog P.w) A (evalPart e env) Q E' s
theorem okO_none : OkO P sc none none := by
  intro G d k A env s X Q E' h hb c hs kk
  cases h; cases hb
  exact wpAny_pure (kk _ _ (Grow.refl _) (Rest.refl _) .none)
theorem okO_some (h1 : Ok P sc x a) : OkO P sc (some x) (some a) := by
  intro G d k A env s X Q E' h hb c hs kk
  simp only [evo, Option.map_eq_some_iff] at h
  obtain ⟨y, hy, rfl⟩ := h
  refine h1 hy c hs fun v1 s1 g1 t1 q1 => ?_
  unfold bound at hb
  split at hb
  · rename_i e; cases e
  · rename_i i e
    split at hb
    · rename_i h0
      cases hb
      obtain ⟨t, rfl⟩ := q1.int (Option.some.inj e)
      refine kk _ _ g1 t1 ?_
      have : (some i.toNat).map Int.ofNat = some i := by simp [Int.toNat_of_nonneg h0]
      rw [this]; exact .int i t
    · cases hb
  · cases hb
theorem ok_sl {lo hi : Option Expr} {l h : Option E} (h1 : Ok P sc x a) (h2 : OkO P sc lo l) (h3 : OkO P sc hi h) : Ok P sc (.Subscript x (.Slice lo hi none p) pos) (.sl a l h) := by
  intro G v A env s X Q E' hv c hs k
  simp only [ev, Option.bind_eq_some_iff] at hv
  obtain ⟨u, hu, l', hl, h', hh, lb, hlb, hb, hhb, hv⟩ := hv
  refine Subscript_ (h1 hu c hs fun v1 s1 g1 t1 q1 => wpAny_Slice (h2 hl hlb (c.grow g1) hs fun v2 s2 g2 t2 q2 => h3 hh hhb (c.grow (g1.trans g2)) hs fun v3 s3 g3 t3 q3 => wpAny_pure ?_))
  split at hv
  · rename_i xs e
    cases hv
    obtain ⟨al, vs, rfl, il, rl, z⟩ := q1.list e
    let hp := s3.heap.push { cls := .type "slice", data := .fields #[v2, v3, .none] }
    have gp : Grow s3.heap hp := Grow.push _ _
    have gl : Grow s1.heap hp := (g2.trans g3).trans gp
    obtain ⟨o, o1, o2, n, o3⟩ := il
    have il' : hp.IsList al vs.toArray := ⟨o, gl _ _ o1, o2, n, o3⟩
    refine tail_any (ops := [.ref s3.heap.objs.size, .ref al]) (s := { s3 with heap := hp }) il'.typeIs slot_list_getitem.lookup ?_ rfl
    refine wpAny_getItem_list_slice (s := { s3 with heap := hp }) il' (Heap.IsSliceOf.new ..) q2 q3 .none (by simp) ?_ (by rw [List.size_toArray, rl.length]; exact z)
    have r' := sliceD_pick (lo := lb) (hi := hb) (rl.grow gl)
    have := k_push (s := { s3 with heap := hp }) (n := 0) r' (Nat.le_trans (sliceD_len xs lb hb) z) (k.after (s₂ := { s3 with heap := hp }) (((g1.trans g2).trans g3).trans gp) (((t1.trans t2).trans t3).trans (Rest.mk' s3 hp s3.toks)))
    simpa using this
  · cases hv
end
end Mine

/-! Deep embedding, part T: sorted. -/
set_option autoImplicit false
set_option linter.unusedVariables false
namespace Mine
open PySem PySem.W PyProof.Rows
/-! ### sorting, plainly -/
section
variable {α : Type} (k : α → Int × Int)
noncomputable def insB (x : α) : List α → List α
  | [] => [x]
  | y :: r => if ltP (k x) (k y) = true then x :: y :: r else y :: insB x r
theorem insB_perm (x : α) : ∀ l, (insB k x l).Perm (x :: l)
  | [] => .refl _
  | y :: r => by
    unfold insB
    split
    · exact .refl _
    · exact ((insB_perm x r).cons y).trans (.swap x y r)
end
theorem ltP_iff (p q : Int × Int) : ltP p q = true ↔ (p.1 < q.1 ∨ (p.1 = q.1 ∧ p.2 < q.2)) := by
  unfold ltP
  split
  · rename_i h; simp [h]
  · rename_i h; simp [h]
theorem ltP_tot {p q : Int × Int} (h : p ≠ q) (n : ¬ ltP p q = true) : ltP q p = true := by
  rw [ltP_iff] at n ⊢
  have : ¬ (p.1 = q.1 ∧ p.2 = q.2) := fun e => h (Prod.ext e.1 e.2)
  omega
theorem ltP_trans {p q r : Int × Int} (h : ltP p q = true) (h' : ltP q r = true) : ltP p r = true := by
  rw [ltP_iff] at *
  omega
abbrev SrtP (l : List (Int × Int)) : Prop := l.Pairwise fun a b => ltP a b = true
theorem insB_srt {α : Type} (k : α → Int × Int) (x : α) : ∀ l : List α, SrtP (l.map k) → (∀ y ∈ l, k x ≠ k y) → SrtP ((insB k x l).map k)
  | [], _, _ => by simp [insB]
  | y :: r, h, hn => by
    unfold insB
    simp only [List.map_cons, List.pairwise_cons] at h
    split
    · rename_i hlt
      simp only [List.map_cons, List.pairwise_cons]
      refine ⟨fun z hz => ?_, h⟩
      rcases List.mem_cons.mp hz with rfl | hz
      · exact hlt
      · exact ltP_trans hlt (h.1 z hz)
    · rename_i hlt
      simp only [List.map_cons, List.pairwise_cons]
      refine ⟨fun z hz => ?_, insB_srt k x r h.2 fun z hz => hn z (by simp [hz])⟩
      have hz' := (((insB_perm k x r).map k).mem_iff).mp hz
      rcases List.mem_cons.mp hz' with rfl | hz'
      · exact ltP_tot (hn y (by simp)) hlt
      · exact h.1 z hz'
section
variable {prog : Program} {w : World} {A : Around} {E : Value → Shared → Prop} {s : Shared}
/-! ### what comes out -/
theorem sortI_eq : ∀ (l : List Int), (sortI l).Perm l ∧ (sortI l).Pairwise (· ≤ ·)
  | [] => ⟨.refl _, .nil⟩
  | x :: r => by
    obtain ⟨h1, h2⟩ := sortI_eq r
    have key : ∀ m : List Int, m.Pairwise (· ≤ ·) → (insI x m).Perm (x :: m) ∧ (insI x m).Pairwise (· ≤ ·) := by
      intro m
      induction m with
      | nil => intro _; exact ⟨.refl _, by simp [insI]⟩
      | cons y m ih =>
        intro hm
        have hm' := List.pairwise_cons.mp hm
        unfold insI
        split
        · rename_i hxy
          refine ⟨.refl _, List.pairwise_cons.mpr ⟨fun z hz => ?_, hm⟩⟩
          rcases List.mem_cons.mp hz with rfl | hz
          · exact hxy
          · exact Int.le_trans hxy (hm'.1 z hz)
        · rename_i hxy
          obtain ⟨i1, i2⟩ := ih hm'.2
          refine ⟨(i1.cons y).trans (.swap x y m), List.pairwise_cons.mpr ⟨fun z hz => ?_, i2⟩⟩
          rcases List.mem_cons.mp (i1.mem_iff.mp hz) with rfl | hz
          · omega
          · exact hm'.1 z hz
    obtain ⟨k1, k2⟩ := key _ h2
    exact ⟨k1.trans (h1.cons x), k2⟩
theorem intsRds {h : Heap} {X : Ex} : ∀ {vs : List Value} {ns : List Int}, IntsAre vs ns → Rds h X vs (ns.map .int)
  | _, _, .nil => .nil
  | _, _, .cons n t r => .cons (Rd.mkInt n t) (intsRds r)
theorem sorted_ok {X : Ex} {Q : Value → Shared → Prop} {v : Value} {ds r : List PyData} (hv : Opd s.heap X v (.list ds)) (e : sortD ds = some r) (k : K s X Q (.own r)) : wpAny (model prog w) A (call (.builtin "sorted") [v]) Q E s := by
  obtain ⟨l, vs, rfl, hl, rs, z⟩ := hv.2
  have hlen := rs.length
  unfold sortD at e
  split at e
  · cases e
  rename_i h64
  simp only [Option.map_eq_some_iff] at e
  obtain ⟨ns, hi, rfl⟩ := e
  refine sorted_ints hl (rs.ints hi) (by omega) fun out ns' h1 h2 h3 => ?_
  have hs := sortI_eq ns
  have en : ns' = sortI ns := (h2.trans hs.1.symm).eq_of_pairwise (fun a b _ _ h h' => Int.le_antisymm h h') h3 hs.2
  obtain ⟨ep, he⟩ := sortedAll_at s.heap vs out
  have hn : s.heap.get? (s.heap.objs.size + 1) = none := by
    cases q : s.heap.get? (s.heap.objs.size + 1) with
    | none => rfl
    | some o => exact absurd (Heap.lt_size q) (Nat.not_lt.mpr (Nat.le_succ _))
  rw [← en] at k
  have hr : Rds s.heap X out.toList (ns'.map .int) := intsRds h1
  have hz : (ns'.map PyData.int).length ≤ szLine := by
    rw [← hr.length, h1.length, h2.length_eq, ← (rs.ints hi).length, hlen]; exact z
  exact k_list (tk := s.toks) (fun _ _ => sortedAll_old) hn ⟨ep, by simpa using he⟩ hr hz k
end
theorem ok_sorted {P : Par} {sc : Scope} {x : Expr} {a : E} {p pos : Pos} (gi : GI sc "sorted") (hc : plain x = true) (h1 : Ok P sc x a) : Ok P sc (.Call (.Name "sorted" p) [x] [] pos) (.sorted a) := by
  intro G v A env s X Q E' h c hs k
  subst hs
  simp only [ev, Option.bind_eq_some_iff] at h
  obtain ⟨y, hy, h⟩ := h
  refine call_fn_ok c gi (by decide) (by decide +kernel) (by decide) (bi1 (id := "sorted") hc (h1 hy c rfl fun v1 s1 g1 t1 q1 => ?_))
  split at h
  · rename_i xs e
    simp only [Option.map_eq_some_iff] at h
    obtain ⟨r, hr, rfl⟩ := h
    have o := q1.opd
    rw [e] at o
    exact sorted_ok o hr (k.after g1 t1)
  · cases h
end Mine

/-! Deep embedding, part G: iterables and comprehensions. -/
set_option autoImplicit false
namespace Mine
open PySem PyProof.Rows PySem.Calls
variable {P : Par}

/-! ### iterables -/
abbrev OkI (P : Par) (sc : Scope) (e : Expr) (it : It) : Prop :=
  ∀ {G : Gam} {q : List PyData × Bool} {A : Around} {env : Env} {s : Shared} {X : Ex} {Q : Value → Shared → Prop} {E' : Value → Shared → Prop},
    evIt P.F G it = some q → Cxt P A env s X G → env.scope = sc →
    (∀ I s', Grow s.heap s'.heap → Rest s s' → s.heap.get? I = none → ItAt s'.heap X (fun b => q.2 = false ∧ X b) I q.1 → Q (.ref I) s') →
    wpAny (model P.prog P.w) A (eval e env) (fun x s₁ => wpAny (model P.prog P.w) A (pyIter x) Q E' s₁) E' s
section
variable {sc : Scope} {x y z : Expr} {a b c : E} {pos p : Pos}
theorem none_of_grow {h h' : Heap} {a : Addr} (g : Grow h h') (n : h'.get? a = none) : h.get? a = none := by
  cases e : h.get? a with
  | none => rfl
  | some o => rw [g _ _ e] at n; cases n
theorem iter_list {prog : Program} {w : World} {A : Around} {E : Value → Shared → Prop} {s : Shared} {X W : Ex} {Q : Value → Shared → Prop} {ax : Addr} {vs : List Value} {ds : List PyData} (l : s.heap.IsList ax vs.toArray) (r : Rds s.heap X vs ds) (hw : ¬ W ax)
    (k : ∀ I s', Grow s.heap s'.heap → Rest s s' → s.heap.get? I = none → ItAt s'.heap X W I ds → Q (.ref I) s') : wpAny (model prog w) A (pyIter (.ref ax)) Q E s := by
  refine wpAny_pyIter_list l ?_
  have g : Grow s.heap (s.heap.push { cls := .type "list_iterator", data := .fields #[.ref ax, .int 0 0] }) := Grow.push _ _
  refine k s.heap.objs.size _ g (Rest.mk' s _ s.toks) (fresh_size _) (.inl ⟨ax, vs, ds, 0, ⟨_, Heap.get?_push_size _ rfl, rfl, rfl⟩, ?_, hw, r.grow g, rfl⟩)
  obtain ⟨o, o1, o2, n, o3⟩ := l
  exact ⟨o, g _ _ o1, o2, n, o3⟩
theorem okI_ex (h1 : Ok P sc x a) : OkI P sc x (.ex a) := by
  intro G q A env s X Q E' h c hs k
  simp only [evIt, Option.bind_eq_some_iff] at h
  obtain ⟨u, hu, h⟩ := h
  refine h1 hu c hs fun v1 s1 g1 t1 q1 => ?_
  split at h
  · rename_i xs e
    cases h
    have fin : ∀ {ax : Addr} {vs : List Value}, v1 = .ref ax → s1.heap.IsList ax vs.toArray → Rds s1.heap X vs xs → ¬ (u.isBor = false ∧ X ax) → wpAny (model P.prog P.w) A (pyIter v1) Q E' s1 := by
      intro ax vs e1 l r nx
      subst e1
      exact iter_list l r nx fun I s2 g2 t2 n2 i2 => k I s2 (g1.trans g2) (t1.trans t2) (none_of_grow g1 n2) i2
    cases u with
    | val d =>
      have e' : d = .list xs := e
      subst e'
      obtain ⟨ax, vs, e1, l, r, _, nx⟩ := Rd.list' q1
      exact fin e1 l r fun h => nx h.2
    | own ds =>
      cases e
      obtain ⟨ax, vs, e1, n, pl, r, z⟩ := q1
      refine fin e1 pl.isList (r.weaken fun _ => .inl) fun h => ?_
      obtain ⟨_, o, ho, _⟩ := c.dom ax h.2
      rw [n] at ho; cases ho
    | bor ds =>
      cases e
      obtain ⟨ax, vs, e1, pl, r, z⟩ := q1
      exact fin e1 pl.isList r fun h => by cases h.1
  · cases h
theorem range_small {a b c : Int} (h : 0 < c ∧ c ≤ 1048576 ∧ -2305843009213693952 ≤ a ∧ a ≤ 2305843009213693952 ∧ -2305843009213693952 ≤ b ∧ b ≤ 2305843009213693952) : Builtin.Range.small a b c = true ∧ Builtin.Range.rangeSize a b c = ((if a < b then (b - a - 1) / c + 1 else 0).toNat : Int) := by
  obtain ⟨h1, h2, h3, h4, h5, h6⟩ := h
  have e : Builtin.Range.rangeSize a b c = if a < b then (b - a - 1) / c + 1 else 0 := by
    unfold Builtin.Range.rangeSize
    rw [if_pos (by omega)]
  have nn : 0 ≤ (if a < b then (b - a - 1) / c + 1 else 0) := by
    split
    · have := Int.ediv_nonneg (a := b - a - 1) (b := c) (by omega) (by omega); omega
    · omega
  have ub : (if a < b then (b - a - 1) / c + 1 else 0) ≤ 9223372036854775807 := by
    split
    · have := Int.ediv_le_self (b := c) (show 0 ≤ b - a - 1 by omega); omega
    · omega
  refine ⟨?_, by rw [e, Int.toNat_of_nonneg nn]⟩
  unfold Builtin.Range.small Builtin.Range.rangeFitsLong
  rw [e]
  generalize (if a < b then (b - a - 1) / c + 1 else 0) = n at nn ub
  simp only [Bool.and_eq_true, decide_eq_true_eq, Bool.or_eq_true, beq_iff_eq]
  refine ⟨⟨⟨⟨⟨by omega, by omega⟩, ⟨by omega, by omega⟩⟩, ⟨by omega, by omega⟩⟩, ⟨by omega, by omega⟩⟩, ?_⟩
  right
  rw [if_pos (by omega)]
  simp only [Bool.and_eq_true, decide_eq_true_eq]
  omega
theorem iter_range {prog : Program} {w : World} {A : Around} {E : Value → Shared → Prop} {s : Shared} {X W : Ex} {Q : Value → Shared → Prop} {a b c : Int} {t u v : Tok} {xs : List PyData} (hr : rangeD a b c = some xs)
    (k : ∀ I s', Grow s.heap s'.heap → Rest s s' → s.heap.get? I = none → ItAt s'.heap X W I xs → Q (.ref I) s') {tk : Nat} :
    wpAny (model prog w) A (pyIter (.ref s.heap.objs.size)) Q E { s with heap := s.heap.push { cls := .type "range", data := .fields #[.int a t, .int b u, .int c v] }, toks := tk } := by
  unfold rangeD at hr
  split at hr
  · rename_i hc
    cases hr
    obtain ⟨h1, h2⟩ := range_small hc
    refine wpAny_pyIter_range (IsRange.new ..) h1 ?_
    rw [h2]
    have g1 : Grow s.heap (s.heap.push { cls := .type "range", data := .fields #[.int a t, .int b u, .int c v] }) := Grow.push _ _
    refine k _ _ (g1.trans (Grow.push _ _)) ⟨_, _, rfl⟩ (none_of_grow g1 (fresh_size _)) (.inr ⟨a, c, _, Heap.get?_push_size _ rfl, rfl⟩)
  · cases hr
theorem call_ty_ok {x : Str} {T : String} {env : Env} {args : List Expr} {A : Around} {s : Shared} {X : Ex} {G : Gam} {Q : Value → Shared → Prop} {E' : Value → Shared → Prop} (c : Cxt P A env s X G) (hx : env.scope.names.lookup x = some .globalImplicit)
    (hm : x ∈ biNames) (hv : bootBuiltins x = some (.type T)) (hd : (x == ("__debug__" : Str)) = false) (h : wpAny (model P.prog P.w) A (callWith pos (.type T) [] (backTo pos (starEach args env)) []) Q E' s) :
    wpAny (model P.prog P.w) A (eval (.Call (.Name x p) args [] pos) env) Q E' s := call_fn_ok c hx hm hv hd h
theorem okI_rng1 (gi : GI sc "range") (hc : plain x = true) (h1 : Ok P sc x a) : OkI P sc (.Call (.Name "range" p) [x] [] pos) (.rng1 a) := by
  intro G q A env s X Q E' h c hs k
  subst hs
  simp only [evIt, Option.bind_eq_some_iff, Option.map_eq_some_iff] at h
  obtain ⟨u, hu, i, hi, xs, hx, rfl⟩ := h
  refine call_ty_ok (T := "range") c gi (by decide) (by decide +kernel) (by decide) (ty1 hc (h1 hu c rfl fun v1 s1 g1 t1 q1 => ?_))
  obtain ⟨t, rfl⟩ := q1.int (asInt_eq hi)
  refine call_range_1 (iter_range hx fun I s2 g2 t2 n2 i2 => k I s2 (g1.trans g2) (t1.trans t2) (none_of_grow g1 n2) i2)
end

/-! ### conditions of a comprehension -/
abbrev OkA (P : Par) (sc : Scope) (es : List Expr) (as : List E) : Prop :=
  ∀ {G : Gam} {b : Bool} {A : Around} {env : Env} {s : Shared} {X : Ex} {Q : Bool → Shared → Prop} {E' : Value → Shared → Prop},
    evAll P.F G as = some b → Cxt P A env s X G → env.scope = sc → (∀ s', Grow s.heap s'.heap → Rest s s' → Q b s') →
    wpAny (model P.prog P.w) A (forIn es true fun c r => if r = true then do let ok ← isTrue c env (eval c env); pure (ForInStep.yield ok) else pure (ForInStep.yield r)) Q E' s
section
variable {sc : Scope} {x : Expr} {a : E}
theorem okA_nil : OkA P sc [] [] := by
  intro G b A env s X Q E' h c hs k
  cases h
  exact wpAny_pure (k s (Grow.refl _) (Rest.refl _))
theorem forIn_false {env : Env} : ∀ (es : List Expr), (forIn es false fun c r => if r = true then (do let ok ← isTrue c env (eval c env); pure (ForInStep.yield ok) : Sem (ForInStep Bool)) else pure (ForInStep.yield r)) = pure false
  | [] => rfl
  | _ :: es => by
    rw [List.forIn_cons]
    simp only [Bool.false_eq_true, if_false, pure_bind]
    exact forIn_false es
theorem okA_cons {es : List Expr} {as : List E} (h1 : OkT P sc x a) (h2 : OkA P sc es as) : OkA P sc (x :: es) (a :: as) := by
  intro G b A env s X Q E' h c hs k
  simp only [evAll, Option.bind_eq_some_iff] at h
  obtain ⟨u, hu, t, ht, h⟩ := h
  rw [List.forIn_cons]
  simp only [if_true]
  refine wpAny_bind (wpAny_bind (h1 hu ht c hs fun s1 g1 t1 => wpAny_pure ?_))
  cases t with
  | false =>
    cases h
    simp only
    rw [forIn_false]
    exact wpAny_pure (k s1 g1 t1)
  | true => exact h2 h (c.grow g1) hs fun s2 g2 t2 => k s2 (g1.trans g2) (t1.trans t2)
end
end Mine

/-! Deep embedding, part H: comprehensions. -/
set_option autoImplicit false
namespace Mine
open PySem PyProof.Rows PySem.Calls
variable {P : Par}

/-! ### closures -/
noncomputable def clos (cells : List (Str × Addr)) : List (Str × NameKind) → List (Str × Addr) → List (Str × Addr)
  | [], acc => acc
  | (n, k) :: r, acc => if k == .free then (match cells.lookup n with | some a => clos cells r ((n, a) :: acc) | none => clos cells r acc) else clos cells r acc
theorem closure_eq {scope : Scope} {env : Env} (h : ∀ y ∈ scope.names, y.2 = .free → ∃ c, env.cells.lookup y.1 = some c) : closureFor scope env = pure (clos env.cells scope.names []) := by
  have key : ∀ (names : List (Str × NameKind)) (acc : List (Str × Addr)), (∀ y ∈ names, y.2 = .free → ∃ c, env.cells.lookup y.1 = some c) →
      (forIn names acc fun x r => (match x with | (name, kind) => if (kind == .free) = true then (do let a ← cellOf env name; pure (ForInStep.yield ((name, a) :: r))) else pure (ForInStep.yield r) : Sem (ForInStep (List (Str × Addr))))) = pure (clos env.cells names acc) := by
    intro names
    induction names with
    | nil => intro acc _; rfl
    | cons y r ih =>
      intro acc hy
      obtain ⟨n, k⟩ := y
      rw [List.forIn_cons]
      by_cases hk : (k == NameKind.free) = true
      · obtain ⟨c, hc⟩ := hy (n, k) (.head _) (by simpa using hk)
        have e : cellOf env n = pure c := by unfold cellOf; simp only [] at hc; rw [hc]
        simp only [hk, if_true, e, pure_bind, clos]
        simp only [] at hc
        rw [hc]
        exact ih _ fun z hz => hy z (.tail _ hz)
      · simp only [hk, Bool.false_eq_true, if_false, pure_bind, clos]
        exact ih _ fun z hz => hy z (.tail _ hz)
  unfold closureFor
  have := key scope.names [] h
  simpa using this
theorem clos_mem {cells : List (Str × Addr)} : ∀ {names : List (Str × NameKind)} {acc : List (Str × Addr)} {x : Str} {c : Addr}, (x, c) ∈ clos cells names acc → (x, c) ∈ acc ∨ cells.lookup x = some c
  | [], _, _, _, h => .inl h
  | (n, k) :: r, acc, x, c, h => by
    unfold clos at h
    split at h
    · split at h
      · rename_i a ha
        rcases clos_mem h with h | h
        · rcases List.mem_cons.mp h with h | h
          · cases h; exact .inr ha
          · exact .inl h
        · exact .inr h
      · exact clos_mem h
    · exact clos_mem h
theorem clos_has {cells : List (Str × Addr)} : ∀ {names : List (Str × NameKind)} {acc : List (Str × Addr)} {x : Str} {c : Addr}, ((x, c) ∈ acc ∨ ((x, NameKind.free) ∈ names ∧ cells.lookup x = some c)) → ∃ c', (x, c') ∈ clos cells names acc
  | [], _, _, c, h => by
    rcases h with h | h
    · exact ⟨c, h⟩
    · cases h.1
  | (n, k) :: r, acc, x, c, h => by
    unfold clos
    rcases h with h | ⟨h, hc⟩
    · split
      · split
        · exact clos_has (.inl (.tail _ h))
        · exact clos_has (.inl h)
      · exact clos_has (.inl h)
    · rcases List.mem_cons.mp h with h | h
      · cases h
        rw [if_pos (show (NameKind.free == NameKind.free) = true by decide), hc]
        exact clos_has (c := c) (.inl (.head _))
      · split
        · split
          · exact clos_has (.inr ⟨h, hc⟩)
          · exact clos_has (.inr ⟨h, hc⟩)
        · exact clos_has (.inr ⟨h, hc⟩)
theorem lookup_of_mem' {x : Str} {c : Addr} : ∀ {l : List (Str × Addr)}, (x, c) ∈ l → ∃ c', l.lookup x = some c'
  | (n, d) :: l, h => by
    by_cases e : (x == n) = true
    · exact ⟨d, by rw [List.lookup_cons, e]⟩
    · rcases List.mem_cons.mp h with h | h
      · cases h; simp at e
      · obtain ⟨c', q⟩ := lookup_of_mem' h
        refine ⟨c', ?_⟩
        have : (x == n) = false := by simpa using e
        rw [List.lookup_cons, this]; exact q
theorem clos_lookup {cells : List (Str × Addr)} {names : List (Str × NameKind)} {x : Str} {c : Addr} (h : (x, NameKind.free) ∈ names) (hc : cells.lookup x = some c) : (clos cells names []).lookup x = some c := by
  obtain ⟨c', h1⟩ := clos_has (acc := []) (.inr ⟨h, hc⟩)
  obtain ⟨c'', h2⟩ := lookup_of_mem' h1
  rcases clos_mem (mem_of_lookup h2) with q | q
  · cases q
  · rw [hc] at q; cases q; exact h2

/-! ### the loop of a comprehension, with any target -/
section
variable {prog : Program} {w : World} {A : Around} {E : Value → Shared → Prop} {R : Result → Shared → Prop} {s : Shared}
theorem go_ok {X W : Ex} {I : Addr} {xs : List PyData} {target : Expr} {v : Value} {Q : Unit → Shared → Prop} (i : ItAt s.heap X W I xs) (k : Q () s) : wpAny (model prog w) A (letOwnedTupleGo target (.ref I) v) Q E s := by
  have key : ∃ (o : Obj) (n : String) (vs : Array Value), s.heap.get? I = some o ∧ o.cls = .type n ∧ o.data = .fields vs ∧
      (["enumerate", "zip", "dict_itemiterator", "dict_reverseitemiterator", "odict_iterator", "itertools.zip_longest", "itertools.pairwise"].contains n) = false := by
    rcases i with ⟨ax, vs, ds, j, ⟨o, h1, h2, h3⟩, _⟩ | ⟨x₀, step, n, h1, e⟩
    · exact ⟨o, _, _, h1, h2, h3, by decide⟩
    · exact ⟨_, _, _, h1, rfl, rfl, by decide⟩
  obtain ⟨o, n, vs, ho, hc, hd, hn⟩ := key
  have go : ∀ b : Value, wpAny (model prog w) A (do
      let (.ref r, .ref a) := (Value.ref I, b) | return
      let o ← load r
      match o.cls, o.data with
      | .type n, .fields vs =>
        if ["enumerate", "zip", "dict_itemiterator", "dict_reverseitemiterator", "odict_iterator", "itertools.zip_longest", "itertools.pairwise"].contains n && vs[0]? == some (rawInt a) then
          rule "for.unpacks-the-owned-tuple"
          updateField r 0 .none
      | _, _ => pure ()) Q E s := by
    intro b
    cases b with
    | ref a =>
      refine wpAny_bind (wpAny_load ho ?_)
      rw [hc, hd]
      show wpAny _ A (if (_ && _) = true then _ else _) Q E s
      rw [hn, Bool.false_and, if_neg Bool.false_ne_true]
      exact wpAny_pure k
    | _ => exact wpAny_pure k
  unfold letOwnedTupleGo
  split
  · exact go v
  · exact go v
  · exact wpAny_pure k
theorem compLoop_any {elt target iter : Expr} {ifs : List Expr} {scope : Scope} {pos : Pos} {it acc : Value} {env : Env} (I : Nat → Shared → Prop)
    (turn : ∀ n s, I n s → wpAny (model prog w) A (pyNext it) (fun r s₁ => match r with
      | none => R (.ok .next) s₁
      | some v => wpAny (model prog w) A (letOwnedTupleGo target it v) (fun _ s₁' => wpAny (model prog w) A (assign target env v) (fun _ s₂ =>
          wpAny (model prog w) A (forIn ifs true fun c r => if r = true then do let ok ← isTrue c env (eval c env); pure (ForInStep.yield ok) else pure (ForInStep.yield r)) (fun ok s₃ =>
            if ok = true then wpAny (model prog w) A (eval elt env) (fun x s₄ =>
              wpAny (model prog w) A (call (.builtin "list.append") [acc, x]) (fun _ s₅ => ∃ m, m < n ∧ I m s₅) (notedBy (model prog w) A env fun e s' => R (.error e) s') s₄) (notedBy (model prog w) A env fun e s' => R (.error e) s') s₃
            else ∃ m, m < n ∧ I m s₃) (notedBy (model prog w) A env fun e s' => R (.error e) s') s₂) (notedBy (model prog w) A env fun e s' => R (.error e) s') s₁') (notedBy (model prog w) A env fun e s' => R (.error e) s') s₁) (notedBy (model prog w) A env fun e s' => R (.error e) s') s)
    (n : Nat) (h : I n s) : codeAny (model prog w) A (.compLoop (.ListComp elt [⟨target, iter, ifs, 0⟩] scope pos) 0 it acc env) R s := by
  refine codeAny_loop rfl I (fun n s hI => ?_) n h
  show wpAny _ A ((compTurn (.ListComp elt [⟨target, iter, ifs, 0⟩] scope pos) 0 it acc env).onRaise (fun x => do noteFrame x env; theTreesLotGoes x)) _ _ s
  refine wpAny_noted ?_
  rw [compTurn_list]
  refine wpAny_bind (wpAny_standAt (wpAny_bind (wpAny_mono (turn n s hI) (fun r s₁ h₁ => ?_) fun _ _ e => e)))
  cases r with
  | none => exact wpAny_pure h₁
  | some v =>
    refine wpAny_bind (wpAny_mono h₁ (fun _ s₁' h₁' => ?_) fun _ _ e => e)
    refine wpAny_bind (wpAny_mono h₁' (fun _ s₂ h₂ => wpAny_bind (wpAny_mono h₂ (fun ok s₃ h₃ => ?_) fun _ _ e => e)) fun _ _ e => e)
    cases ok with
    | false => exact wpAny_pure ⟨rfl, h₃⟩
    | true => exact wpAny_bind (wpAny_bind (wpAny_mono h₃ (fun x s₄ h₄ => wpAny_bind (wpAny_mono h₄ (fun _ s₅ h₅ => wpAny_pure (wpAny_pure ⟨rfl, h₅⟩)) fun _ _ e => e)) fun _ _ e => e))
theorem iter_self {X W : Ex} {I : Addr} {xs : List PyData} {Q : Value → Shared → Prop} (i : ItAt s.heap X W I xs) (k : Q (.ref I) s) : wpAny (model prog w) A (pyIter (.ref I)) Q E s := by
  rcases i with ⟨_, _, _, _, h1, _⟩ | ⟨_, _, _, h1, _⟩
  · exact wpAny_pyIter_listiter h1 k
  · exact wpAny_pyIter_rangeiter h1 k
end

/-! ### stores -/
theorem look_set {G : Gam} {k j : Nat} {a b : AV} (h : look (G.set k (some a)) j = some b) : (j = k ∧ b = a) ∨ (j ≠ k ∧ look G j = some b) := by
  unfold look at h ⊢
  rw [List.getElem?_set] at h
  by_cases e : k = j
  · rw [if_pos e] at h
    left
    split at h
    · rename_i q
      split at q
      · cases q; cases h; exact ⟨e.symm, rfl⟩
      · cases q
    · cases h
  · rw [if_neg e] at h
    exact .inr ⟨Ne.symm e, h⟩
theorem ns_unique {h : Heap} {a : Addr} {m m' : Str → Option Value} (x : h.Ns a m) (y : h.Ns a m') : m = m' := by
  obtain ⟨o, es, ep, h1, h2, _, h3⟩ := x
  obtain ⟨o', es', ep', h1', h2', _, h3'⟩ := y
  rw [h1] at h1'; cases h1'
  rw [h2] at h2'; cases h2'
  exact funext fun n => (h3 n).symm.trans (h3' n)
theorem ns_seq {h : Heap} {a b : Addr} {m : Str → Option Value} {o : Obj} {xs : Array Value} {n : Nat} (x : h.Ns a m) (e : h.get? b = some o) (d : o.data = .seq xs n) : b ≠ a := by
  rintro rfl
  obtain ⟨o', es, ep, h1, h2, _⟩ := x
  rw [h1] at e; cases e; rw [h2] at d; cases d
theorem ns_cell {h : Heap} {a c : Addr} {m : Str → Option Value} {v : Option Value} (x : h.Ns a m) (y : h.IsCell c v) : c ≠ a := by
  rintro rfl
  obtain ⟨o', es, ep, h1, h2, _⟩ := x
  obtain ⟨o, e, d⟩ := y
  rw [h1] at e; cases e; rw [h2] at d; cases d
theorem ns_flds {h : Heap} {a I : Addr} {m : Str → Option Value} (x : h.Ns a m) (f : Flds h I) : I ≠ a := by
  rintro rfl
  obtain ⟨o', es, ep, h1, h2, _⟩ := x
  obtain ⟨o, vs, e, d⟩ := f
  rw [h1] at e; cases e; rw [h2] at d; cases d
theorem AvOk.keep {h h' : Heap} {X : Ex} {v : Value} {a : AV} (q : AvOk h X v a) (k : ∀ b o xs n, h.get? b = some o → o.data = .seq xs n → h'.get? b = some o) : AvOk h' X v a := by
  cases a with
  | val d => exact Rd.keep q fun b o xs n e d _ => k b o xs n e d
  | own ds => obtain ⟨a, vs, e, ⟨n, p⟩, r, z⟩ := q; exact ⟨a, vs, e, ⟨n, k _ _ _ _ p rfl⟩, r.keep fun b o xs n e d _ => k b o xs n e d, z⟩
theorem nodup_ne {nm : List Str} (nd : nm.Nodup) {i j : Nat} {x y : Str} (hi : nm[i]? = some x) (hj : nm[j]? = some y) (ne : i ≠ j) : x ≠ y := by
  rintro rfl
  obtain ⟨l1, e1⟩ := List.getElem?_eq_some_iff.mp hi
  obtain ⟨l2, e2⟩ := List.getElem?_eq_some_iff.mp hj
  exact ne ((List.getElem_inj nd).mp (e1.trans e2.symm))
/-- a store into the frame's own names -/
theorem vars_setL {nm : List Str} {env : Env} {h h' : Heap} {X : Ex} {G : Gam} {m : Str → Option Value} {k : Nat} {x : Str} {v : Value} {a : AV} (nd : nm.Nodup) (q : VarsOk nm env h X G) (hk : nm[k]? = some x) (hl : env.scope.names.lookup x = some .local)
    (n : h.Ns env.locals m) (n' : h'.Ns env.locals (fun y => if y = x then some v else m y)) (sb : Heap.SameBut env.locals h h') (av : AvOk h' X v a) : VarsOk nm env h' X (G.set k (some a)) := by
  intro j b y hj hy
  rcases look_set hj with ⟨rfl, rfl⟩ | ⟨ne, hj⟩
  · rw [hk] at hy; cases hy
    exact ⟨v, .inl ⟨hl, _, n', by simp⟩, av⟩
  · obtain ⟨u, l, o⟩ := q j b y hj hy
    refine ⟨u, ?_, o.keep fun b o xs nn e d => (sb.2 b (ns_seq n e d)).trans e⟩
    rcases l with ⟨l1, m', l2, l3⟩ | ⟨l1, c, l2, l3⟩
    · have := ns_unique n l2
      subst this
      refine .inl ⟨l1, _, n', ?_⟩
      simp only [nodup_ne nd hy hk ne, if_false]
      exact l3
    · exact .inr ⟨l1, c, l2, l3.sameBut sb (ns_cell n l3)⟩
end Mine

/-! Deep embedding, part I: comprehensions, the core. -/
set_option autoImplicit false
namespace Mine
open PySem PyProof.Rows PySem.Calls
variable {P : Par}

theorem relab_cell {scope sc : Scope} {x : Str} (hc : ∀ y ∈ scope.names, y.2 ≠ .cell) (h : (relab scope sc).names.lookup x = some .cell) : (x, NameKind.free) ∈ scope.names ∧ sc.names.lookup x = some .cell := by
  have key : ∀ names : List (Str × NameKind), (∀ y ∈ names, y.2 ≠ .cell) → (names.map fun (n, k) => if (k == NameKind.free && sc.kind == .function && sc.names.lookup n == some .cell) then (n, NameKind.cell) else (n, k)).lookup x = some .cell →
      (x, NameKind.free) ∈ names ∧ sc.names.lookup x = some .cell := by
    intro names
    induction names with
    | nil => intro _ h; cases h
    | cons y r ih =>
      intro hy h
      obtain ⟨n, k⟩ := y
      rw [List.map_cons] at h
      by_cases hq : (k == NameKind.free && sc.kind == .function && sc.names.lookup n == some .cell) = true
      · simp only [hq, if_true, List.lookup_cons] at h
        split at h
        · rename_i e
          simp only [Bool.and_eq_true, beq_iff_eq] at hq
          have : x = n := by simpa using e
          subst this
          exact ⟨hq.1.1 ▸ .head _, hq.2⟩
        · obtain ⟨a, b⟩ := ih (fun z hz => hy z (.tail _ hz)) h
          exact ⟨.tail _ a, b⟩
      · simp only [hq, Bool.false_eq_true, if_false, List.lookup_cons] at h
        split at h
        · rename_i e
          exact absurd (Option.some.inj h) (hy (n, k) (.head _))
        · obtain ⟨a, b⟩ := ih (fun z hz => hy z (.tail _ hz)) h
          exact ⟨.tail _ a, b⟩
  exact key scope.names hc h
theorem AvOk.fresh {h : Heap} {X : Ex} {v : Value} {a : AV} {D : Addr} (q : AvOk h X v a) (n : h.get? D = none) : AvOk h (fun b => X b ∨ b = D) v a := by
  cases a with
  | val d => exact Rd.fresh q n
  | own ds => obtain ⟨a, vs, e, p, r, z⟩ := q; exact ⟨a, vs, e, p, r.fresh n, z⟩
theorem look_keepOnly {cap : List Nat} {G : Gam} {j : Nat} {a : AV} (h : look (keepOnly cap G) j = some a) : j ∈ cap ∧ look G j = some a := by
  unfold look keepOnly at h
  split at h
  · rename_i b hb
    cases h
    rw [List.getElem?_map, Option.map_eq_some_iff] at hb
    obtain ⟨i, hi, e⟩ := hb
    have hij : i = j := by
      rw [List.getElem?_eq_some_iff] at hi
      obtain ⟨hl, q⟩ := hi
      simpa using q.symm
    subst hij
    split at e
    · rename_i hc
      refine ⟨by simpa using hc, ?_⟩
      unfold look
      split at e
      · rename_i x hx
        subst e
        rw [hx]
      · cases e
    · cases e
  · cases h
theorem rds_two {h : Heap} {X : Ex} {vs : List Value} {d e : PyData} (r : Rds h X vs [d, e]) : ∃ v u, vs = [v, u] ∧ Rd h X v d ∧ Rd h X u e := by
  cases r with
  | cons r1 r => cases r with
    | cons r2 r => cases r; exact ⟨_, _, rfl, r1, r2⟩
theorem rds_three {h : Heap} {X : Ex} {vs : List Value} {d e f : PyData} (r : Rds h X vs [d, e, f]) : ∃ v u w, vs = [v, u, w] ∧ Rd h X v d ∧ Rd h X u e ∧ Rd h X w f := by
  cases r with
  | cons r1 r =>
    obtain ⟨v, u, rfl, r2, r3⟩ := rds_two r
    exact ⟨_, _, _, rfl, r1, r2, r3⟩
theorem bindTg_many {G G' : Gam} {ks : List Nat} {d : PyData} (h : bindTg G (.many ks) d = some G') : ∃ ds, d = .tuple ds ∧ ks.length = ds.length ∧ G' = (ks.zip ds).foldl (fun G p => G.set p.1 (some (.val p.2))) G := by
  cases d with
  | tuple ds =>
    simp only [bindTg] at h
    split at h
    · cases h; exact ⟨ds, rfl, by assumption, rfl⟩
    · cases h
  | _ => simp [bindTg] at h
/-- binding the names of a target, all of them the frame's own -/
theorem tgt_ok {nm : List Str} {prog : Program} {w : World} {A : Around} {E : Value → Shared → Prop} {s : Shared} {env : Env} {X : Ex} {G G' : Gam} {m : Str → Option Value} {target : Expr} {tg : Tg} {v : Value} {d : PyData} {scope : Scope} {Q : Unit → Shared → Prop}
    (nd : nm.Nodup) (hh : A.handled = none) (hkind : env.scope.kind = .function) (ct : CT nm scope target tg) (hloc : ∀ x, scope.names.lookup x = some .local ∨ scope.names.lookup x = some .cell → env.scope.names.lookup x = some .local)
    (n : s.heap.Ns env.locals m) (q : VarsOk nm env s.heap X G) (rd : Rd s.heap X v d) (hb : bindTg G tg d = some G')
    (k : ∀ s' m', (∀ b o, s.heap.get? b = some o → b ≠ env.locals → s'.heap.get? b = some o) → Rest s s' → s'.heap.Ns env.locals m' → VarsOk nm env s'.heap X G' → Q () s') : wpAny (model prog w) A (assign target env v) Q E s := by
  have hp : (env.scope.kind == .class || (env.scope.kind == .module && env.locals != env.globals)) = false := by rw [hkind]; rfl
  have one : ∀ {s : Shared} {m : Str → Option Value} {G : Gam} {x : Str} {kk : Nat} {u : Value} {e : PyData} {pos : Pos} {Q : Unit → Shared → Prop}, nm[kk]? = some x → env.scope.names.lookup x = some .local → s.heap.Ns env.locals m → VarsOk nm env s.heap X G → Rd s.heap X u e →
      (∀ s' m', (∀ b o, s.heap.get? b = some o → b ≠ env.locals → s'.heap.get? b = some o) → Rest s s' → s'.heap.Ns env.locals m' → VarsOk nm env s'.heap X (G.set kk (some (.val e))) → Q () s') → wpAny (model prog w) A (assign (.Name x pos) env u) Q E s := by
    intro s m G x kk u e pos Q hk hl n q rd k
    refine wpAny_assign_Name (wpAny_storeName_local hl n (fun h' n' sb => ?_) hp)
    refine k _ _ (fun b o e ne => (sb.2 b ne).trans e) (Rest.mk' s h' _) n' (vars_setL nd q hk hl n n' sb ?_)
    exact Rd.keep rd fun b o xs nn e d _ => (sb.2 b (ns_seq n e d)).trans e
  have keepRd : ∀ {h h' : Heap} {m : Str → Option Value} {u : Value} {e : PyData}, h.Ns env.locals m → (∀ b o, h.get? b = some o → b ≠ env.locals → h'.get? b = some o) → Rd h X u e → Rd h' X u e := fun n kp rd => rd.keep fun b o xs nn e d _ => kp b o e (ns_seq n e d)
  cases ct with
  | one hk hl =>
    cases hb
    exact one hk (hloc _ hl) n q rd k
  | @two x y p1 p2 pos i j kx h1 h2 l1 l2 ne =>
    obtain ⟨ds, rfl, hlen, rfl⟩ := bindTg_many hb
    obtain ⟨a, vs, rfl, tp, rs, z⟩ := rd.tuple'
    obtain ⟨d1, d2, rfl⟩ : ∃ d1 d2, ds = [d1, d2] := by
      match ds, hlen with
      | [d1, d2], _ => exact ⟨d1, d2, rfl⟩
    obtain ⟨v1, v2, rfl, r1, r2⟩ := rds_two rs
    show wpAny _ A (do standAt pos; unpack (.ref a) (assignEach [.Name x p1, .Name y p2] env)) Q E s
    refine wpAny_bind (wpAny_standAt (unpack_tuple hh tp rfl rfl fun h' eb => ?_))
    have g : Grow s.heap h' := fun b o e => eb b o (Nat.ne_of_lt (Heap.lt_size e)) e
    show wpAny _ A (do holding [v2] (assign (.Name x p1) env v1); (do holding [] (assign (.Name y p2) env v2); pure ())) Q E _
    refine wpAny_bind (wpAny_holding (one (s := { s with heap := h' }) h1 (hloc _ l1) (n.keeps g) (q.grow g) (r1.grow g) fun s1 m1 k1 t1 n1 q1 => ?_))
    refine wpAny_bind (wpAny_holding (one h2 (hloc _ l2) n1 q1 (keepRd (n.keeps g) k1 (r2.grow g)) fun s2 m2 k2 t2 n2 q2 => wpAny_pure ?_))
    exact k s2 m2 (fun b o e ne => k2 b o (k1 b o (g b o e) ne) ne) ((Rest.mk' s h' s.toks).trans (t1.trans t2)) n2 q2
  | @three x y zz p1 p2 p3 pos i j l kx h1 h2 h3 l1 l2 l3 ne1 ne2 ne3 =>
    obtain ⟨ds, rfl, hlen, rfl⟩ := bindTg_many hb
    obtain ⟨a, vs, rfl, tp, rs, z⟩ := rd.tuple'
    obtain ⟨d1, d2, d3, rfl⟩ : ∃ d1 d2 d3, ds = [d1, d2, d3] := by
      match ds, hlen with
      | [d1, d2, d3], _ => exact ⟨d1, d2, d3, rfl⟩
    obtain ⟨v1, v2, v3, rfl, r1, r2, r3⟩ := rds_three rs
    show wpAny _ A (do standAt pos; unpack (.ref a) (assignEach [.Name x p1, .Name y p2, .Name zz p3] env)) Q E s
    refine wpAny_bind (wpAny_standAt (unpack_tuple hh tp rfl rfl fun h' eb => ?_))
    have g : Grow s.heap h' := fun b o e => eb b o (Nat.ne_of_lt (Heap.lt_size e)) e
    show wpAny _ A (do holding [v2, v3] (assign (.Name x p1) env v1); (do holding [v3] (assign (.Name y p2) env v2); (do holding [] (assign (.Name zz p3) env v3); pure ()))) Q E _
    refine wpAny_bind (wpAny_holding (one (s := { s with heap := h' }) h1 (hloc _ l1) (n.keeps g) (q.grow g) (r1.grow g) fun s1 m1 k1 t1 n1 q1 => ?_))
    refine wpAny_bind (wpAny_holding (one h2 (hloc _ l2) n1 q1 (keepRd (n.keeps g) k1 (r2.grow g)) fun s2 m2 k2 t2 n2 q2 => ?_))
    refine wpAny_bind (wpAny_holding (one h3 (hloc _ l3) n2 q2 (keepRd n1 k2 (keepRd (n.keeps g) k1 (r3.grow g))) fun s3 m3 k3 t3 n3 q3 => wpAny_pure ?_))
    exact k s3 m3 (fun b o e ne => k3 b o (k2 b o (k1 b o (g b o e) ne) ne) ne) ((Rest.mk' s h' s.toks).trans ((t1.trans t2).trans t3)) n3 q3
end Mine

/-! Deep embedding, part J: comprehensions, the loop. -/
set_option autoImplicit false
namespace Mine
open PySem PyProof.Rows PySem.Calls
variable {P : Par}

noncomputable def turnC (F : Nat → List PyData → Option BV) (G : Gam) (e : E) (tg : Tg) (conds : List E) (x : PyData) : Option (Option PyData) :=
  (bindTg G tg x).bind fun G' => (evAll F G' conds).bind fun t => match t with
    | false => some none
    | true => (ev F G' e).bind fun y => if y.isBor then none else some (some y.d)
theorem ev_comp {F : Nat → List PyData → Option BV} {G : Gam} {e : E} {tg : Tg} {cap : List Nat} {it : It} {conds : List E} {r : BV} (h : ev F G (.comp e tg cap it conds) = some r) :
    ∃ q ds, evIt F G it = some q ∧ q.1.length ≤ szLine ∧ compGo (turnC F (keepOnly cap G) e tg conds) q.1 = some ds ∧ r = .own ds := by
  simp only [ev, Option.bind_eq_some_iff] at h
  obtain ⟨q, hq, h⟩ := h
  split at h
  · cases h
  · simp only [Option.map_eq_some_iff] at h
    obtain ⟨ds, hd, rfl⟩ := h
    exact ⟨q, ds, hq, by omega, hd, rfl⟩
set_option maxHeartbeats 1000000 in
theorem comp_core {sc scope : Scope} {elt target iter : Expr} {ifs : List Expr} {e : E} {tg : Tg} {cap : List Nat} {it : It} {conds : List E} {pos : Pos} (nd : P.nm.Nodup)
    (ct : CT P.nm scope target tg) (hkind : scope.kind = .function) (hcell : ∀ y ∈ scope.names, y.2 ≠ .cell)
    (hfree : ∀ y ∈ scope.names, y.2 = .free → sc.names.lookup y.1 = some .cell) (hcap : ∀ k ∈ cap, ∀ x, P.nm[k]? = some x → scope.names.lookup x = some .free ∧ (relab scope sc).names.lookup x = some .cell)
    (hI : OkI P sc iter it) (hA : OkA P (relab scope sc) ifs conds) (hE : Ok P (relab scope sc) elt e)
    {G : Gam} {q : List PyData × Bool} {ds : List PyData} {A : Around} {env : Env} {s : Shared} {X : Ex} {E' : Value → Shared → Prop} {RR : Value → Addr → Result → Shared → Prop}
    (hq : evIt P.F G it = some q) (hz : q.1.length ≤ szLine) (hgo : compGo (turnC P.F (keepOnly cap G) e tg conds) q.1 = some ds) (c : Cxt P A env s X G) (hs : env.scope = sc)
    (k : ∀ D C m' s', Grow s.heap s'.heap → Rest s s' → s.heap.get? D = none → s.heap.get? C = none → s'.heap.Ns C m' → ResOk s.heap s'.heap X (.ref D) (.own ds) → RR (.ref D) C (.ok .next) s') :
    wpAny (model P.prog P.w) A (eval iter env) (fun x s₁ => wpAny (model P.prog P.w) A (pyIter x) (fun itv s₂ => wpAny (model P.prog P.w) A (newList []) (fun acc s₃ =>
      wpAny (model P.prog P.w) A (newFunctionEnv scope env.globals (clos env.cells scope.names []) [] env.qual none .none (some env)) (fun cenv s₄ =>
        codeAny (model P.prog P.w) A (.compStart (.ListComp elt [⟨target, iter, ifs, 0⟩] scope pos) 0 itv acc { cenv with scope := relabel scope env }) (RR acc cenv.locals) s₄) E' s₃) E' s₂) E' s₁) E' s := by
  refine hI hq c hs fun I s1 g1 t1 n1 i1 => ?_
  refine wpAny_newObj_type (wpAny_newFunctionEnv hcell (by intro y hy; simp at hy) (fun h₁ hns₁ hsb₁ => ?_) hkind)
  dsimp only at hns₁ hsb₁ ⊢
  generalize hH2 : s1.heap.push { cls := .type "list", dict := none, data := .seq ([] : List Value).toArray } = H2 at hns₁ hsb₁ ⊢
  generalize hDq : s1.heap.objs.size = D
  generalize hCq : H2.objs.size = C at hns₁ hsb₁ ⊢
  have hD1 : s1.heap.get? D = none := hDq ▸ fresh_size _
  have gH : Grow s1.heap H2 := hH2 ▸ Grow.push _ _
  have hC2 : H2.get? C = none := hCq ▸ fresh_size _
  have hC1 : s1.heap.get? C = none := none_of_grow gH hC2
  have gh₁ : Grow H2 h₁ := fun b o e => by
    have hb : b ≠ C := fun q => by rw [q, hC2] at e; cases e
    exact hsb₁.extBut b o hb (Heap.get?_push_of_some _ e)
  have g₁ : Grow s1.heap h₁ := gH.trans gh₁
  have hpD : H2.PlainList D ([] : List Value).toArray := ⟨0, by rw [← hH2, ← hDq]; exact Heap.get?_push_size _ rfl⟩
  have hD0 : s.heap.get? D = none := none_of_grow g1 hD1
  have hC0 : s.heap.get? C = none := none_of_grow g1 hC1
  have hDC : D ≠ C := by
    obtain ⟨n, e⟩ := hpD
    intro q
    rw [q, hC2] at e; cases e
  have hIf := i1.flds
  have hID : I ≠ D := by
    obtain ⟨o, vs, e, _⟩ := hIf
    intro q
    rw [q, hD1] at e; cases e
  have hIC : I ≠ C := by
    obtain ⟨o, vs, e, _⟩ := hIf
    intro q
    rw [q, hC1] at e; cases e
  subst hs
  let XD : Ex := fun b => X b ∨ b = D
  let cenv : Env := compEnvC scope (clos env.cells scope.names []) C env
  have eoC : EnvOk cenv := ⟨c.eo.globals, c.eo.builtins, hkind, fun x hx => by
    obtain ⟨h1, h2⟩ := relab_cell hcell (show (relab scope env.scope).names.lookup x = some .cell from hx)
    obtain ⟨cc, h3⟩ := c.eo.cells x h2
    exact ⟨cc, clos_lookup h1 h3⟩⟩
  have capV : ∀ h : Heap, Grow s.heap h → VarsOk P.nm cenv h XD (keepOnly cap G) := by
    intro h g j a x hj hx
    obtain ⟨hc, hj'⟩ := look_keepOnly hj
    obtain ⟨v, l, o⟩ := c.vars j a x hj' hx
    obtain ⟨f1, f2⟩ := hcap j hc x hx
    have hcell' := hfree _ (mem_of_lookup f1) rfl
    refine ⟨v, ?_, (o.fresh hD0).grow g⟩
    rcases l with ⟨l1, _⟩ | ⟨_, cc, l2, l3⟩
    · simp only [] at hcell'
      rw [l1] at hcell'; cases hcell'
    · exact .inr ⟨f2, cc, clos_lookup (mem_of_lookup f1) l2, l3.keeps g⟩
  have domD : ∀ h : Heap, Grow s.heap h → (∃ its, h.IsList D its) → XDom XD h := fun h g hD b hb => hb.elim (fun hb => c.dom.grow g b hb) fun e => e ▸ hD
  -- the loop
  have loop : codeAny (model P.prog P.w) A (.compLoop (.ListComp elt [⟨target, iter, ifs, 0⟩] scope pos) 0 (.ref I) (.ref D) cenv) (RR (.ref D) C) { s1 with heap := h₁, toks := s1.toks + ([] : List (Str × Value)).length } := by
    refine compLoop_any (fun n s' => ∃ (rest done todo : List PyData) (vs : List Value) (m : Str → Option Value), n = rest.length + 1 ∧ compGo (turnC P.F (keepOnly cap G) e tg conds) rest = some todo ∧ ds = done ++ todo ∧ done.length + rest.length ≤ szLine ∧
      Grow s.heap s'.heap ∧ Rest s s' ∧ s'.heap.Ns C m ∧ s'.heap.PlainList D vs.toArray ∧ Rds s'.heap XD vs done ∧ ItAt s'.heap XD (fun b => b = D) I rest) ?_ (q.1.length + 1) ?_
    · rintro n s' ⟨rest, done, todo, vs, m, rfl, h1, h2, h3, g, t, nC, pD, rD, iI⟩
      have fI := iI.flds
      have I0 : ∀ b o, s.heap.get? b = some o → b ≠ I := fun b o e q => by
        have := none_of_grow (Grow.refl s.heap) n1
        rw [q, this] at e; cases e
      cases rest with
      | nil =>
        refine it_end c.room.1 iI fun h' eb => ?_
        cases h1
        rw [List.append_nil] at h2
        subst h2
        obtain ⟨np, hp⟩ := pD
        refine k D C m { s' with heap := h' } (fun b o e => eb b o (I0 b o e) (g b o e)) (t.trans (Rest.mk' s' h' s'.toks)) hD0 hC0 (nC.extBut eb (ns_flds nC fI).symm) ⟨D, vs, rfl, hD0, ⟨np, eb _ _ (fI.seq hp rfl) hp⟩, rD.ext fI eb, by simpa using h3⟩
      | cons x r =>
        refine it_next iI fun v h' tk rv iI' eb => ?_
        -- after the item
        have g' : Grow s.heap h' := fun b o e => eb b o (I0 b o e) (g b o e)
        have nC' : h'.Ns C m := nC.extBut eb (ns_flds nC fI).symm
        have rv' := rv.ext fI eb
        have rD' := rD.ext fI eb
        have pD' : h'.PlainList D vs.toArray := by
          obtain ⟨np, hp⟩ := pD
          exact ⟨np, eb _ _ (fI.seq hp rfl) hp⟩
        have t' : Rest s { s' with heap := h', toks := tk } := t.trans (Rest.mk' s' h' tk)
        show wpAny _ A (letOwnedTupleGo target (.ref I) v) _ _ _
        refine go_ok (s := { s' with heap := h', toks := tk }) iI' ?_
        unfold compGo at h1
        have fI' := iI'.flds
        -- one turn
        have hturn : ∃ G', bindTg (keepOnly cap G) tg x = some G' ∧ ((evAll P.F G' conds = some false ∧ compGo (turnC P.F (keepOnly cap G) e tg conds) r = some todo) ∨
            (∃ y todo', evAll P.F G' conds = some true ∧ ev P.F G' e = some y ∧ y.isBor = false ∧ compGo (turnC P.F (keepOnly cap G) e tg conds) r = some todo' ∧ todo = y.d :: todo')) := by
          cases hb : bindTg (keepOnly cap G) tg x with
          | none => simp [turnC, hb] at h1
          | some G' =>
            refine ⟨G', rfl, ?_⟩
            cases ha : evAll P.F G' conds with
            | none => simp [turnC, hb, ha] at h1
            | some bb =>
              cases bb with
              | false =>
                simp only [turnC, hb, ha, Option.bind_some] at h1
                exact .inl ⟨rfl, h1⟩
              | true =>
                cases hy : ev P.F G' e with
                | none => simp [turnC, hb, ha, hy] at h1
                | some y =>
                  cases hbor : y.isBor with
                  | true => simp [turnC, hb, ha, hy, hbor] at h1
                  | false =>
                    simp only [turnC, hb, ha, hy, hbor, Option.bind_some, Bool.false_eq_true, if_false, Option.map_eq_some_iff] at h1
                    obtain ⟨td, h1, rfl⟩ := h1
                    exact .inr ⟨y, td, rfl, rfl, hbor, h1, rfl⟩
        obtain ⟨G', hb, hcase⟩ := hturn
        refine tgt_ok (env := cenv) (scope := scope) nd c.room.1 hkind ct (fun y hy => ?_) nC' (capV h' g') rv' hb fun s2 m2 k2 t2 n2 q2 => ?_
        · rcases hy with hy | hy
          · exact lookup_relabel_local hy
          · exact absurd rfl (hcell _ (mem_of_lookup hy))
        -- after the binding
        have g2 : Grow s.heap s2.heap := fun b o e => k2 b o (g' b o e) fun q => by
          have q' : b = C := q
          rw [q', hC0] at e; cases e
        have pD2 : s2.heap.PlainList D vs.toArray := by
          obtain ⟨np, hp⟩ := pD'
          exact ⟨np, k2 _ _ hp hDC⟩
        have rD2 : Rds s2.heap XD vs done := rD'.keep fun b o xs nn e d _ => k2 b o e (ns_seq nC' e d)
        have iI2 : ItAt s2.heap XD (fun b => b = D) I r := iI'.keep (fun o e => k2 _ _ e hIC) (fun b o xs nn e d hw => ⟨k2 b o e (ns_seq nC' e d), hw⟩) fun v d r => r.keep fun b o xs nn e d _ => k2 b o e (ns_seq nC' e d)
        have t2' : Rest s s2 := t'.trans t2
        have cc : Cxt P A cenv s2 XD G' := ⟨c.room, eoC, c.cx.keeps g2, domD _ g2 ⟨_, pD2.isList⟩, q2⟩
        rcases hcase with ⟨ha, hr⟩ | ⟨y, td, ha, hy, hnb, hr, rfl⟩
        · refine hA ha cc rfl fun s3 g3 t3 => ?_
          simp only [Bool.false_eq_true, if_false]
          obtain ⟨np, hp⟩ := pD2
          refine ⟨r.length + 1, by simp, r, done, todo, vs, m2, rfl, hr, h2, by simp at h3; omega, g2.trans g3, t2'.trans t3, n2.keeps g3, ⟨np, g3 _ _ hp⟩, rD2.grow g3, iI2.keep (fun o e => g3 _ _ e) (fun b o xs nn e d hw => ⟨g3 b o e, hw⟩) fun v d r => r.grow g3⟩
        · refine hA ha cc rfl fun s3 g3 t3 => ?_
          simp only [if_true]
          refine hE hy (cc.grow g3) rfl fun v4 s4 g4 t4 q4 => ?_
          have g34 := g3.trans g4
          have rv4 := q4.rd (cc.dom.grow g3) hnb
          obtain ⟨np, hp⟩ := pD2
          have hp4 : s4.heap.get? D = some { cls := .type "list", data := .seq vs.toArray np } := g34 _ _ hp
          have rD4 := rD2.grow g34
          have iI4 : ItAt s4.heap XD (fun b => b = D) I r := iI2.keep (fun o e => g34 _ _ e) (fun b o xs nn e d hw => ⟨g34 b o e, hw⟩) fun v d r => r.grow g34
          have n4 := n2.keeps g34
          have lv : vs.length = done.length := rD2.length
          refine wpAny_list_append_plain (hsz := by rw [List.size_toArray, lv]; show _ ≤ szLine; simp at h3; omega) ⟨np, hp4⟩ fun h5 p5 sb5 => ?_
          have ne : ∀ b o xs nn, s4.heap.get? b = some o → o.data = .seq xs nn → (o.cls = .type "tuple" ∨ ¬ XD b) → h5.get? b = some o := by
            intro b o xs nn e d hx
            refine (sb5.2 b fun q => ?_).trans e
            subst q
            rw [hp4] at e; cases e
            rcases hx with hx | hx
            · simp at hx
            · exact hx (.inr rfl)
          have e5 : vs.toArray.push v4 = (vs ++ [v4]).toArray := by simp
          rw [e5] at p5
          refine ⟨r.length + 1, by simp, r, done ++ [y.d], td, vs ++ [v4], m2, rfl, hr, by simp [h2], by simp at h3 ⊢; omega, ?_, (t2'.trans t3).trans (t4.trans (Rest.mk' s4 h5 s4.toks)), n4.sameBut sb5 (ns_seq n4 hp4 rfl).symm, p5, (rD4.append (.cons rv4 .nil)).keep ne, ?_⟩
          · intro b o e
            refine (sb5.2 b fun q => ?_).trans (g34 _ _ (g2 b o e))
            rw [q, hD0] at e; cases e
          · refine iI4.keep (fun o e => (sb5.2 I hID).trans e) (fun b o xs nn e d hw => ⟨(sb5.2 b hw).trans e, hw⟩) fun v d r => r.keep ne
    · obtain ⟨np, hp⟩ := hpD
      refine ⟨q.1, [], ds, [], _, rfl, hgo, rfl, by simpa using hz, g1.trans g₁, t1.trans ⟨_, _, rfl⟩, hns₁, ⟨np, gh₁ _ _ hp⟩, .nil, i1.keep (fun o e => g₁ _ _ e) (fun b o xs nn e d _ => ⟨g₁ _ _ e, fun q => by rw [q, hD1] at e; cases e⟩) fun v d r => (r.fresh hD1).grow g₁⟩
  have i₁ : ItAt h₁ XD (fun b => b = D) I q.1 := i1.keep (fun o e => g₁ _ _ e) (fun b o xs nn e d _ => ⟨g₁ _ _ e, fun q => by rw [q, hD1] at e; cases e⟩) fun v d r => (r.fresh hD1).grow g₁
  exact codeAny_compStart_list loop (iter_self (s := { s1 with heap := h₁, toks := s1.toks + ([] : List (Str × Value)).length }) i₁ loop)
end Mine

/-! Deep embedding, part K: all expressions. -/
set_option autoImplicit false
namespace Mine
open PySem PyProof.Rows PySem.Calls
variable {P : Par}

theorem ce_fold {x : Expr} (h : plain x = true) (env : Env) (v : Value) : foldedSetIterable x env v = pure v := by
  cases x <;> first | rfl | exact (Bool.false_ne_true h).elim
theorem ci_fold {x : Expr} (h : plain x = true) (env : Env) (v : Value) : foldedSetIterable x env v = pure v := ce_fold h env v
theorem ResOk.sameNs {h h' h'' : Heap} {X : Ex} {v : Value} {r : BV} {C : Addr} {m : Str → Option Value} (q : ResOk h h' X v r) (n : h'.Ns C m) (sb : Heap.SameBut C h' h'') : ResOk h h'' X v r := by
  have kp : ∀ b o xs k, h'.get? b = some o → o.data = .seq xs k → h''.get? b = some o := fun b o xs k e d => (sb.2 b (ns_seq n e d)).trans e
  cases r with
  | val d => exact Rd.keep q fun b o xs k e d _ => kp b o xs k e d
  | own ds => obtain ⟨a, vs, e, n, ⟨k, p⟩, r, z⟩ := q; exact ⟨a, vs, e, n, ⟨k, kp _ _ _ _ p rfl⟩, r.keep fun b o xs k e d _ => kp b o xs k e d, z⟩
  | bor ds => obtain ⟨a, vs, e, ⟨k, p⟩, r, z⟩ := q; exact ⟨a, vs, e, ⟨k, kp _ _ _ _ p rfl⟩, r.keep fun b o xs k e d _ => kp b o xs k e d, z⟩

theorem ok_comp {sc scope : Scope} {elt target iter : Expr} {ifs : List Expr} {e : E} {tg : Tg} {cap : List Nat} {it : It} {conds : List E} {pos : Pos} (nd : P.nm.Nodup) (ci : plain iter = true)
    (ct : CT P.nm scope target tg) (hkind : scope.kind = .function) (hcell : ∀ y ∈ scope.names, y.2 ≠ .cell) (hnames : ∀ y ∈ scope.names, y.2 = .local → scope.names.lookup y.1 = some .local)
    (hfree : ∀ y ∈ scope.names, y.2 = .free → sc.names.lookup y.1 = some .cell) (hcap : ∀ k ∈ cap, ∀ x, P.nm[k]? = some x → scope.names.lookup x = some .free ∧ (relab scope sc).names.lookup x = some .cell)
    (hI : OkI P sc iter it) (hA : OkA P (relab scope sc) ifs conds) (hE : Ok P (relab scope sc) elt e) : Ok P sc (.ListComp elt [⟨target, iter, ifs, 0⟩] scope pos) (.comp e tg cap it conds) := by
  intro G r A env s X Q E' h c hs k
  obtain ⟨q, ds, hq, hz, hgo, rfl⟩ := ev_comp h
  rw [eval_ListComp]
  refine wpAny_comprehension_free (use := none) rfl (ci_fold ci env) (closure_eq fun y hy hk => c.eo.cells _ (hs ▸ hfree y hy hk)) hkind hnames ?_
  refine comp_core (RR := fun acc C => compPost (model P.prog P.w) A E' none Q acc C) nd ct hkind hcell hfree hcap hI hA hE hq hz hgo c hs fun D C m' s' g t hD hC n' r' => ⟨m', n', fun h' sb => ?_⟩
  refine k _ _ (fun b o e => (sb.2 b fun q => ?_).trans (g b o e)) (t.trans (Rest.mk' s' h' s'.toks)) (r'.sameNs n' sb)
  rw [q, hC] at e; cases e

abbrev HF (P : Par) : Prop := ∀ f args r, P.F f args = some r → Sound1 P f args r
abbrev OKE (P : Par) (sc : Scope) (x : Expr) (a : E) : Prop := plain x = true ∧ Ok P sc x a ∧ OkT P sc x a
abbrev OKS (P : Par) (sc : Scope) (x : List Expr) (a : List E) : Prop := (plains x = true ∧ x.length = a.length) ∧ OkS P sc x a ∧ OkA P sc x a
abbrev OKB (P : Par) (sc : Scope) (op : BoolOp) (x : List Expr) (a : E) : Prop := OkB P sc op x a ∧ OkBT P sc op x a
abbrev OKI (P : Par) (sc : Scope) (x : Expr) (a : It) : Prop := plain x = true ∧ OkI P sc x a
section
variable {sc : Scope} {pos : Pos} {x y z l r : Expr} {a b c : E}
theorem cek_int {i : Int} {k : Nat}  : OKE P sc (.Constant (.int i) k pos) (.int i) :=
  ⟨rfl, ok_int, okT_of (ok_int) fun _ _ => rfl⟩
theorem cek_bool {i : Bool} {k : Nat}  : OKE P sc (.Constant (.bool i) k pos) (.bool i) :=
  ⟨rfl, ok_bool, okT_of (ok_bool) fun _ _ => rfl⟩
theorem cek_none {k : Nat}  : OKE P sc (.Constant .none k pos) .none :=
  ⟨rfl, ok_none, okT_of (ok_none) fun _ _ => rfl⟩
theorem cek_var {x : Str} {k : Nat} (h1 : P.nm[k]? = some x) (h2 : (x == ("__debug__" : Str)) = false) : OKE P sc (.Name x pos) (.var k) :=
  ⟨rfl, ok_var h1 h2, okT_of (ok_var h1 h2) fun _ _ => rfl⟩
theorem cek_bin {op : Operator} {o : Op} (h : opPy o = op) (i1 : OKE P sc l a) (i2 : OKE P sc r b) : OKE P sc (.BinOp l op r pos) (.bin o a b) :=
  ⟨rfl, ok_bin h i1.2.1 i2.2.1, okT_of (ok_bin h i1.2.1 i2.2.1) fun _ _ => rfl⟩
theorem cek_neg  (i1 : OKE P sc x a) : OKE P sc (.UnaryOp .USub x pos) (.neg a) :=
  ⟨rfl, ok_neg i1.2.1, okT_of (ok_neg i1.2.1) fun _ _ => rfl⟩
theorem cek_not  (i1 : OKE P sc x a) : OKE P sc (.UnaryOp .Not x pos) (.not a) :=
  ⟨rfl, ok_not i1.2.1, okT_not i1.2.2⟩
theorem cek_cmp {op : CmpOp} {o : Cm} (h : cmPy o = op) (m : behindInMarks op r = false) (i1 : OKE P sc l a) (i2 : OKE P sc r b) : OKE P sc (.Compare l [op] [r] pos) (.cmp o a b) :=
  ⟨rfl, ok_cmp h m i1.2.1 i2.2.1, okT_cmp h m i1.2.1 i2.2.1⟩
theorem cek_isC {n : Bool} {c : Ck} {op : CmpOp} {cc : Const} {k : Nat} {p : Pos} (h : isOp n = op) (h' : ckC c = cc) (i1 : OKE P sc l a) : OKE P sc (.Compare l [op] [.Constant cc k p] pos) (.isC n a c) :=
  ⟨rfl, ok_isC h h' i1.2.1, okT_isC h h' i1.2.1⟩
theorem cek_and {q : List Expr} (i1 : OKE P sc x a) (i2 : OKB P sc .And (y :: q) b) : OKE P sc (.BoolOp .And (x :: y :: q) pos) (.and a b) :=
  ⟨rfl, ok_boolop (.inl ⟨_, _, rfl⟩) (okB_and i1.2.1 i2.1), okT_boolop (okBT_and i1.2.2 i2.2)⟩
theorem cek_call {g : Str} {p : Pos} {args : List Expr} {f : Nat} {as : List E} {d : DefRec} (hF : HF P) (h1 : P.nf.fs[f]? = some d) (h2 : d.name = g) (h3 : GI sc g) (h4 : (g == ("__debug__" : Str)) = false) (i1 : OKS P sc args as) : OKE P sc (.Call (.Name g p) args [] pos) (.call f as) :=
  ⟨rfl, ok_call hF h1 h2 h3 h4 i1.1.1 i1.1.2 i1.2.1, okT_of (ok_call hF h1 h2 h3 h4 i1.1.1 i1.1.2 i1.2.1) fun _ _ => rfl⟩
theorem cek_len {p : Pos} (g : GI sc "len") (i1 : OKE P sc x a) : OKE P sc (.Call (.Name "len" p) [x] [] pos) (.len a) :=
  ⟨rfl, ok_len g i1.1 i1.2.1, okT_of (ok_len g i1.1 i1.2.1) fun _ _ => rfl⟩
theorem cek_abs {p : Pos} (g : GI sc "abs") (i1 : OKE P sc x a) : OKE P sc (.Call (.Name "abs" p) [x] [] pos) (.abs a) :=
  ⟨rfl, ok_abs g i1.1 i1.2.1, okT_of (ok_abs g i1.1 i1.2.1) fun _ _ => rfl⟩
theorem cek_sum {p : Pos} (g : GI sc "sum") (i1 : OKE P sc x a) : OKE P sc (.Call (.Name "sum" p) [x] [] pos) (.sum1 a) :=
  ⟨rfl, ok_sum g i1.1 i1.2.1, okT_of (ok_sum g i1.1 i1.2.1) fun _ _ => rfl⟩
theorem cek_list1 {p : Pos} (g : GI sc "list") (i1 : OKE P sc x a) : OKE P sc (.Call (.Name "list" p) [x] [] pos) (.list1 a) :=
  ⟨rfl, ok_list1 g i1.1 i1.2.1, okT_of (ok_list1 g i1.1 i1.2.1) fun _ _ => rfl⟩
theorem cek_sorted {p : Pos} (g : GI sc "sorted") (i1 : OKE P sc x a) : OKE P sc (.Call (.Name "sorted" p) [x] [] pos) (.sorted a) :=
  ⟨rfl, ok_sorted g i1.1 i1.2.1, okT_of (ok_sorted g i1.1 i1.2.1) fun _ _ => rfl⟩
theorem cek_data {g : Str} {ns : List Int} (hq : (g, ns) ∈ P.nf.ls) (gi : GI sc g) (hd : (g == ("__debug__" : Str)) = false) (hz : ns.length ≤ 100) : OKE P sc (.Name g pos) (.data (tupD ns)) :=
  ⟨rfl, ok_data hq gi hd hz, okT_of (ok_data hq gi hd hz) fun _ _ => rfl⟩
theorem cek_min2 {p : Pos} (g : GI sc "min") (i1 : OKE P sc x a) (i2 : OKE P sc y b) : OKE P sc (.Call (.Name "min" p) [x, y] [] pos) (.min2 a b) :=
  ⟨rfl, ok_min2 g i1.1 i2.1 i1.2.1 i2.2.1, okT_of (ok_min2 g i1.1 i2.1 i1.2.1 i2.2.1) fun _ _ => rfl⟩
theorem cek_idx  (n : notSlice y = true) (i1 : OKE P sc x a) (i2 : OKE P sc y b) : OKE P sc (.Subscript x y pos) (.idx a b) :=
  ⟨rfl, ok_idx n i1.2.1 i2.2.1, okT_of (ok_idx n i1.2.1 i2.2.1) fun _ _ => rfl⟩
theorem cek_sl {lo hi : Option Expr} {u v : Option E} {p : Pos} (i1 : OKE P sc x a) (i2 : OkO P sc lo u) (i3 : OkO P sc hi v) : OKE P sc (.Subscript x (.Slice lo hi none p) pos) (.sl a u v) :=
  ⟨rfl, ok_sl i1.2.1 i2 i3, okT_of (ok_sl i1.2.1 i2 i3) fun _ _ => rfl⟩
theorem cek_tup {es : List Expr} {as : List E} {k : Nat} (i1 : OKS P sc es as) : OKE P sc (.Tuple es k pos) (.tup as) :=
  ⟨rfl, ok_tup i1.2.1, okT_of (ok_tup i1.2.1) fun _ _ => rfl⟩
theorem cek_lst {es : List Expr} {as : List E} (i1 : OKS P sc es as) : OKE P sc (.List es pos) (.lst as) :=
  ⟨rfl, ok_lst i1.2.1, okT_of (ok_lst i1.2.1) fun _ _ => rfl⟩
theorem cek_comp {scope : Scope} {elt target iter : Expr} {ifs : List Expr} {e : E} {tg : Tg} {cap : List Nat} {it : It} {conds : List E} (nd : P.nm.Nodup) (i1 : OKI P sc iter it) (h2 : CT P.nm scope target tg) (h3 : scope.kind = .function) (h4 : ∀ y ∈ scope.names, y.2 ≠ .cell) (h5 : ∀ y ∈ scope.names, y.2 = .local → scope.names.lookup y.1 = some .local) (h6 : ∀ y ∈ scope.names, y.2 = .free → sc.names.lookup y.1 = some .cell) (h7 : ∀ k ∈ cap, ∀ x, P.nm[k]? = some x → scope.names.lookup x = some .free ∧ (relab scope sc).names.lookup x = some .cell) (i2 : OKS P (relab scope sc) ifs conds) (i3 : OKE P (relab scope sc) elt e) : OKE P sc (.ListComp elt [⟨target, iter, ifs, 0⟩] scope pos) (.comp e tg cap it conds) :=
  ⟨rfl, ok_comp nd i1.1 h2 h3 h4 h5 h6 h7 i1.2 i2.2.2 i3.2.1, okT_of (ok_comp nd i1.1 h2 h3 h4 h5 h6 h7 i1.2 i2.2.2 i3.2.1) fun _ _ => rfl⟩
theorem cek_nil : OKS P sc [] [] := ⟨⟨rfl, rfl⟩, okS_nil, okA_nil⟩
theorem cek_cons {q : List Expr} {as : List E} (i1 : OKE P sc x a) (i2 : OKS P sc q as) : OKS P sc (x :: q) (a :: as) :=
  ⟨⟨Bool.and_eq_true_iff.mpr ⟨i1.1, i2.1.1⟩, congrArg (· + 1) i2.1.2⟩, okS_cons i1.1 i1.2.1 i2.2.1, okA_cons i1.2.2 i2.2.2⟩
theorem cek_bone {op : BoolOp} (i1 : OKE P sc x a) : OKB P sc op [x] a := ⟨okB_one i1.2.1, okBT_one i1.2.2⟩
theorem cek_band {q : List Expr} (i1 : OKE P sc x a) (i2 : OKB P sc .And (y :: q) b) : OKB P sc .And (x :: y :: q) (.and a b) := ⟨okB_and i1.2.1 i2.1, okBT_and i1.2.2 i2.2⟩
theorem cek_bor {q : List Expr} (i1 : OKE P sc x a) (i2 : OKB P sc .Or (y :: q) b) : OKB P sc .Or (x :: y :: q) (.or a b) := ⟨okB_or i1.2.1 i2.1, okBT_or i1.2.2 i2.2⟩
theorem cek_rng1 {p : Pos} (g : GI sc "range") (i1 : OKE P sc x a) : OKI P sc (.Call (.Name "range" p) [x] [] pos) (.rng1 a) := ⟨rfl, okI_rng1 g i1.1 i1.2.1⟩
theorem cek_ex (i1 : OKE P sc x a) : OKI P sc x (.ex a) := ⟨i1.1, okI_ex i1.2.1⟩
end
end Mine

/-! Deep embedding, part L: frames and stores. -/
set_option autoImplicit false
namespace Mine
open PySem PyProof.Rows PySem.Calls
variable {P : Par}

theorem loads_unique {env : Env} {h : Heap} {x : Str} {v u : Value} (a : Loads env h x v) (b : Loads env h x u) : v = u := by
  rcases a with ⟨a1, m, a2, a3⟩ | ⟨a1, c, a2, a3⟩ <;> rcases b with ⟨b1, m', b2, b3⟩ | ⟨b1, c', b2, b3⟩
  · have := ns_unique a2 b2
    subst this
    rw [a3] at b3; cases b3; rfl
  · rw [a1] at b1; cases b1
  · rw [a1] at b1; cases b1
  · rw [a2] at b2; cases b2
    obtain ⟨o, e1, e2⟩ := a3
    obtain ⟨o', e1', e2'⟩ := b3
    rw [e1] at e1'; cases e1'
    rw [e2] at e2'; cases e2'; rfl

structure FR (nm : List Str) (env : Env) (g : Heap) (X : Ex) (G : Gam) (h : Heap) : Prop where
  vars : VarsOk nm env h X G
  ns : ∃ m, h.Ns env.locals m
  cells : ∀ x c, env.cells.lookup x = some c → ∃ v, h.IsCell c v
  apart : ∀ x y c, env.cells.lookup x = some c → env.cells.lookup y = some c → x = y
  dom : XDom X h
  keep : Grow g h
  newL : g.get? env.locals = none
  newC : ∀ x c, env.cells.lookup x = some c → g.get? c = none
  own : ∀ k ds x a, look G k = some (.own ds) → nm[k]? = some x → Loads env h x (.ref a) → X a ∧ g.get? a = none
  uniq : ∀ k k' ds ds' x x' a, look G k = some (.own ds) → look G k' = some (.own ds') → nm[k]? = some x → nm[k']? = some x' → k ≠ k' → Loads env h x (.ref a) → ¬ Loads env h x' (.ref a)

structure Stp (X₀ : Ex) (env : Env) (X : Ex) (h : Heap) (X' : Ex) (h' : Heap) : Prop where
  sub : (∀ a, X₀ a → X a) → ∀ a, X₀ a → X' a
  new : ∀ a, X' a → X a ∨ h.get? a = none
  keep : ∀ b o, h.get? b = some o → b ≠ env.locals → (∀ x, env.cells.lookup x ≠ some b) → ¬ X b → h'.get? b = some o
  there : ∀ b o, h.get? b = some o → ∃ o', h'.get? b = some o'
theorem Stp.refl {X₀ : Ex} (env : Env) (X : Ex) (h : Heap) : Stp X₀ env X h X h := ⟨fun h => h, fun _ h => .inl h, fun _ _ e _ _ _ => e, fun _ o e => ⟨o, e⟩⟩
theorem Stp.trans {X₀ : Ex} {env : Env} {X X' X'' : Ex} {h h' h'' : Heap} (a : Stp X₀ env X h X' h') (b : Stp X₀ env X' h' X'' h'') : Stp X₀ env X h X'' h'' := by
  refine ⟨fun h => b.sub (a.sub h), fun x hx => ?_, fun x o e n1 n2 n3 => ?_, fun x o e => ?_⟩
  · rcases b.new x hx with q | q
    · exact a.new x q
    · right
      cases e : h.get? x with
      | none => rfl
      | some o =>
        obtain ⟨o', e'⟩ := a.there x o e
        rw [q] at e'; cases e'
  · refine b.keep x o (a.keep x o e n1 n2 n3) n1 n2 fun q => ?_
    rcases a.new x q with q | q
    · exact n3 q
    · rw [e] at q; cases q
  · obtain ⟨o', e'⟩ := a.there x o e
    exact b.there x o' e'
theorem Stp.grow {X₀ : Ex} {env : Env} {X : Ex} {h h' : Heap} (g : Grow h h') : Stp X₀ env X h X h' := ⟨fun h => h, fun _ h => .inl h, fun _ _ e _ _ _ => g _ _ e, fun _ o e => ⟨o, g _ _ e⟩⟩

section
variable {nm : List Str} {env : Env} {g h h' : Heap} {X : Ex} {G : Gam}
/-- a new list joins the excluded -/
theorem FR.extend {a : Addr} (f : FR nm env g X G h) (n : h.get? a = none) (w : Grow h h') (ha : ∃ its, h'.IsList a its) : FR nm env g (fun b => X b ∨ b = a) G h' := by
  have back : ∀ x v u, Loads env h x v → Loads env h' x u → Loads env h x u := fun x v u l l' => by
    have := loads_unique (l.grow w) l'
    subst this; exact l
  have lo : ∀ k b x, look G k = some b → nm[k]? = some x → ∀ u, Loads env h' x u → Loads env h x u := fun k b x e1 e2 u l => by
    obtain ⟨v, l0, _⟩ := f.vars k b x e1 e2
    exact back x v u l0 l
  refine ⟨fun k b x e1 e2 => ?_, ?_, fun x c e => ?_, f.apart, fun b hb => ?_, f.keep.trans w, f.newL, f.newC, fun k ds x b e1 e2 l => ?_, fun k k' ds ds' x x' b e1 e1' e2 e2' ne l l' => ?_⟩
  · obtain ⟨v, l, o⟩ := f.vars k b x e1 e2
    exact ⟨v, l.grow w, (o.fresh n).grow w⟩
  · obtain ⟨m, q⟩ := f.ns
    exact ⟨m, q.keeps w⟩
  · obtain ⟨v, q⟩ := f.cells x c e
    exact ⟨v, q.keeps w⟩
  · rcases hb with hb | rfl
    · exact f.dom.grow w b hb
    · exact ha
  · obtain ⟨q1, q2⟩ := f.own k ds x b e1 e2 (lo k _ x e1 e2 _ l)
    exact ⟨.inl q1, q2⟩
  · exact f.uniq k k' ds ds' x x' b e1 e1' e2 e2' ne (lo k _ x e1 e2 _ l) (lo k' _ x' e1' e2' _ l')
theorem FR.grow (f : FR nm env g X G h) (w : Grow h h') : FR nm env g X G h' := by
  have lo : ∀ k b x, look G k = some b → nm[k]? = some x → ∀ u, Loads env h' x u → Loads env h x u := fun k b x e1 e2 u l => by
    obtain ⟨v, l0, _⟩ := f.vars k b x e1 e2
    have := loads_unique (l0.grow w) l
    subst this; exact l0
  refine ⟨f.vars.grow w, ?_, fun x c e => ?_, f.apart, f.dom.grow w, f.keep.trans w, f.newL, f.newC, fun k ds x b e1 e2 l => f.own k ds x b e1 e2 (lo k _ x e1 e2 _ l), fun k k' ds ds' x x' b e1 e1' e2 e2' ne l l' => f.uniq k k' ds ds' x x' b e1 e1' e2 e2' ne (lo k _ x e1 e2 _ l) (lo k' _ x' e1' e2' _ l')⟩
  · obtain ⟨m, q⟩ := f.ns
    exact ⟨m, q.keeps w⟩
  · obtain ⟨v, q⟩ := f.cells x c e
    exact ⟨v, q.keeps w⟩

/-- what a store of a name does -/
structure Sto (env : Env) (x : Str) (v : Value) (h h' : Heap) : Prop where
  here : Loads env h' x v
  other : ∀ y u, y ≠ x → Loads env h y u → Loads env h' y u
  back : ∀ y u, y ≠ x → Loads env h' y u → (∃ w, Loads env h y w) → Loads env h y u
  keep : ∀ b o, h.get? b = some o → b ≠ env.locals → (∀ y, env.cells.lookup y ≠ some b) → h'.get? b = some o
  there : ∀ b o, h.get? b = some o → ∃ o', h'.get? b = some o'
  ns : ∃ m, h'.Ns env.locals m
  cells : ∀ y c, env.cells.lookup y = some c → ∃ u, h'.IsCell c u
theorem sto_seq {x : Str} {v : Value} (f : FR nm env g X G h) (s : Sto env x v h h') : ∀ b o xs n, h.get? b = some o → o.data = .seq xs n → h'.get? b = some o := by
  intro b o xs n e d
  obtain ⟨m, hn⟩ := f.ns
  refine s.keep b o e (ns_seq hn e d) fun y q => ?_
  obtain ⟨u, o', e', d'⟩ := f.cells y b q
  rw [e] at e'; cases e'; rw [d] at d'; cases d'
theorem store_ok {M : Model} {A : Around} {E : Value → Shared → Prop} {s : Shared} {x : Str} {v : Value} {Q : Unit → Shared → Prop} (eo : EnvOk env) (f : FR nm env g X G s.heap) (hk : env.scope.names.lookup x = some .local ∨ env.scope.names.lookup x = some .cell)
    (k : ∀ h' tk, Sto env x v s.heap h' → Q () { s with heap := h', toks := tk }) : wpAny M A (storeName env x v) Q E s := by
  obtain ⟨m, hn⟩ := f.ns
  rcases hk with hk | hk
  · refine wpAny_storeName_local hk hn (fun h' n' sb => k h' _ ⟨.inl ⟨hk, _, n', by simp⟩, fun y u ne l => ?_, fun y u ne l lw => ?_, fun b o e n1 n2 => (sb.2 b n1).trans e, fun b o e => ?_, ⟨_, n'⟩, fun y c e => ?_⟩) (by rw [eo.kind]; rfl)
    · rcases l with ⟨l1, m', l2, l3⟩ | ⟨l1, c, l2, l3⟩
      · have := ns_unique hn l2
        subst this
        exact .inl ⟨l1, _, n', by simp only [ne, if_false]; exact l3⟩
      · exact .inr ⟨l1, c, l2, l3.sameBut sb (ns_cell hn l3)⟩
    · rcases l with ⟨l1, m', l2, l3⟩ | ⟨l1, c, l2, l3⟩
      · have := ns_unique n' l2
        subst this
        exact .inl ⟨l1, m, hn, by simpa only [ne, if_false] using l3⟩
      · obtain ⟨w, l⟩ := lw
        rcases l with ⟨l1', _⟩ | ⟨_, c', l2', l3'⟩
        · rw [l1] at l1'; cases l1'
        · rw [l2] at l2'; cases l2'
          obtain ⟨o, e1, e2⟩ := l3
          exact .inr ⟨l1, c, l2, o, ((sb.2 c (ns_cell hn l3')).symm.trans e1), e2⟩
    · by_cases hb : b = env.locals
      · subst hb
        obtain ⟨o', _, _, q, _⟩ := n'
        exact ⟨o', q⟩
      · exact ⟨o, (sb.2 b hb).trans e⟩
    · obtain ⟨u, q⟩ := f.cells y c e
      exact ⟨u, q.sameBut sb (ns_cell hn q)⟩
  · obtain ⟨c, hc⟩ := eo.cells x hk
    obtain ⟨v₀, hv⟩ := f.cells x c hc
    refine wpAny_storeName_cell eo.kind hk hc hv fun h' hv' sb => k h' s.toks ⟨.inr ⟨hk, c, hc, hv'⟩, fun y u ne l => ?_, fun y u ne l lw => ?_, fun b o e n1 n2 => (sb.2 b fun q => n2 x (q ▸ hc)).trans e, fun b o e => ?_, ⟨m, hn.sameBut sb (ns_cell hn hv).symm⟩, fun y c' e => ?_⟩
    · rcases l with ⟨l1, m', l2, l3⟩ | ⟨l1, c', l2, l3⟩
      · exact .inl ⟨l1, m', l2.sameBut sb (ns_cell l2 hv).symm, l3⟩
      · refine .inr ⟨l1, c', l2, l3.sameBut sb fun q => ne (f.apart y x c' l2 (q ▸ hc))⟩
    · rcases l with ⟨l1, m', l2, l3⟩ | ⟨l1, c', l2, l3⟩
      · have hn' := hn.sameBut sb (ns_cell hn hv).symm
        have := ns_unique hn' l2
        subst this
        exact .inl ⟨l1, m, hn, l3⟩
      · obtain ⟨o, e1, e2⟩ := l3
        have hne : c' ≠ c := fun q => ne (f.apart y x c' l2 (q ▸ hc))
        exact .inr ⟨l1, c', l2, o, (sb.2 c' hne).symm.trans e1, e2⟩
    · by_cases hb : b = c
      · subst hb
        obtain ⟨o', q, _⟩ := hv'
        exact ⟨o', q⟩
      · exact ⟨o, (sb.2 b hb).trans e⟩
    · by_cases hb : c' = c
      · subst hb; exact ⟨_, hv'⟩
      · obtain ⟨u, q⟩ := f.cells y c' e
        exact ⟨u, q.sameBut sb hb⟩

/-- the frame behind a store -/
theorem FR.store {x : Str} {v : Value} {k : Nat} {a : AV} (nd : nm.Nodup) (f : FR nm env g X G h) (s : Sto env x v h h') (hk : nm[k]? = some x) (av : AvOk h X v a)
    (ho : ∀ ds, a = .own ds → ∀ b, v = .ref b → X b ∧ g.get? b = none ∧ ∀ k' ds' x', look G k' = some (.own ds') → nm[k']? = some x' → k' ≠ k → ¬ Loads env h x' (.ref b)) : FR nm env g X (G.set k (some a)) h' := by
  have sq := sto_seq f s
  have lo : ∀ j b y, look G j = some b → nm[j]? = some y → j ≠ k → ∀ u, Loads env h' y u → Loads env h y u := fun j b y e1 e2 ne u l => by
    obtain ⟨w, l0, _⟩ := f.vars j b y e1 e2
    exact s.back y u (nodup_ne nd e2 hk ne) l ⟨w, l0⟩
  have hx : ∀ y, nm[k]? = some y → y = x := fun y e => by rw [hk] at e; cases e; rfl
  have ch : ∀ u, Loads env h' x u → u = v := fun u l => loads_unique l s.here
  refine ⟨fun j b y e1 e2 => ?_, s.ns, s.cells, f.apart, fun b hb => ?_, fun b o e => ?_, f.newL, f.newC, fun j ds y b e1 e2 l => ?_, fun j j' ds ds' y y' b e1 e1' e2 e2' ne l l' => ?_⟩
  · rcases look_set e1 with ⟨rfl, rfl⟩ | ⟨ne, e1⟩
    · rw [hx y e2]
      exact ⟨v, s.here, av.keep sq⟩
    · obtain ⟨u, l, o⟩ := f.vars j b y e1 e2
      exact ⟨u, s.other y u (nodup_ne nd e2 hk ne) l, o.keep sq⟩
  · obtain ⟨its, o, e, ec, n, ed⟩ := f.dom b hb
    exact ⟨its, o, sq b o _ _ e ed, ec, n, ed⟩
  · refine s.keep b o (f.keep b o e) (fun q => ?_) fun y q => ?_
    · rw [q, f.newL] at e; cases e
    · rw [f.newC y b q] at e; cases e
  · rcases look_set e1 with ⟨rfl, rfl⟩ | ⟨ne, e1⟩
    · rw [hx y e2] at l
      obtain ⟨q1, q2, _⟩ := ho ds rfl b (ch _ l).symm
      exact ⟨q1, q2⟩
    · exact f.own j ds y b e1 e2 (lo j _ y e1 e2 ne _ l)
  · rcases look_set e1 with ⟨rfl, rfl⟩ | ⟨n1, w1⟩ <;> rcases look_set e1' with ⟨rfl, e⟩ | ⟨n2, w1'⟩
    · exact ne rfl
    · rw [hx y e2] at l
      obtain ⟨_, _, q⟩ := ho ds rfl b (ch _ l).symm
      exact q j' ds' y' w1' e2' n2 (lo j' _ y' w1' e2' n2 _ l')
    · rw [hx y' e2'] at l'
      obtain ⟨_, _, q⟩ := ho ds' e.symm b (ch _ l').symm
      exact q j ds y w1 e2 n1 (lo j _ y w1 e2 n1 _ l)
    · exact f.uniq j j' ds ds' y y' b w1 w1' e2 e2' ne (lo j _ y w1 e2 n1 _ l) (lo j' _ y' w1' e2' n2 _ l')
theorem Sto.stp {X₀ : Ex} {x : Str} {v : Value} (s : Sto env x v h h') : Stp X₀ env X h X h' := ⟨fun h => h, fun _ h => .inl h, fun b o e n1 n2 _ => s.keep b o e n1 n2, s.there⟩

/-- an own list is given up: it may be read from now on, never changed -/
theorem FR.freeze {k : Nat} {x : Str} {a : Addr} {ds : List PyData} (f : FR nm env g X G h) (hl : look G k = some (.own ds)) (hk : nm[k]? = some x) (l : Loads env h x (.ref a)) :
    FR nm env g (fun b => X b ∧ b ≠ a) (G.set k (some (.val (.list ds)))) h := by
  have wk : ∀ b, (X b ∧ b ≠ a) → X b := fun _ q => q.1
  refine ⟨fun j av y e1 e2 => ?_, f.ns, f.cells, f.apart, fun b hb => f.dom b hb.1, f.keep, f.newL, f.newC, fun j ds' y b e1 e2 lb => ?_, fun j j' ds' ds'' y y' b e1 e1' e2 e2' ne lb => ?_⟩
  · rcases look_set e1 with ⟨rfl, rfl⟩ | ⟨ne, e1⟩
    · rw [hk] at e2; cases e2
      obtain ⟨v, l0, a0, us, e0, p0, r0, z0⟩ := f.vars _ _ _ hl hk
      have := loads_unique l l0
      subst this
      cases e0
      exact ⟨_, l0, Rd.mkList p0.isList (r0.weaken wk) z0 (fun q => q.2 rfl) (let ⟨_, p⟩ := p0; ⟨_, p, rfl⟩)⟩
    · obtain ⟨v, l0, o⟩ := f.vars j av y e1 e2
      refine ⟨v, l0, ?_⟩
      cases av with
      | val d => exact Rd.weaken o wk
      | own ds' => obtain ⟨a0, us, e0, p0, r0, z0⟩ := o; exact ⟨a0, us, e0, p0, r0.weaken wk, z0⟩
  · rcases look_set e1 with ⟨_, q⟩ | ⟨ne, e1⟩
    · cases q
    · obtain ⟨h1, h2⟩ := f.own j ds' y b e1 e2 lb
      refine ⟨⟨h1, fun q => ?_⟩, h2⟩
      subst q
      exact f.uniq j k ds' ds y x b e1 hl e2 hk ne lb l
  · rcases look_set e1 with ⟨_, q⟩ | ⟨n1, e1⟩
    · cases q
    · rcases look_set e1' with ⟨_, q⟩ | ⟨n2, e1'⟩
      · cases q
      · exact f.uniq j j' ds' ds'' y y' b e1 e1' e2 e2' ne lb
theorem Stp.freeze {X₀ : Ex} {a : Addr} (h0 : XDom X₀ g) (ga : g.get? a = none) : Stp X₀ env X h (fun b => X b ∧ b ≠ a) h :=
  ⟨fun w b hb => ⟨w b hb, fun e => by obtain ⟨_, o, q, _⟩ := h0 b hb; rw [e, ga] at q; cases q⟩, fun b hb => .inl hb.1, fun _ _ e _ _ _ => e, fun _ o e => ⟨o, e⟩⟩

/-- an own list is changed in place -/
theorem FR.mut {X₀ : Ex} {k : Nat} {x : Str} {a : Addr} {ds ds' : List PyData} {vs' : List Value} (f : FR nm env g X G h) (hl : look G k = some (.own ds)) (hk : nm[k]? = some x) (l : Loads env h x (.ref a))
    (sb : Heap.SameBut a h h') (p : h'.PlainList a vs'.toArray) (r : Rds h X vs' ds') (z : ds'.length ≤ szLine) : FR nm env g X (G.set k (some (.own ds'))) h' ∧ Stp X₀ env X h X h' := by
  obtain ⟨v, l0, a0, us, e0, ⟨n0, p0⟩, r0, z0⟩ := f.vars k _ x hl hk
  have := loads_unique l l0
  subst this
  cases e0
  obtain ⟨xa, ga⟩ := f.own k ds x a hl hk l
  obtain ⟨m, hn⟩ := f.ns
  have aL : a ≠ env.locals := ns_seq hn p0 rfl
  have aC : ∀ y c, env.cells.lookup y = some c → c ≠ a := fun y c e q => by
    obtain ⟨u, o', e', d'⟩ := f.cells y c e
    rw [q, p0] at e'; cases e'; cases d'
  have kp : ∀ b o xs n, h.get? b = some o → o.data = .seq xs n → (o.cls = .type "tuple" ∨ ¬ X b) → h'.get? b = some o := by
    intro b o xs n e d q
    refine (sb.2 b fun w => ?_).trans e
    subst w
    rw [p0] at e; cases e
    rcases q with q | q
    · simp at q
    · exact q xa
  have lg : ∀ y u, Loads env h y u → Loads env h' y u := by
    intro y u l
    rcases l with ⟨l1, m', l2, l3⟩ | ⟨l1, c, l2, l3⟩
    · exact .inl ⟨l1, m', l2.sameBut sb aL.symm, l3⟩
    · exact .inr ⟨l1, c, l2, l3.sameBut sb (aC y c l2)⟩
  have lb : ∀ y u, Loads env h' y u → Loads env h y u := by
    intro y u l
    rcases l with ⟨l1, m', l2, l3⟩ | ⟨l1, c, l2, l3⟩
    · have := ns_unique (hn.sameBut sb aL.symm) l2
      subst this
      exact .inl ⟨l1, m, hn, l3⟩
    · obtain ⟨o, e1, e2⟩ := l3
      exact .inr ⟨l1, c, l2, o, (sb.2 c (aC y c l2)).symm.trans e1, e2⟩
  refine ⟨⟨fun j b y e1 e2 => ?_, ⟨m, hn.sameBut sb aL.symm⟩, fun y c e => ?_, f.apart, fun b hb => ?_, fun b o e => ?_, f.newL, f.newC, fun j es y b e1 e2 l' => ?_, fun j j' es es' y y' b e1 e1' e2 e2' ne l1 l2 => ?_⟩, ⟨fun h => h, fun _ h => .inl h, fun b o e _ _ nx => (sb.2 b fun q => nx (q ▸ xa)).trans e, fun b o e => ?_⟩⟩
  · rcases look_set e1 with ⟨rfl, rfl⟩ | ⟨ne, e1⟩
    · rw [hk] at e2; cases e2
      exact ⟨.ref a, lg _ _ l, a, vs', rfl, p, r.keep kp, z⟩
    · obtain ⟨u, lu, o⟩ := f.vars j b y e1 e2
      refine ⟨u, lg _ _ lu, ?_⟩
      cases b with
      | val d => exact Rd.keep o kp
      | own es =>
        obtain ⟨a', ws, rfl, ⟨n', p'⟩, r', z'⟩ := o
        refine ⟨a', ws, rfl, ⟨n', (sb.2 a' fun q => ?_).trans p'⟩, r'.keep kp, z'⟩
        subst q
        exact f.uniq k j ds es x y a' hl e1 hk e2 (Ne.symm ne) l lu
  · obtain ⟨u, q⟩ := f.cells y c e
    exact ⟨u, q.sameBut sb (aC y c e)⟩
  · obtain ⟨its, o, e, er⟩ := f.dom b hb
    by_cases q : b = a
    · subst q; exact ⟨_, p.isList⟩
    · exact ⟨its, o, (sb.2 b q).trans e, er⟩
  · refine (sb.2 b fun q => ?_).trans (f.keep b o e)
    rw [q, ga] at e; cases e
  · rcases look_set e1 with ⟨rfl, _⟩ | ⟨ne, e1⟩
    · exact f.own _ ds y b hl e2 (lb _ _ l')
    · exact f.own j es y b e1 e2 (lb _ _ l')
  · have f1 : ∃ es₀, look G j = some (.own es₀) := by
      rcases look_set e1 with ⟨rfl, _⟩ | ⟨_, q⟩
      · exact ⟨_, hl⟩
      · exact ⟨_, q⟩
    have f2 : ∃ es₀, look G j' = some (.own es₀) := by
      rcases look_set e1' with ⟨rfl, _⟩ | ⟨_, q⟩
      · exact ⟨_, hl⟩
      · exact ⟨_, q⟩
    obtain ⟨c1, f1⟩ := f1
    obtain ⟨c2, f2⟩ := f2
    exact f.uniq j j' c1 c2 y y' b f1 f2 e2 e2' ne (lb _ _ l1) (lb _ _ l2)
  · by_cases q : b = a
    · subst q; obtain ⟨n, p⟩ := p; exact ⟨_, p⟩
    · exact ⟨o, (sb.2 b q).trans e⟩
/-- an object that no datum, no name and no cell is moves -/
theorem FR.ext' {I : Addr} (f : FR nm env g X G h) (hq : ∀ b o xs n, h.get? b = some o → o.data = .seq xs n → b ≠ I) (hc : ∀ c v, h.IsCell c v → c ≠ I) (hL : env.locals ≠ I) (nI : g.get? I = none) (eb : Heap.ExtBut I h h') : FR nm env g X G h' := by
  obtain ⟨m, hn⟩ := f.ns
  have cI : ∀ y c, env.cells.lookup y = some c → c ≠ I := fun y c e => by
    obtain ⟨u, q⟩ := f.cells y c e
    exact hc c u q
  have kq : ∀ b o xs n, h.get? b = some o → o.data = .seq xs n → h'.get? b = some o := fun b o xs n e d => eb b o (hq b o xs n e d) e
  have lg : ∀ y u, Loads env h y u → Loads env h' y u := by
    intro y u l
    rcases l with ⟨l1, m', l2, l3⟩ | ⟨l1, c, l2, o, e1, e2⟩
    · exact .inl ⟨l1, m', l2.extBut eb hL, l3⟩
    · exact .inr ⟨l1, c, l2, o, eb c o (cI y c l2) e1, e2⟩
  have lb : ∀ j b y, look G j = some b → nm[j]? = some y → ∀ u, Loads env h' y u → Loads env h y u := by
    intro j b y e1 e2 u l
    obtain ⟨w, l0, _⟩ := f.vars j b y e1 e2
    have := loads_unique (lg _ _ l0) l
    subst this; exact l0
  refine ⟨fun j b y e1 e2 => ?_, ⟨m, hn.extBut eb hL⟩, fun y c e => ?_, f.apart, fun b hb => ?_, fun b o e => ?_, f.newL, f.newC, fun j es y b e1 e2 l' => f.own j es y b e1 e2 (lb j _ y e1 e2 _ l'), fun j j' es es' y y' b e1 e1' e2 e2' ne l1 l2 => f.uniq j j' es es' y y' b e1 e1' e2 e2' ne (lb j _ y e1 e2 _ l1) (lb j' _ y' e1' e2' _ l2)⟩
  · obtain ⟨u, lu, o⟩ := f.vars j b y e1 e2
    exact ⟨u, lg _ _ lu, o.keep kq⟩
  · obtain ⟨u, o, e1, e2⟩ := f.cells y c e
    exact ⟨u, o, eb c o (cI y c e) e1, e2⟩
  · obtain ⟨its, o, e, ec, n, ed⟩ := f.dom b hb
    exact ⟨its, o, kq b o _ _ e ed, ec, n, ed⟩
  · exact eb b o (fun q => by rw [q, nI] at e; cases e) (f.keep b o e)
/-- an iterator moves -/
theorem FR.ext {I : Addr} (f : FR nm env g X G h) (fl : Flds h I) (nI : g.get? I = none) (eb : Heap.ExtBut I h h') : FR nm env g X G h' := by
  obtain ⟨m, hn⟩ := f.ns
  refine f.ext' (fun b o xs n e d => fl.seq e d) (fun c v q w => ?_) (ns_flds hn fl).symm nI eb
  obtain ⟨o, e1, e2⟩ := q
  obtain ⟨o', vs, q1, q2⟩ := fl
  rw [w, q1] at e1; cases e1; rw [q2] at e2; cases e2
end
end Mine

/-! Deep embedding, part M: statements. -/
set_option autoImplicit false
namespace Mine
open PySem PyProof.Rows PySem.Calls
variable {P : Par}

structure FC (P : Par) (A : Around) (env : Env) (s : Shared) (X₀ X : Ex) (G : Gam) (g : Heap) : Prop where
  room : Room A P.n
  eo : EnvOk env
  cx : Cx P.nf P.mg P.mb g
  fr : FR P.nm env g X G s.heap
  sub : ∀ a, X₀ a → X a
  dom0 : XDom X₀ g
theorem FC.cxt {A : Around} {env : Env} {s : Shared} {X₀ X : Ex} {G : Gam} {g : Heap} (f : FC P A env s X₀ X G g) : Cxt P A env s X G := ⟨f.room, f.eo, f.cx.keeps f.fr.keep, f.fr.dom, f.fr.vars⟩
noncomputable def FlOk (g h' : Heap) (X₀ : Ex) : Flow → Fl → Prop
  | .next, .next => True
  | .ret v, .ret r => ResOk g h' X₀ v r
  | _, _ => False
abbrev KS (P : Par) (env : Env) (g : Heap) (X₀ X : Ex) (s : Shared) (Q : Flow → Shared → Prop) (G' : Gam) (fl : Fl) : Prop :=
  ∀ s' X' f, FR P.nm env g X' G' s'.heap → Stp X₀ env X s.heap X' s'.heap → Rest s s' → FlOk g s'.heap X₀ f fl → Q f s'
abbrev OkX (P : Par) (wf : Nat) (sc : Scope) (st : Stmt) (st' : S) : Prop :=
  ∀ {G G' : Gam} {fl : Fl} {A : Around} {env : Env} {s : Shared} {X₀ X : Ex} {g : Heap} {Q : Flow → Shared → Prop} {E' : Value → Shared → Prop},
    ex P.F wf G st' = some (G', fl) → FC P A env s X₀ X G g → env.scope = sc → KS P env g X₀ X s Q G' fl → wpAny (model P.prog P.w) A (exec st env) Q E' s
abbrev OkXs (P : Par) (wf : Nat) (sc : Scope) (sts : List Stmt) (sts' : List S) : Prop :=
  ∀ {G G' : Gam} {fl : Fl} {A : Around} {env : Env} {s : Shared} {X₀ X : Ex} {g : Heap} {Q : Flow → Shared → Prop} {E' : Value → Shared → Prop},
    exs P.F wf G sts' = some (G', fl) → FC P A env s X₀ X G g → env.scope = sc → KS P env g X₀ X s Q G' fl → wpAny (model P.prog P.w) A (execs sts env) Q E' s

theorem ResOk.weaken {h h' : Heap} {X Y : Ex} {v : Value} {r : BV} (q : ResOk h h' X v r) (k : ∀ a, Y a → X a) : ResOk h h' Y v r := by
  cases r with
  | val d => exact Rd.weaken q k
  | own ds => obtain ⟨a, vs, e, n, p, r, z⟩ := q; exact ⟨a, vs, e, n, p, r.weaken fun b hb => hb.imp (k b) id, z⟩
  | bor ds => obtain ⟨a, vs, e, p, r, z⟩ := q; exact ⟨a, vs, e, p, r.weaken k, z⟩
theorem KS.after {env : Env} {g : Heap} {X₀ X X' : Ex} {s s' : Shared} {Q : Flow → Shared → Prop} {G' : Gam} {fl : Fl} (k : KS P env g X₀ X s Q G' fl) (st : Stp X₀ env X s.heap X' s'.heap) (t : Rest s s') : KS P env g X₀ X' s' Q G' fl :=
  fun s'' X'' f fr st' t' fo => k s'' X'' f fr (st.trans st') (t.trans t') fo

section
variable {sc : Scope} {wf : Nat}
theorem okXs_nil : OkXs P wf sc [] [] := by
  intro G G' fl A env s X₀ X g Q E' h c hs k
  cases h
  exact wpAny_execs_nil (k s X _ c.fr (Stp.refl _ _ _) (Rest.refl _) trivial)
theorem okXs_cons {st : Stmt} {st' : S} {r : List Stmt} {r' : List S} (h1 : OkX P wf sc st st') (h2 : OkXs P wf sc r r') : OkXs P wf sc (st :: r) (st' :: r') := by
  intro G G' fl A env s X₀ X g Q E' h c hs k
  simp only [exs, Option.bind_eq_some_iff] at h
  obtain ⟨⟨G1, f1⟩, he, h⟩ := h
  refine wpAny_execs_cons (h1 he c hs fun s1 X1 f fr1 st1 t1 fo => ?_)
  cases f1 with
  | next =>
    cases f with
    | next => exact h2 h ⟨c.room, c.eo, c.cx, fr1, st1.sub c.sub, c.dom0⟩ hs (k.after st1 t1)
    | _ => cases fo
  | ret v =>
    cases h
    cases f with
    | ret u => exact k s1 X1 _ fr1 st1 t1 fo
    | _ => cases fo
/-- what a name takes -/
theorem asg_ok {A : Around} {env : Env} {s s1 : Shared} {X₀ X : Ex} {G G' : Gam} {g : Heap} {Q : Flow → Shared → Prop} {E' : Value → Shared → Prop} {x : Str} {k : Nat} {keep : Bool} {r : BV} {v : Value} (nd : P.nm.Nodup) (c : FC P A env s X₀ X G g)
    (hk : P.nm[k]? = some x) (hl : env.scope.names.lookup x = some .local ∨ env.scope.names.lookup x = some .cell) (g1 : Grow s.heap s1.heap) (t1 : Rest s s1) (q1 : ResOk s.heap s1.heap X v r)
    (he : asgG G k keep r = some (G', Fl.next))
    (kk : ∀ h' tk X', Sto env x v s1.heap h' → FR P.nm env g X' G' h' → Stp X₀ env X s.heap X' h' → (∀ b, X' b → X b ∨ v = .ref b) → Q .next { s1 with heap := h', toks := tk }) :
    wpAny (model P.prog P.w) A (storeName env x v) (fun _ => Q .next) E' s1 := by
  have fr1 := c.fr.grow g1
  have valCase : ∀ d, Rd s1.heap X v d → G' = G.set k (some (.val d)) → wpAny (model P.prog P.w) A (storeName env x v) (fun _ => Q .next) E' s1 := by
    rintro d rd rfl
    refine store_ok c.eo fr1 hl fun h' tk sto => ?_
    exact kk h' tk X sto (fr1.store nd sto hk (a := .val d) rd fun ds e => by cases e) ((Stp.grow g1).trans sto.stp) fun b hb => .inl hb
  cases r with
  | val d => cases he; exact valCase d q1 rfl
  | own ds =>
    cases keep with
    | false => cases he; exact valCase _ (q1.rd c.fr.dom rfl) rfl
    | true =>
      cases he
      obtain ⟨a, vs, rfl, n, p, rs, z⟩ := q1
      have fr2 := c.fr.extend n g1 ⟨_, p.isList⟩
      refine store_ok c.eo fr2 hl fun h' tk sto => ?_
      refine kk h' tk _ sto (fr2.store nd sto hk (a := .own ds) ⟨a, vs, rfl, p, rs, z⟩ fun ds' e b eb => ?_) ⟨fun w b hb => .inl (w b hb), fun b hb => hb.imp id fun e => by subst e; exact n, fun b o e n1 n2 nx => sto.keep b o (g1 b o e) n1 n2, fun b o e => sto.there b o (g1 b o e)⟩ fun b hb => hb.imp id fun e => by subst e; rfl
      cases eb
      refine ⟨.inr rfl, none_of_grow c.fr.keep n, fun k' ds' x' e1 e2 ne l => ?_⟩
      obtain ⟨u, l0, a0, us, e0, ⟨m0, p0⟩, _⟩ := c.fr.vars k' _ x' e1 e2
      have := loads_unique (l0.grow g1) l
      rw [e0] at this
      cases this
      rw [n] at p0; cases p0
  | bor ds => cases he

noncomputable def notComp : Expr → Bool
  | .ListComp .. => false
  | .SetComp .. => false
  | .DictComp .. => false
  | _ => true
theorem asg_next {G G' : Gam} {k : Nat} {keep : Bool} {e : E} {fl : Fl} (h : ex P.F wf G (.asg k keep e) = some (G', fl)) : fl = .next ∧ ∃ r, ev P.F G e = some r ∧ asgG G k keep r = some (G', Fl.next) := by
  simp only [ex, Option.bind_eq_some_iff] at h
  obtain ⟨r, hr, h⟩ := h
  have : fl = .next := by cases r <;> cases h <;> rfl
  subst this
  exact ⟨rfl, r, hr, h⟩
theorem okX_asg {x : Str} {value : Expr} {p pos : Pos} {k : Nat} {keep : Bool} {e : E} (nd : P.nm.Nodup) (hk : P.nm[k]? = some x) (hl : sc.names.lookup x = some .local ∨ sc.names.lookup x = some .cell) (nc : ∀ env : Env, env.scope = sc → env.scope.kind = .function → swapsWith value (some (.Name x p)) pos.line env = pure false) (h1 : Ok P sc value e) :
    OkX P wf sc (.Assign [.Name x p] value pos) (.asg k keep e) := by
  intro G G' fl A env s X₀ X g Q E' h c hs kk
  obtain ⟨rfl, r, hr, he⟩ := asg_next h
  subst hs
  refine wpAny_Assign_Name (h1 hr c.cxt rfl fun v1 s1 g1 t1 q1 => ?_) (nc env rfl c.eo.kind)
  exact asg_ok nd c hk hl g1 t1 q1 he fun h' tk X' sto fr st _ => kk _ X' _ fr st (t1.trans (Rest.mk' s1 h' tk)) trivial
theorem okX_ret {e : Expr} {a : E} {pos : Pos} (h1 : Ok P sc e a) : OkX P wf sc (.Return (some e) pos) (.ret a) := by
  intro G G' fl A env s X₀ X g Q E' h c hs kk
  simp only [ex, Option.bind_eq_some_iff] at h
  obtain ⟨r, hr, h⟩ := h
  split at h
  · cases h
  · cases h
    refine wpAny_Return_some (h1 hr c.cxt hs fun v1 s1 g1 t1 q1 => ?_)
    exact kk s1 X _ (c.fr.grow g1) (Stp.grow g1) t1 ((q1.elder c.fr.keep).weaken c.sub)
theorem okX_retV {x : Str} {k : Nat} {p pos : Pos} (hk : P.nm[k]? = some x) (hd : (x == ("__debug__" : Str)) = false) : OkX P wf sc (.Return (some (.Name x p)) pos) (.retV k) := by
  intro G G' fl A env s X₀ X g Q E' h c hs kk
  simp only [ex] at h
  split at h
  · rename_i d hl
    cases h
    obtain ⟨v, l, o⟩ := c.fr.vars k _ x hl hk
    exact wpAny_Return_some (loads_ok c.eo l hd (kk s X _ c.fr (Stp.refl _ _ _) (Rest.refl _) (Rd.weaken o c.sub)))
  · rename_i ds hl
    cases h
    obtain ⟨v, l, a, vs, rfl, p, r, z⟩ := c.fr.vars k _ x hl hk
    obtain ⟨xa, ga⟩ := c.fr.own k ds x a hl hk l
    refine wpAny_Return_some (loads_ok c.eo l hd (kk s X _ c.fr (Stp.refl _ _ _) (Rest.refl _) ⟨a, vs, rfl, ga, p, r.weaken fun b hb => ?_, z⟩))
    rcases hb with hb | rfl
    · exact c.sub b hb
    · exact xa
  · cases h
theorem okX_ife {test : Expr} {a : E} {body orelse : List Stmt} {t e : List S} {pos : Pos} (h1 : OkT P sc test a) (h2 : OkXs P wf sc body t) (h3 : OkXs P wf sc orelse e) : OkX P wf sc (.If test body orelse pos) (.ife a t e) := by
  intro G G' fl A env s X₀ X g Q E' h c hs kk
  simp only [ex, Option.bind_eq_some_iff] at h
  obtain ⟨r, hr, b, hb, h⟩ := h
  refine wpAny_If (h1 hr hb c.cxt hs fun s1 g1 t1 => ?_)
  have c1 : FC P A env s1 X₀ X G g := ⟨c.room, c.eo, c.cx, c.fr.grow g1, c.sub, c.dom0⟩
  cases b with
  | true => simp only [if_true]; exact h2 h c1 hs (kk.after (Stp.grow g1) t1)
  | false => simp only [Bool.false_eq_true, if_false]; exact h3 h c1 hs (kk.after (Stp.grow g1) t1)
end
end Mine

/-! Deep embedding, part N: more statements. -/
set_option autoImplicit false
namespace Mine
open PySem PyProof.Rows PySem.Calls
variable {P : Par}
section
variable {sc : Scope} {wf : Nat}

/-- a comprehension straight into a name of the frame's own -/
theorem okX_asgS {x : Str} {p pos cpos : Pos} {k : Nat} {keep : Bool} {scope : Scope} {elt target iter : Expr} {ifs : List Expr} {e : E} {tg : Tg} {cap : List Nat} {it : It} {conds : List E} (nd : P.nm.Nodup) (hk : P.nm[k]? = some x) (hl : sc.names.lookup x = some .local)
    (sw : ∀ env : Env, env.scope = sc → env.scope.kind = .function → swapsWith (.ListComp elt [⟨target, iter, ifs, 0⟩] scope cpos) (some (.Name x p)) pos.line env = pure true) (ci : plain iter = true)
    (ct : CT P.nm scope target tg) (hkind : scope.kind = .function) (hcell : ∀ y ∈ scope.names, y.2 ≠ .cell) (hnames : ∀ y ∈ scope.names, y.2 = .local → scope.names.lookup y.1 = some .local)
    (hfree : ∀ y ∈ scope.names, y.2 = .free → sc.names.lookup y.1 = some .cell) (hcap : ∀ k ∈ cap, ∀ x, P.nm[k]? = some x → scope.names.lookup x = some .free ∧ (relab scope sc).names.lookup x = some .cell)
    (hI : OkI P sc iter it) (hA : OkA P (relab scope sc) ifs conds) (hE : Ok P (relab scope sc) elt e) :
    OkX P wf sc (.Assign [.Name x p] (.ListComp elt [⟨target, iter, ifs, 0⟩] scope cpos) pos) (.asg k keep (.comp e tg cap it conds)) := by
  intro G G' fl A env s X₀ X g Q E' h c hs kk
  obtain ⟨rfl, r, hr, he⟩ := asg_next h
  obtain ⟨q, ds, hq, hz, hgo, rfl⟩ := ev_comp hr
  subst hs
  rw [exec_Assign_Name_used x p _ pos (sw env rfl c.eo.kind)]
  refine wpAny_bind (wpAny_standAt (wpAny_bind ?_))
  show wpAny _ A (do let _ ← comprehension (.ListComp elt [⟨target, iter, ifs, 0⟩] scope cpos) scope env (firstIterPos [⟨target, iter, ifs, 0⟩] cpos) (newList []) (firstAsync [⟨target, iter, ifs, 0⟩]) (firstIter [⟨target, iter, ifs, 0⟩] env) (some (assign (.Name x p) env))) _ E' s
  refine wpAny_bind ?_
  refine wpAny_comprehension_free (use := some (assign (.Name x p) env)) rfl (ci_fold ci env) (closure_eq fun y hy hk => c.eo.cells _ (hfree y hy hk)) hkind hnames ?_
  refine comp_core (RR := fun acc C => compPost (model P.prog P.w) A E' (some (assign (.Name x p) env)) (fun _ s' => wpAny (model P.prog P.w) A (pure ()) (fun _ s'' => wpAny (model P.prog P.w) A (pure Flow.next) Q E' s'') E' s') acc C) nd ct hkind hcell hfree hcap hI hA hE hq hz hgo c.cxt rfl fun D C m' s1 g1 t1 hD hC n' r' => ?_
  show wpAny _ A (assign (.Name x p) env (.ref D)) _ E' s1
  refine wpAny_assign_Name (asg_ok (Q := fun _ s'' => ∃ m, s''.heap.Ns C m ∧ ∀ h', Heap.SameBut C s''.heap h' → wpAny (model P.prog P.w) A (pure ()) (fun _ s'' => wpAny (model P.prog P.w) A (pure Flow.next) Q E' s'') E' { s'' with heap := h' }) nd c hk (.inl hl) g1 t1 r' he fun h' tk X' sto fr st xx => ?_)
  have LC : env.locals ≠ C := fun q => by
    obtain ⟨m, hn⟩ := c.fr.ns
    obtain ⟨o, _, _, e, _⟩ := hn
    rw [q, hC] at e; cases e
  have CC : ∀ y, env.cells.lookup y ≠ some C := fun y q => by
    obtain ⟨u, o, e, _⟩ := c.fr.cells y C q
    rw [hC] at e; cases e
  have nC : h'.Ns C m' := n'.at' fun o e => sto.keep C o e LC.symm CC
  refine ⟨m', nC, fun h'' sb => wpAny_pure (wpAny_pure ?_)⟩
  have fr' : FR P.nm env g X' G' h'' := fr.ext' (fun b o xs n e d => ns_seq nC e d) (fun cc v q => ns_cell nC q) LC (none_of_grow c.fr.keep hC) sb.extBut
  have ne : ∀ b o, s.heap.get? b = some o → b ≠ C := fun b o e q => by rw [q, hC] at e; cases e
  refine kk _ X' _ fr' ⟨st.sub, st.new, fun b o e n1 n2 n3 => (sb.2 b (ne b o e)).trans (st.keep b o e n1 n2 n3), fun b o e => ?_⟩ (t1.trans ⟨_, _, rfl⟩) trivial
  obtain ⟨o', e'⟩ := st.there b o e
  exact ⟨o', (sb.2 b (ne b o e)).trans e'⟩

theorem tgtF_ok {A : Around} {env : Env} {s : Shared} {X₀ X : Ex} {G G' : Gam} {g : Heap} {Q : Unit → Shared → Prop} {E' : Value → Shared → Prop} {target : Expr} {tg : Tg} {v : Value} {d : PyData} (nd : P.nm.Nodup) (hh : A.handled = none) (eo : EnvOk env) (ct : CT P.nm env.scope target tg)
    (fr : FR P.nm env g X G s.heap) (rd : Rd s.heap X v d) (hb : bindTg G tg d = some G') (k : ∀ s', FR P.nm env g X G' s'.heap → Stp X₀ env X s.heap X s'.heap → Rest s s' → Q () s') : wpAny (model P.prog P.w) A (assign target env v) Q E' s := by
  have one : ∀ {s : Shared} {G : Gam} {x : Str} {kk : Nat} {u : Value} {e : PyData} {pos : Pos} {Q : Unit → Shared → Prop}, P.nm[kk]? = some x → (env.scope.names.lookup x = some .local ∨ env.scope.names.lookup x = some .cell) → FR P.nm env g X G s.heap → Rd s.heap X u e →
      (∀ s', FR P.nm env g X (G.set kk (some (.val e))) s'.heap → Stp X₀ env X s.heap X s'.heap → Rest s s' → (∀ w f, Rd s.heap X w f → Rd s'.heap X w f) → Q () s') → wpAny (model P.prog P.w) A (assign (.Name x pos) env u) Q E' s := by
    intro s G x kk u e pos Q hk hl fr rd k
    refine wpAny_assign_Name (store_ok eo fr hl fun h' tk sto => ?_)
    exact k _ (fr.store nd sto hk (a := .val e) rd fun ds q => by cases q) sto.stp (Rest.mk' s h' tk) fun w f r => r.keep fun b o xs n e d _ => sto_seq fr sto b o xs n e d
  cases ct with
  | one hk hl => cases hb; exact one hk hl fr rd fun s' a b c _ => k s' a b c
  | @two x y p1 p2 pos i j kx h1 h2 l1 l2 ne =>
    obtain ⟨ds, rfl, hlen, rfl⟩ := bindTg_many hb
    obtain ⟨a, vs, rfl, tp, rs, z⟩ := rd.tuple'
    obtain ⟨d1, d2, rfl⟩ : ∃ d1 d2, ds = [d1, d2] := by
      match ds, hlen with
      | [d1, d2], _ => exact ⟨d1, d2, rfl⟩
    obtain ⟨v1, v2, rfl, r1, r2⟩ := rds_two rs
    show wpAny _ A (do standAt pos; unpack (.ref a) (assignEach [.Name x p1, .Name y p2] env)) Q E' s
    refine wpAny_bind (wpAny_standAt (unpack_tuple hh tp rfl rfl fun h' eb => ?_))
    have w : Grow s.heap h' := fun b o e => eb b o (Nat.ne_of_lt (Heap.lt_size e)) e
    show wpAny _ A (do holding [v2] (assign (.Name x p1) env v1); (do holding [] (assign (.Name y p2) env v2); pure ())) Q E' _
    refine wpAny_bind (wpAny_holding (one (s := { s with heap := h' }) h1 l1 (fr.grow w) (r1.grow w) fun s1 f1 st1 t1 k1 => ?_))
    refine wpAny_bind (wpAny_holding (one h2 l2 f1 (k1 _ _ (r2.grow w)) fun s2 f2 st2 t2 k2 => wpAny_pure ?_))
    exact k s2 f2 ((Stp.grow w).trans (st1.trans st2)) ((Rest.mk' s h' s.toks).trans (t1.trans t2))
  | @three x y zz p1 p2 p3 pos i j l kx h1 h2 h3 l1 l2 l3 ne1 ne2 ne3 =>
    obtain ⟨ds, rfl, hlen, rfl⟩ := bindTg_many hb
    obtain ⟨a, vs, rfl, tp, rs, z⟩ := rd.tuple'
    obtain ⟨d1, d2, d3, rfl⟩ : ∃ d1 d2 d3, ds = [d1, d2, d3] := by
      match ds, hlen with
      | [d1, d2, d3], _ => exact ⟨d1, d2, d3, rfl⟩
    obtain ⟨v1, v2, v3, rfl, r1, r2, r3⟩ := rds_three rs
    show wpAny _ A (do standAt pos; unpack (.ref a) (assignEach [.Name x p1, .Name y p2, .Name zz p3] env)) Q E' s
    refine wpAny_bind (wpAny_standAt (unpack_tuple hh tp rfl rfl fun h' eb => ?_))
    have w : Grow s.heap h' := fun b o e => eb b o (Nat.ne_of_lt (Heap.lt_size e)) e
    show wpAny _ A (do holding [v2, v3] (assign (.Name x p1) env v1); (do holding [v3] (assign (.Name y p2) env v2); (do holding [] (assign (.Name zz p3) env v3); pure ()))) Q E' _
    refine wpAny_bind (wpAny_holding (one (s := { s with heap := h' }) h1 l1 (fr.grow w) (r1.grow w) fun s1 f1 st1 t1 k1 => ?_))
    refine wpAny_bind (wpAny_holding (one h2 l2 f1 (k1 _ _ (r2.grow w)) fun s2 f2 st2 t2 k2 => ?_))
    refine wpAny_bind (wpAny_holding (one h3 l3 f2 (k2 _ _ (k1 _ _ (r3.grow w))) fun s3 f3 st3 t3 k3 => wpAny_pure ?_))
    exact k s3 f3 ((Stp.grow w).trans (st1.trans (st2.trans st3))) ((Rest.mk' s h' s.toks).trans (t1.trans (t2.trans t3)))
theorem ResOk.rdT {h h' : Heap} {X : Ex} {v : Value} {r : BV} {ds : List PyData} (q : ResOk h h' X v r) (e : r.d = .tuple ds) : Rd h' X v (.tuple ds) := by
  cases r with
  | val d => have e' : d = .tuple ds := e; subst e'; exact q
  | own _ => cases e
  | bor _ => cases e
theorem okX_unp {elts : List Expr} {value : Expr} {p pos : Pos} {kx : Nat} {ks : List Nat} {e : E} (nd : P.nm.Nodup) (ct : CT P.nm sc (.Tuple elts kx p) (.many ks)) (h1 : Ok P sc value e)
    (hs1 : ∀ env : Env, swapsWithSole [.Tuple elts kx p] value pos.line env = pure false) (hs2 : ∀ env : Env, swappedStores [.Tuple elts kx p] value env = pure none) : OkX P wf sc (.Assign [.Tuple elts kx p] value pos) (.unp ks e) := by
  intro G G' fl A env s X₀ X g Q E' h c hs kk
  simp only [ex, Option.bind_eq_some_iff, Option.map_eq_some_iff] at h
  obtain ⟨r, hr, G1, hb, e⟩ := h
  cases e
  subst hs
  obtain ⟨ds, hd, _⟩ := bindTg_many hb
  refine Assign_Tuple (h1 hr c.cxt rfl fun v1 s1 g1 t1 q1 => ?_) (hs1 env) (hs2 env)
  refine tgtF_ok (X₀ := X₀) nd c.room.1 c.eo ct (c.fr.grow g1) (q1.rdT hd) (hd ▸ hb) fun s' fr st t => ?_
  exact kk s' X _ fr ((Stp.grow g1).trans st) (t1.trans t) trivial

theorem okX_app {x : Str} {elt : Expr} {p apos cpos pos : Pos} {k : Nat} {e : E} (hk : P.nm[k]? = some x) (hd : (x == ("__debug__" : Str)) = false) (hline : (apos.endLine == cpos.line) = true) (hc : plain elt = true) (h1 : Ok P sc elt e) :
    OkX P wf sc (.Expr (.Call (.Attribute (.Name x p) "append" apos) [elt] [] cpos) pos) (.app k e) := by
  intro G G' fl A env s X₀ X g Q E' h c hs kk
  simp only [ex, Option.bind_eq_some_iff] at h
  obtain ⟨r, hr, h⟩ := h
  split at h
  · cases h
  rename_i nb
  split at h
  · rename_i ds hl
    split at h
    · rename_i hz
      cases h
      obtain ⟨v, l, a, vs, rfl, ⟨n, p0⟩, rs, z⟩ := c.fr.vars k _ x hl hk
      have ht : ∀ q : Pos, backTo q (starEach [elt] env) = [(false, eval elt env)] := fun q => by rw [ce_star hc]; rfl
      refine wpAny_Expr (wpAny_Call_append rfl (by rw [ht]; rfl) hline (ht _) (loads_ok c.eo l hd ⟨a, vs.toArray, rfl, ⟨_, n, p0, rfl, rfl, rfl⟩, ?_⟩)) (by unfold interactive; rw [c.eo.kind]; rfl) rfl
      refine h1 hr c.cxt hs fun v1 s1 g1 t1 q1 => ?_
      have rd := q1.rd c.fr.dom (by simpa using nb)
      have lv : vs.length = ds.length := rs.length
      refine wpAny_list_append_plain (hsz := by rw [List.size_toArray, lv]; exact Nat.le_of_lt hz) ⟨n, g1 _ _ p0⟩ fun h' p' sb => ?_
      rw [show vs.toArray.push v1 = (vs ++ [v1]).toArray by simp] at p'
      obtain ⟨f', st'⟩ := (c.fr.grow g1).mut hl hk (l.grow g1) sb p' ((rs.grow g1).append (.cons rd .nil)) (by simp; omega)
      exact kk _ X _ f' ((Stp.grow g1).trans st') (t1.trans (Rest.mk' s1 h' s1.toks)) trivial
    · cases h
  · cases h

theorem okX_setI {x : Str} {i value : Expr} {p q pos : Pos} {k : Nat} {a e : E} (hk : P.nm[k]? = some x) (hd : (x == ("__debug__" : Str)) = false) (hs0 : ∀ env : Env, swapsWith value (some (.Subscript (.Name x p) i q)) pos.line env = pure false) (h1 : Ok P sc value e) (h2 : Ok P sc i a) :
    OkX P wf sc (.Assign [.Subscript (.Name x p) i q] value pos) (.setI k a e) := by
  intro G G' fl A env s X₀ X g Q E' h c hs kk
  simp only [ex, Option.bind_eq_some_iff] at h
  obtain ⟨r, hr, h⟩ := h
  split at h
  · cases h
  rename_i nb
  simp only [Option.bind_eq_some_iff] at h
  obtain ⟨y, hy, j, hj, h⟩ := h
  split at h
  · rename_i ds hl
    split at h
    · rename_i hz
      cases h
      refine wpAny_Assign_Subscript (h1 hr c.cxt hs fun v1 s1 g1 t1 q1 => ?_) (hs0 env)
      obtain ⟨v, l, al, vs, rfl, ⟨n, p0⟩, rs, z⟩ := (c.fr.grow g1).vars k _ x hl hk
      refine loads_ok c.eo l hd (h2 hy (c.cxt.grow g1) hs fun v2 s2 g2 t2 q2 => ?_)
      obtain ⟨t, rfl⟩ := q2.int (asInt_eq hj)
      have rd := (q1.rd c.fr.dom (by simpa using nb)).grow g2
      have lv : vs.length = ds.length := rs.length
      have p2 := g2 _ _ p0
      have z' : ds.length ≤ 16777216 := z
      refine PySem.W.ki_setAt (n := n) p2 hz.1 (by omega) (by rw [List.size_toArray, lv]; exact hz.2) ?_
      have sb : Heap.SameBut al s2.heap (s2.heap.update al (Obj.mapSeq (·.setIfInBounds j.toNat v1))) := Heap.SameBut.update ..
      have p' : (s2.heap.update al (Obj.mapSeq (·.setIfInBounds j.toNat v1))).PlainList al (vs.set j.toNat v1).toArray := by
        have u := PySem.IsL.update (l := al) (items := vs.toArray) (n := n) p2 (·.setIfInBounds j.toNat v1)
        simp only [List.setIfInBounds_toArray] at u
        exact ⟨_, u⟩
      obtain ⟨f', st'⟩ := (c.fr.grow (g1.trans g2)).mut hl hk (l.grow g2) sb p' ((rs.grow g2).set rd) (by simpa using z)
      exact kk _ X _ f' ((Stp.grow (g1.trans g2)).trans st') ((t1.trans t2).trans (Rest.mk' s2 _ s2.toks)) trivial
    · cases h
  · cases h

theorem okX_del {x : Str} {p q r t pos : Pos} {k kc : Nat} (hk : P.nm[k]? = some x) (hd : (x == ("__debug__" : Str)) = false) :
    OkX P wf sc (.Delete [.Subscript (.Name x p) (.UnaryOp .USub (.Constant (.int 1) kc r) t) q] pos) (.delLast k) := by
  intro G G' fl A env s X₀ X g Q E' h c hs kk
  simp only [ex] at h
  split at h
  · rename_i ds hl
    split at h
    · cases h
    · rename_i hz
      cases h
      obtain ⟨v, l, al, vs, rfl, ⟨n, p0⟩, rs, z⟩ := c.fr.vars k _ x hl hk
      have lv : vs.length = ds.length := rs.length
      have z' : ds.length ≤ 16777216 := z
      have hpos : 0 < ds.length := by cases ds with | nil => simp at hz | cons _ _ => simp
      refine wpAny_Delete (wpAny_deleteEach_cons ?_)
      show wpAny _ A (do
        let ov ← eval (.Name x p) env
        let iv ← holding [ov] (eval (.UnaryOp .USub (.Constant (.int 1) kc r) t) env)
        standAt q
        holding [ov, iv] (delItem ov iv)
        release [ov, iv] []) _ E' s
      refine wpAny_bind (loads_ok c.eo l hd (wpAny_bind (wpAny_holding (wpAny_UnaryOp (wpAny_Constant_int (neg_int ?_))))))
      refine wpAny_bind (wpAny_standAt (wpAny_bind (wpAny_holding ?_)))
      refine PySem.P.delItem_list (n := n) p0 (by decide) (k := ds.length - 1) (by rw [List.size_toArray, lv]; have := seqIdx_neg (i := -1) (n := ds.length) (by omega) (by omega); rw [this]; congr 1; omega) (wpAny_release' (wpAny_deleteEach_nil ?_)) (by rw [List.size_toArray, lv]; exact z)
      have sb : Heap.SameBut al s.heap (s.heap.update al (Obj.mapSeq fun xs => xs.eraseIdxIfInBounds (ds.length - 1))) := Heap.SameBut.update ..
      have e : vs.toArray.eraseIdxIfInBounds (ds.length - 1) = vs.dropLast.toArray := by
        rw [List.eraseIdxIfInBounds_toArray, ← lv, List.eraseIdx_length_sub_one]
      have p' : ∃ n', (s.heap.update al (Obj.mapSeq fun xs => xs.eraseIdxIfInBounds (ds.length - 1))).get? al = some { cls := .type "list", data := .seq vs.dropLast.toArray n' } := by
        have u := PySem.IsL.update (l := al) (items := vs.toArray) (n := n) p0 (fun xs => xs.eraseIdxIfInBounds (ds.length - 1))
        simp only [e] at u
        exact ⟨_, u⟩
      have rs' : Rds s.heap X vs.dropLast ds.dropLast := by
        rw [List.dropLast_eq_take, List.dropLast_eq_take, lv]; exact rs.take _
      obtain ⟨f', st'⟩ := c.fr.mut hl hk l sb p' rs' (by simp; omega)
      exact kk _ X _ f' st' ⟨_, _, rfl⟩ trivial
  · cases h
end
end Mine

/-! Deep embedding, part O: loops. -/
set_option autoImplicit false
namespace Mine
open PySem PyProof.Rows PySem.Calls
variable {P : Par}
section
variable {sc : Scope} {wf : Nat}

theorem okX_while {test : Expr} {a : E} {body : List Stmt} {b : List S} {pos : Pos} (h1 : OkT P sc test a) (h2 : OkXs P wf sc body b) : OkX P wf sc (.While test body [] pos) (.while_ a b) := by
  intro G G' fl A env s X₀ X g Q E' h c hs kk
  simp only [ex] at h
  refine wpAny_While (codeAny_whileLoop (fun n s' => ∃ G1 X1, FR P.nm env g X1 G1 s'.heap ∧ Stp X₀ env X s.heap X1 s'.heap ∧ Rest s s' ∧ whileGo (fun G => (ev P.F G a).bind fun x => asBool x.d) (fun G => exs P.F wf G b) n G1 = some (G', fl)) ?_ wf ⟨G, X, c.fr, Stp.refl _ _ _, Rest.refl _, h⟩)
  rintro n s1 ⟨G1, X1, f1, st1, t1, hw⟩
  cases n with
  | zero => cases hw
  | succ n =>
    simp only [whileGo, Option.bind_eq_some_iff] at hw
    obtain ⟨bb, ⟨r, hr, hb⟩, hw⟩ := hw
    have c1 : FC P A env s1 X₀ X1 G1 g := ⟨c.room, c.eo, c.cx, f1, st1.sub c.sub, c.dom0⟩
    refine h1 hr hb c1.cxt hs fun s2 g2 t2 => ?_
    have c2 : FC P A env s2 X₀ X1 G1 g := ⟨c.room, c.eo, c.cx, f1.grow g2, c1.sub, c.dom0⟩
    cases bb with
    | false =>
      simp only [Bool.false_eq_true, if_false]
      cases hw
      exact wpAny_execs_nil (kk s2 X1 _ c2.fr (st1.trans (Stp.grow g2)) (t1.trans t2) trivial)
    | true =>
      simp only [if_true]
      simp only [Option.bind_eq_some_iff] at hw
      obtain ⟨⟨G2, f2⟩, hx, hw⟩ := hw
      refine h2 hx c2 hs fun s3 X3 f fr3 st3 t3 fo => ?_
      have st13 := (st1.trans (Stp.grow g2)).trans st3
      have t13 := (t1.trans t2).trans t3
      cases f2 with
      | next =>
        cases f with
        | next => exact ⟨n, Nat.lt_succ_self _, G2, X3, fr3, st13, t13, hw⟩
        | _ => cases fo
      | ret r' =>
        cases hw
        cases f with
        | ret v => exact kk s3 X3 (.ret v) fr3 st13 t13 fo
        | _ => cases fo

theorem FR.blind {nm : List Str} {env : Env} {g h : Heap} {X : Ex} {G : Gam} {k : Nat} {d : PyData} (f : FR nm env g X G h) (hk : nm[k]? = none) : FR nm env g X (G.set k (some (.val d))) h := by
  refine ⟨fun j av y e1 e2 => ?_, f.ns, f.cells, f.apart, f.dom, f.keep, f.newL, f.newC, fun j ds' y b e1 e2 lb => ?_, fun j j' ds' ds'' y y' b e1 e1' e2 e2' ne lb => ?_⟩
  · rcases look_set e1 with ⟨rfl, _⟩ | ⟨ne, e1⟩
    · rw [hk] at e2; cases e2
    · exact f.vars j av y e1 e2
  · rcases look_set e1 with ⟨_, q⟩ | ⟨ne, e1⟩
    · cases q
    · exact f.own j ds' y b e1 e2 lb
  · rcases look_set e1 with ⟨_, q⟩ | ⟨n1, e1⟩
    · cases q
    · rcases look_set e1' with ⟨_, q⟩ | ⟨n2, e1'⟩
      · cases q
      · exact f.uniq j j' ds' ds'' y y' b e1 e1' e2 e2' ne lb
theorem frz_ok {A : Around} {env : Env} {s : Shared} {X₀ X : Ex} {G : Gam} {g : Heap} (c : FC P A env s X₀ X G g) (it : It) : ∃ X', FC P A env s X₀ X' (frzG G it) g ∧ Stp X₀ env X s.heap X' s.heap := by
  have id : ∃ X', FC P A env s X₀ X' G g ∧ Stp X₀ env X s.heap X' s.heap := ⟨X, c, Stp.refl _ _ _⟩
  unfold frzG
  split
  · rename_i k
    split
    · rename_i ds hl
      cases hk : P.nm[k]? with
      | none => exact ⟨X, ⟨c.room, c.eo, c.cx, c.fr.blind hk, c.sub, c.dom0⟩, Stp.refl _ _ _⟩
      | some x =>
        obtain ⟨v, l, a, vs, rfl, _⟩ := c.fr.vars k _ x hl hk
        have ga := (c.fr.own k ds x a hl hk l).2
        have st := Stp.freeze (env := env) (X := X) (h := s.heap) c.dom0 ga
        exact ⟨_, ⟨c.room, c.eo, c.cx, c.fr.freeze hl hk l, st.sub c.sub, c.dom0⟩, st⟩
    · exact id
  · exact id
theorem okX_for {target iter : Expr} {tg : Tg} {it : It} {body : List Stmt} {b : List S} {pos : Pos} (nd : P.nm.Nodup) (ci : plain iter = true) (ct : CT P.nm sc target tg) (h1 : OkI P sc iter it) (h2 : OkXs P wf sc body b) :
    OkX P wf sc (.For target iter body [] pos) (.for_ tg it b) := by
  intro G G' fl A env s X₀ X g Q E' h c hs kk
  subst hs
  simp only [ex, Option.bind_eq_some_iff] at h
  obtain ⟨q, hq, h⟩ := h
  obtain ⟨X, c, st'⟩ := frz_ok c it
  replace kk := KS.after kk st' (Rest.refl s)
  generalize frzG G it = G at hq h c
  split at h
  · cases h
  rename_i hb
  have hb' : q.2 = false := by simpa using hb
  refine wpAny_For (h1 hq c.cxt rfl fun I s1 g1 t1 n1 i1 => ?_) (ci_fold ci env)
  have nI : g.get? I = none := none_of_grow c.fr.keep n1
  have nXI : ¬ X I := fun xi => by
    obtain ⟨_, o, e, _⟩ := c.fr.dom I xi
    rw [n1] at e; cases e
  refine codeAny_forLoop_any (fun n s' => ∃ rest G1 X1, n = rest.length + 1 ∧ FR P.nm env g X1 G1 s'.heap ∧ Stp X₀ env X s.heap X1 s'.heap ∧ Rest s s' ∧ ¬ X1 I ∧ ItAt s'.heap X1 X1 I rest ∧ forGo (fun G x => (bindTg G tg x).bind fun G => exs P.F wf G b) rest G1 = some (G', fl)) ?_ (q.1.length + 1)
    ⟨q.1, G, X, rfl, c.fr.grow g1, Stp.grow g1, t1, nXI, i1.keep (fun o e => e) (fun b o xs n e d hw => ⟨e, fun xb => hw ⟨hb', xb⟩⟩) (fun v d r => r), h⟩
  rintro n s2 ⟨rest, G1, X1, rfl, f2, st2, t2, nx, i2, hg⟩
  have fI := i2.flds
  have I0 : ∀ b o, s.heap.get? b = some o → b ≠ I := fun b o e w => by rw [w, n1] at e; cases e
  cases rest with
  | nil =>
    cases hg
    refine it_end c.room.1 i2 fun h' eb => ?_
    refine wpAny_execs_nil ?_
    obtain ⟨m, hn⟩ := f2.ns
    have f3 : FR P.nm env g X1 _ h' := f2.ext' (fun b o xs n e d => fI.seq e d) (fun cc v qc w => by
      obtain ⟨o, e1, e2⟩ := qc
      obtain ⟨o', vs, w1, w2⟩ := fI
      rw [w, w1] at e1; cases e1; rw [w2] at e2; cases e2) (ns_flds hn fI).symm nI eb
    refine kk _ X1 _ f3 ⟨st2.sub, st2.new, fun b o e a1 a2 a3 => eb b o (I0 b o e) (st2.keep b o e a1 a2 a3), fun b o e => ?_⟩ (t2.trans (Rest.mk' s2 h' s2.toks)) trivial
    obtain ⟨o', e'⟩ := st2.there b o e
    exact ⟨o', eb b o' (I0 b o e) e'⟩
  | cons x r =>
    simp only [forGo, Option.bind_eq_some_iff] at hg
    obtain ⟨⟨G3, f3⟩, ⟨G2, hbd, hx⟩, hg⟩ := hg
    refine it_next i2 fun v h' tk rv i3 eb => ?_
    have fI3 := i3.flds
    have fr3 : FR P.nm env g X1 G1 h' := f2.ext fI nI eb
    have st3 : Stp X₀ env X s.heap X1 h' := ⟨st2.sub, st2.new, fun b o e a1 a2 a3 => eb b o (I0 b o e) (st2.keep b o e a1 a2 a3), fun b o e => by
      obtain ⟨o', e'⟩ := st2.there b o e
      exact ⟨o', eb b o' (I0 b o e) e'⟩⟩
    have t3 : Rest s { s2 with heap := h', toks := tk } := t2.trans (Rest.mk' s2 h' tk)
    refine go_ok (s := { s2 with heap := h', toks := tk }) i3 ?_
    refine tgtF_ok (X₀ := X₀) (s := { s2 with heap := h', toks := tk }) nd c.room.1 c.eo ct fr3 (rv.ext fI eb) hbd fun s4 f4 st4 t4 => ?_
    have c4 : FC P A env s4 X₀ X1 G2 g := ⟨c.room, c.eo, c.cx, f4, st3.sub c.sub, c.dom0⟩
    -- the iterator stands through a step of the frame
    have stay : ∀ {h h' : Heap} {G G' : Gam} {Y Z : Ex} {rest : List PyData}, FR P.nm env g Y G h → FR P.nm env g Z G' h' → Stp X₀ env Y h Z h' → ¬ Y I → ItAt h Y Y I rest → ¬ Z I ∧ ItAt h' Z Z I rest := by
      intro h h' G G' Y Z rest fa fb stp ny ia
      have fl := ia.flds
      obtain ⟨m, hn⟩ := fa.ns
      have hc : ∀ y, env.cells.lookup y ≠ some I := fun y w => by
        obtain ⟨u, o, e1, e2⟩ := fa.cells y I w
        obtain ⟨o', vs, w1, w2⟩ := fl
        rw [w1] at e1; cases e1; rw [w2] at e2; cases e2
      have kI : ∀ o, h.get? I = some o → h'.get? I = some o := fun o e => stp.keep I o e (ns_flds hn fl) hc ny
      have nz : ¬ Z I := fun z => by
        rcases stp.new I z with w | w
        · exact ny w
        · obtain ⟨o, _, e, _⟩ := fl
          rw [w] at e; cases e
      have sq : ∀ b o xs n, h.get? b = some o → o.data = .seq xs n → ¬ Y b → h'.get? b = some o ∧ ¬ Z b := fun b o xs n e d nb => by
        refine ⟨stp.keep b o e (ns_seq hn e d) (fun y w => ?_) nb, fun z => ?_⟩
        · obtain ⟨u, o', e1, e2⟩ := fa.cells y b w
          rw [e] at e1; cases e1; rw [d] at e2; cases e2
        · rcases stp.new b z with w | w
          · exact nb w
          · rw [w] at e; cases e
      refine ⟨nz, ia.keep kI sq fun v d rd => ?_⟩
      obtain ⟨as, r1, r2, r3⟩ := rd
      have tupk : ∀ b o xs n, h.get? b = some o → o.data = .seq xs n → (o.cls = .type "tuple" ∨ ¬ Y b) → h'.get? b = some o := by
        intro b o xs n e d hh
        rcases hh with hh | hh
        · by_cases yb : Y b
          · obtain ⟨_, o', e', ec, _⟩ := fa.dom b yb
            rw [e] at e'; cases e'; rw [ec] at hh; simp at hh
          · exact (sq b o xs n e d yb).1
        · exact (sq b o xs n e d hh).1
      refine ⟨as, reads_keep tupk r1 (fun b hb => (r2 b hb).1) r3, fun b hb => ⟨fun z => ?_, ?_⟩, r3⟩
      · rcases stp.new b z with w | w
        · exact (r2 b hb).1 w
        · obtain ⟨o, _, _, e, _⟩ := reads_seq r1 r3 b hb
          rw [w] at e; cases e
      · obtain ⟨o, xs, n, e, d⟩ := reads_seq r1 r3 b hb
        obtain ⟨o', e', d'⟩ := (r2 b hb).2
        rw [e] at e'; cases e'
        exact ⟨o, tupk b o xs n e d (.inr (r2 b hb).1), d'⟩
    obtain ⟨nx4, i4⟩ := stay fr3 f4 st4 nx i3
    refine h2 hx c4 rfl fun s5 X5 f fr5 st5 t5 fo => ?_
    have st35 := (st3.trans st4).trans st5
    have t35 := (t3.trans t4).trans t5
    cases f3 with
    | next =>
      cases f with
      | next =>
        obtain ⟨nx5, i5⟩ := stay f4 fr5 st5 nx4 i4
        exact ⟨r.length + 1, by simp, r, G3, X5, rfl, fr5, st35, t35, nx5, i5, hg⟩
      | _ => cases fo
    | ret r' =>
      cases hg
      cases f with
      | ret u => exact kk s5 X5 (.ret u) fr5 st35 t35 fo
      | _ => cases fo
end
end Mine

/-! Deep embedding, part P: all statements, and calls. -/
set_option autoImplicit false
namespace Mine
open PySem PyProof.Rows PySem.Calls

noncomputable def notTup : Expr → Bool
  | .Tuple .. => false
  | _ => true
abbrev LC (sc : Scope) (x : Str) : Prop := sc.names.lookup x = some .local ∨ sc.names.lookup x = some .cell
theorem sw_not {value : Expr} (h : notComp value = true) (t : Expr) (line : Nat) (env : Env) : swapsWith value (some t) line env = pure false := by
  cases value <;> first | rfl | cases h
theorem sole (t value : Expr) (line : Nat) (env : Env) : swapsWithSole [t] value line env = swapsWith value (some t) line env := by
  unfold swapsWithSole; rfl
theorem ss_not {value : Expr} (h : notTup value = true) (elts : List Expr) (k : Nat) (p : Pos) (env : Env) : swappedStores [.Tuple elts k p] value env = pure none := by
  cases value <;> first | rfl | cases h
theorem sw_comp {elt : Expr} {gens : List Comprehension} {scope : Scope} {cpos p : Pos} {x : Str} {line : Nat} {env : Env} (hk : env.scope.kind = .function) :
    swapsWith (.ListComp elt gens scope cpos) (some (.Name x p)) line env = pure (env.scope.names.lookup x == some .local && p.line == cpos.line && !(scope.names.any fun (n, k) => n == x && (k == .local || k == .cell))) := by
  have e : swapsWith (.ListComp elt gens scope cpos) (some (.Name x p)) line env = pure (env.blockKind == .function && env.kindOf x == some .local && p.line == cpos.line && !(scope.names.any fun (n, k) => n == x && (k == .local || k == .cell))) := rfl
  rw [e]
  have b : env.blockKind = .function := by unfold Env.blockKind; rw [hk]; rfl
  rw [b]
  rfl
variable {P : Par}
set_option maxHeartbeats 2000000
theorem okX_fail {wf : Nat} {sc : Scope} {st : Stmt} : OkX P wf sc st .fail := fun h _ _ _ => by simp [ex] at h
/-! ### calls -/
structure FnOk (nm : List Str) (nf : Nf) (d : DefRec) (fn : Fn) : Prop where
  nd : nm.Nodup
  np : fn.np ≤ nm.length
  bind : ∀ (pm cd doc : Value) (vs : List Value), vs.length = fn.np → bindArgs (docDef d.name d.params d.body d.scope pm cd doc) ⟨vs, []⟩ = pure ((nm.take fn.np).zip vs)
  kinds : ∀ x ∈ nm.take fn.np, LC d.scope x
  body : ∀ (P : Par) (wf : Nat), P.nm = nm → P.nf = nf → HF P → OkXs P wf d.scope d.body fn.body
  co : d.scope.isCoroutine = false
  gen : d.scope.isGenerator = false
  kind : d.scope.kind = .function
theorem cellsFrom_has {x : Str} : ∀ (names : List (Str × NameKind)) (n : Nat) (acc : List (Str × Addr)), names.lookup x = some .cell ∨ (acc.lookup x).isSome = true → ((cellsFrom n names acc).lookup x).isSome = true
  | [], _, _, h => h.elim (fun e => by cases e) id
  | (y, k) :: r, n, acc, h => by
    unfold cellsFrom
    by_cases hk : (k == .cell) = true
    · rw [if_pos hk]
      refine cellsFrom_has r (n + 1) ((y, n) :: acc) ?_
      by_cases hy : (x == y) = true
      · exact .inr (by rw [List.lookup_cons, hy]; rfl)
      · refine h.imp (fun e => ?_) fun e => ?_
        · rw [List.lookup_cons] at e; simpa only [hy] using e
        · rw [List.lookup_cons]; simpa only [hy] using e
    · rw [if_neg hk]
      refine cellsFrom_has r n acc ?_
      by_cases hy : (x == y) = true
      · refine .inr (h.elim (fun e => ?_) id)
        rw [List.lookup_cons, hy] at e
        exact absurd (by rw [Option.some.inj e]; rfl) hk
      · refine h.imp (fun e => ?_) id
        rw [List.lookup_cons] at e; simpa only [hy] using e
theorem bindL_off {kindOf : Str → Option NameKind} {x : Str} : ∀ (b : List (Str × Value)) (m : Str → Option Value), x ∉ b.map (·.1) → bindL kindOf b m x = m x
  | [], _, _ => rfl
  | (n, v) :: r, m, h => by
    simp only [List.map_cons, List.mem_cons, not_or] at h
    unfold bindL
    rw [bindL_off r _ h.2]
    split
    · simp [h.1]
    · rfl
theorem bindC_off {kindOf : Str → Option NameKind} {x : Str} : ∀ (b : List (Str × Value)) (m : Str → Option Value), x ∉ b.map (·.1) → bindC kindOf b m x = m x
  | [], _, _ => rfl
  | (n, v) :: r, m, h => by
    simp only [List.map_cons, List.mem_cons, not_or] at h
    unfold bindC
    rw [bindC_off r _ h.2]
    split
    · rfl
    · simp [h.1]
theorem bindL_at {kindOf : Str → Option NameKind} {x : Str} {v : Value} (hk : kindOf x = some .local) : ∀ (b : List (Str × Value)) (m : Str → Option Value), (b.map (·.1)).Nodup → (x, v) ∈ b → bindL kindOf b m x = some v
  | (n, u) :: r, m, nd, h => by
    rw [List.map_cons, List.nodup_cons] at nd
    unfold bindL
    rcases List.mem_cons.mp h with h | h
    · cases h
      rw [bindL_off r _ nd.1, if_pos hk]
      simp
    · exact bindL_at hk r _ nd.2 h
theorem bindC_at {kindOf : Str → Option NameKind} {x : Str} {v : Value} (hk : kindOf x ≠ some .local) : ∀ (b : List (Str × Value)) (m : Str → Option Value), (b.map (·.1)).Nodup → (x, v) ∈ b → bindC kindOf b m x = some v
  | (n, u) :: r, m, nd, h => by
    rw [List.map_cons, List.nodup_cons] at nd
    unfold bindC
    rcases List.mem_cons.mp h with h | h
    · cases h
      rw [bindC_off r _ nd.1, if_neg hk]
      simp
    · exact bindC_at hk r _ nd.2 h
theorem zip_fst {α β : Type} : ∀ (xs : List α) (ys : List β), xs.length = ys.length → (xs.zip ys).map (·.1) = xs
  | [], [], _ => rfl
  | x :: xs, y :: ys, h => by simp [zip_fst xs ys (by simpa using h)]
theorem look_args {args : List PyData} {n k : Nat} {a : AV} (h : look (args.map (fun d => some (AV.val d)) ++ List.replicate n none) k = some a) : ∃ d, args[k]? = some d ∧ a = .val d := by
  unfold look at h
  split at h
  · rename_i b hb
    cases h
    rw [List.getElem?_append] at hb
    split at hb
    · rw [List.getElem?_map, Option.map_eq_some_iff] at hb
      obtain ⟨d, e1, e2⟩ := hb
      cases e2
      exact ⟨d, e1, rfl⟩
    · rw [List.getElem?_replicate] at hb
      split at hb <;> cases hb
  · cases h

theorem fn_start {fn : Fn} {d : DefRec} {b' : List Stmt} {f : Nat} {args : List PyData} (ok : FnOk P.nm P.nf { d with body := b' } fn) (hd : P.nf.fs[f]? = some d) (hlen : args.length = fn.np)
    {A : Around} {s : Shared} {X : Ex} {Q : Value → Shared → Prop} {E' : Value → Shared → Prop} {vs : List Value} {a : Addr} (room : Room A (P.n + 1)) (cx : Cx P.nf P.mg P.mb s.heap) (dom : XDom X s.heap) (rs : Rds s.heap X vs args) (ha : P.mg d.name = some (.ref a))
    (k : ∀ (env : Env) (h₁ : Heap) (tk : Nat) (o : Obj) (pm code doc : Value), s.heap.get? a = some o → o.data = .func (docDef d.name d.params d.body d.scope pm code doc) → env.code = code → env.locals = s.heap.objs.size → env.scope = d.scope →
      FC P (A.deeper env) env { s with heap := h₁, toks := tk } X X (args.map (fun d => some (AV.val d)) ++ List.replicate (fn.nv - fn.np) none) s.heap →
      wpAny (model P.prog P.w) (A.deeper env) (execs d.body env) (fun f s' => Q (match f with | .ret v => v | _ => .none) s') (fun _ _ => False) { s with heap := h₁, toks := tk }) : wpAny (model P.prog P.w) A (call (.ref a) vs) Q E' s := by
  obtain ⟨af, o, pm, code, doc, m1, m2, m3, m4⟩ := cx.fn f d hd
  rw [show P.mg d.name = some (.ref af) from m1] at ha
  cases ha
  have hvl : vs.length = fn.np := rs.length.trans hlen
  have hnl : (P.nm.take fn.np).length = vs.length := by rw [List.length_take, hvl]; have := ok.np; omega
  have ndT : (P.nm.take fn.np).Nodup := ok.nd.sublist (List.take_sublist _ _)
  refine wpAny_call (call_cells_ret (binds := (P.nm.take fn.np).zip vs) (by have := room.2.1; omega) m2 m3 cx.nolimit m4 (ok.bind pm code doc vs hvl) (fun y hy => ?_) (fun h₁ tk Fx Cx' => ?_) ok.co ok.gen ok.kind)
  · have hm : y.1 ∈ P.nm.take fn.np := by
      obtain ⟨y1, y2⟩ := y
      exact (List.of_mem_zip hy).1
    rcases ok.kinds _ hm with q | q
    · exact .inl q
    · exact .inr ⟨q, cellsFrom_has _ _ _ (.inl q)⟩
  · let L := s.heap.objs.size
    let env : Env := envOfC d.name d.scope L a code
    have eo : EnvOk env := ⟨rfl, rfl, ok.kind, fun x hx => by
      have := cellsFrom_has d.scope.names (L + 1) [] (.inl hx)
      exact Option.isSome_iff_exists.mp this⟩
    have fr : FR P.nm env s.heap X (args.map (fun d => some (AV.val d)) ++ List.replicate (fn.nv - fn.np) none) h₁ := by
      refine ⟨fun j b x e1 e2 => ?_, ⟨_, Fx.ns⟩, fun x c e => ⟨_, Cx'.cell x c e⟩, fun x y c e1 e2 => name_of_addr Cx'.apart (mem_of_lookup e1) (mem_of_lookup e2), dom.grow Fx.keep, Fx.keep, fresh_size _, fun x c e => ?_, fun j ds x b e1 e2 l => ?_, fun j j' ds ds' x x' b e1 e1' => ?_⟩
      · obtain ⟨dd, e3, rfl⟩ := look_args e1
        obtain ⟨v, e4, rd⟩ := rs.get e3
        have hj : j < fn.np := by
          have := (List.getElem?_eq_some_iff.mp e3).1
          omega
        have e5 : (P.nm.take fn.np)[j]? = some x := by rw [List.getElem?_take_of_lt hj]; exact e2
        have hm : (x, v) ∈ (P.nm.take fn.np).zip vs := List.mem_of_getElem? (i := j) (by rw [List.getElem?_zip_eq_some]; exact ⟨e5, e4⟩)
        have ndz : (((P.nm.take fn.np).zip vs).map (·.1)).Nodup := by rw [zip_fst _ _ hnl]; exact ndT
        refine ⟨v, ?_, Rd.grow rd Fx.keep⟩
        rcases ok.kinds x (List.mem_of_getElem? e5) with q | q
        · exact .inl ⟨q, _, Fx.ns, bindL_at q _ _ ndz hm⟩
        · obtain ⟨c, hc⟩ := eo.cells x q
          refine .inr ⟨q, c, hc, ?_⟩
          have := Cx'.cell x c hc
          rwa [bindC_at (show (envOfC d.name d.scope s.heap.objs.size a code).kindOf x ≠ some .local from fun w => by
            have w' : d.scope.names.lookup x = some .local := w
            rw [show d.scope.names.lookup x = some .cell from q] at w'; cases w') _ _ ndz hm] at this
      · have := Cx'.above x c (mem_of_lookup e)
        cases hq : s.heap.get? c with
        | none => rfl
        | some o => exact absurd (Heap.lt_size hq) (Nat.lt_asymm this)
      · obtain ⟨_, _, q⟩ := look_args e1
        cases q
      · obtain ⟨_, _, q⟩ := look_args e1
        cases q
    have room' : Room (A.deeper env) P.n := by
      refine ⟨room.1, ?_, ?_⟩
      · have := room.2.1
        show A.depth + 1 + P.n < recursionLimit
        omega
      · have := room.2.2
        show A.units + 3 + 8 * P.n + 200 < cLine
        omega
    exact k env h₁ tk o pm code doc m2 m3 rfl rfl rfl ⟨room', eo, cx, fr, fun _ h => h, dom⟩
theorem run_sound {fn : Fn} {d : DefRec} {f wf : Nat} {args : List PyData} {r : BV} (ok : FnOk P.nm P.nf d fn) (hF : HF P) (hd : P.nf.fs[f]? = some d) (h : run1 P.F wf fn args = some r) :
    Sound1 { P with n := P.n + 1 } f args r := by
  intro A s X Q E' vs a d' room cx dom rs hd' ha nb k
  have : d' = d := by
    have := hd'.symm.trans hd
    exact Option.some.inj this
  subst this
  unfold run1 at h
  split at h
  · rename_i hlen
    refine fn_start (P := P) (b' := d'.body) ok hd hlen room cx dom rs ha fun env h₁ tk o pm code doc ho hod hcode hL hsc c => ?_
    cases hx : exs P.F wf (args.map (fun d => some (AV.val d)) ++ List.replicate (fn.nv - fn.np) none) fn.body with
    | none => rw [hx] at h; cases h
    | some q =>
      obtain ⟨G', fl⟩ := q
      rw [hx] at h
      refine ok.body P wf rfl rfl hF hx c hsc fun s' X' f fr' st' t' fo => ?_
      cases fl with
      | next =>
        cases h
        cases f with
        | next => exact k _ _ fr'.keep ((Rest.mk' s h₁ tk).trans t') Rd.mkNone
        | _ => cases fo
      | ret r' =>
        cases h
        cases f with
        | ret v => exact k _ _ fr'.keep ((Rest.mk' s h₁ tk).trans t') fo
        | _ => cases fo
  · cases h

theorem callF_sound {prog : Program} {w : World} {nf : Nf} {mg mb : Str → Option Value} {fns : List Fn} {wf : Nat} (ok : ∀ (f : Nat) (fn : Fn), fns[f]? = some fn → ∃ d nm, nf.fs[f]? = some d ∧ FnOk nm nf d fn) :
    ∀ (n f : Nat) (args : List PyData) (r : BV) (nm : List Str) (F : Nat → List PyData → Option BV), callF wf fns n f args = some r → Sound1 { prog := prog, w := w, F := F, n := n, nm := nm, nf := nf, mg := mg, mb := mb } f args r := by
  intro n
  induction n with
  | zero => intro f args r nm F h; cases h
  | succ n ih =>
    intro f args r nm F h
    unfold callF at h
    split at h
    · rename_i fn hf
      obtain ⟨d, nm', hd, fo⟩ := ok f fn hf
      intro A s X Q E' vs a d' h1 h2 h3 h4 h5 h6 h7 h8
      exact run_sound (P := { prog := prog, w := w, F := callF wf fns n, n := n, nm := nm', nf := nf, mg := mg, mb := mb }) (f := f) fo (fun f args r h => ih f args r nm' (callF wf fns n) h) hd h h1 h2 h3 h4 h5 h6 h7 h8
    · cases h
end Mine

/-! Deep embedding, part Q: a law closes by its evaluation. -/
set_option autoImplicit false
namespace Mine
open PySem PySem.W PyProof.Rows PySem.Calls

theorem cx_of {p : Program} {loose : List Str} {mean : ExcName → Option Value} {mg mb : Str → Option Value} {h : Heap} {nf : Nf} (T : Top p loose mean mg mb h) (hnf : ∀ (i : Nat) (d : DefRec), nf.fs[i]? = some d → d ∈ recsOf p)
    (hlit : ∀ q ∈ nf.ls, ∃ a vs, mg q.1 = some (.ref a) ∧ IsTup h a vs.toArray ∧ IntsAre vs q.2) (hbi : ∀ x ∈ biNames, x ∉ startupNames ∧ x ∉ loose ∧ x ∉ (recsOf p).map (·.name) ∧ x ∉ (litsOf p).map (·.1) ∧ x ∉ (clssOf p loose).map (·.name)) : Cx nf mg mb h where
  g := T.g
  b := T.b
  nolimit := T.nolimit
  fn := fun i d e => T.fn d (hnf i d e)
  bi := fun x hx => by
    obtain ⟨h1, h2, h3, h4, h5⟩ := hbi x hx
    refine ⟨T.free x h1 h2 h3 h4 h5, T.builtins x ?_⟩
    rintro rfl
    revert hx
    decide
  lit := hlit
theorem rds_ints {h : Heap} {X : Ex} : ∀ {vs : List Value} {ns : List Int}, IntsAre vs ns → Rds h X vs (ns.map .int)
  | _, _, .nil => .nil
  | _, _, .cons n t r => .cons (Rd.mkInt n t) (rds_ints r)
theorem well_nod {P : Params} {h : Heap} {a : Addr} {d : PyData} (x : Well P h (.ref a) (ofPy d)) : NoD h a := by
  generalize e : ofPy d = w at x
  cases x <;> first | exact ⟨_, by assumption, rfl⟩ | (cases d <;> simp [ofPy] at e)
end Mine

/-! Deep embedding, part R: the relation of the two syntaxes, checked by computation. -/
set_option autoImplicit false
namespace Mine
open PySem PySem.W PyProof.Rows PySem.Calls

section
variable {nm : Str} {body : List Stmt} {sc : Scope} {pm cd doc : Value}
theorem lk2 {x y : Str} (h : x ≠ y) (v : Value) (r : List (Str × Value)) : List.lookup x ((y, v) :: r) = List.lookup x r := by
  have e : (x == y) = false := by simpa using h
  simp [List.lookup, e]
theorem bd1 {a : Arg} {v : Value}  : bindArgs (docDef nm ⟨[], [a], none, [], [], none, []⟩ body sc pm cd doc) ⟨[v], []⟩ = pure [(a.arg, v)] := by
  have h : ¬ ((!(List.filter (fun n => (List.lookup n [(a.arg, v)]).isNone) [a.arg]).isEmpty) = true) := by simp [List.filter]
  have h' : List.filterMap (fun n => (List.lookup n [(a.arg, v)]).map (n, ·)) [a.arg] = [(a.arg, v)] := by simp
  exact Eq.trans (if_neg h) (congrArg (pure (f := Sem)) h')
theorem bd2 {a b : Arg} {v u : Value} (h0 : b.arg ≠ a.arg) : bindArgs (docDef nm ⟨[], [a, b], none, [], [], none, []⟩ body sc pm cd doc) ⟨[v, u], []⟩ = pure [(a.arg, v), (b.arg, u)] := by
  have h : ¬ ((!(List.filter (fun n => (List.lookup n [(a.arg, v), (b.arg, u)]).isNone) [a.arg, b.arg]).isEmpty) = true) := by simp [List.filter, lk2 h0]
  have h' : List.filterMap (fun n => (List.lookup n [(a.arg, v), (b.arg, u)]).map (n, ·)) [a.arg, b.arg] = [(a.arg, v), (b.arg, u)] := by simp [lk2 h0]
  exact Eq.trans (if_neg h) (congrArg (pure (f := Sem)) h')
theorem bd3 {a b c : Arg} {v u w : Value} (h0 : b.arg ≠ a.arg) (h1 : c.arg ≠ a.arg) (h2 : c.arg ≠ b.arg) : bindArgs (docDef nm ⟨[], [a, b, c], none, [], [], none, []⟩ body sc pm cd doc) ⟨[v, u, w], []⟩ = pure [(a.arg, v), (b.arg, u), (c.arg, w)] := by
  have h : ¬ ((!(List.filter (fun n => (List.lookup n [(a.arg, v), (b.arg, u), (c.arg, w)]).isNone) [a.arg, b.arg, c.arg]).isEmpty) = true) := by simp [List.filter, lk2 h0, lk2 h1, lk2 h2]
  have h' : List.filterMap (fun n => (List.lookup n [(a.arg, v), (b.arg, u), (c.arg, w)]).map (n, ·)) [a.arg, b.arg, c.arg] = [(a.arg, v), (b.arg, u), (c.arg, w)] := by simp [lk2 h0, lk2 h1, lk2 h2]
  exact Eq.trans (if_neg h) (congrArg (pure (f := Sem)) h')
theorem bd4 {a b c d : Arg} {v u w z : Value} (h0 : b.arg ≠ a.arg) (h1 : c.arg ≠ a.arg) (h2 : c.arg ≠ b.arg) (h3 : d.arg ≠ a.arg) (h4 : d.arg ≠ b.arg) (h5 : d.arg ≠ c.arg) : bindArgs (docDef nm ⟨[], [a, b, c, d], none, [], [], none, []⟩ body sc pm cd doc) ⟨[v, u, w, z], []⟩ = pure [(a.arg, v), (b.arg, u), (c.arg, w), (d.arg, z)] := by
  have h : ¬ ((!(List.filter (fun n => (List.lookup n [(a.arg, v), (b.arg, u), (c.arg, w), (d.arg, z)]).isNone) [a.arg, b.arg, c.arg, d.arg]).isEmpty) = true) := by simp [List.filter, lk2 h0, lk2 h1, lk2 h2, lk2 h3, lk2 h4, lk2 h5]
  have h' : List.filterMap (fun n => (List.lookup n [(a.arg, v), (b.arg, u), (c.arg, w), (d.arg, z)]).map (n, ·)) [a.arg, b.arg, c.arg, d.arg] = [(a.arg, v), (b.arg, u), (c.arg, w), (d.arg, z)] := by simp [lk2 h0, lk2 h1, lk2 h2, lk2 h3, lk2 h4, lk2 h5]
  exact Eq.trans (if_neg h) (congrArg (pure (f := Sem)) h')
end
noncomputable def kLC (sc : Scope) (x : Str) : Bool := sc.names.lookup x == some .local || sc.names.lookup x == some .cell
noncomputable def kGI (sc : Scope) (x : Str) : Bool := sc.names.lookup x == some .globalImplicit
noncomputable def kNm (nm : List Str) (k : Nat) (x : Str) : Bool := nm[k]? == some x
noncomputable def kDb (x : Str) : Bool := !(x == ("__debug__" : Str))
noncomputable def kT1 (nm : List Str) (sc : Scope) (k : Nat) : Expr → Bool
  | .Name x _ => kNm nm k x && kLC sc x
  | _ => false
noncomputable def kT2 (nm : List Str) (sc : Scope) (i j : Nat) : Expr → Bool
  | .Tuple [x, y] _ _ => kT1 nm sc i x && kT1 nm sc j y && i != j
  | _ => false
noncomputable def kT3 (nm : List Str) (sc : Scope) (i j l : Nat) : Expr → Bool
  | .Tuple [x, y, z] _ _ => kT1 nm sc i x && kT1 nm sc j y && kT1 nm sc l z && i != j && i != l && j != l
  | _ => false
noncomputable def kTm (nm : List Str) (sc : Scope) (x : Expr) : List Nat → Bool
  | [i, j] => kT2 nm sc i j x
  | [i, j, l] => kT3 nm sc i j l x
  | _ => false
noncomputable def chkT (nm : List Str) (sc : Scope) (x : Expr) : Tg → Bool
  | .one k => kT1 nm sc k x
  | .many ks => kTm nm sc x ks
noncomputable def chkL (f : Expr → E → Bool) : List Expr → List E → Bool
  | [], [] => true
  | x :: r, a :: as => f x a && chkL f r as
  | _, _ => false
noncomputable def chkB (f : Expr → E → Bool) (op : BoolOp) : List Expr → E → Bool
  | [], _ => false
  | [x], e => f x e
  | x :: y :: r, .and a b => op == .And && f x a && chkB f op (y :: r) b
  | x :: y :: r, .or a b => op == .Or && f x a && chkB f op (y :: r) b
  | _, _ => false
noncomputable def chkO (f : Expr → E → Bool) : Option Expr → Option E → Bool
  | none, none => true
  | some x, some a => f x a
  | _, _ => false
noncomputable def kCall1 (f : Expr → E → Bool) (sc : Scope) (nmB : Str) (a : E) : Expr → Bool
  | .Call (.Name g _) [x] [] _ => g == nmB && kGI sc g && f x a
  | _ => false
noncomputable def kCall2 (f : Expr → E → Bool) (sc : Scope) (nmB : Str) (a b : E) : Expr → Bool
  | .Call (.Name g _) [x, y] [] _ => g == nmB && kGI sc g && f x a && f y b
  | _ => false
noncomputable def chkI (f : Expr → E → Bool) (sc : Scope) (x : Expr) : It → Bool
  | .rng1 a => kCall1 f sc "range" a x
  | .rng2 _ _ => false
  | .rng3 _ _ _ => false
  | .ex a => f x a
noncomputable def chkCap (nm : List Str) (scope sc : Scope) (cap : List Nat) : Bool := cap.all fun k => match nm[k]? with
  | some x => scope.names.lookup x == some .free && (relab scope sc).names.lookup x == some .cell
  | none => true
noncomputable def isConst : Const → Ck → Bool
  | .none, .none => true
  | .bool a, .bool b => a == b
  | _, _ => false
noncomputable def kInt (j : Int) : Expr → Bool
  | .Constant (.int i) _ _ => i == j
  | _ => false
noncomputable def kBool (j : Bool) : Expr → Bool
  | .Constant (.bool i) _ _ => i == j
  | _ => false
noncomputable def kNone : Expr → Bool
  | .Constant .none _ _ => true
  | _ => false
noncomputable def kVar (nm : List Str) (k : Nat) : Expr → Bool
  | .Name x _ => kNm nm k x && kDb x
  | _ => false
noncomputable def kBin (f : Expr → E → Bool) (o : Op) (a b : E) : Expr → Bool
  | .BinOp l op r _ => opPy o == op && f l a && f r b
  | _ => false
noncomputable def kNeg (f : Expr → E → Bool) (a : E) : Expr → Bool
  | .UnaryOp op x _ => op == .USub && f x a
  | _ => false
noncomputable def kNot (f : Expr → E → Bool) (a : E) : Expr → Bool
  | .UnaryOp op x _ => op == .Not && f x a
  | _ => false
noncomputable def kCmp (f : Expr → E → Bool) (o : Cm) (a b : E) : Expr → Bool
  | .Compare l [op] [r] _ => cmPy o == op && !(behindInMarks op r) && f l a && f r b
  | _ => false
noncomputable def kCst (c : Ck) : Expr → Bool
  | .Constant cc _ _ => isConst cc c
  | _ => false
noncomputable def kIsC (f : Expr → E → Bool) (neg : Bool) (a : E) (c : Ck) : Expr → Bool
  | .Compare l [op] [r] _ => isOp neg == op && kCst c r && f l a
  | _ => false
noncomputable def kBoolop (f : Expr → E → Bool) (o : BoolOp) (a b : E) : Expr → Bool
  | .BoolOp op (x :: y :: r) _ => op == o && f x a && chkB f o (y :: r) b
  | _ => false
noncomputable def kCall (f : Expr → E → Bool) (nf : Nf) (sc : Scope) (k : Nat) (as : List E) : Expr → Bool
  | .Call (.Name g _) args [] _ => (match nf.fs[k]? with | some d => d.name == g | none => false) && kGI sc g && kDb g && chkL f args as
  | _ => false
noncomputable def isInts : List PyData → List Int → Bool
  | [], [] => true
  | .int i :: r, j :: q => i == j && isInts r q
  | _, _ => false
noncomputable def isTI : PyData → List Int → Bool
  | .tuple ds, ns => isInts ds ns
  | _, _ => false
noncomputable def kData (nf : Nf) (sc : Scope) (d : PyData) : Expr → Bool
  | .Name g _ => kGI sc g && kDb g && nf.ls.any fun q => q.1 == g && isTI d q.2 && decide (q.2.length ≤ 100)
  | _ => false
noncomputable def kIdx (f : Expr → E → Bool) (a b : E) : Expr → Bool
  | .Subscript x i _ => notSlice i && f x a && f i b
  | _ => false
noncomputable def kSl (f : Expr → E → Bool) (a : E) (l h : Option E) : Expr → Bool
  | .Subscript x (.Slice lo hi none _) _ => f x a && chkO f lo l && chkO f hi h
  | _ => false
noncomputable def kTup (f : Expr → E → Bool) (as : List E) : Expr → Bool
  | .Tuple es _ _ => chkL f es as
  | _ => false
noncomputable def kLst (f : Expr → E → Bool) (as : List E) : Expr → Bool
  | .List es _ => chkL f es as
  | _ => false
noncomputable def kGen (f : Scope → Expr → E → Bool) (nm : List Str) (sc scope : Scope) (e : E) (tg : Tg) (cap : List Nat) (it : It) (conds : List E) (elt : Expr) : Comprehension → Bool
  | ⟨target, iter, ifs, isA⟩ => isA == 0 && chkI (f sc) sc iter it && chkT nm scope target tg && scope.kind == .function && (scope.names.all fun y => y.2 != .cell) &&
        (scope.names.all fun y => y.2 != .local || scope.names.lookup y.1 == some .local) && (scope.names.all fun y => y.2 != .free || sc.names.lookup y.1 == some .cell) && chkCap nm scope sc cap &&
        chkL (f (relab scope sc)) ifs conds && f (relab scope sc) elt e
noncomputable def kComp (f : Scope → Expr → E → Bool) (nm : List Str) (sc : Scope) (e : E) (tg : Tg) (cap : List Nat) (it : It) (conds : List E) : Expr → Bool
  | .ListComp elt [g] scope _ => kGen f nm sc scope e tg cap it conds elt g
  | _ => false
noncomputable def chkE (nm : List Str) (nf : Nf) : Nat → Scope → Expr → E → Bool
  | 0, _, _, _ => false
  | n + 1, sc, x, a => match a with
    | .int j => kInt j x
    | .bool j => kBool j x
    | .none => kNone x
    | .var k => kVar nm k x
    | .data d => kData nf sc d x
    | .bin o a b => kBin (chkE nm nf n sc) o a b x
    | .neg a => kNeg (chkE nm nf n sc) a x
    | .not a => kNot (chkE nm nf n sc) a x
    | .cmp o a b => kCmp (chkE nm nf n sc) o a b x
    | .cmp2 _ _ _ _ _ => false
    | .isC neg a c => kIsC (chkE nm nf n sc) neg a c x
    | .isTy _ _ _ => false
    | .and a b => kBoolop (chkE nm nf n sc) .And a b x
    | .or _ _ => false
    | .call f as => kCall (chkE nm nf n sc) nf sc f as x
    | .len a => kCall1 (chkE nm nf n sc) sc "len" a x
    | .abs a => kCall1 (chkE nm nf n sc) sc "abs" a x
    | .sum1 a => kCall1 (chkE nm nf n sc) sc "sum" a x
    | .max1 _ => false
    | .list1 a => kCall1 (chkE nm nf n sc) sc "list" a x
    | .sorted a => kCall1 (chkE nm nf n sc) sc "sorted" a x
    | .count _ _ => false
    | .min2 a b => kCall2 (chkE nm nf n sc) sc "min" a b x
    | .max2 _ _ => false
    | .idx a b => kIdx (chkE nm nf n sc) a b x
    | .sl a l h => kSl (chkE nm nf n sc) a l h x
    | .tup as => kTup (chkE nm nf n sc) as x
    | .lst as => kLst (chkE nm nf n sc) as x
    | .comp e tg cap it conds => kComp (fun sc => chkE nm nf n sc) nm sc e tg cap it conds x
section
variable {P : Par} {sc : Scope} {wf : Nat}
theorem kLC_ok {x : Str} (h : kLC sc x = true) : LC sc x := by simpa [kLC] using h
theorem kGI_ok {x : Str} (h : kGI sc x = true) : GI sc x := by unfold GI; simpa [kGI] using h
theorem kNm_ok {k : Nat} {x : Str} (h : kNm P.nm k x = true) : P.nm[k]? = some x := by simpa [kNm] using h
theorem kDb_ok {x : Str} (h : kDb x = true) : (x == ("__debug__" : Str)) = false := by simpa [kDb] using h
theorem kT1_ok {k : Nat} {x : Expr} (h : kT1 P.nm sc k x = true) : ∃ y p, x = .Name y p ∧ P.nm[k]? = some y ∧ LC sc y := by
  cases x <;> first | exact (Bool.false_ne_true h).elim | skip
  rename_i x p
  replace h : (kNm P.nm k x && kLC sc x) = true := h
  simp only [Bool.and_eq_true] at h
  exact ⟨x, p, rfl, kNm_ok h.1, kLC_ok h.2⟩
theorem chkT_ok {x : Expr} {t : Tg} (h : chkT P.nm sc x t = true) : CT P.nm sc x t := by
  cases t with
  | one k =>
    obtain ⟨y, p, rfl, h1, h2⟩ := kT1_ok h
    exact .one h1 h2
  | many ks =>
    replace h : kTm P.nm sc x ks = true := h
    rcases ks with _ | ⟨i, _ | ⟨j, _ | ⟨l, _ | ⟨m, r⟩⟩⟩⟩
    · exact (Bool.false_ne_true h).elim
    · exact (Bool.false_ne_true h).elim
    · replace h : kT2 P.nm sc i j x = true := h
      cases x <;> first | exact (Bool.false_ne_true h).elim | skip
      rename_i es k p
      rcases es with _ | ⟨x, _ | ⟨y, _ | ⟨z, r⟩⟩⟩ <;> first | exact (Bool.false_ne_true h).elim | skip
      replace h : (kT1 P.nm sc i x && kT1 P.nm sc j y && i != j) = true := h
      simp only [Bool.and_eq_true, bne_iff_ne] at h
      obtain ⟨x, p1, rfl, a1, a2⟩ := kT1_ok h.1.1
      obtain ⟨y, p2, rfl, b1, b2⟩ := kT1_ok h.1.2
      exact .two a1 b1 a2 b2 h.2
    · replace h : kT3 P.nm sc i j l x = true := h
      cases x <;> first | exact (Bool.false_ne_true h).elim | skip
      rename_i es k p
      rcases es with _ | ⟨x, _ | ⟨y, _ | ⟨z, _ | ⟨u, r⟩⟩⟩⟩ <;> first | exact (Bool.false_ne_true h).elim | skip
      replace h : (kT1 P.nm sc i x && kT1 P.nm sc j y && kT1 P.nm sc l z && i != j && i != l && j != l) = true := h
      simp only [Bool.and_eq_true, bne_iff_ne] at h
      obtain ⟨x, p1, rfl, a1, a2⟩ := kT1_ok h.1.1.1.1.1
      obtain ⟨y, p2, rfl, b1, b2⟩ := kT1_ok h.1.1.1.1.2
      obtain ⟨z, p3, rfl, c1, c2⟩ := kT1_ok h.1.1.1.2
      exact .three a1 b1 c1 a2 b2 c2 h.1.1.2 h.1.2 h.2
    · exact (Bool.false_ne_true h).elim
theorem chkL_ok {f : Expr → E → Bool} (hf : ∀ x a, f x a = true → OKE P sc x a) : ∀ {es : List Expr} {as : List E}, chkL f es as = true → OKS P sc es as
  | [], [], _ => cek_nil
  | x :: r, a :: as, h => by
    simp only [chkL, Bool.and_eq_true] at h
    exact cek_cons (hf _ _ h.1) (chkL_ok hf h.2)
  | [], _ :: _, h => by cases h
  | _ :: _, [], h => by cases h
theorem chkB_ok {f : Expr → E → Bool} {op : BoolOp} (hf : ∀ x a, f x a = true → OKE P sc x a) : ∀ {es : List Expr} {e : E}, chkB f op es e = true → OKB P sc op es e
  | [], _, h => by cases h
  | [x], e, h => cek_bone (hf _ _ (by simpa [chkB] using h))
  | x :: y :: r, e, h => by
    unfold chkB at h
    split at h
    · cases h
    · simp_all
    · simp only [Bool.and_eq_true, beq_iff_eq] at h
      rename_i q
      injection q with q1 q2
      injection q2 with q2 q3
      subst q1 q2 q3
      obtain ⟨⟨rfl, h1⟩, h2⟩ := h
      exact cek_band (hf _ _ h1) (chkB_ok hf h2)
    · simp only [Bool.and_eq_true, beq_iff_eq] at h
      rename_i q
      injection q with q1 q2
      injection q2 with q2 q3
      subst q1 q2 q3
      obtain ⟨⟨rfl, h1⟩, h2⟩ := h
      exact cek_bor (hf _ _ h1) (chkB_ok hf h2)
    · cases h
theorem chkO_ok {f : Expr → E → Bool} (hf : ∀ x a, f x a = true → OKE P sc x a) {x : Option Expr} {a : Option E} (h : chkO f x a = true) : OkO P sc x a := by
  unfold chkO at h
  split at h
  · exact okO_none
  · exact okO_some (hf _ _ h).2.1
  · cases h
theorem kCall1_ok {f : Expr → E → Bool} {g : Str} {a : E} {x : Expr} (h : kCall1 f sc g a x = true) : ∃ y p q, x = .Call (.Name g p) [y] [] q ∧ GI sc g ∧ f y a = true := by
  cases x <;> first | exact (Bool.false_ne_true h).elim | skip
  rename_i fn args kw q
  cases fn <;> first | exact (Bool.false_ne_true h).elim | skip
  rename_i g' p
  rcases args with _ | ⟨y, _ | ⟨v, r⟩⟩ <;> first | exact (Bool.false_ne_true h).elim | skip
  cases kw <;> first | exact (Bool.false_ne_true h).elim | skip
  replace h : (g' == g && kGI sc g' && f y a) = true := h
  simp only [Bool.and_eq_true, beq_iff_eq] at h
  obtain ⟨⟨rfl, h2⟩, i0⟩ := h
  exact ⟨_, p, q, rfl, kGI_ok h2, i0⟩
theorem kCall2_ok {f : Expr → E → Bool} {g : Str} {a b : E} {x : Expr} (h : kCall2 f sc g a b x = true) : ∃ y z p q, x = .Call (.Name g p) [y, z] [] q ∧ GI sc g ∧ f y a = true ∧ f z b = true := by
  cases x <;> first | exact (Bool.false_ne_true h).elim | skip
  rename_i fn args kw q
  cases fn <;> first | exact (Bool.false_ne_true h).elim | skip
  rename_i g' p
  rcases args with _ | ⟨y, _ | ⟨z, _ | ⟨v, r⟩⟩⟩ <;> first | exact (Bool.false_ne_true h).elim | skip
  cases kw <;> first | exact (Bool.false_ne_true h).elim | skip
  replace h : (g' == g && kGI sc g' && f y a && f z b) = true := h
  simp only [Bool.and_eq_true, beq_iff_eq] at h
  obtain ⟨⟨⟨rfl, h2⟩, i0⟩, i1⟩ := h
  exact ⟨_, _, p, q, rfl, kGI_ok h2, i0, i1⟩
theorem chkI_ok {f : Expr → E → Bool} (hf : ∀ x a, f x a = true → OKE P sc x a) {x : Expr} {a : It} (h : chkI f sc x a = true) : OKI P sc x a := by
  cases a with
  | rng1 a => obtain ⟨y, p, q, rfl, h1, h2⟩ := kCall1_ok h; exact cek_rng1 h1 (hf _ _ h2)
  | rng2 _ _ => cases h
  | rng3 _ _ _ => cases h
  | ex a => exact cek_ex (hf _ _ h)
theorem isConst_ok {c : Const} {k : Ck} (h : isConst c k = true) : ckC k = c := by
  unfold isConst at h
  split at h
  · rfl
  · simp at h; subst h; rfl
  · cases h

theorem kCst_ok {c : Ck} {x : Expr} (h : kCst c x = true) : ∃ cc k p, x = .Constant cc k p ∧ isConst cc c = true := by
  cases x <;> first | exact (Bool.false_ne_true h).elim | skip
  exact ⟨_, _, _, rfl, h⟩
theorem kVar_ok {k : Nat} {x : Expr} (h : kVar P.nm k x = true) : ∃ y p, x = .Name y p ∧ P.nm[k]? = some y ∧ (y == ("__debug__" : Str)) = false := by
  cases x <;> first | exact (Bool.false_ne_true h).elim | skip
  rename_i x p
  replace h : (kNm P.nm k x && kDb x) = true := h
  simp only [Bool.and_eq_true] at h
  exact ⟨_, _, rfl, kNm_ok h.1, kDb_ok h.2⟩
theorem kInt_ok {j : Int} {x : Expr} (h : kInt j x = true) : ∃ k p, x = .Constant (.int j) k p := by
  cases x <;> first | exact (Bool.false_ne_true h).elim | skip
  rename_i c k p
  cases c <;> first | exact (Bool.false_ne_true h).elim | skip
  rename_i i
  have : i = j := eq_of_beq h
  subst this
  exact ⟨_, _, rfl⟩
theorem isInts_ok : ∀ {ds : List PyData} {ns : List Int}, isInts ds ns = true → ds = ns.map .int
  | [], [], _ => rfl
  | d :: r, j :: q, h => by
    cases d <;> first | exact (Bool.false_ne_true h).elim | skip
    rename_i i
    replace h : (i == j && isInts r q) = true := h
    simp only [Bool.and_eq_true, beq_iff_eq] at h
    rw [List.map_cons, ← isInts_ok h.2, h.1]
  | [], _ :: _, h => by cases h
  | d :: _, [], h => by cases d <;> cases h
theorem kData_ok {d : PyData} {x : Expr} (h : kData P.nf sc d x = true) : OKE P sc x (.data d) := by
  cases x <;> first | exact (Bool.false_ne_true h).elim | skip
  rename_i g p
  replace h : (kGI sc g && kDb g && P.nf.ls.any fun q => q.1 == g && isTI d q.2 && decide (q.2.length ≤ 100)) = true := h
  simp only [Bool.and_eq_true, List.any_eq_true, beq_iff_eq, decide_eq_true_eq] at h
  obtain ⟨⟨h1, h2⟩, q, hq, ⟨⟨rfl, h4⟩, h5⟩⟩ := h
  cases d <;> first | exact (Bool.false_ne_true h4).elim | skip
  rename_i ds
  have e := isInts_ok (show isInts ds q.2 = true from h4)
  subst e
  exact cek_data hq (kGI_ok h1) (kDb_ok h2) h5
section
variable {f : Expr → E → Bool} (ih : ∀ x a, f x a = true → OKE P sc x a)
include ih
theorem kBin_ok {o : Op} {a b : E} {x : Expr} (h : kBin f o a b x = true) : OKE P sc x (.bin o a b) := by
  cases x <;> first | exact (Bool.false_ne_true h).elim | skip
  rename_i l op r pos
  replace h : (opPy o == op && f l a && f r b) = true := h
  simp only [Bool.and_eq_true, beq_iff_eq] at h
  exact cek_bin h.1.1 (ih _ _ h.1.2) (ih _ _ h.2)
theorem kNeg_ok {a : E} {x : Expr} (h : kNeg f a x = true) : OKE P sc x (.neg a) := by
  cases x <;> first | exact (Bool.false_ne_true h).elim | skip
  rename_i op y pos
  replace h : (op == .USub && f y a) = true := h
  simp only [Bool.and_eq_true, beq_iff_eq] at h
  obtain ⟨rfl, h⟩ := h
  exact cek_neg (ih _ _ h)
theorem kNot_ok {a : E} {x : Expr} (h : kNot f a x = true) : OKE P sc x (.not a) := by
  cases x <;> first | exact (Bool.false_ne_true h).elim | skip
  rename_i op y pos
  replace h : (op == .Not && f y a) = true := h
  simp only [Bool.and_eq_true, beq_iff_eq] at h
  obtain ⟨rfl, h⟩ := h
  exact cek_not (ih _ _ h)
theorem kCmp_ok {o : Cm} {a b : E} {x : Expr} (h : kCmp f o a b x = true) : OKE P sc x (.cmp o a b) := by
  cases x <;> first | exact (Bool.false_ne_true h).elim | skip
  rename_i l ops cs pos
  rcases ops with _ | ⟨op, _ | ⟨v_, r_⟩⟩ <;> first | exact (Bool.false_ne_true h).elim | skip
  rcases cs with _ | ⟨r, _ | ⟨v_, r_⟩⟩ <;> first | exact (Bool.false_ne_true h).elim | skip
  replace h : (cmPy o == op && !(behindInMarks op r) && f l a && f r b) = true := h
  simp only [Bool.and_eq_true, beq_iff_eq, Bool.not_eq_true'] at h
  exact cek_cmp h.1.1.1 h.1.1.2 (ih _ _ h.1.2) (ih _ _ h.2)
theorem kIsC_ok {n : Bool} {a : E} {c : Ck} {x : Expr} (h : kIsC f n a c x = true) : OKE P sc x (.isC n a c) := by
  cases x <;> first | exact (Bool.false_ne_true h).elim | skip
  rename_i l ops cs pos
  rcases ops with _ | ⟨op, _ | ⟨v_, r_⟩⟩ <;> first | exact (Bool.false_ne_true h).elim | skip
  rcases cs with _ | ⟨r, _ | ⟨v_, r_⟩⟩ <;> first | exact (Bool.false_ne_true h).elim | skip
  replace h : (isOp n == op && kCst c r && f l a) = true := h
  simp only [Bool.and_eq_true, beq_iff_eq] at h
  obtain ⟨⟨h1, h2⟩, h3⟩ := h
  obtain ⟨cc, k, p, rfl, h4⟩ := kCst_ok h2
  exact cek_isC h1 (isConst_ok h4) (ih _ _ h3)
theorem kAnd_ok {a b : E} {x : Expr} (h : kBoolop f .And a b x = true) : OKE P sc x (.and a b) := by
  cases x <;> first | exact (Bool.false_ne_true h).elim | skip
  rename_i op vs pos
  rcases vs with _ | ⟨x, _ | ⟨y, r⟩⟩ <;> first | exact (Bool.false_ne_true h).elim | skip
  replace h : (op == .And && f x a && chkB f .And (y :: r) b) = true := h
  simp only [Bool.and_eq_true, beq_iff_eq] at h
  obtain ⟨⟨rfl, h1⟩, h2⟩ := h
  exact cek_and (ih _ _ h1) (chkB_ok ih h2)
theorem kCall_ok (hF : HF P) {k : Nat} {as : List E} {x : Expr} (h : kCall f P.nf sc k as x = true) : OKE P sc x (.call k as) := by
  cases x <;> first | exact (Bool.false_ne_true h).elim | skip
  rename_i fn args kw q
  cases fn <;> first | exact (Bool.false_ne_true h).elim | skip
  rename_i g p
  cases kw <;> first | exact (Bool.false_ne_true h).elim | skip
  replace h : ((match P.nf.fs[k]? with | some d => d.name == g | none => false) && kGI sc g && kDb g && chkL f args as) = true := h
  simp only [Bool.and_eq_true] at h
  obtain ⟨⟨⟨h1, h2⟩, h3⟩, h4⟩ := h
  split at h1
  · rename_i d hd
    exact cek_call hF hd (eq_of_beq h1) (kGI_ok h2) (kDb_ok h3) (chkL_ok ih h4)
  · cases h1
theorem kIdx_ok {a b : E} {x : Expr} (h : kIdx f a b x = true) : OKE P sc x (.idx a b) := by
  cases x <;> first | exact (Bool.false_ne_true h).elim | skip
  rename_i y i pos
  replace h : (notSlice i && f y a && f i b) = true := h
  simp only [Bool.and_eq_true] at h
  exact cek_idx h.1.1 (ih _ _ h.1.2) (ih _ _ h.2)
theorem kSl_ok {a : E} {l u : Option E} {x : Expr} (h : kSl f a l u x = true) : OKE P sc x (.sl a l u) := by
  cases x <;> first | exact (Bool.false_ne_true h).elim | skip
  rename_i y i pos
  cases i <;> first | exact (Bool.false_ne_true h).elim | skip
  rename_i lo hi st p
  cases st <;> first | exact (Bool.false_ne_true h).elim | skip
  replace h : (f y a && chkO f lo l && chkO f hi u) = true := h
  simp only [Bool.and_eq_true] at h
  exact cek_sl (ih _ _ h.1.1) (chkO_ok ih h.1.2) (chkO_ok ih h.2)
theorem kTup_ok {as : List E} {x : Expr} (h : kTup f as x = true) : OKE P sc x (.tup as) := by
  cases x <;> first | exact (Bool.false_ne_true h).elim | skip
  rename_i es k pos
  exact cek_tup (chkL_ok ih h)
theorem kLst_ok {as : List E} {x : Expr} (h : kLst f as x = true) : OKE P sc x (.lst as) := by
  cases x <;> first | exact (Bool.false_ne_true h).elim | skip
  rename_i es pos
  exact cek_lst (chkL_ok ih h)
end
/-- the parts of a comprehension -/
noncomputable def CompOk (P : Par) (sc : Scope) (elt : Expr) (gens : List Comprehension) (scope : Scope) (a : E) : Prop :=
  ∃ e tg cap it conds target iter ifs, a = .comp e tg cap it conds ∧ gens = [⟨target, iter, ifs, 0⟩] ∧ OKI P sc iter it ∧ CT P.nm scope target tg ∧ scope.kind = .function ∧ (∀ y ∈ scope.names, y.2 ≠ .cell) ∧
    (∀ y ∈ scope.names, y.2 = .local → scope.names.lookup y.1 = some .local) ∧ (∀ y ∈ scope.names, y.2 = .free → sc.names.lookup y.1 = some .cell) ∧
    (∀ k ∈ cap, ∀ x, P.nm[k]? = some x → scope.names.lookup x = some .free ∧ (relab scope sc).names.lookup x = some .cell) ∧ OKS P (relab scope sc) ifs conds ∧ OKE P (relab scope sc) elt e
theorem kComp_parts {f : Scope → Expr → E → Bool} (ih : ∀ sc x a, f sc x a = true → OKE P sc x a) {e : E} {tg : Tg} {cap : List Nat} {it : It} {conds : List E} {elt : Expr} {gens : List Comprehension} {scope : Scope} {pos : Pos} (h : kComp f P.nm sc e tg cap it conds (.ListComp elt gens scope pos) = true) : CompOk P sc elt gens scope (.comp e tg cap it conds) := by
  rcases gens with _ | ⟨g, _ | ⟨v_, r_⟩⟩ <;> first | exact (Bool.false_ne_true h).elim | skip
  obtain ⟨target, iter, ifs, isA⟩ := g
  replace h : (isA == 0 && chkI (f sc) sc iter it && chkT P.nm scope target tg && scope.kind == .function && (scope.names.all fun y => y.2 != .cell) &&
        (scope.names.all fun y => y.2 != .local || scope.names.lookup y.1 == some .local) && (scope.names.all fun y => y.2 != .free || sc.names.lookup y.1 == some .cell) && chkCap P.nm scope sc cap &&
        chkL (f (relab scope sc)) ifs conds && f (relab scope sc) elt e) = true := h
  simp only [Bool.and_eq_true, beq_iff_eq] at h
  obtain ⟨⟨⟨⟨⟨⟨⟨⟨⟨h0, h1⟩, h2⟩, h3⟩, h4⟩, h5⟩, h6⟩, h7⟩, h8⟩, h9⟩ := h
  subst h0
  refine ⟨_, _, _, _, _, _, _, _, rfl, rfl, chkI_ok (fun x a q => ih sc x a q) h1, chkT_ok h2, h3, fun y hy => ?_, fun y hy hl => ?_, fun y hy hl => ?_, fun k hk x hx => ?_, chkL_ok (fun x a q => ih _ x a q) h8, ih _ _ _ h9⟩
  · have := List.all_eq_true.mp h4 y hy
    simpa using this
  · have := List.all_eq_true.mp h5 y hy
    simpa [hl] using this
  · have := List.all_eq_true.mp h6 y hy
    simpa [hl] using this
  · have := List.all_eq_true.mp h7 k hk
    rw [hx] at this
    simpa using this
theorem kComp_ok (nd : P.nm.Nodup) {f : Scope → Expr → E → Bool} (ih : ∀ sc x a, f sc x a = true → OKE P sc x a) {e : E} {tg : Tg} {cap : List Nat} {it : It} {conds : List E} {x : Expr} (h : kComp f P.nm sc e tg cap it conds x = true) : OKE P sc x (.comp e tg cap it conds) := by
  cases x <;> first | exact (Bool.false_ne_true h).elim | skip
  rename_i elt gens scope pos
  obtain ⟨e', tg', cap', it', conds', target, iter, ifs, e1, rfl, a, b, c, d, g, g', g'', j2, j3⟩ := kComp_parts ih h
  cases e1
  exact cek_comp nd a b c d g g' g'' j2 j3
theorem chkE_ok (nd : P.nm.Nodup) (hF : HF P) : ∀ (n : Nat) (sc : Scope) (x : Expr) (a : E), chkE P.nm P.nf n sc x a = true → OKE P sc x a := by
  intro n
  induction n with
  | zero => intro sc x a h; cases h
  | succ n ih =>
    intro sc x a h
    cases a with
    | int j =>
      replace h : kInt j x = true := h
      cases x <;> first | exact (Bool.false_ne_true h).elim | skip
      rename_i c k p
      cases c <;> first | exact (Bool.false_ne_true h).elim | skip
      rename_i i
      have : i = j := eq_of_beq h
      subst this; exact cek_int
    | bool j =>
      replace h : kBool j x = true := h
      cases x <;> first | exact (Bool.false_ne_true h).elim | skip
      rename_i c k p
      cases c <;> first | exact (Bool.false_ne_true h).elim | skip
      rename_i i
      have : i = j := eq_of_beq h
      subst this; exact cek_bool
    | none =>
      replace h : kNone x = true := h
      cases x <;> first | exact (Bool.false_ne_true h).elim | skip
      rename_i c k p
      cases c <;> first | exact (Bool.false_ne_true h).elim | skip
      exact cek_none
    | var k =>
      replace h : kVar P.nm k x = true := h
      cases x <;> first | exact (Bool.false_ne_true h).elim | skip
      rename_i x p
      replace h : (kNm P.nm k x && kDb x) = true := h
      simp only [Bool.and_eq_true] at h
      exact cek_var (kNm_ok h.1) (kDb_ok h.2)
    | bin o a b => exact kBin_ok (ih sc) h
    | neg a => exact kNeg_ok (ih sc) h
    | not a => exact kNot_ok (ih sc) h
    | cmp o a b => exact kCmp_ok (ih sc) h
    | cmp2 _ _ _ _ _ => cases h
    | isC n a c => exact kIsC_ok (ih sc) h
    | isTy _ _ _ => cases h
    | and a b => exact kAnd_ok (ih sc) h
    | or _ _ => cases h
    | call f as => exact kCall_ok (ih sc) hF h
    | data d => exact kData_ok h
    | count _ _ => cases h
    | sorted a => obtain ⟨y, p, q, rfl, h1, h2⟩ := kCall1_ok h; exact cek_sorted h1 (ih _ _ _ h2)
    | idx a b => exact kIdx_ok (ih sc) h
    | sl a l u => exact kSl_ok (ih sc) h
    | tup as => exact kTup_ok (ih sc) h
    | lst as => exact kLst_ok (ih sc) h
    | comp e tg cap it conds => exact kComp_ok nd ih h
    | len a => obtain ⟨y, p, q, rfl, h1, h2⟩ := kCall1_ok h; exact cek_len h1 (ih _ _ _ h2)
    | abs a => obtain ⟨y, p, q, rfl, h1, h2⟩ := kCall1_ok h; exact cek_abs h1 (ih _ _ _ h2)
    | sum1 a => obtain ⟨y, p, q, rfl, h1, h2⟩ := kCall1_ok h; exact cek_sum h1 (ih _ _ _ h2)
    | max1 _ => cases h
    | list1 a => obtain ⟨y, p, q, rfl, h1, h2⟩ := kCall1_ok h; exact cek_list1 h1 (ih _ _ _ h2)
    | min2 a b => obtain ⟨y, z, p, q, rfl, h1, h2, h3⟩ := kCall2_ok h; exact cek_min2 h1 (ih _ _ _ h2) (ih _ _ _ h3)
    | max2 _ _ => cases h

theorem chkE_parts (nd : P.nm.Nodup) (hF : HF P) {n : Nat} {elt : Expr} {gens : List Comprehension} {scope : Scope} {pos : Pos} {e : E} (h : chkE P.nm P.nf n sc (.ListComp elt gens scope pos) e = true) : CompOk P sc elt gens scope e := by
  cases n with
  | zero => cases h
  | succ n => cases e <;> first | exact (Bool.false_ne_true h).elim | exact kComp_parts (chkE_ok nd hF n) h

noncomputable def kVal (sc : Scope) (x : Str) (p : Pos) : Expr → Bool
  | .ListComp _ _ scope cpos => sc.names.lookup x == some .cell || (sc.names.lookup x == some .local && p.line == cpos.line && !(scope.names.any fun (n, kk) => n == x && (kk == .local || kk == .cell)))
  | v => kLC sc x && notComp v
noncomputable def kAsgT (nm : List Str) (sc : Scope) (k : Nat) (value : Expr) : Expr → Bool
  | .Name x p => kNm nm k x && kVal sc x p value
  | _ => false
noncomputable def kAsg (f : Expr → E → Bool) (nm : List Str) (sc : Scope) (k : Nat) (e : E) : Stmt → Bool
  | .Assign [t] value _ => kAsgT nm sc k value t && f value e
  | _ => false
noncomputable def isTup : Expr → Bool
  | .Tuple _ _ _ => true
  | _ => false
noncomputable def kUnp (f : Expr → E → Bool) (nm : List Str) (sc : Scope) (ks : List Nat) (e : E) : Stmt → Bool
  | .Assign [t] value _ => isTup t && chkT nm sc t (.many ks) && notComp value && notTup value && f value e
  | _ => false
noncomputable def kSub (f : Expr → E → Bool) (nm : List Str) (k : Nat) (a : E) : Expr → Bool
  | .Subscript v i _ => kVar nm k v && f i a
  | _ => false
noncomputable def kSetI (f : Expr → E → Bool) (nm : List Str) (k : Nat) (a e : E) : Stmt → Bool
  | .Assign [t] value _ => kSub f nm k a t && notComp value && f value e
  | _ => false
noncomputable def kM1 : Expr → Bool
  | .UnaryOp op e _ => op == .USub && kInt 1 e
  | _ => false
noncomputable def kDelT (nm : List Str) (k : Nat) : Expr → Bool
  | .Subscript v i _ => kVar nm k v && kM1 i
  | _ => false
noncomputable def kDel (nm : List Str) (k : Nat) : Stmt → Bool
  | .Delete [t] _ => kDelT nm k t
  | _ => false
noncomputable def kAttr (nm : List Str) (k : Nat) (cpos : Pos) : Expr → Bool
  | .Attribute v m apos => kVar nm k v && m == ("append" : Str) && apos.endLine == cpos.line
  | _ => false
noncomputable def kAppC (f : Expr → E → Bool) (nm : List Str) (k : Nat) (e : E) : Expr → Bool
  | .Call fn [elt] [] cpos => kAttr nm k cpos fn && f elt e
  | _ => false
noncomputable def kApp (f : Expr → E → Bool) (nm : List Str) (k : Nat) (e : E) : Stmt → Bool
  | .Expr v _ => kAppC f nm k e v
  | _ => false
noncomputable def kIfe (f : Expr → E → Bool) (t e : List Stmt → Bool) (a : E) : Stmt → Bool
  | .If test body orelse _ => f test a && t body && e orelse
  | _ => false
noncomputable def kFor (f : Expr → E → Bool) (nm : List Str) (sc : Scope) (tg : Tg) (it : It) (b : List Stmt → Bool) : Stmt → Bool
  | .For target iter body [] _ => chkI f sc iter it && chkT nm sc target tg && b body
  | _ => false
noncomputable def kWhile (f : Expr → E → Bool) (a : E) (b : List Stmt → Bool) : Stmt → Bool
  | .While test body [] _ => f test a && b body
  | _ => false
noncomputable def kRet (f : Expr → E → Bool) (a : E) : Stmt → Bool
  | .Return (some e) _ => f e a
  | _ => false
noncomputable def kRetV (nm : List Str) (k : Nat) : Stmt → Bool
  | .Return (some v) _ => kVar nm k v
  | _ => false
noncomputable def kFail : Stmt → Bool
  | .Raise _ _ _ => true
  | _ => false
mutual
noncomputable def chkS (nm : List Str) (nf : Nf) (n : Nat) (sc : Scope) : S → Stmt → Bool
  | .asg k _ e, st => kAsg (chkE nm nf n sc) nm sc k e st
  | .unp ks e, st => kUnp (chkE nm nf n sc) nm sc ks e st
  | .setI k a e, st => kSetI (chkE nm nf n sc) nm k a e st
  | .delLast k, st => kDel nm k st
  | .app k e, st => kApp (chkE nm nf n sc) nm k e st
  | .ife a t e, st => kIfe (chkE nm nf n sc) (chkSs nm nf n sc t) (chkSs nm nf n sc e) a st
  | .for_ tg it b, st => kFor (chkE nm nf n sc) nm sc tg it (chkSs nm nf n sc b) st
  | .while_ a b, st => kWhile (chkE nm nf n sc) a (chkSs nm nf n sc b) st
  | .ret a, st => kRet (chkE nm nf n sc) a st
  | .retV k, st => kRetV nm k st
  | .fail, st => kFail st
noncomputable def chkSs (nm : List Str) (nf : Nf) (n : Nat) (sc : Scope) : List S → List Stmt → Bool
  | [], [] => true
  | s :: r, st :: r' => chkS nm nf n sc s st && chkSs nm nf n sc r r'
  | _, _ => false
end
section
variable {f : Expr → E → Bool} (nd : P.nm.Nodup) (ih : ∀ x a, f x a = true → OKE P sc x a) (hcomp : ∀ elt gens scope pos e, f (.ListComp elt gens scope pos) e = true → CompOk P sc elt gens scope e)
include nd ih hcomp
theorem kAsg_ok {k : Nat} {keep : Bool} {e : E} {st : Stmt} (h : kAsg f P.nm sc k e st = true) : OkX P wf sc st (.asg k keep e) := by
  cases st <;> first | exact (Bool.false_ne_true h).elim | skip
  rename_i ts value pos
  rcases ts with _ | ⟨t, _ | ⟨v_, r_⟩⟩ <;> first | exact (Bool.false_ne_true h).elim | skip
  replace h : (kAsgT P.nm sc k value t && f value e) = true := h
  simp only [Bool.and_eq_true] at h
  obtain ⟨h, h2⟩ := h
  cases t <;> first | exact (Bool.false_ne_true h).elim | skip
  rename_i x p
  replace h : (kNm P.nm k x && kVal sc x p value) = true := h
  simp only [Bool.and_eq_true] at h
  obtain ⟨h1, h3⟩ := h
  intro _ _ _ _ _ _ _ _ _ _ _
  by_cases hc : notComp value = true
  · have h4 : kLC sc x = true := by
      cases value <;> first | exact (Bool.and_eq_true_iff.mp h3).1 | exact (Bool.false_ne_true hc).elim
    exact okX_asg nd (kNm_ok h1) (kLC_ok h4) (fun env _ _ => sw_not hc _ _ env) (ih _ _ h2).2.1
  · cases value <;> first | exact absurd rfl hc | exact absurd (Bool.and_eq_true_iff.mp h3).2 hc | skip
    rename_i elt gens scope cpos
    replace h3 : (sc.names.lookup x == some .cell || (sc.names.lookup x == some .local && p.line == cpos.line && !(scope.names.any fun (n, kk) => n == x && (kk == .local || kk == .cell)))) = true := h3
    simp only [Bool.or_eq_true, beq_iff_eq, Bool.and_eq_true, Bool.not_eq_true'] at h3
    rcases h3 with h3 | ⟨⟨h3, h4⟩, h5⟩
    · exact okX_asg nd (kNm_ok h1) (.inr h3) (fun env hs hk => by rw [sw_comp hk, hs, h3]; rfl) (ih _ _ h2).2.1
    · obtain ⟨e', tg, cap, it, conds, target, iter, ifs, rfl, rfl, a, b, c, d, g, g', g'', j2, j3⟩ := hcomp _ _ _ _ _ h2
      exact okX_asgS nd (kNm_ok h1) h3 (fun env hs hk => by rw [sw_comp hk, hs, h3, show (p.line == cpos.line) = true by simpa using h4, h5]; rfl) a.1 b c d g g' g'' a.2 j2.2.2 j3.2.1
theorem kUnp_ok {ks : List Nat} {e : E} {st : Stmt} (h : kUnp f P.nm sc ks e st = true) : OkX P wf sc st (.unp ks e) := by
  cases st <;> first | exact (Bool.false_ne_true h).elim | skip
  rename_i ts value pos
  rcases ts with _ | ⟨t, _ | ⟨v_, r_⟩⟩ <;> first | exact (Bool.false_ne_true h).elim | skip
  replace h : (isTup t && chkT P.nm sc t (.many ks) && notComp value && notTup value && f value e) = true := h
  simp only [Bool.and_eq_true] at h
  obtain ⟨⟨⟨⟨h0, h1⟩, h2⟩, h3⟩, h4⟩ := h
  cases t <;> first | exact (Bool.false_ne_true h0).elim | skip
  intro _ _ _ _ _ _ _ _ _ _ _; exact okX_unp nd (chkT_ok h1) (ih _ _ h4).2.1 (fun env => (sole _ _ _ env).trans (sw_not h2 _ _ env)) (fun env => ss_not h3 _ _ _ env)
theorem kSetI_ok {k : Nat} {a e : E} {st : Stmt} (h : kSetI f P.nm k a e st = true) : OkX P wf sc st (.setI k a e) := by
  cases st <;> first | exact (Bool.false_ne_true h).elim | skip
  rename_i ts value pos
  rcases ts with _ | ⟨t, _ | ⟨v_, r_⟩⟩ <;> first | exact (Bool.false_ne_true h).elim | skip
  replace h : (kSub f P.nm k a t && notComp value && f value e) = true := h
  simp only [Bool.and_eq_true] at h
  obtain ⟨⟨h0, h1⟩, h2⟩ := h
  cases t <;> first | exact (Bool.false_ne_true h0).elim | skip
  rename_i v i q
  replace h0 : (kVar P.nm k v && f i a) = true := h0
  simp only [Bool.and_eq_true] at h0
  obtain ⟨x, p, rfl, h3, h4⟩ := kVar_ok h0.1
  intro _ _ _ _ _ _ _ _ _ _ _; exact okX_setI h3 h4 (fun env => sw_not h1 _ _ env) (ih _ _ h2).2.1 (ih _ _ h0.2).2.1
theorem kApp_ok {k : Nat} {e : E} {st : Stmt} (h : kApp f P.nm k e st = true) : OkX P wf sc st (.app k e) := by
  cases st <;> first | exact (Bool.false_ne_true h).elim | skip
  rename_i v pos
  replace h : kAppC f P.nm k e v = true := h
  cases v <;> first | exact (Bool.false_ne_true h).elim | skip
  rename_i fn args kw cpos
  rcases args with _ | ⟨elt, _ | ⟨v_, r_⟩⟩ <;> first | exact (Bool.false_ne_true h).elim | skip
  cases kw <;> first | exact (Bool.false_ne_true h).elim | skip
  replace h : (kAttr P.nm k cpos fn && f elt e) = true := h
  simp only [Bool.and_eq_true] at h
  obtain ⟨h, h2⟩ := h
  cases fn <;> first | exact (Bool.false_ne_true h).elim | skip
  rename_i v m apos
  replace h : (kVar P.nm k v && m == ("append" : Str) && apos.endLine == cpos.line) = true := h
  simp only [Bool.and_eq_true, beq_iff_eq] at h
  obtain ⟨⟨h1, rfl⟩, h3⟩ := h
  obtain ⟨x, p, rfl, h4, h5⟩ := kVar_ok h1
  intro _ _ _ _ _ _ _ _ _ _ _; exact okX_app h4 h5 (by simpa using h3) (ih _ _ h2).1 (ih _ _ h2).2.1
theorem kIfe_ok {a : E} {t e : List S} {tb eb : List Stmt → Bool} {st : Stmt} (ht : ∀ b, tb b = true → OkXs P wf sc b t) (he : ∀ b, eb b = true → OkXs P wf sc b e) (h : kIfe f tb eb a st = true) : OkX P wf sc st (.ife a t e) := by
  cases st <;> first | exact (Bool.false_ne_true h).elim | skip
  rename_i test body orelse pos
  replace h : (f test a && tb body && eb orelse) = true := h
  simp only [Bool.and_eq_true] at h
  intro _ _ _ _ _ _ _ _ _ _ _; exact okX_ife (ih _ _ h.1.1).2.2 (ht _ h.1.2) (he _ h.2)
theorem kFor_ok {tg : Tg} {it : It} {b : List S} {bb : List Stmt → Bool} {st : Stmt} (hb : ∀ x, bb x = true → OkXs P wf sc x b) (h : kFor f P.nm sc tg it bb st = true) : OkX P wf sc st (.for_ tg it b) := by
  cases st <;> first | exact (Bool.false_ne_true h).elim | skip
  rename_i target iter body orelse pos
  cases orelse <;> first | exact (Bool.false_ne_true h).elim | skip
  replace h : (chkI f sc iter it && chkT P.nm sc target tg && bb body) = true := h
  simp only [Bool.and_eq_true] at h
  intro _ _ _ _ _ _ _ _ _ _ _; exact okX_for nd (chkI_ok ih h.1.1).1 (chkT_ok h.1.2) (chkI_ok ih h.1.1).2 (hb _ h.2)
theorem kWhile_ok {a : E} {b : List S} {bb : List Stmt → Bool} {st : Stmt} (hb : ∀ x, bb x = true → OkXs P wf sc x b) (h : kWhile f a bb st = true) : OkX P wf sc st (.while_ a b) := by
  cases st <;> first | exact (Bool.false_ne_true h).elim | skip
  rename_i test body orelse pos
  cases orelse <;> first | exact (Bool.false_ne_true h).elim | skip
  replace h : (f test a && bb body) = true := h
  simp only [Bool.and_eq_true] at h
  intro _ _ _ _ _ _ _ _ _ _ _; exact okX_while (ih _ _ h.1).2.2 (hb _ h.2)
theorem kRet_ok {a : E} {st : Stmt} (h : kRet f a st = true) : OkX P wf sc st (.ret a) := by
  cases st <;> first | exact (Bool.false_ne_true h).elim | skip
  rename_i v pos
  cases v <;> first | exact (Bool.false_ne_true h).elim | skip
  intro _ _ _ _ _ _ _ _ _ _ _; exact okX_ret (ih _ _ h).2.1
end
theorem kDel_ok {k : Nat} {st : Stmt} (h : kDel P.nm k st = true) : OkX P wf sc st (.delLast k) := by
  cases st <;> first | exact (Bool.false_ne_true h).elim | skip
  rename_i ts pos
  rcases ts with _ | ⟨t, _ | ⟨v_, r_⟩⟩ <;> first | exact (Bool.false_ne_true h).elim | skip
  replace h : kDelT P.nm k t = true := h
  cases t <;> first | exact (Bool.false_ne_true h).elim | skip
  rename_i v i q
  replace h : (kVar P.nm k v && kM1 i) = true := h
  simp only [Bool.and_eq_true] at h
  obtain ⟨h1, h⟩ := h
  obtain ⟨x, p, rfl, h4, h5⟩ := kVar_ok h1
  cases i <;> first | exact (Bool.false_ne_true h).elim | skip
  rename_i op y t
  replace h : (op == .USub && kInt 1 y) = true := h
  simp only [Bool.and_eq_true, beq_iff_eq] at h
  obtain ⟨rfl, h⟩ := h
  obtain ⟨kc, r, rfl⟩ := kInt_ok h
  intro _ _ _ _ _ _ _ _ _ _ _; exact okX_del h4 h5
theorem kRetV_ok {k : Nat} {st : Stmt} (h : kRetV P.nm k st = true) : OkX P wf sc st (.retV k) := by
  cases st <;> first | exact (Bool.false_ne_true h).elim | skip
  rename_i v pos
  cases v <;> first | exact (Bool.false_ne_true h).elim | skip
  obtain ⟨x, p, rfl, h4, h5⟩ := kVar_ok h
  intro _ _ _ _ _ _ _ _ _ _ _; exact okX_retV h4 h5
theorem kFail_ok {st : Stmt} (h : kFail st = true) : OkX P wf sc st .fail := by
  cases st <;> first | exact (Bool.false_ne_true h).elim | skip
  intro _ _ _ _ _ _ _ _ _ _ _; exact okX_fail
mutual
theorem chkS_ok (nd : P.nm.Nodup) (hF : HF P) {n : Nat} : ∀ (s : S) (st : Stmt), chkS P.nm P.nf n sc s st = true → OkX P wf sc st s
  | .asg _ _ _, _, h => kAsg_ok nd (chkE_ok nd hF n sc) (fun _ _ _ _ _ q => chkE_parts nd hF q) (by simpa only [chkS] using h)
  | .unp _ _, _, h => kUnp_ok nd (chkE_ok nd hF n sc) (fun _ _ _ _ _ q => chkE_parts nd hF q) (by simpa only [chkS] using h)
  | .setI _ _ _, _, h => kSetI_ok nd (chkE_ok nd hF n sc) (fun _ _ _ _ _ q => chkE_parts nd hF q) (by simpa only [chkS] using h)
  | .delLast _, _, h => kDel_ok (by simpa only [chkS] using h)
  | .app _ _, _, h => kApp_ok nd (chkE_ok nd hF n sc) (fun _ _ _ _ _ q => chkE_parts nd hF q) (by simpa only [chkS] using h)
  | .ife _ t e, _, h => kIfe_ok nd (chkE_ok nd hF n sc) (fun _ _ _ _ _ q => chkE_parts nd hF q) (fun b q => chkSs_ok nd hF t b q) (fun b q => chkSs_ok nd hF e b q) (by simpa only [chkS] using h)
  | .for_ _ _ b, _, h => kFor_ok nd (chkE_ok nd hF n sc) (fun _ _ _ _ _ q => chkE_parts nd hF q) (fun x q => chkSs_ok nd hF b x q) (by simpa only [chkS] using h)
  | .while_ _ b, _, h => kWhile_ok nd (chkE_ok nd hF n sc) (fun _ _ _ _ _ q => chkE_parts nd hF q) (fun x q => chkSs_ok nd hF b x q) (by simpa only [chkS] using h)
  | .ret _, _, h => kRet_ok nd (chkE_ok nd hF n sc) (fun _ _ _ _ _ q => chkE_parts nd hF q) (by simpa only [chkS] using h)
  | .retV _, _, h => kRetV_ok (by simpa only [chkS] using h)
  | .fail, _, h => kFail_ok (by simpa only [chkS] using h)
theorem chkSs_ok (nd : P.nm.Nodup) (hF : HF P) {n : Nat} : ∀ (s : List S) (st : List Stmt), chkSs P.nm P.nf n sc s st = true → OkXs P wf sc st s
  | [], [], _ => okXs_nil
  | s :: r, st :: r', h => by
    simp only [chkSs, Bool.and_eq_true] at h
    exact okXs_cons (chkS_ok nd hF s st h.1) (chkSs_ok nd hF r r' h.2)
  | [], _ :: _, h => by simp [chkSs] at h
  | _ :: _, [], h => by simp [chkSs] at h
end
end
noncomputable def nodupS : List Str → Bool
  | [] => true
  | x :: r => !(r.contains x) && nodupS r
theorem nodupS_ok : ∀ {l : List Str}, nodupS l = true → l.Nodup
  | [], _ => .nil
  | x :: r, h => by
    simp only [nodupS, Bool.and_eq_true, Bool.not_eq_true', List.contains_eq_mem, decide_eq_false_iff_not] at h
    exact List.nodup_cons.mpr ⟨h.1, nodupS_ok h.2⟩
noncomputable def chkFn (nf : Nf) (nm : List Str) (d : DefRec) (fn : Fn) : Bool :=
  nodupS nm && decide (fn.np ≤ nm.length) && decide (fn.np ≤ 4) && (match d.params with
    | ⟨[], as, none, [], [], none, []⟩ => as.map (·.arg) == nm.take fn.np && as.length == fn.np
    | _ => false) && (nm.take fn.np).all (kLC d.scope) && chkSs nm nf 60 d.scope fn.body d.body && !d.scope.isCoroutine && !d.scope.isGenerator && d.scope.kind == .function
theorem chkFn_ok {nm : List Str} {nf : Nf} {d : DefRec} {fn : Fn} (h : chkFn nf nm d fn = true) : FnOk nm nf d fn := by
  unfold chkFn at h
  simp only [Bool.and_eq_true, decide_eq_true_eq, Bool.not_eq_true', beq_iff_eq] at h
  obtain ⟨⟨⟨⟨⟨⟨⟨⟨h1, h2⟩, h3⟩, h4⟩, h5⟩, h6⟩, h7⟩, h8⟩, h9⟩ := h
  refine ⟨nodupS_ok h1, h2, fun pm cd doc vs hl => ?_, fun x hx => kLC_ok (List.all_eq_true.mp h5 x hx), fun P wf e1 e2 hF => by subst e1 e2; exact chkSs_ok (nodupS_ok h1) hF _ _ h6, h7, h8, h9⟩
  split at h4
  · rename_i q as hp
    simp only [Bool.and_eq_true, beq_iff_eq] at h4
    obtain ⟨e1, e2⟩ := h4
    rw [hp, ← e1]
    rw [← e2] at hl h3
    have nd : (as.map (·.arg)).Nodup := by rw [e1]; exact (List.take_sublist _ _).nodup (nodupS_ok h1)
    clear e1 hp h1 h2 h5 h6
    rcases as with _ | ⟨a, as⟩
    · cases vs with
      | nil => rfl
      | cons _ _ => cases hl
    rcases vs with _ | ⟨v, vs⟩
    · cases hl
    replace hl : vs.length = as.length := Nat.succ.inj hl
    rcases as with _ | ⟨b, as⟩
    · cases vs with
      | nil => exact bd1
      | cons _ _ => cases hl
    rcases vs with _ | ⟨u, vs⟩
    · cases hl
    replace hl : vs.length = as.length := Nat.succ.inj hl
    rcases as with _ | ⟨c, as⟩
    · cases vs with
      | nil => exact bd2 (by simp at nd; exact fun q => nd q.symm)
      | cons _ _ => cases hl
    rcases vs with _ | ⟨w, vs⟩
    · cases hl
    replace hl : vs.length = as.length := Nat.succ.inj hl
    rcases as with _ | ⟨d, as⟩
    · cases vs with
      | nil =>
        simp at nd
        exact bd3 (fun q => nd.1.1 q.symm) (fun q => nd.1.2 q.symm) (fun q => nd.2 q.symm)
      | cons _ _ => cases hl
    rcases vs with _ | ⟨z, vs⟩
    · cases hl
    replace hl : vs.length = as.length := Nat.succ.inj hl
    rcases as with _ | ⟨e, as⟩
    · cases vs with
      | nil =>
        simp at nd
        exact bd4 (fun q => nd.1.1 q.symm) (fun q => nd.1.2.1 q.symm) (fun q => nd.2.1.1 q.symm) (fun q => nd.1.2.2 q.symm) (fun q => nd.2.1.2 q.symm) (fun q => nd.2.2 q.symm)
      | cons _ _ => cases hl
    exact absurd h3 (by simp only [List.length_cons]; omega)
  · cases h4
noncomputable def chkAll (nf : Nf) : List DefRec → List (List Str) → List Fn → Bool
  | _, _, [] => true
  | d :: ds, nm :: nms, fn :: fns => chkFn nf nm d fn && chkAll nf ds nms fns
  | _, _, _ => false
theorem chkAll_ok {nf : Nf} : ∀ {ds : List DefRec} {nms : List (List Str)} {fns : List Fn}, chkAll nf ds nms fns = true → ∀ (f : Nat) (fn : Fn), fns[f]? = some fn → ∃ d nm, ds[f]? = some d ∧ FnOk nm nf d fn
  | _, _, [], _, f, fn, e => by simp at e
  | d :: ds, nm :: nms, fn :: fns, h, f, fn', e => by
    simp only [chkAll, Bool.and_eq_true] at h
    cases f with
    | zero => simp at e; subst e; exact ⟨d, nm, rfl, chkFn_ok h.1⟩
    | succ f => simpa using chkAll_ok h.2 f fn' (by simpa using e)
  | [], _, _ :: _, h, _, _, _ => by cases h
  | _ :: _, [], _ :: _, h, _, _, _ => by cases h
end Mine

/-! Deep embedding, part S: plain rules for evaluations. -/
set_option autoImplicit false
namespace Mine
open PySem PyProof.Rows

theorem shaped_int (i : Int) : SeqAt.shaped (.int i) = true := by simp [SeqAt.shaped, PyData.canLay0, PyData.depth]
/-- good data: lists and tuples of ints, bools, None, of depth at most k -/
noncomputable def okD (k : Nat) (d : PyData) : Prop := d.canLay0 = true ∧ d.depth ≤ k
noncomputable def okDs (k : Nat) (ds : List PyData) : Prop := PyData.canLayAll0 ds = true ∧ PyData.depthAll ds ≤ k
theorem okD.shaped {k : Nat} {d : PyData} (h : okD k d) (hk : k ≤ 64) : SeqAt.shaped d = true := by
  simp [SeqAt.shaped, h.1]; exact Nat.le_trans h.2 hk
theorem okD.mono {k l : Nat} {d : PyData} (h : okD k d) (hk : k ≤ l) : okD l d := ⟨h.1, Nat.le_trans h.2 hk⟩
theorem okD_int {k : Nat} (i : Int) : okD k (.int i) := ⟨by simp [PyData.canLay0], by simp [PyData.depth]⟩
theorem okD_list {k : Nat} {ds : List PyData} (h : okDs k ds) : okD (k + 1) (.list ds) := ⟨by simpa [PyData.canLay0] using h.1, by simp [PyData.depth]; have := h.2; omega⟩
theorem okDs_nil {k : Nat} : okDs k [] := ⟨by simp [PyData.canLayAll0], by simp [PyData.depthAll]⟩
theorem okDs_cons {k : Nat} {d : PyData} {ds : List PyData} (h : okD k d) (h' : okDs k ds) : okDs k (d :: ds) := ⟨by simp [PyData.canLayAll0, h.1, h'.1], Nat.max_le.mpr ⟨h.2, h'.2⟩⟩
theorem okDs_of {k : Nat} : ∀ {ds : List PyData}, (∀ d ∈ ds, okD k d) → okDs k ds
  | [], _ => okDs_nil
  | d :: ds, h => okDs_cons (h d (by simp)) (okDs_of fun x hx => h x (by simp [hx]))
theorem okDs_ints {k : Nat} (ns : List Int) : okDs k (ns.map .int) := okDs_of fun d hd => by
  obtain ⟨i, _, rfl⟩ := List.mem_map.mp hd
  exact okD_int i
theorem shaped_ints (ns : List Int) : SeqAt.shaped (.list (ns.map .int)) = true := (okD_list (okDs_ints (k := 0) ns)).shaped (by decide)
theorem eqv_int (i j : Int) : PyData.eqv (.int i) (.int j) = decide (i = j) := by simp [PyData.eqv, BEq.beq]
theorem eqvAll_ints : ∀ (a b : List Int), PyData.eqvAll (a.map .int) (b.map .int) = decide (a = b)
  | [], [] => by simp [PyData.eqvAll]
  | [], _ :: _ => by simp [PyData.eqvAll]
  | _ :: _, [] => by simp [PyData.eqvAll]
  | x :: xs, y :: ys => by
    simp only [List.map_cons, PyData.eqvAll, eqvAll_ints xs ys, eqv_int]
    by_cases h : x = y <;> by_cases h' : xs = ys <;> simp [h, h']
theorem cmp_eq_int (i j : Int) : cmpD .eq (.int i) (.int j) = some (decide (i = j)) := by simp [cmpD, shaped_int, eqv_int]
theorem cmp_ne_int (i j : Int) : cmpD .ne (.int i) (.int j) = some (!decide (i = j)) := by simp [cmpD, shaped_int, eqv_int]
theorem cmp_eq_ints (i j : List Int) : cmpD .eq (.list (i.map .int)) (.list (j.map .int)) = some (decide (i = j)) := by simp [cmpD, shaped_ints, PyData.eqv, eqvAll_ints]
theorem cmp_ne_ints (i j : List Int) : cmpD .ne (.list (i.map .int)) (.list (j.map .int)) = some (!decide (i = j)) := by simp [cmpD, shaped_ints, PyData.eqv, eqvAll_ints]
theorem asInts_map : ∀ (ns : List Int), asInts (ns.map .int) = some ns
  | [] => rfl
  | i :: r => by simp [asInts, asInts_map r]
theorem callF_at {wf : Nat} {fns : List Fn} {n f : Nat} {fn : Fn} {args : List PyData} (h : fns[f]? = some fn) : callF wf fns (n + 1) f args = run1 (callF wf fns n) wf fn args := by simp [callF, h]
/-- a script's cell -/
noncomputable def cellI (ns : List Int) (k : Int) : Int := if k < ns.length then (ns[k.toNat]?).getD 0 else 0
section
variable {α β : Type} {F : Nat → List PyData → Option BV} {wf : Nat} {G : Gam}
theorem bv_val (d : PyData) : (BV.val d).d = d := rfl
theorem bv_own (d : List PyData) : (BV.own d).d = .list d := rfl
theorem bv_bor (d : List PyData) : (BV.bor d).d = .list d := rfl
theorem ib_val (d : PyData) : (BV.val d).isBor = false := rfl
theorem ib_own (d : List PyData) : (BV.own d).isBor = false := rfl
theorem ib_bor (d : List PyData) : (BV.bor d).isBor = true := rfl
theorem fr_val (d : PyData) : (BV.val d).free = listFree d := rfl
theorem fr_own (d : List PyData) : (BV.own d).free = listFrees d := rfl
theorem lf_int (i : Int) : listFree (.int i) = true := by simp [listFree]
theorem lf_bool (i : Bool) : listFree (.bool i) = true := by simp [listFree]
theorem lf_none : listFree .none = true := by simp [listFree]
theorem lf_ints : ∀ (ns : List Int), listFrees (ns.map .int) = true
  | [] => by simp [listFrees]
  | i :: r => by simp [listFrees, listFree, lf_ints r]
theorem as_int (i : Int) : asInt (.int i) = some i := rfl
theorem as_bool (i : Bool) : asBool (.bool i) = some i := rfl
theorem bd_add (a b : Int) : binD .add (.int a) (.int b) = some (.val (.int (a + b))) := rfl
theorem bd_sub (a b : Int) : binD .sub (.int a) (.int b) = some (.val (.int (a - b))) := rfl
theorem bd_mul (a b : Int) : binD .mul (.int a) (.int b) = if -18446744073709551616 < a ∧ a < 18446744073709551616 ∨ -18446744073709551616 < b ∧ b < 18446744073709551616 then some (.val (.int (a * b))) else none := rfl
theorem bd_fdiv (a b : Int) : binD .fdiv (.int a) (.int b) = if b = 0 ∨ b ≤ -340282366920938463463374607431768211456 ∨ 340282366920938463463374607431768211456 ≤ b then none else some (.val (.int (a.fdiv b))) := rfl
theorem bd_mod (a b : Int) : binD .mod (.int a) (.int b) = if b = 0 then none else some (.val (.int (a.fmod b))) := rfl
theorem bd_modp (a b : Int) (h : 0 < b) : binD .mod (.int a) (.int b) = some (.val (.int (a % b))) := by
  rw [bd_mod, if_neg (by omega), Int.fmod_eq_emod_of_nonneg _ (by omega)]
theorem bd_fdivp (a b : Int) (h : 0 < b) (h' : b < 340282366920938463463374607431768211456) : binD .fdiv (.int a) (.int b) = some (.val (.int (a / b))) := by
  rw [bd_fdiv, if_neg (by omega), Int.fdiv_eq_ediv_of_nonneg _ (by omega)]
theorem bd_pow (a b : Int) : binD .pow (.int a) (.int b) = if 0 ≤ b ∧ b ≤ 1024 ∧ -18446744073709551616 < a ∧ a < 18446744073709551616 then some (.val (.int (a ^ b.toNat))) else none := rfl
theorem bd_cat (a b : List PyData) : binD .add (.list a) (.list b) = if a.length + b.length ≤ szLine then some (.own (a ++ b)) else none := rfl
theorem bd_rep (a : List PyData) (n : Int) : binD .mul (.list a) (.int n) = if a.length * n.toNat ≤ szLine ∧ -9223372036854775808 ≤ n ∧ n < 9223372036854775808 then some (.own (List.replicate n.toNat a).flatten) else none := rfl
theorem cd_lt (a b : Int) : cmpD .lt (.int a) (.int b) = some (decide (a < b)) := rfl
theorem cd_le (a b : Int) : cmpD .le (.int a) (.int b) = some (decide (a ≤ b)) := rfl
theorem cd_gt (a b : Int) : cmpD .gt (.int a) (.int b) = some (decide (b < a)) := rfl
theorem cd_ge (a b : Int) : cmpD .ge (.int a) (.int b) = some (decide (b ≤ a)) := rfl
theorem ix_list (xs : List PyData) (k : Int) : idxD (.list xs) (.int k) = itemD xs k := rfl
theorem ix_tuple (xs : List PyData) (k : Int) : idxD (.tuple xs) (.int k) = itemD xs k := rfl
theorem bo_none : bound none = some none := rfl
theorem bo_some (k : Int) : bound (some (.int k)) = if 0 ≤ k then some (some k.toNat) else none := rfl
theorem bt_one (d : PyData) (k : Nat) : bindTg G (.one k) d = some (G.set k (some (.val d))) := rfl
theorem bt_many (ds : List PyData) (ks : List Nat) : bindTg G (.many ks) (.tuple ds) = if ks.length = ds.length then some ((ks.zip ds).foldl (fun G p => G.set p.1 (some (.val p.2))) G) else none := rfl
theorem ag_val (k : Nat) (b : Bool) (d : PyData) : asgG G k b (.val d) = some (G.set k (some (.val d)), .next) := rfl
theorem ag_own (k : Nat) (b : Bool) (d : List PyData) : asgG G k b (.own d) = some (G.set k (some (if b then .own d else .val (.list d))), .next) := rfl
noncomputable def ifB (x : Option BV) (A B : Option α) : Option α := x.bind fun x => (asBool x.d).bind fun b => match b with
  | true => A
  | false => B
theorem ifB_bool (p : Bool) (A B : Option α) : ifB (some (.val (.bool p))) A B = if p = true then A else B := by cases p <;> rfl
theorem ifB_ite (c : Prop) [Decidable c] (a b : Option BV) (A B : Option α) : ifB (if c then a else b) A B = if c then ifB a A B else ifB b A B := by split <;> rfl
theorem bind_ite (c : Prop) [Decidable c] (a b : Option α) (f : α → Option β) : (if c then a else b).bind f = if c then a.bind f else b.bind f := by split <;> rfl
theorem map_ite (c : Prop) [Decidable c] (a b : Option α) (f : α → β) : (if c then a else b).map f = if c then a.map f else b.map f := by split <;> rfl
noncomputable def asBl (x : Option BV) : Option BV := x.bind fun y => (asBool y.d).map fun t => .val (.bool t)
theorem asBl_bool (p : Bool) : asBl (some (.val (.bool p))) = some (.val (.bool p)) := rfl
theorem asBl_ite (c : Prop) [Decidable c] (a b : Option BV) : asBl (if c then a else b) = if c then asBl a else asBl b := by split <;> rfl
theorem fold_bool (c : Prop) [Decidable c] (a b : Bool) : (if c then some (BV.val (.bool a)) else some (BV.val (.bool b))) = some (BV.val (.bool (if c then a else b))) := by split <;> rfl
noncomputable def seqB (x : Option (Gam × Fl)) (k : Gam → Option (Gam × Fl)) : Option (Gam × Fl) := x.bind fun q => match q with
  | (G', .next) => k G'
  | (G', .ret v) => some (G', .ret v)
theorem seqB_next (G : Gam) (k : Gam → Option (Gam × Fl)) : seqB (some (G, .next)) k = k G := rfl
theorem seqB_ret (G : Gam) (r : BV) (k : Gam → Option (Gam × Fl)) : seqB (some (G, .ret r)) k = some (G, .ret r) := rfl
theorem seqB_none (k : Gam → Option (Gam × Fl)) : seqB none k = none := rfl
theorem seqB_ite (c : Prop) [Decidable c] (a b : Option (Gam × Fl)) (k : Gam → Option (Gam × Fl)) : seqB (if c then a else b) k = if c then seqB a k else seqB b k := by split <;> rfl
noncomputable def finB (x : Option (Gam × Fl)) : Option BV := match x with
  | some (_, .ret r) => some r
  | some (_, .next) => some (.val .none)
  | none => none
theorem finB_ret (G : Gam) (r : BV) : finB (some (G, .ret r)) = some r := rfl
theorem finB_next (G : Gam) : finB (some (G, .next)) = some (.val .none) := rfl
theorem finB_none : finB none = none := rfl
theorem finB_ite (c : Prop) [Decidable c] (a b : Option (Gam × Fl)) : finB (if c then a else b) = if c then finB a else finB b := by split <;> rfl
theorem x_ife (c : E) (t e : List S) : ex F wf G (.ife c t e) = ifB (ev F G c) (exs F wf G t) (exs F wf G e) := by simp only [ex, ifB] <;> rfl
theorem x_cons (s : S) (r : List S) : exs F wf G (s :: r) = seqB (ex F wf G s) fun G => exs F wf G r := by simp only [exs, seqB] <;> rfl
theorem x_nil : exs F wf G [] = some (G, .next) := by simp only [exs]
theorem x_run (fn : Fn) (args : List PyData) : run1 F wf fn args = if args.length = fn.np then finB (exs F wf (args.map (fun d => some (AV.val d)) ++ List.replicate (fn.nv - fn.np) none) fn.body) else none := by simp only [run1, finB] <;> rfl
theorem v_and (a b : E) : ev F G (.and a b) = ifB (ev F G a) (asBl (ev F G b)) (some (.val (.bool false))) := by
  first
  | (simp only [ev, ifB, asBl]; done)
  | simp only [ev, ifB, asBl]
    refine congrArg _ (funext fun x => congrArg _ (funext fun t => ?_))
    cases t <;> rfl
theorem v_or (a b : E) : ev F G (.or a b) = ifB (ev F G a) (some (.val (.bool true))) (asBl (ev F G b)) := by
  first
  | (simp only [ev, ifB, asBl]; done)
  | simp only [ev, ifB, asBl]
    refine congrArg _ (funext fun x => congrArg _ (funext fun t => ?_))
    cases t <;> rfl
noncomputable def ifO (x : Option Bool) (A B : Option α) : Option α := x.bind fun b => match b with
  | true => A
  | false => B
theorem ifO_some (p : Bool) (A B : Option α) : ifO (some p) A B = if p = true then A else B := by cases p <;> rfl
theorem ifO_ite (c : Prop) [Decidable c] (a b : Option Bool) (A B : Option α) : ifO (if c then a else b) A B = if c then ifO a A B else ifO b A B := by split <;> rfl
theorem v_cmp2 (o o' : Cm) (a b c : E) : ev F G (.cmp2 o o' a b c) = (ev F G a).bind fun x => (ev F G b).bind fun y => ifO (cmpD o x.d y.d) ((ev F G c).bind fun z => (cmpD o' y.d z.d).map fun b => .val (.bool b)) (some (.val (.bool false))) := by
  first
  | (simp only [ev, ifO]; done)
  | simp only [ev, ifO]
    refine congrArg _ (funext fun x => congrArg _ (funext fun t => congrArg _ (funext fun t => ?_)))
    cases t <;> rfl
theorem lk_eq (k : Nat) : look G k = (G[k]?).bind id := by unfold look; cases G[k]? with
  | none => rfl
  | some x => cases x <;> rfl
noncomputable def vv (x : Option AV) : Option BV := match x with
  | some (.val d) => some (.val d)
  | some (.own ds) => some (.bor ds)
  | none => none
theorem vv_val (d : PyData) : vv (some (.val d)) = some (.val d) := rfl
theorem vv_own (d : List PyData) : vv (some (.own d)) = some (.bor d) := rfl
theorem v_var (k : Nat) : ev F G (.var k) = vv ((G[k]?).bind id) := by rw [← lk_eq]; simp only [ev, vv] <;> rfl
noncomputable def vr (x : Option AV) : Option BV := match x with
  | some (.val d) => some (.val d)
  | some (.own ds) => some (.own ds)
  | none => none
theorem vr_val (d : PyData) : vr (some (.val d)) = some (.val d) := rfl
theorem vr_own (d : List PyData) : vr (some (.own d)) = some (.own d) := rfl
theorem x_retV (k : Nat) : ex F wf G (.retV k) = (vr ((G[k]?).bind id)).map fun r => (G, .ret r) := by
  rw [← lk_eq]; simp only [ex, vr]
  cases look G k with
  | none => rfl
  | some a => cases a <;> rfl
theorem ck_bool (a b : Bool) : isCk (.bool a) (.bool b) = (a == b) := rfl
theorem ck_none : isCk .none .none = true := rfl
theorem ck_int (a : Int) (c : Ck) : isCk (.int a) c = false := by cases c <;> rfl
theorem ck_tuple (a : List PyData) (c : Ck) : isCk (.tuple a) c = false := by cases c <;> rfl
theorem ck_list (a : List PyData) (c : Ck) : isCk (.list a) c = false := by cases c <;> rfl
theorem ck_nb (b : Bool) : isCk .none (.bool b) = false := rfl
theorem ck_bn (b : Bool) : isCk (.bool b) .none = false := rfl
theorem ty_int (a : Int) : tyOf (.int a) = "int" := rfl
theorem ty_bool (a : Bool) : tyOf (.bool a) = "bool" := rfl
theorem ty_list (a : List PyData) : tyOf (.list a) = "list" := rfl
theorem ty_tuple (a : List PyData) : tyOf (.tuple a) = "tuple" := rfl
theorem v_int (i : Int) : ev F G (.int i) = some (.val (.int i)) := by simp only [ev]
theorem v_bool (i : Bool) : ev F G (.bool i) = some (.val (.bool i)) := by simp only [ev]
theorem v_none : ev F G .none = some (.val .none) := by simp only [ev]
theorem v_data (d : PyData) : ev F G (.data d) = some (.val d) := by simp only [ev]
theorem v_bin (op : Op) (a b : E) : ev F G (.bin op a b) = (ev F G a).bind fun x => (ev F G b).bind fun y => binD op x.d y.d := by simp only [ev]
theorem v_neg (a : E) : ev F G (.neg a) = (ev F G a).bind fun x => (asInt x.d).map fun i => .val (.int (-i)) := by simp only [ev]
theorem v_not (a : E) : ev F G (.not a) = (ev F G a).bind fun x => (asBool x.d).map fun b => .val (.bool (!b)) := by simp only [ev]
theorem v_cmp (op : Cm) (a b : E) : ev F G (.cmp op a b) = (ev F G a).bind fun x => (ev F G b).bind fun y => (cmpD op x.d y.d).map fun b => .val (.bool b) := by simp only [ev]
theorem v_isC (n : Bool) (a : E) (c : Ck) : ev F G (.isC n a c) = (ev F G a).bind fun x => some (.val (.bool (isCk x.d c != n))) := by simp only [ev]
theorem v_isTy (n : Bool) (a : E) (t : String) : ev F G (.isTy n a t) = (ev F G a).bind fun x => some (.val (.bool ((tyOf x.d == t) != n))) := by simp only [ev]
theorem v_call (f : Nat) (args : List E) : ev F G (.call f args) = (evs F G args).bind fun xs => (F f (xs.map BV.d)).bind fun r => if (r.isBor || (xs.any BV.isBor && !r.free)) = true then none else some r := by simp only [ev]
noncomputable def lenB (d : PyData) : Option BV := match d with
    | .list xs => some (.val (.int xs.length))
    | .tuple xs => some (.val (.int xs.length))
    | _ => none
theorem ln_list (xs : List PyData) : lenB (.list xs) = some (.val (.int xs.length)) := rfl
theorem ln_tuple (xs : List PyData) : lenB (.tuple xs) = some (.val (.int xs.length)) := rfl
theorem v_len (a : E) : ev F G (.len a) = (ev F G a).bind fun x => lenB x.d := by
  first
  | (simp only [ev]; done)
  | simp only [ev]
    refine congrArg _ (funext fun x => ?_)
    cases x.d <;> rfl
theorem v_abs (a : E) : ev F G (.abs a) = (ev F G a).bind fun x => (asInt x.d).map fun i => .val (.int (if i < 0 then -i else i)) := by simp only [ev]
theorem v_min2 (a b : E) : ev F G (.min2 a b) = (ev F G a).bind fun x => (ev F G b).bind fun y => (asInt x.d).bind fun i => (asInt y.d).map fun j => .val (.int (if j < i then j else i)) := by simp only [ev]
theorem v_max2 (a b : E) : ev F G (.max2 a b) = (ev F G a).bind fun x => (ev F G b).bind fun y => (asInt x.d).bind fun i => (asInt y.d).map fun j => .val (.int (if j > i then j else i)) := by simp only [ev]
noncomputable def lsB (d : PyData) : Option (List PyData) := match d with
    | .list xs => some xs
    | _ => none
theorem ls_list (xs : List PyData) : lsB (.list xs) = some xs := rfl
noncomputable def mxB (l : List Int) : Option BV := match l with
      | [] => none
      | i :: r => some (.val (.int (maxL i r)))
theorem v_max1 (a : E) : ev F G (.max1 a) = (ev F G a).bind fun x => (lsB x.d).bind fun xs => (asInts xs).bind mxB := by
  first
  | (simp only [ev]; done)
  | simp only [ev]
    refine congrArg _ (funext fun x => ?_)
    cases x.d <;> try rfl
theorem v_sum1 (a : E) : ev F G (.sum1 a) = (ev F G a).bind fun x => (lsB x.d).bind fun xs => (asInts xs).map fun l => .val (.int l.sum) := by
  first
  | (simp only [ev]; done)
  | simp only [ev]
    refine congrArg _ (funext fun x => ?_)
    cases x.d <;> rfl
theorem v_list1 (a : E) : ev F G (.list1 a) = (ev F G a).bind fun x => (lsB x.d).map .own := by
  first
  | (simp only [ev]; done)
  | simp only [ev]
    refine congrArg _ (funext fun x => ?_)
    cases x.d <;> rfl
theorem v_sorted (a : E) : ev F G (.sorted a) = (ev F G a).bind fun x => (lsB x.d).bind fun xs => (sortD xs).map .own := by
  first
  | (simp only [ev]; done)
  | simp only [ev]
    refine congrArg _ (funext fun x => ?_)
    cases x.d <;> rfl
theorem v_count (a v : E) : ev F G (.count a v) = (ev F G a).bind fun x => (ev F G v).bind fun y => (lsB x.d).bind fun xs => (asInts xs).bind fun l => (asInt y.d).map fun i => .val (.int (l.count i)) := by
  first
  | (simp only [ev]; done)
  | simp only [ev]
    refine congrArg _ (funext fun x => congrArg _ (funext fun y => ?_))
    cases x.d <;> rfl
theorem v_idx (a i : E) : ev F G (.idx a i) = (ev F G a).bind fun x => (ev F G i).bind fun y => (idxD x.d y.d).map .val := by simp only [ev]
theorem v_sl (a : E) (lo hi : Option E) : ev F G (.sl a lo hi) = (ev F G a).bind fun x => (evo F G lo).bind fun l => (evo F G hi).bind fun h => (bound l).bind fun l => (bound h).bind fun h => (lsB x.d).map fun xs => .own (sliceD xs l h) := by
  first
  | (simp only [ev]; done)
  | simp only [ev]
    refine congrArg _ (funext fun x => congrArg _ (funext fun l => congrArg _ (funext fun h => congrArg _ (funext fun h => congrArg _ (funext fun h => ?_)))))
    cases x.d <;> rfl
theorem v_tup (es : List E) : ev F G (.tup es) = (evs F G es).bind fun xs => if (xs.any BV.isBor || decide (szLine < xs.length)) = true then none else some (.val (.tuple (xs.map BV.d))) := by simp only [ev]
theorem v_lst (es : List E) : ev F G (.lst es) = (evs F G es).bind fun xs => if (xs.any BV.isBor || decide (szLine < xs.length)) = true then none else some (.own (xs.map BV.d)) := by simp only [ev]
theorem vs_nil : evs F G [] = some [] := by simp only [evs]
theorem vs_cons (e : E) (r : List E) : evs F G (e :: r) = (ev F G e).bind fun x => (evs F G r).map (x :: ·) := by simp only [evs]
theorem vo_none : evo F G none = some none := by simp only [evo]
theorem vo_some (e : E) : evo F G (some e) = (ev F G e).map fun x => some x.d := by simp only [evo]
theorem va_nil : evAll F G [] = some true := by simp only [evAll]
theorem va_cons (e : E) (r : List E) : evAll F G (e :: r) = ifB (ev F G e) (evAll F G r) (some false) := by
  first
  | (simp only [evAll, ifB]; done)
  | simp only [evAll, ifB]
    refine congrArg _ (funext fun x => congrArg _ (funext fun t => ?_))
    cases t <;> rfl
theorem vi_rng1 (b : E) : evIt F G (.rng1 b) = (ev F G b).bind fun y => (asInt y.d).bind fun y => (rangeD 0 y 1).map (·, false) := by simp only [evIt]
theorem vi_rng2 (a b : E) : evIt F G (.rng2 a b) = (ev F G a).bind fun x => (ev F G b).bind fun y => (asInt x.d).bind fun x => (asInt y.d).bind fun y => (rangeD x y 1).map (·, false) := by simp only [evIt]
theorem vi_rng3 (a b c : E) : evIt F G (.rng3 a b c) = (ev F G a).bind fun x => (ev F G b).bind fun y => (ev F G c).bind fun z => (asInt x.d).bind fun x => (asInt y.d).bind fun y => (asInt z.d).bind fun z => (rangeD x y z).map (·, false) := by simp only [evIt]
theorem vi_ex (e : E) : evIt F G (.ex e) = (ev F G e).bind fun x => (lsB x.d).map fun xs => (xs, x.isBor) := by
  first
  | (simp only [evIt]; done)
  | simp only [evIt]
    refine congrArg _ (funext fun x => ?_)
    cases x.d <;> rfl
/-- one turn of a comprehension -/
noncomputable def turn (elt : E) (tg : Tg) (conds : List E) (F : Nat → List PyData → Option BV) (G : Gam) (x : PyData) : Option (Option PyData) :=
  (bindTg G tg x).bind fun G' => ifO (evAll F G' conds) ((ev F G' elt).bind fun y => if y.isBor = true then none else some (some y.d)) (some none)
theorem v_comp (elt : E) (tg : Tg) (cap : List Nat) (it : It) (conds : List E) : ev F G (.comp elt tg cap it conds) = (evIt F G it).bind fun q => if szLine < q.1.length then none else (compGo (turn elt tg conds F (keepOnly cap G)) q.1).map .own := by
  simp only [ev]
  refine congrArg _ (funext fun q => ?_)
  have : ∀ x, turn elt tg conds F (keepOnly cap G) x = (bindTg (keepOnly cap G) tg x).bind fun G' => (evAll F G' conds).bind fun t => match t with
        | false => some none
        | true => (ev F G' elt).bind fun y => if y.isBor then none else some (some y.d) := fun x => by
    unfold turn ifO
    first
    | done
    | rfl
    | refine congrArg _ (funext fun G' => congrArg _ (funext fun t => ?_))
      cases t <;> rfl
  rw [show turn elt tg conds F (keepOnly cap G) = _ from funext this]
  first
  | done
  | (split <;> rfl)
theorem x_asg (k : Nat) (b : Bool) (e : E) : ex F wf G (.asg k b e) = (ev F G e).bind (asgG G k b) := by simp only [ex]
theorem x_unp (ks : List Nat) (e : E) : ex F wf G (.unp ks e) = (ev F G e).bind fun x => (bindTg G (.many ks) x.d).map fun G => (G, .next) := by simp only [ex]
noncomputable def owB (x : Option AV) : Option (List PyData) := match x with
  | some (.own ds) => some ds
  | _ => none
theorem ow_own (d : List PyData) : owB (some (.own d)) = some d := rfl
theorem x_app (k : Nat) (e : E) : ex F wf G (.app k e) = (ev F G e).bind fun x => if x.isBor = true then none else (owB ((G[k]?).bind id)).bind fun ds => if ds.length < szLine then some (G.set k (some (.own (ds ++ [x.d]))), .next) else none := by
  rw [← lk_eq]; simp only [ex]
  refine congrArg _ (funext fun x => ?_)
  split
  · rfl
  · cases look G k with
    | none => rfl
    | some a => cases a <;> rfl
theorem x_del (k : Nat) : ex F wf G (.delLast k) = (owB ((G[k]?).bind id)).bind fun ds => if ds.isEmpty = true then none else some (G.set k (some (.own ds.dropLast)), .next) := by
  rw [← lk_eq]; simp only [ex]
  cases look G k with
    | none => rfl
    | some a => cases a <;> rfl
theorem x_setI (k : Nat) (i e : E) : ex F wf G (.setI k i e) = (ev F G e).bind fun x => if x.isBor = true then none else (ev F G i).bind fun y => (asInt y.d).bind fun j => (owB ((G[k]?).bind id)).bind fun ds => if 0 ≤ j ∧ j < ds.length then some (G.set k (some (.own (ds.set j.toNat x.d))), .next) else none := by
  rw [← lk_eq]; simp only [ex]
  refine congrArg _ (funext fun x => ?_)
  split
  · rfl
  · refine congrArg _ (funext fun y => congrArg _ (funext fun j => ?_))
    cases look G k with
    | none => rfl
    | some a => cases a <;> rfl
/-- a loop over a list, kept whole -/
noncomputable def loopB (tg : Tg) (body : List S) (F : Nat → List PyData → Option BV) (wf : Nat) (l : List PyData) (G : Gam) : Option (Gam × Fl) := forGo (fun G x => (bindTg G tg x).bind fun G => exs F wf G body) l G
theorem x_for (tg : Tg) (it : It) (body : List S) : ex F wf G (.for_ tg it body) = (evIt F (frzG G it) it).bind fun q => if q.2 = true then none else loopB tg body F wf q.1 (frzG G it) := by simp only [ex, loopB]
noncomputable def tst (c : E) (F : Nat → List PyData → Option BV) (G : Gam) : Option Bool := (ev F G c).bind fun x => asBool x.d
noncomputable def frzV (G : Gam) (k : Nat) (a : Option AV) : Gam := match a with
  | some (.own ds) => G.set k (some (.val (.list ds)))
  | _ => G
theorem fz_var (k : Nat) : frzG G (.ex (.var k)) = frzV G k ((G[k]?).bind id) := by rw [← lk_eq]; unfold frzG frzV; rfl
theorem fz_own (k : Nat) (ds : List PyData) : frzV G k (some (.own ds)) = G.set k (some (.val (.list ds))) := rfl
theorem fz_val (k : Nat) (d : PyData) : frzV G k (some (.val d)) = G := rfl
theorem fz_r1 (a : E) : frzG G (.rng1 a) = G := rfl
theorem fz_r2 (a b : E) : frzG G (.rng2 a b) = G := rfl
theorem fz_r3 (a b c : E) : frzG G (.rng3 a b c) = G := rfl
theorem fz_call (f : Nat) (as : List E) : frzG G (.ex (.call f as)) = G := rfl
theorem fz_bin (o : Op) (a b : E) : frzG G (.ex (.bin o a b)) = G := rfl
theorem x_fail : ex F wf G .fail = none := by simp only [ex]
theorem x_ret (e : E) : ex F wf G (.ret e) = (ev F G e).bind fun x => if x.isBor = true then none else some (G, .ret x) := by simp only [ex]
theorem lp_nil (tg : Tg) (body : List S) : loopB tg body F wf [] G = some (G, .next) := rfl
theorem lp_cons (tg : Tg) (body : List S) (x : PyData) (r : List PyData) : loopB tg body F wf (x :: r) G = seqB ((bindTg G tg x).bind fun G => exs F wf G body) fun G => loopB tg body F wf r G := by
  simp only [loopB, forGo, seqB] <;> rfl
/-- a while loop, kept whole -/
noncomputable def whileB (c : E) (body : List S) (F : Nat → List PyData → Option BV) (wf n : Nat) (G : Gam) : Option (Gam × Fl) := whileGo (tst c F) (fun G => exs F wf G body) n G
theorem x_while (c : E) (body : List S) : ex F wf G (.while_ c body) = whileB c body F wf wf G := by simp only [ex, whileB] <;> rfl
theorem wh_succ (c : E) (body : List S) (n : Nat) : whileB c body F wf (n + 1) G = ifB (ev F G c) (seqB (exs F wf G body) fun G => whileB c body F wf n G) (some (G, .next)) := by
  unfold whileB
  simp only [whileGo, tst, ifB, seqB]
  cases ev F G c with
  | none => rfl
  | some x =>
    simp only [Option.bind_some]
    cases asBool x.d with
    | none => rfl
    | some t => cases t <;> rfl
end
theorem itemD_ints (ns : List Int) (k : Int) (h : 0 ≤ k) (h' : k < ns.length) : itemD (ns.map .int) k = some (.int (cellI ns k)) := by
  have : k.toNat < ns.length := by omega
  simp [itemD, h, cellI, h', this]
/-! ### loops and comprehensions over plain lists -/
noncomputable def keepFrom (cap : List Nat) : Nat → Gam → Gam
  | _, [] => []
  | i, x :: r => (if cap.contains i = true then x else none) :: keepFrom cap (i + 1) r
theorem kf_nil (cap : List Nat) (i : Nat) : keepFrom cap i [] = [] := rfl
theorem kf_cons (cap : List Nat) (i : Nat) (x : Option AV) (r : Gam) : keepFrom cap i (x :: r) = (if cap.contains i = true then x else none) :: keepFrom cap (i + 1) r := rfl
theorem kf_eq (cap : List Nat) : ∀ (G : Gam) (i : Nat), keepFrom cap i G = (List.range G.length).map fun k => if cap.contains (i + k) = true then (match G[k]? with | some x => x | none => none) else none
  | [], _ => rfl
  | x :: r, i => by
    rw [kf_cons, kf_eq cap r (i + 1), List.length_cons, List.range_succ_eq_map, List.map_cons, List.map_map]
    refine congr (congrArg _ ?_) (List.map_congr_left fun k _ => ?_)
    · simp
    · simp [Nat.add_assoc, Nat.add_comm 1 k]
theorem ko_eq (cap : List Nat) (G : Gam) : keepOnly cap G = keepFrom cap 0 G := by
  rw [kf_eq]
  unfold keepOnly
  refine List.map_congr_left fun k _ => ?_
  rw [Nat.zero_add] <;> rfl
theorem compGo_map {α : Type} {f : PyData → Option (Option PyData)} {h g : α → PyData} : ∀ (l : List α), (∀ x ∈ l, f (h x) = some (some (g x))) → compGo f (l.map h) = some (l.map g)
  | [], _ => rfl
  | x :: r, hs => by
    simp only [List.map_cons, compGo, hs x (by simp), compGo_map r fun y hy => hs y (by simp [hy])]; rfl
theorem compGo_filterMap {α : Type} {f : PyData → Option (Option PyData)} {h : α → PyData} {g : α → Option PyData} : ∀ (l : List α), (∀ x ∈ l, f (h x) = some (g x)) → compGo f (l.map h) = some (l.filterMap g)
  | [], _ => rfl
  | x :: r, hs => by
    simp only [List.map_cons, compGo, hs x (by simp)]
    cases hg : g x with
    | none => simp [compGo_filterMap r fun y hy => hs y (by simp [hy]), hg]
    | some z => simp [compGo_filterMap r fun y hy => hs y (by simp [hy]), hg]
theorem rangeD_one (a b : Int) (ha : -2305843009213693952 ≤ a) (ha' : a ≤ 2305843009213693952) (hb : -2305843009213693952 ≤ b) (hb' : b ≤ 2305843009213693952) :
    rangeD a b 1 = some ((List.range (b - a).toNat).map fun (i : Nat) => PyData.int (a + i)) := by
  unfold rangeD
  rw [if_pos (by omega)]
  have : (if a < b then (b - a - 1) / 1 + 1 else 0).toNat = (b - a).toNat := by split <;> omega
  rw [this]
  simp
theorem rangeD_zero (b : Int) (hb : -2305843009213693952 ≤ b) (hb' : b ≤ 2305843009213693952) : rangeD 0 b 1 = some ((List.range b.toNat).map fun (i : Nat) => PyData.int i) := by
  rw [rangeD_one 0 b (by decide) (by decide) hb hb']
  simp
theorem x_append {F : Nat → List PyData → Option BV} {wf : Nat} : ∀ (a b : List S) (G : Gam), exs F wf G (a ++ b) = seqB (exs F wf G a) fun G => exs F wf G b
  | [], b, G => by rw [List.nil_append, x_nil, seqB_next]
  | s :: r, b, G => by
    rw [List.cons_append, x_cons, x_cons]
    cases ex F wf G s with
    | none => rfl
    | some q =>
      obtain ⟨G', _ | v⟩ := q
      · rw [seqB_next, seqB_next, x_append r b G']
      · rfl
theorem it_0 (a : PyData) (r : List PyData) : itemD (a :: r) 0 = some a := by simp [itemD]
theorem it_1 (a b : PyData) (r : List PyData) : itemD (a :: b :: r) 1 = some b := by simp [itemD]
theorem it_2 (a b c : PyData) (r : List PyData) : itemD (a :: b :: c :: r) 2 = some c := by simp [itemD]
theorem it_3 (a b c d : PyData) (r : List PyData) : itemD (a :: b :: c :: d :: r) 3 = some d := by simp [itemD]
theorem sz_0 : (szLine < 0) = False := by simp [szLine]
theorem sz_1 : (szLine < 1) = False := by simp [szLine]
theorem sz_2 : (szLine < 2) = False := by simp [szLine]
theorem sz_3 : (szLine < 3) = False := by simp [szLine]
theorem sz_4 : (szLine < 4) = False := by simp [szLine]
theorem sz_e0 : (szLine = 0) = False := by simp [szLine]
theorem sz_p0 : (0 < szLine) = True := by simp [szLine]
theorem sz_p1 : (1 < szLine) = True := by simp [szLine]
theorem pow2_cast (k : Nat) : (2 : Int) ^ k = ((2 ^ k : Nat) : Int) := by
  induction k with
  | zero => rfl
  | succ k ih => rw [Int.pow_succ, ih, Nat.pow_succ]; rfl
theorem range_len (n : Nat) (h : n ≤ 2305843009213693952) : rangeD 0 (n : Int) 1 = some ((List.range n).map fun (i : Nat) => PyData.int i) := by
  have := rangeD_zero n (by omega) (by omega)
  rwa [Int.toNat_natCast] at this
end Mine

/-! Deep embedding, part U: all over a generator expression, late in a law. -/
set_option autoImplicit false
set_option linter.unusedVariables false
namespace Mine
open PySem PySem.W PyProof.Rows PySem.Calls

theorem execs_eq (env : Env) (b : List Stmt) : ∀ a : List Stmt, execs (a ++ b) env = (do match ← execs a env with | .next => execs b env | f => pure f)
  | [] => by
    show execs b env = (do let f ← (pure .next : Sem Flow); match f with | .next => execs b env | f => pure f)
    rw [pure_bind]
  | x :: a => by
    rw [List.cons_append, execs_cons, execs_cons, bind_assoc]
    refine congrArg _ (funext fun f => ?_)
    cases f with
    | next => exact execs_eq env b a
    | _ => simp only [pure_bind]
theorem execs_app {M : Model} {A : Around} {E : Value → Shared → Prop} {env : Env} {Q : Flow → Shared → Prop} {a b : List Stmt} {s : Shared}
    (h : wpAny M A (execs a env) (fun f s' => match f with | .next => wpAny M A (execs b env) Q E s' | f => Q f s') E s) : wpAny M A (execs (a ++ b) env) Q E s := by
  rw [execs_eq]
  refine wpAny_bind (wpAny_mono h (fun f s' q => ?_) fun _ _ e => e)
  cases f <;> first | exact q | exact wpAny_pure q

/-- the table of a code object -/
abbrev tabO (ps : Array Value) : Obj := { cls := .none, data := .fields ps }
noncomputable def But (Pt : Addr) (h h' : Heap) : Prop := ∀ b o, b ≠ Pt → h.get? b = some o → h'.get? b = some o
section
variable {h h' : Heap} {Pt : Addr} {ps : Array Value}
theorem ns_but {a : Addr} {m : Str → Option Value} (t : h.get? Pt = some (tabO ps)) (k : But Pt h h') (x : h.Ns a m) : h'.Ns a m := by
  have ne : a ≠ Pt := by
    rintro rfl
    obtain ⟨o, es, ep, h1, h2, _⟩ := x
    rw [t] at h1; cases h1; cases h2
  exact x.at' fun o e => k a o ne e
theorem cell_but {a : Addr} {v : Option Value} (t : h.get? Pt = some (tabO ps)) (k : But Pt h h') (x : h.IsCell a v) : h'.IsCell a v := by
  obtain ⟨o, h1, h2⟩ := x
  refine ⟨o, k a o ?_ h1, h2⟩
  rintro rfl
  rw [t] at h1; cases h1; cases h2
theorem seq_but (t : h.get? Pt = some (tabO ps)) (k : But Pt h h') : ∀ b o xs n, h.get? b = some o → o.data = .seq xs n → h'.get? b = some o := fun b o xs n e d => k b o (by
  rintro rfl
  rw [t] at e; cases e; cases d) e
theorem loads_but {env : Env} {x : Str} {v : Value} (t : h.get? Pt = some (tabO ps)) (k : But Pt h h') (l : Loads env h x v) : Loads env h' x v := by
  rcases l with ⟨a, m, b, c⟩ | ⟨a, c, b, d⟩
  · exact .inl ⟨a, m, ns_but t k b, c⟩
  · exact .inr ⟨a, c, b, cell_but t k d⟩
theorem Cx.but {nf : Nf} {mg mb : Str → Option Value} (c : Cx nf mg mb h) (t : h.get? Pt = some (tabO #[])) (k : But Pt h h') : Cx nf mg mb h' where
  g := ns_but t k c.g
  b := ns_but t k c.b
  nolimit := let ⟨m, a, b⟩ := c.nolimit; ⟨m, ns_but t k a, b⟩
  fn := fun i d e => by
    obtain ⟨a, o, pm, code, doc, h1, h2, h3, h4⟩ := c.fn i d e
    refine ⟨a, o, pm, code, doc, h1, k a o ?_ h2, h3, ?_⟩
    · rintro rfl
      rw [t] at h2; cases h2; cases h3
    · obtain ⟨cc, oc, vs, tk, e1, e2, e3, e4⟩ := h4
      refine ⟨cc, oc, vs, tk, e1, k cc oc ?_ e2, e3, e4⟩
      rintro rfl
      rw [t] at e2; cases e2; cases e3; simp at e4
  bi := c.bi
  lit := fun q hq => by
    obtain ⟨a, vs, h1, ⟨o, h2, h3, n, h4⟩, h5⟩ := c.lit q hq
    exact ⟨a, vs, h1, ⟨o, seq_but t k _ _ _ _ h2 h4, h3, n, h4⟩, h5⟩
theorem FR.but {nm : List Str} {env : Env} {g g' : Heap} {X : Ex} {G : Gam} (f : FR nm env g X G h) (t : h.get? Pt = some (tabO ps)) (k : But Pt h h') (kg : Grow g' h') (dg : ∀ b, g.get? b = none → g'.get? b = none) : FR nm env g' X G h' := by
  have same : ∀ {j : Nat} {a : AV} {x : Str} {u : Value}, look G j = some a → nm[j]? = some x → Loads env h' x u → Loads env h x u := fun {j a x u} e1 e2 l => by
    obtain ⟨v, l', _⟩ := f.vars j a x e1 e2
    rw [loads_unique l (loads_but t k l')]
    exact l'
  refine ⟨fun j a x e1 e2 => ?_, ?_, fun x c e => ?_, f.apart, fun a ha => ?_, kg, dg _ f.newL, fun x c e => dg _ (f.newC x c e), fun j ds x a e1 e2 l => ?_, fun j j' ds ds' x x' a e1 e1' e2 e2' ne l => ?_⟩
  · obtain ⟨v, l, o⟩ := f.vars j a x e1 e2
    exact ⟨v, loads_but t k l, o.keep (seq_but t k)⟩
  · obtain ⟨m, n⟩ := f.ns
    exact ⟨m, ns_but t k n⟩
  · obtain ⟨v, q⟩ := f.cells x c e
    exact ⟨v, cell_but t k q⟩
  · obtain ⟨its, o, q1, q2, n, q3⟩ := f.dom a ha
    exact ⟨its, o, seq_but t k _ _ _ _ q1 q3, q2, n, q3⟩
  · obtain ⟨q1, q2⟩ := f.own j ds x a e1 e2 (same e1 e2 l)
    exact ⟨q1, dg _ q2⟩
  · exact fun l' => f.uniq j j' ds ds' x x' a e1 e1' e2 e2' ne (same e1 e2 l) (same e1' e2' l')
end

theorem run_tail {P : Par} {fn : Fn} {d : DefRec} {pre rest : List Stmt} {f wf : Nat} {args : List PyData} {G' : Gam} (ok : FnOk P.nm P.nf { d with body := pre } fn) (hbody : d.body = pre ++ rest) (hF : HF P) (hd : P.nf.fs[f]? = some d)
    (hx : exs P.F wf (args.map (fun d => some (AV.val d)) ++ List.replicate (fn.nv - fn.np) none) fn.body = some (G', .next)) (hlen : args.length = fn.np)
    {A : Around} {s : Shared} {X : Ex} {Q : Value → Shared → Prop} {E' : Value → Shared → Prop} {vs : List Value} {a : Addr} (room : Room A (P.n + 1)) (cx : Cx P.nf P.mg P.mb s.heap) (dom : XDom X s.heap) (rs : Rds s.heap X vs args) (ha : P.mg d.name = some (.ref a))
    (k : ∀ (env : Env) (s' : Shared) (X' : Ex) (o : Obj) (pm code doc : Value), s.heap.get? a = some o → o.data = .func (docDef d.name d.params d.body d.scope pm code doc) → env.code = code → env.locals = s.heap.objs.size → env.scope = d.scope →
      FC P (A.deeper env) env s' X X' G' s.heap → Rest s s' → wpAny (model P.prog P.w) (A.deeper env) (execs rest env) (fun f s'' => ∃ v, f = .ret v ∧ Q v s'') (fun _ _ => False) s') : wpAny (model P.prog P.w) A (call (.ref a) vs) Q E' s := by
  refine fn_start ok hd hlen room cx dom rs ha fun env h₁ tk o pm code doc ho hod hcode hL hsc c => ?_
  rw [hbody]
  refine execs_app (ok.body P wf rfl rfl hF hx c hsc fun s' X' fl fr' st' t' fo => ?_)
  cases fl with
  | next =>
    refine wpAny_mono (k env s' X' o pm code doc ho hod hcode hL hsc ⟨c.room, c.eo, cx, fr', st'.sub c.sub, dom⟩ ((Rest.mk' s h₁ tk).trans t')) (fun f s'' h => ?_) fun _ _ e => e.elim
    obtain ⟨v, rfl, q⟩ := h
    exact q
  | _ => cases fo
end Mine
/-! Deep embedding, part V: a sum over a generator expression, in a function that a law calls. -/
set_option autoImplicit false
set_option linter.unusedVariables false
namespace Mine
open PySem PySem.W PyProof.Rows PySem.Calls

noncomputable def dotV (U V : List Int) : Int := ((List.range U.length).map fun (i : Nat) => cellI U i * cellI V i).sum
theorem preSum_map (f : Nat → Int) : ∀ n, preSum f n = ((List.range n).map f).sum
  | 0 => rfl
  | n + 1 => by rw [preSum, preSum_map f n, List.range_succ, List.map_append, List.sum_append]; simp
theorem walks_lt {prog : Program} {w : World} {A : Around} {I : Addr} {fp wr : List Addr} {n : Nat} {P : Nat → Value → Prop} {St : Nat → Heap → Prop} (W : Walks prog w A I fp wr n P St) : Walks prog w A I fp wr n (fun i v => i < n ∧ P i v) St where
  sub := W.sub
  frame := W.frame
  item := fun i s Q E hi st hQ => W.item i s Q E hi st fun v h' tk hP => hQ v h' tk ⟨hi, hP⟩
  done := W.done
  self := W.self
structure SumOk (nm : List Str) (sc gsc : Scope) (ku kv : Nat) (x u v : Str) : Prop where
  gi : GI sc "sum"
  gr : GI sc "range"
  gl : GI sc "len"
  co : gsc.isCoroutine = false
  cell : ∀ z ∈ gsc.names, z.2 ≠ .cell
  free : ∀ z ∈ gsc.names, z.2 = .free → sc.names.lookup z.1 = some .cell
  zero : gsc.names.lookup (".0" : Str) = some NameKind.local
  lx : gsc.names.lookup x = some .local
  lu : gsc.names.lookup u = some .free
  lv : gsc.names.lookup v = some .free
  kind : gsc.kind = .function
  ku : nm[ku]? = some u
  kv : nm[kv]? = some v
  dx : (x == ("__debug__" : Str)) = false
  du : (u == ("__debug__" : Str)) = false
  dv : (v == ("__debug__" : Str)) = false
  cu : (u == ("__classdict__" : Str)) = false
  cv : (v == ("__classdict__" : Str)) = false
theorem sum_gen_ok {P : Par} {sc gsc : Scope} {x u v : Str} {ku kv : Nat} {p1 pu1 px1 ps1 pv1 px2 ps2 bp px pr pl pu2 plc prc gpos pos : Pos} {A : Around} {env : Env} {s : Shared} {X₀ X : Ex} {G : Gam} {g h₁ : Heap} {Q : Value → Shared → Prop} {E' : Value → Shared → Prop} {c Pt bm : Addr} {ob : Obj} {U V : List Int}
    (fc : FC P A env s X₀ X G g) (hs : env.scope = sc) (B : Based h₁ g c Pt #[]) (M : BMod g mainGlobals P.mg bm ob) (hcode : env.code = .ref c) (hab : g.objs.size ≤ env.locals) (hb : AllBare s.gens) (hn : 2 ≤ P.n)
    (o : SumOk P.nm sc gsc ku kv x u v) (hU : look G ku = some (.val (.list (U.map .int)))) (hV : look G kv = some (.val (.list (V.map .int)))) (hl : U.length ≤ V.length) (hz : U.length ≤ 1000) (hbd : ∀ y ∈ V, -18446744073709551616 < y ∧ y < 18446744073709551616)
    (k : ∀ s' ps' t, FR P.nm env (regrown g Pt ps') X G s'.heap → Cx P.nf P.mg P.mb (regrown g Pt ps') → Based h₁ (regrown g Pt ps') c Pt ps' → AllBare s'.gens → s'.os = s.os → Q (.int (dotV U V) t) s') :
    wpAny (model P.prog P.w) A (eval (.Call (.Name "sum" p1) [.GeneratorExp (.BinOp (.Subscript (.Name u pu1) (.Name x px1) ps1) .Mult (.Subscript (.Name v pv1) (.Name x px2) ps2) bp)
      [⟨.Name x px, .Call (.Name "range" pr) [.Call (.Name "len" pl) [.Name u pu2] [] plc] [] prc, [], 0⟩] gsc gpos] [] pos) env) Q E' s := by
  subst hs
  refine call_fn_ok fc.cxt o.gi (by decide) (by decide +kernel) (by decide) (bi1 (id := "sum") rfl ?_)
  obtain ⟨m, hm⟩ := fc.fr.ns
  have F0 : Fr g env.locals s.heap m := ⟨hm, fc.fr.keep, hab⟩
  have tg : g.get? Pt = some (tabO #[]) := B.tab.2
  have ts : s.heap.get? Pt = some (tabO #[]) := fc.fr.keep _ _ tg
  have hclos := closure_eq (scope := gsc) (env := env) fun z hz q => fc.eo.cells _ (o.free z hz q)
  have M' : BMod g env.globals P.mg bm ob := by rw [fc.eo.globals]; exact M
  have hLs : env.locals < s.heap.objs.size := F0.ns.lt
  have cellOf : ∀ {j : Nat} {a : AV} {w : Str}, look G j = some a → P.nm[j]? = some w → gsc.names.lookup w = some .free → ∃ cc val, (clos env.cells gsc.names []).lookup w = some cc ∧ s.heap.IsCell cc (some val) ∧ AvOk s.heap X val a := fun {j a w} e1 e2 e3 => by
    obtain ⟨val, l, av⟩ := fc.fr.vars j a w e1 e2
    have hc := o.free _ (mem_of_lookup e3) rfl
    rcases l with ⟨l1, _⟩ | ⟨_, cc, l2, l3⟩
    · simp only [] at hc
      rw [l1] at hc; cases hc
    · exact ⟨cc, val, clos_lookup (mem_of_lookup e3) l2, l3, av⟩
  obtain ⟨cu, vu, lu, icu, avu⟩ := cellOf hU o.ku o.lu
  obtain ⟨cv, vv, lv, icv, avv⟩ := cellOf hV o.kv o.lv
  refine GeneratorExp_rowsF (L := env.locals) (m := m) B M' hcode rfl fc.room.1 o.co hclos o.cell o.zero o.lx o.kind (by have := fc.room.2.1; omega) ?_ (fun _ => rfl)
  -- the range
  have okLen : Ok P env.scope (.Call (.Name "len" pl) [.Name u pu2] [] plc) (.len (.var ku)) := ok_len o.gl rfl (ok_var o.ku o.du)
  have evLen : ev P.F G (.len (.var ku)) = some (.val (.int U.length)) := by
    simp only [ev, hU, Option.bind_some, BV.d, List.length_map]
  refine call_ty_ok (T := "range") fc.cxt o.gr (by decide) (by decide +kernel) (by decide) (ty1 rfl (okLen evLen fc.cxt rfl fun v1 s1 g1 t1 q1 => ?_))
  obtain ⟨tk1, rfl⟩ := q1.int rfl
  have hcR : 0 < (1 : Int) ∧ (1 : Int) ≤ 1048576 ∧ -2305843009213693952 ≤ (0 : Int) ∧ (0 : Int) ≤ 2305843009213693952 ∧ -2305843009213693952 ≤ (U.length : Int) ∧ (U.length : Int) ≤ 2305843009213693952 := by omega
  obtain ⟨r1, r2⟩ := range_small hcR
  have r3 : (if (0 : Int) < (U.length : Int) then ((U.length : Int) - 0 - 1) / 1 + 1 else 0).toNat = U.length := by split <;> omega
  rw [r3] at r2
  refine call_range_1 (wpAny_pyIter_range (IsRange.new ..) r1 ?_)
  rw [r2]
  dsimp only
  have gs1 : s1.gens = s.gens ∧ s1.os = s.os := by obtain ⟨h, tk, rfl⟩ := t1; exact ⟨rfl, rfl⟩
  have pass : passing (fun _ => true) U.length 0 = List.range U.length := by simp [passing]
  generalize hRo : ({ cls := Value.type "range", data := Data.fields #[Value.int 0 s1.toks, Value.int (U.length : Int) tk1, Value.int 1 (s1.toks + 1)] } : Obj) = Ro
  have gH : Grow s1.heap ((s1.heap.push Ro).push { cls := Value.type "range_iterator", data := Data.fields #[rawInt 0, rawInt (U.length : Int), rawInt 1] }) := (Grow.push _ _).trans (Grow.push _ _)
  have gsH := g1.trans gH
  have hL1 : env.locals < s1.heap.objs.size := (hm.keeps g1).lt
  have hIe : (s1.heap.push Ro).objs.size = s1.heap.objs.size + 1 := size_push' _ _
  have old : ∀ b o, s.heap.get? b = some o → b < s1.heap.objs.size := fun b o e => Heap.lt_size (g1 b o e)
  refine ⟨⟨hm.keeps gsH, fun b o e => gsH b o (fc.fr.keep b o e), hab⟩, by rw [gs1.1]; exact hb, ((fc.cx.keeps fc.fr.keep).keeps gsH).nolimit, s1.heap.objs.size, _, [(s1.heap.push Ro).objs.size], [(s1.heap.push Ro).objs.size], U.length, _, _, fun _ => true, fun i y => i < U.length ∧ ∃ t, y = .int (cellI U i * cellI V i) t,
    Nat.le_of_lt hL1, ?_, rfl, fun A' hA => walks_lt (Walks.range hA _ 0 1 U.length), ?_, ?_, ?_, ?_, ?_, ?_, ?_⟩
  · rw [size_push', hIe]
    exact Nat.lt_succ_of_lt (Nat.lt_succ_self _)
  · have := Heap.get?_push_size (s1.heap.push Ro) (o := { cls := Value.type "range_iterator", data := Data.fields #[rawInt 0, rawInt (U.length : Int), rawInt 1] }) rfl
    simpa [IsRangeIter] using this
  · intro b hb'
    have : b = (s1.heap.push Ro).objs.size := by simpa using hb'
    rw [this, size_push' (s1.heap.push Ro)]
    exact Nat.lt_succ_self _
  · intro hb'
    have : Pt = (s1.heap.push Ro).objs.size := by simpa using hb'
    have h2 := old _ _ ts
    rw [this, hIe] at h2
    exact absurd h2 (Nat.not_lt.mpr (Nat.le_succ _))
  · intro b hb'
    have : b = (s1.heap.push Ro).objs.size := by simpa using hb'
    rw [this, hIe]
    exact Nat.lt_succ_self _
  · intro c' C A' E'' i y t m₂ hA hD hU' hi hF hm2 hLC hk
    exact wpAny_pure ⟨rfl, t.heap, t.toks, rfl, fun _ _ e => e⟩
  · intro c' C A' E'' i y t m₂ hA hD hU' hi _ hF hm2 hLC hk
    obtain ⟨hilt, tki, rfl⟩ := hi
    have kp : But Pt s.heap t.heap := fun b o hb e => hk b o hb (fun q => by
      have : b = (s1.heap.push Ro).objs.size := by simpa using q
      have h2 := old b o e
      rw [this, hIe] at h2
      exact absurd h2 (Nat.not_lt.mpr (Nat.le_succ _))) (gsH b o e)
    have rdU : Rd t.heap X vu (.list (U.map .int)) := Rd.keep avu fun b o xs n e d _ => seq_but ts kp b o xs n e d
    have rdV : Rd t.heap X vv (.list (V.map .int)) := Rd.keep avv fun b o xs n e d _ => seq_but ts kp b o xs n e d
    have icu' := cell_but ts kp icu
    have icv' := cell_but ts kp icv
    have ei : (0 + (i : Int) * 1) = (i : Int) := by omega
    rw [ei] at hm2
    have dU : idxD (.list (U.map .int)) (.int (i : Int)) = some (.int (cellI U i)) := itemD_ints U i (by omega) (by omega)
    have dV : idxD (.list (V.map .int)) (.int (i : Int)) = some (.int (cellI V i)) := itemD_ints V i (by omega) (by omega)
    have hbv := hbd (cellI V i) (by
      have hi' : i < V.length := by omega
      have : cellI V i = V[i] := by simp [cellI, hi']
      rw [this]; exact List.getElem_mem hi')
    refine wpAny_BinOp (Subscript_ (ldFreeG lu icu' (ldVarG hF hm2 (idx_ok (ResOk.opd (h := t.heap) (r := .val _) rdU) (ResOk.opd (h := t.heap) (r := .val _) (Rd.mkInt (X := X) (i : Int) tki)) dU (fun v3 s3 g3 t3 q3 => ?_) fun a b t => rfl) o.kind o.lx o.dx) o.kind o.lu o.du o.cu))
    have F3 : Fr (regrown g Pt (#[] ++ #[rawInt gpos.line, rawInt gpos.col, .ref c'])) C s3.heap m₂ := ⟨hF.ns.keeps g3, fun b o e => g3 b o (hF.keep b o e), hF.above⟩
    refine Subscript_ (ldFreeG lv (icv'.keeps g3) (ldVarG F3 hm2 (idx_ok (ResOk.opd (h := s3.heap) (r := .val _) (Rd.grow rdV g3)) (ResOk.opd (h := s3.heap) (r := .val _) (Rd.mkInt (X := X) (i : Int) tki)) dV (fun v4 s4 g4 t4 q4 => ?_) fun a b t => rfl) o.kind o.lx o.dx) o.kind o.lv o.dv o.cv)
    refine bin_ok (op := .mul) (d := .int (cellI U i)) (e := .int (cellI V i)) (r := .val (.int (cellI U i * cellI V i))) ?_ ((ResOk.opd (r := .val _) q3).grow g4) (ResOk.opd (r := .val _) q4) fun v5 s5 g5 t5 q5 => ?_
    · rw [bd_mul, if_pos (.inr hbv)]
    · obtain ⟨tk5, rfl⟩ := Rd.int' q5
      obtain ⟨h5, tk5', rfl⟩ := (t3.trans t4).trans t5
      exact ⟨⟨hilt, tk5, rfl⟩, h5, tk5', rfl, (g3.trans g4).trans g5⟩
  · intro c' a s₅ B' F' G' hos5 hk5 X5
    refine sum_rowsKA F' G' X5 (Nat.le_of_lt hL1) (fun j => cellI U j * cellI V j) (fun j y hy => ?_) fun s' t' F'' G'' hos' hk' => ?_
    · obtain ⟨i, hi, hlt, tk, rfl⟩ := hy
      rw [pass] at hi
      have : i = j := by
        obtain ⟨h1, h2⟩ := List.getElem?_eq_some_iff.mp hi
        simpa using h2.symm
      subst this
      exact ⟨tk, rfl⟩
    · have e : (passing (fun _ => true) U.length 0).length = U.length := by rw [pass]; simp
      rw [e, preSum_map]
      have bt : But Pt s.heap s'.heap := fun b o hb e => hk' b o (Nat.le_of_lt (old b o e)) (hk5 b o hb (gsH b o e))
      refine k s' _ t' (fc.fr.but ts bt F''.keep fun b hb => ?_) (fc.cx.but tg fun b o hb e => regrown_other _ _ _ b o hb e) B' G'' ((hos'.trans hos5).trans gs1.2)
      unfold regrown
      by_cases q : b = Pt
      · rw [q, tg] at hb; cases hb
      · rw [Heap.get?_update_ne _ _ _ _ q]; exact hb
theorem regrown_none {g : Heap} {Pt : Addr} {ps ps' : Array Value} (tg : g.get? Pt = some (tabO ps)) (b : Addr) (hb : g.get? b = none) : (regrown g Pt ps').get? b = none := by
  unfold regrown
  by_cases q : b = Pt
  · rw [q, tg] at hb; cases hb
  · rw [Heap.get?_update_ne _ _ _ _ q]; exact hb
theorem XDom.but {X : Ex} {h h' : Heap} {Pt : Addr} {ps : Array Value} (x : XDom X h) (t : h.get? Pt = some (tabO ps)) (k : But Pt h h') : XDom X h' := fun a ha => by
  obtain ⟨its, o, q1, q2, n, q3⟩ := x a ha
  exact ⟨its, o, seq_but t k _ _ _ _ q1 q3, q2, n, q3⟩
/-- the statement «y = sum(u[x] * v[x] for x in range(len(u)))» -/
noncomputable def sumSt (y u v x : Str) (gsc : Scope) (p1 pu1 px1 ps1 pv1 px2 ps2 bp px pr pl pu2 plc prc gpos pos py apos : Pos) : Stmt :=
  .Assign [.Name y py] (.Call (.Name "sum" p1) [.GeneratorExp (.BinOp (.Subscript (.Name u pu1) (.Name x px1) ps1) .Mult (.Subscript (.Name v pv1) (.Name x px2) ps2) bp)
      [⟨.Name x px, .Call (.Name "range" pr) [.Call (.Name "len" pl) [.Name u pu2] [] plc] [] prc, [], 0⟩] gsc gpos] [] pos) apos
theorem callH {prog : Program} {w : World} {mg mb : Str → Option Value} {nf : Nf} {fns : List Fn} {n wf f ku kv ky : Nat} {d : DefRec} {nm : List Str} {fn : Fn} {pre post : List Stmt} {postL : List S} {G' G'' : Gam} {U V : List Int} {b : Bool} {y u v x : Str} {gsc : Scope}
    {p1 pu1 px1 ps1 pv1 px2 ps2 bp px pr pl pu2 plc prc gpos pos py apos : Pos} {A : Around} {s : Shared} {X : Ex} {Q : Value → Shared → Prop} {E' : Value → Shared → Prop} {val : Value} {a c Pt bm : Addr} {ob : Obj}
    (hF : HF { prog := prog, w := w, F := callF wf fns n, n := n, nm := nm, nf := nf, mg := mg, mb := mb }) (hd : nf.fs[f]? = some d) (hmg : mg d.name = some (.ref a))
    (okPre : FnOk nm nf { d with body := pre } fn) (hbody : d.body = pre ++ sumSt y u v x gsc p1 pu1 px1 ps1 pv1 px2 ps2 bp px pr pl pu2 plc prc gpos pos py apos :: post)
    (o : SumOk nm d.scope gsc ku kv x u v) (hky : nm[ky]? = some y) (hly : LC d.scope y) (okPost : chkSs nm nf 60 d.scope postL post = true)
    (hpre : exs (callF wf fns n) wf ([PyData.list (U.map .int)].map (fun d => some (AV.val d)) ++ List.replicate (fn.nv - fn.np) none) fn.body = some (G', .next)) (hnp : fn.np = 1)
    (hU : look G' ku = some (.val (.list (U.map .int)))) (hV : look G' kv = some (.val (.list (V.map .int)))) (hl : U.length ≤ V.length) (hz : U.length ≤ 1000) (hbd : ∀ y ∈ V, -18446744073709551616 < y ∧ y < 18446744073709551616)
    (hpost : exs (callF wf fns n) wf (G'.set ky (some (.val (.int (dotV U V))))) postL = some (G'', .ret (.val (.bool b))))
    (room : Room A (n + 1)) (hn2 : 2 ≤ n) (cx : Cx nf mg mb s.heap) (dom : XDom X s.heap) (rd : Rd s.heap X val (.list (U.map .int)))
    (hcd : ∀ o fd, s.heap.get? a = some o → o.data = .func fd → fd.code = .ref c) (B : Based s.heap s.heap c Pt #[]) (M : BMod s.heap mainGlobals mg bm ob) (hb : AllBare s.gens)
    (k : ∀ s' ps', But Pt s.heap s'.heap → s'.heap.IsCode c Pt ps' → s'.heap.TableAt c Pt ps' → AllBare s'.gens → s'.os = s.os → Q (.bool b) s') :
    wpAny (model prog w) A (call (.ref a) [val]) Q E' s := by
  refine run_tail (P := { prog := prog, w := w, F := callF wf fns n, n := n, nm := nm, nf := nf, mg := mg, mb := mb }) (X := X) okPre hbody hF hd hpre (by simp [hnp]) room cx dom (.cons rd .nil) hmg fun env s' X' o' pm code doc ho hod hcode hL hsc fc t => ?_
  have hcd' : env.code = .ref c := hcode.trans (hcd _ _ ho hod)
  have tg : s.heap.get? Pt = some (tabO #[]) := B.tab.2
  have hgo : s'.gens = s.gens ∧ s'.os = s.os := by obtain ⟨h, tk, rfl⟩ := t; exact ⟨rfl, rfl⟩
  refine wpAny_execs_cons (wpAny_Assign_Name (sum_gen_ok (ku := ku) (kv := kv) fc hsc B M hcd' (Nat.le_of_eq hL.symm) (hgo.1 ▸ hb) hn2 o hU hV hl hz hbd fun s5 ps5 t5 fr5 cx5 B5 G5 os5 => ?_) (sw_not rfl _ _ _))
  have fc5 : FC { prog := prog, w := w, F := callF wf fns n, n := n, nm := nm, nf := nf, mg := mg, mb := mb } (A.deeper env) env s5 X X' G' (regrown s.heap Pt ps5) := ⟨fc.room, fc.eo, cx5, fr5, fc.sub, dom.but tg fun b o hb e => regrown_other _ _ _ b o hb e⟩
  refine asg_ok (Q := fun _ s' => wpAny (model prog w) (A.deeper env) (execs post env) (fun f s'' => ∃ v, f = .ret v ∧ Q v s'') (fun _ _ => False) s') (keep := false) okPre.nd fc5 hky (hsc ▸ hly) (Grow.refl _) (Rest.refl _) (r := .val (.int (dotV U V))) (Rd.mkInt _ _) rfl fun h6 tk6 X6 sto6 fr6 st6 _ => ?_
  refine chkSs_ok (P := { prog := prog, w := w, F := callF wf fns n, n := n, nm := nm, nf := nf, mg := mg, mb := mb }) (wf := wf) okPre.nd hF _ _ okPost hpost (X₀ := X) ⟨fc5.room, fc5.eo, cx5, fr6, st6.sub fc5.sub, fc5.dom0⟩ hsc fun s7 X7 fl fr7 st7 t7 fo => ?_
  cases fl with
  | ret v =>
    refine ⟨v, rfl, ?_⟩
    have := Rd.bool' fo
    subst this
    obtain ⟨h7, tk7, rfl⟩ := t7
    exact k _ ps5 (fun b o hb e => fr7.keep b o (regrown_other _ _ _ b o hb e)) (B5.code.keeps fr7.keep) (B5.tab.keeps fr7.keep) G5 (os5.trans hgo.2)
  | _ => cases fo
theorem law_sum {prog : Program} {w : World} {p : Program} {loose : List Str} {mean : ExcName → Option Value} {mg mb : Str → Option Value} {s : Shared} {nf : Nf} {fns : List Fn} {n wf f f' ku kv ky kf kg : Nat} {d d' : DefRec} {fa a : Addr} {vs : List Value} {ns U V : List Int} {b : Bool} {Q : Value → Shared → Prop} {E' : Value → Shared → Prop}
    {nm nm' : List Str} {fn fn' : Fn} {pre post pre' post' : List Stmt} {postL postL' : List S} {G1 G2 G1' G2' : Gam} {y u v x gn un : Str} {gsc : Scope}
    {p1 pu1 px1 ps1 pv1 px2 ps2 bp px pr pl pu2 plc prc gpos pos py apos q1 q2 q3 q4 q5 : Pos}
    (T : Top p loose mean mg mb s.heap) (hnf : ∀ (i : Nat) (d : DefRec), nf.fs[i]? = some d → d ∈ recsOf p)
    (hlit : ∀ q ∈ nf.ls, ∃ a vs, mg q.1 = some (.ref a) ∧ IsTup s.heap a vs.toArray ∧ IntsAre vs q.2)
    (hbi : ∀ x ∈ biNames, x ∉ startupNames ∧ x ∉ loose ∧ x ∉ (recsOf p).map (·.name) ∧ x ∉ (litsOf p).map (·.1) ∧ x ∉ (clssOf p loose).map (·.name))
    (ok : ∀ (f : Nat) (fn : Fn), fns[f]? = some fn → ∃ d nm, nf.fs[f]? = some d ∧ FnOk nm nf d fn) (hd : nf.fs[f]? = some d) (hmg : mg d.name = some (.ref fa)) (hl : s.heap.IsList a vs.toArray) (hnd : NoD s.heap a) (hi : IntsAre vs ns) (hz : ns.length ≤ 63) (hn : n ≤ 98) (hn2 : 2 ≤ n) (hg : s.gens = #[])
    -- the function that is called
    (hd' : nf.fs[f']? = some d') (hfind : (recsOf p).find? (fun e => e.name == d'.name) = some d')
    (okPre' : FnOk nm' nf { d' with body := pre' } fn') (hbody' : d'.body = pre' ++ sumSt y u v x gsc p1 pu1 px1 ps1 pv1 px2 ps2 bp px pr pl pu2 plc prc gpos pos py apos :: post')
    (o : SumOk nm' d'.scope gsc ku kv x u v) (hky : nm'[ky]? = some y) (hly : LC d'.scope y) (okPost' : chkSs nm' nf 60 d'.scope postL' post' = true)
    (hpre' : exs (callF wf fns n) wf ([PyData.list (U.map .int)].map (fun d => some (AV.val d)) ++ List.replicate (fn'.nv - fn'.np) none) fn'.body = some (G1', .next)) (hnp' : fn'.np = 1)
    (hU : look G1' ku = some (.val (.list (U.map .int)))) (hV : look G1' kv = some (.val (.list (V.map .int)))) (hlV : U.length ≤ V.length) (hzU : U.length ≤ 1000) (hbd : ∀ y ∈ V, -18446744073709551616 < y ∧ y < 18446744073709551616)
    (hpost' : exs (callF wf fns n) wf (G1'.set ky (some (.val (.int (dotV U V))))) postL' = some (G2', .ret (.val (.bool b))))
    -- the law
    (okPre : FnOk nm nf { d with body := pre } fn) (hbody : d.body = pre ++ .Assign [.Name gn q1] (.Call (.Name d'.name q2) [.Name un q3] [] q4) q5 :: post)
    (hkf : nm[kf]? = some un) (hdf : (un == ("__debug__" : Str)) = false) (hkg : nm[kg]? = some gn) (hlg : LC d.scope gn) (gi : GI d.scope d'.name) (hdb : (d'.name == ("__debug__" : Str)) = false) (okPost : chkSs nm nf 60 d.scope postL post = true)
    (hpre : exs (callF wf fns (n + 1)) wf ([PyData.list (ns.map .int)].map (fun d => some (AV.val d)) ++ List.replicate (fn.nv - fn.np) none) fn.body = some (G1, .next)) (hnp : fn.np = 1)
    (hlook : look G1 kf = some (.val (.list (U.map .int)))) (hpost : exs (callF wf fns (n + 1)) wf (G1.set kg (some (.val (.bool b)))) postL = some (G2, .ret (.val (.bool true))))
    (k : ∀ (s' : Shared) (g5 : Heap) (c Pt L : Addr) (ps : Array Value) (m : Str → Option Value), Based s.heap g5 c Pt ps → Fr g5 L s'.heap m → AllBare s'.gens → s'.os = s.os → Q (.bool true) s') :
    wpAny (model prog w) callerA (call (.ref fa) [.ref a]) Q E' s := by
  have room : Room callerA (n + 1 + 1) := ⟨rfl, by show 1 + claimMargin + (n + 1 + 1) < recursionLimit; unfold claimMargin recursionLimit; omega, by show 4 + 8 * (n + 1 + 1) + 200 < cLine; rw [cLine_is]; omega⟩
  have hF : HF { prog := prog, w := w, F := callF wf fns (n + 1), n := n + 1, nm := nm, nf := nf, mg := mg, mb := mb } := fun f args r h => callF_sound ok (n + 1) f args r nm _ h
  have hF' : HF { prog := prog, w := w, F := callF wf fns n, n := n, nm := nm', nf := nf, mg := mg, mb := mb } := fun f args r h => callF_sound ok n f args r nm' _ h
  obtain ⟨bm, ob, M⟩ := bmod_of_top T
  have cx0 := cx_of T hnf hlit hbi
  obtain ⟨af, oo, pm, code, doc, m1, m2, m3, m4⟩ := cx0.fn f' d' hd'
  obtain ⟨c, Pt, ec, B⟩ := based_of_top T hfind m1 m2 m3
  have tg : s.heap.get? Pt = some (tabO #[]) := B.tab.2
  refine run_tail (P := { prog := prog, w := w, F := callF wf fns (n + 1), n := n + 1, nm := nm, nf := nf, mg := mg, mb := mb }) (X := fun _ => False) okPre hbody hF hd hpre (by simp [hnp]) room cx0 (fun _ h => h.elim) (.cons ?_ .nil) hmg fun env s' X' o' pm' code' doc' ho hod hcode hL hsc fc t => ?_
  · exact Rd.mkList hl (rds_ints hi) (by rw [List.length_map]; show ns.length ≤ 16777216; omega) id hnd
  · have hgo : s'.gens = #[] ∧ s'.os = s.os := by obtain ⟨h, tk, rfl⟩ := t; exact ⟨hg, rfl⟩
    have keep := fc.fr.keep
    have okArg : OkS { prog := prog, w := w, F := callF wf fns (n + 1), n := n + 1, nm := nm, nf := nf, mg := mg, mb := mb } env.scope [.Name un q3] [.var kf] := okS_cons rfl (ok_var hkf hdf) okS_nil
    have evArg : evs (callF wf fns (n + 1)) G1 [.var kf] = some [.val (.list (U.map .int))] := by simp only [evs, ev, hlook, Option.bind_some, Option.map_some]
    refine wpAny_execs_cons (wpAny_Assign_Name (Call_ (glob_ok fc.eo fc.cxt.cx.g (hsc ▸ gi) hdb m1 (callWith_def (o := oo) (fd := docDef d'.name d'.params d'.body d'.scope pm code doc) m3 (okArg evArg fc.cxt rfl fun vs1 s1 g1 t1 q1 => ⟨g1 _ _ (keep _ _ m2), ?_⟩) (ce_star rfl)))) (sw_not rfl _ _ _))
    have gs1 := keep.trans g1
    cases q1 with
    | cons r1 r2 =>
      cases r2
      have hgo1 : s1.gens = #[] ∧ s1.os = s.os := by obtain ⟨h, tk, rfl⟩ := t1; exact hgo
      have B1 : Based s1.heap s1.heap c Pt #[] := .start (B.code.keeps gs1) (B.tab.keeps gs1) B.notStatics
      refine callH (d := d') (f := f') (nm := nm') (b := b) hF' hd' m1 okPre' hbody' o hky hly okPost' hpre' hnp' hU hV hlV hzU hbd hpost' (by
        have h1 := fc.room
        exact h1) hn2 (cx0.keeps gs1) (fc.fr.dom.grow g1) r1 (fun o2 fd2 e1 e2 => by
          have := (gs1 _ _ m2).symm.trans e1
          cases this
          rw [m3] at e2
          cases e2
          exact ec) B1 (M.keeps gs1) (.of_eq hgo1.1) fun s6 ps6 bt6 hc6 ht6 G6 os6 => ?_
      obtain ⟨m, hm⟩ := fc.fr.ns
      have F0 : Fr s.heap env.locals s'.heap m := ⟨hm, keep, Nat.le_of_eq hL.symm⟩
      have ts : s'.heap.get? Pt = some (tabO #[]) := keep _ _ tg
      have bt : But Pt s'.heap s6.heap := fun b o hb e => bt6 b o hb (g1 b o e)
      obtain ⟨B6, F6⟩ := B.grow (more := ps6) F0 bt (by simpa using hc6) (by simpa using ht6)
      have fr6 := fc.fr.but ts bt F6.keep (regrown_none tg)
      have cx6 : Cx nf mg mb (regrown s.heap Pt (#[] ++ ps6)) := cx0.but tg fun b o hb e => regrown_other _ _ _ b o hb e
      have fc6 : FC { prog := prog, w := w, F := callF wf fns (n + 1), n := n + 1, nm := nm, nf := nf, mg := mg, mb := mb } (callerA.deeper env) env s6 (fun _ => False) X' G1 (regrown s.heap Pt (#[] ++ ps6)) := ⟨fc.room, fc.eo, cx6, fr6, fun _ h => h.elim, fun _ h => h.elim⟩
      refine asg_ok (Q := fun _ s' => wpAny (model prog w) (callerA.deeper env) (execs post env) (fun f s'' => ∃ v, f = .ret v ∧ Q v s'') (fun _ _ => False) s') (keep := false) okPre.nd fc6 hkg (hsc ▸ hlg) (Grow.refl _) (Rest.refl _) (r := .val (.bool b)) (Rd.mkBool _) rfl fun h7 tk7 X7 sto7 fr7 st7 _ => ?_
      refine chkSs_ok (P := { prog := prog, w := w, F := callF wf fns (n + 1), n := n + 1, nm := nm, nf := nf, mg := mg, mb := mb }) (wf := wf) okPre.nd hF _ _ okPost hpost (X₀ := fun _ => False) ⟨fc6.room, fc6.eo, cx6, fr7, fun _ h => h.elim, fc6.dom0⟩ hsc fun s8 X8 fl fr8 st8 t8 fo => ?_
      cases fl with
      | ret v =>
        refine ⟨v, rfl, ?_⟩
        have := Rd.bool' fo
        subst this
        obtain ⟨m8, n8⟩ := fr8.ns
        obtain ⟨h8, tk8, rfl⟩ := t8
        exact k _ _ c Pt env.locals _ m8 B6 ⟨n8, fr8.keep, F6.above⟩ G6 (os6.trans hgo1.2)
      | _ => cases fo
/-! ### the statements' forms, checked -/
noncomputable def kNameIs (z : Str) : Expr → Bool
  | .Name y _ => y == z
  | _ => false
theorem kNameIs_ok {z : Str} {e : Expr} (h : kNameIs z e = true) : ∃ p, e = .Name z p := by
  cases e <;> first | exact (Bool.false_ne_true h).elim | skip
  rename_i y p
  have : y = z := eq_of_beq h
  subst this
  exact ⟨p, rfl⟩
noncomputable def kSubN (f g : Expr → Bool) : Expr → Bool
  | .Subscript a b _ => f a && g b
  | _ => false
theorem kSubN_ok {f g : Expr → Bool} {e : Expr} (h : kSubN f g e = true) : ∃ a b p, e = .Subscript a b p ∧ f a = true ∧ g b = true := by
  cases e <;> first | exact (Bool.false_ne_true h).elim | skip
  rename_i a b p
  replace h : (f a && g b) = true := h
  simp only [Bool.and_eq_true] at h
  exact ⟨a, b, p, rfl, h⟩
noncomputable def kMulN (f g : Expr → Bool) : Expr → Bool
  | .BinOp l op r _ => op == .Mult && f l && g r
  | _ => false
theorem kMulN_ok {f g : Expr → Bool} {e : Expr} (h : kMulN f g e = true) : ∃ a b p, e = .BinOp a .Mult b p ∧ f a = true ∧ g b = true := by
  cases e <;> first | exact (Bool.false_ne_true h).elim | skip
  rename_i a op b p
  replace h : (op == .Mult && f a && g b) = true := h
  simp only [Bool.and_eq_true, beq_iff_eq] at h
  obtain ⟨⟨rfl, h1⟩, h2⟩ := h
  exact ⟨a, b, p, rfl, h1, h2⟩
noncomputable def kApp1 (z : Str) (g : Expr → Bool) : Expr → Bool
  | .Call f [a] [] _ => kNameIs z f && g a
  | _ => false
theorem kApp1_ok {z : Str} {g : Expr → Bool} {e : Expr} (h : kApp1 z g e = true) : ∃ p a q, e = .Call (.Name z p) [a] [] q ∧ g a = true := by
  cases e <;> first | exact (Bool.false_ne_true h).elim | skip
  rename_i fn args kw q
  rcases args with _ | ⟨a, _ | ⟨v_, r_⟩⟩ <;> first | exact (Bool.false_ne_true h).elim | skip
  cases kw <;> first | exact (Bool.false_ne_true h).elim | skip
  replace h : (kNameIs z fn && g a) = true := h
  simp only [Bool.and_eq_true] at h
  obtain ⟨p, rfl⟩ := kNameIs_ok h.1
  exact ⟨p, a, q, rfl, h.2⟩
noncomputable def kGenN (ck : Scope → Bool) (f g h : Expr → Bool) : Expr → Bool
  | .GeneratorExp elt [⟨t, it, ifs, isA⟩] gsc _ => ck gsc && f elt && g t && h it && ifs.isEmpty && isA == 0
  | _ => false
theorem kGenN_ok {ck : Scope → Bool} {f g h : Expr → Bool} {e : Expr} (hh : kGenN ck f g h e = true) : ∃ elt t it gsc p, e = .GeneratorExp elt [⟨t, it, [], 0⟩] gsc p ∧ ck gsc = true ∧ f elt = true ∧ g t = true ∧ h it = true := by
  cases e <;> first | exact (Bool.false_ne_true hh).elim | skip
  rename_i elt gens gsc p
  rcases gens with _ | ⟨⟨t, it, ifs, isA⟩, _ | ⟨v_, r_⟩⟩ <;> first | exact (Bool.false_ne_true hh).elim | skip
  replace hh : (ck gsc && f elt && g t && h it && ifs.isEmpty && isA == 0) = true := hh
  simp only [Bool.and_eq_true, beq_iff_eq, List.isEmpty_iff] at hh
  obtain ⟨⟨⟨⟨⟨h1, h2⟩, h3⟩, h4⟩, rfl⟩, rfl⟩ := hh
  exact ⟨elt, t, it, gsc, p, rfl, h1, h2, h3, h4⟩
noncomputable def kAsg1 (y : Str) (f : Expr → Bool) : Stmt → Bool
  | .Assign [t] v _ => kNameIs y t && f v
  | _ => false
theorem kAsg1_ok {y : Str} {f : Expr → Bool} {st : Stmt} (h : kAsg1 y f st = true) : ∃ p v q, st = .Assign [.Name y p] v q ∧ f v = true := by
  cases st <;> first | exact (Bool.false_ne_true h).elim | skip
  rename_i ts v q
  rcases ts with _ | ⟨t, _ | ⟨v_, r_⟩⟩ <;> first | exact (Bool.false_ne_true h).elim | skip
  replace h : (kNameIs y t && f v) = true := h
  simp only [Bool.and_eq_true] at h
  obtain ⟨p, rfl⟩ := kNameIs_ok h.1
  exact ⟨p, v, q, rfl, h.2⟩
noncomputable def chkSum (nm : List Str) (sc : Scope) (ku kv : Nat) (x u v : Str) (gsc : Scope) : Bool :=
  kGI sc "sum" && kGI sc "range" && kGI sc "len" && !gsc.isCoroutine && (gsc.names.all fun z => z.2 != .cell) && (gsc.names.all fun z => z.2 != .free || sc.names.lookup z.1 == some .cell) && gsc.names.lookup (".0" : Str) == some NameKind.local && gsc.names.lookup x == some NameKind.local &&
    gsc.names.lookup u == some NameKind.free && gsc.names.lookup v == some NameKind.free && gsc.kind == .function && kNm nm ku u && kNm nm kv v && kDb x && kDb u && kDb v && !(u == ("__classdict__" : Str)) && !(v == ("__classdict__" : Str))
theorem chkSum_ok {nm : List Str} {sc gsc : Scope} {ku kv : Nat} {x u v : Str} (h : chkSum nm sc ku kv x u v gsc = true) : SumOk nm sc gsc ku kv x u v := by
  unfold chkSum at h
  simp only [Bool.and_eq_true, beq_iff_eq, Bool.not_eq_true'] at h
  obtain ⟨⟨⟨⟨⟨⟨⟨⟨⟨⟨⟨⟨⟨⟨⟨⟨⟨h1, h2⟩, h3⟩, h4⟩, h5⟩, h6⟩, h7⟩, h8⟩, h9⟩, h10⟩, h11⟩, h12⟩, h13⟩, h14⟩, h15⟩, h16⟩, h17⟩, h18⟩ := h
  refine ⟨kGI_ok h1, kGI_ok h2, kGI_ok h3, h4, fun z hz => ?_, fun z hz hf => ?_, h7, h8, h9, h10, h11, by simpa [kNm] using h12, by simpa [kNm] using h13, kDb_ok h14, kDb_ok h15, kDb_ok h16, h17, h18⟩
  · have := List.all_eq_true.mp h5 z hz
    simpa using this
  · have := List.all_eq_true.mp h6 z hz
    simpa [hf] using this
noncomputable def kSumSt (nm : List Str) (sc : Scope) (ku kv : Nat) (y u v x : Str) : Stmt → Bool :=
  kAsg1 y (kApp1 "sum" (kGenN (chkSum nm sc ku kv x u v) (kMulN (kSubN (kNameIs u) (kNameIs x)) (kSubN (kNameIs v) (kNameIs x))) (kNameIs x) (kApp1 "range" (kApp1 "len" (kNameIs u)))))
theorem kSumSt_ok {nm : List Str} {sc : Scope} {ku kv : Nat} {y u v x : Str} {st : Stmt} (h : kSumSt nm sc ku kv y u v x st = true) :
    ∃ gsc p1 pu1 px1 ps1 pv1 px2 ps2 bp px pr pl pu2 plc prc gpos pos py apos, st = sumSt y u v x gsc p1 pu1 px1 ps1 pv1 px2 ps2 bp px pr pl pu2 plc prc gpos pos py apos ∧ SumOk nm sc gsc ku kv x u v := by
  obtain ⟨py, e1, apos, rfl, ha⟩ := kAsg1_ok h
  obtain ⟨p1, e2, pos, rfl, hb⟩ := kApp1_ok ha
  obtain ⟨elt, t, it, gsc, gpos, rfl, h1, h2, h3, h4⟩ := kGenN_ok hb
  obtain ⟨a, b, bp, rfl, h5, h6⟩ := kMulN_ok h2
  obtain ⟨c, d, ps1, rfl, h7, h8⟩ := kSubN_ok h5
  obtain ⟨c', d', ps2, rfl, h9, h10⟩ := kSubN_ok h6
  obtain ⟨pu1, rfl⟩ := kNameIs_ok h7
  obtain ⟨px1, rfl⟩ := kNameIs_ok h8
  obtain ⟨pv1, rfl⟩ := kNameIs_ok h9
  obtain ⟨px2, rfl⟩ := kNameIs_ok h10
  obtain ⟨px, rfl⟩ := kNameIs_ok h3
  obtain ⟨pr, e3, prc, rfl, hd⟩ := kApp1_ok h4
  obtain ⟨pl, e4, plc, rfl, he⟩ := kApp1_ok hd
  obtain ⟨pu2, rfl⟩ := kNameIs_ok he
  exact ⟨gsc, p1, pu1, px1, ps1, pv1, px2, ps2, bp, px, pr, pl, pu2, plc, prc, gpos, pos, py, apos, rfl, chkSum_ok h1⟩
theorem kCallSt_ok {gn fname un : Str} {st : Stmt} (h : kAsg1 gn (kApp1 fname (kNameIs un)) st = true) : ∃ q1 q2 q3 q4 q5, st = .Assign [.Name gn q1] (.Call (.Name fname q2) [.Name un q3] [] q4) q5 := by
  obtain ⟨q1, e1, q5, rfl, ha⟩ := kAsg1_ok h
  obtain ⟨q2, e2, q4, rfl, hb⟩ := kApp1_ok ha
  obtain ⟨q3, rfl⟩ := kNameIs_ok hb
  exact ⟨q1, q2, q3, q4, q5, rfl⟩
end Mine

set_option Elab.async false
set_option autoImplicit false
set_option maxRecDepth 20000
set_option linter.unusedVariables false
set_option linter.unusedSimpArgs false
set_option maxHeartbeats 4000000
namespace Mine
open PySem
/-- 0:a 1:b -/
noncomputable def f_lighter : Fn := ⟨2, 2, [.ife (.cmp .ne (.idx (.var 0) (.int 0)) (.idx (.var 1) (.int 0))) [.ret (.cmp .lt (.idx (.var 0) (.int 0)) (.idx (.var 1) (.int 0)))] [], .ret (.cmp .lt (.idx (.var 0) (.int 1)) (.idx (.var 1) (.int 1)))]⟩
noncomputable def b_insert_sorted_0 : List S := [.ife (.and (.not (.var 3)) (.call 0 [(.var 1), (.var 4)])) [.app 2 (.var 1), .asg 3 false (.bool true)] [], .app 2 (.var 4)]
/-- 0:forest 1:tree 2:out 3:placed 4:other -/
noncomputable def f_insert_sorted : Fn := ⟨5, 2, [.asg 2 true (.lst []), .asg 3 false (.bool false), .for_ (.one 4) (.ex (.var 0)) b_insert_sorted_0, .ife (.not (.var 3)) [.app 2 (.var 1)] [], .retV 2]⟩
noncomputable def b_huffman_tree_0 : List S := [.ife (.cmp .gt (.idx (.var 0) (.var 2)) (.int 0)) [.asg 1 false (.call 1 [(.var 1), (.tup [(.idx (.var 0) (.var 2)), (.var 2), (.var 2)])])] []]
noncomputable def b_huffman_tree_1 : List S := [.asg 4 false (.idx (.var 1) (.int 0)), .asg 5 false (.idx (.var 1) (.int 1)), .asg 6 false (.tup [(.bin .add (.idx (.var 4) (.int 0)) (.idx (.var 5) (.int 0))), (.min2 (.idx (.var 4) (.int 1)) (.idx (.var 5) (.int 1))), (.var 4), (.var 5)]), .asg 1 false (.call 1 [(.sl (.var 1) (some (.int 2)) none), (.var 6)])]
/-- 0:freq 1:forest 2:symbol 3:_ 4:left 5:right 6:joined -/
noncomputable def f_huffman_tree : Fn := ⟨7, 1, [.asg 1 false (.lst []), .for_ (.one 2) (.rng1 (.len (.var 0))) b_huffman_tree_0, .ife (.cmp .eq (.len (.var 1)) (.int 0)) [.ret .none] [], .for_ (.one 3) (.rng1 (.bin .sub (.len (.var 1)) (.int 1))) b_huffman_tree_1, .ret (.idx (.var 1) (.int 0))]⟩
noncomputable def b_leaf_levels_0 : List S := [.unp [3, 4] (.idx (.var 2) (.neg (.int 1))), .delLast 2, .ife (.cmp .eq (.len (.var 3)) (.int 3)) [.app 1 (.tup [(.idx (.var 3) (.int 2)), (.var 4)])] [.app 2 (.tup [(.idx (.var 3) (.int 3)), (.bin .add (.var 4) (.int 1))]), .app 2 (.tup [(.idx (.var 3) (.int 2)), (.bin .add (.var 4) (.int 1))])]]
/-- 0:tree 1:out 2:stack 3:node 4:level -/
noncomputable def f_leaf_levels : Fn := ⟨5, 1, [.asg 1 true (.lst []), .asg 2 true (.lst [(.tup [(.var 0), (.int 0)])]), .while_ (.cmp .gt (.len (.var 2)) (.int 0)) b_leaf_levels_0, .retV 1]⟩
noncomputable def b_code_lengths_0 : List S := [.setI 1 (.var 3) (.var 4)]
/-- 0:freq 1:lengths 2:tree 3:symbol 4:level -/
noncomputable def f_code_lengths : Fn := ⟨5, 1, [.asg 1 true (.bin .mul (.lst [(.int 0)]) (.len (.var 0))), .asg 2 false (.call 2 [(.var 0)]), .ife (.isC false (.var 2) .none) [.retV 1] [], .ife (.cmp .eq (.len (.var 2)) (.int 3)) [.setI 1 (.idx (.var 2) (.int 2)) (.int 1), .retV 1] [], .for_ (.many [3, 4]) (.ex (.call 3 [(.var 2)])) b_code_lengths_0, .retV 1]⟩
/-- 0:script 1:i -/
noncomputable def f__law_cell : Fn := ⟨2, 2, [.ife (.cmp .lt (.var 1) (.len (.var 0))) [.ret (.idx (.var 0) (.var 1))] [], .ret (.int 1)]⟩
noncomputable def b__law_cost_0 : List S := [.asg 4 false (.bin .add (.idx (.var 1) (.int 0)) (.idx (.var 1) (.int 1))), .asg 2 false (.bin .add (.var 2) (.var 4)), .asg 1 false (.sorted (.bin .add (.sl (.var 1) (some (.int 2)) none) (.lst [(.var 4)])))]
/-- 0:weights 1:row 2:cost 3:_ 4:joined -/
noncomputable def f__law_cost : Fn := ⟨5, 1, [.asg 1 false (.sorted (.var 0)), .ife (.cmp .lt (.len (.var 1)) (.int 2)) [.ret (.sum1 (.var 1))] [], .asg 2 false (.int 0), .for_ (.one 3) (.rng1 (.bin .sub (.len (.var 1)) (.int 1))) b__law_cost_0, .retV 2]⟩
noncomputable def e_law_huffman_beats_equal_lengths_0 : E := (.var 3)
noncomputable def c_law_huffman_beats_equal_lengths_1 : List E := [(.cmp .gt (.var 3) (.int 0))]
noncomputable def b_law_huffman_beats_equal_lengths_2 : List S := [.asg 4 false (.bin .add (.var 4) (.int 1))]
/-- 0:freq 1:lengths 2:present 3:c 4:flat 5:cost 6:i -/
noncomputable def preH : List S := [.asg 1 false (.call 4 [(.var 0)]), .asg 2 false (.len (.comp e_law_huffman_beats_equal_lengths_0 (.one 3) [] (.ex (.var 0)) c_law_huffman_beats_equal_lengths_1)), .asg 4 false (.int 1), .while_ (.cmp .lt (.bin .pow (.int 2) (.var 4)) (.var 2)) b_law_huffman_beats_equal_lengths_2]
noncomputable def postH : List S := [.ret (.cmp .le (.var 5) (.bin .mul (.var 4) (.sum1 (.var 0))))]
noncomputable def fnH : Fn := ⟨7, 1, preH⟩
noncomputable def e_law_0 : E := (.abs (.call 5 [(.var 0), (.bin .add (.int 3) (.var 4))]))
noncomputable def e_law_1 : E := (.bin .mod (.var 5) (.int 6))
noncomputable def e_law_2 : E := (.var 5)
noncomputable def c_law_3 : List E := [(.cmp .gt (.var 5) (.int 0))]
/-- 0:script 1:margin 2:way 3:counts 4:i 5:c 6:freq 7:due 8:some 9:cost 10:flat 11:debt 12:kept 13:got -/
noncomputable def preL : List S := [.asg 1 false (.bin .mod (.call 5 [(.var 0), (.int 1)]) (.int 4)), .asg 2 false (.bin .mod (.call 5 [(.var 0), (.int 2)]) (.int 4)), .asg 3 false (.comp e_law_0 (.one 4) [0] (.rng1 (.bin .mod (.call 5 [(.var 0), (.int 0)]) (.int 10))) []), .ife (.cmp .eq (.bin .mod (.var 2) (.int 2)) (.int 1)) [.asg 3 false (.comp e_law_1 (.one 5) [] (.ex (.var 3)) [])] [], .asg 6 false (.list1 (.var 3)), .asg 7 false (.bool true), .ife (.cmp .gt (.var 1) (.int 0)) [.asg 8 false (.comp e_law_2 (.one 5) [] (.ex (.var 3)) c_law_3), .asg 9 false (.call 6 [(.var 8)]), .asg 10 false (.idx (.data (.tuple [(.int 1), (.int 1), (.int 1), (.int 2), (.int 2), (.int 3), (.int 3), (.int 3), (.int 3), (.int 4)])) (.len (.var 8))), .asg 11 false (.min2 (.int 0) (.bin .sub (.bin .sub (.bin .add (.bin .fdiv (.var 9) (.var 10)) (.var 1)) (.int 2)) (.sum1 (.var 3)))), .ife (.cmp .lt (.var 2) (.int 2)) [.asg 6 false (.bin .add (.lst [(.var 11)]) (.var 3))] [.asg 6 false (.bin .add (.var 3) (.lst [(.var 11)]))], .asg 7 false (.cmp .le (.var 9) (.bin .mul (.var 10) (.sum1 (.var 6))))] [], .asg 12 false (.list1 (.var 6))]
noncomputable def postL : List S := [.ife (.and (.var 7) (.isC true (.var 13) (.bool true))) [.ret (.bool false)] [], .ife (.and (.not (.var 7)) (.isC true (.var 13) (.bool false))) [.ret (.bool false)] [], .ife (.cmp .ne (.var 6) (.var 12)) [.ret (.bool false)] [], .ret (.bool true)]
noncomputable def fnL : Fn := ⟨14, 1, preL⟩
noncomputable def nmsL : List (List Str) := [["a", "b"], ["forest", "tree", "out", "placed", "other"], ["freq", "forest", "symbol", "_", "left", "right", "joined"], ["tree", "out", "stack", "node", "level"], ["freq", "lengths", "tree", "symbol", "level"], ["script", "i"], ["weights", "row", "cost", "_", "joined"]]
noncomputable def nmH : List Str := ["freq", "lengths", "present", "c", "flat", "cost", "i"]
noncomputable def nmL : List Str := ["script", "margin", "way", "counts", "i", "c", "freq", "due", "some", "cost", "flat", "debt", "kept", "got"]
noncomputable def fnsL : List Fn := [f_lighter, f_insert_sorted, f_huffman_tree, f_leaf_levels, f_code_lengths, f__law_cell, f__law_cost]

/-! ### trees -/
inductive T where
  | leaf (w s : Int)
  | node (w s : Int) (l r : T)
noncomputable def T.w : T → Int
  | .leaf w _ => w
  | .node w _ _ _ => w
noncomputable def T.s : T → Int
  | .leaf _ s => s
  | .node _ s _ _ => s
noncomputable def T.enc : T → PyData
  | .leaf w s => .tuple [.int w, .int s, .int s]
  | .node w s l r => .tuple [.int w, .int s, l.enc, r.enc]
noncomputable def T.lt (a b : T) : Bool := if a.w = b.w then decide (a.s < b.s) else decide (a.w < b.w)
theorem enc_0 (t : T) : ∃ r, t.enc = .tuple (.int t.w :: .int t.s :: r) := by
  cases t with
  | leaf w s => exact ⟨_, rfl⟩
  | node w s l r => exact ⟨_, rfl⟩
theorem c_lighter (n wf : Nat) (a b : T) : callF wf fnsL (n + 1) 0 [a.enc, b.enc] = some (.val (.bool (a.lt b))) := by
  rw [callF_at (fn := f_lighter) rfl]
  obtain ⟨r, ha⟩ := enc_0 a
  obtain ⟨q, hb⟩ := enc_0 b
  rw [ha, hb]
  by_cases h : a.w = b.w
  · simp [x_run, x_cons, x_nil, x_ife, v_and, v_or, v_cmp2, v_var, lk_eq, ifO_some, ifO_ite, ifB_bool, ifB_ite, bind_ite, map_ite, asBl_bool, asBl_ite, fold_bool, seqB_next, seqB_ret, seqB_none, finB_none, seqB_ite, finB_ret, finB_next, finB_ite, v_int, v_bool, v_none, v_data, v_bin, v_neg, v_not, v_cmp, v_isC, v_isTy, v_call, v_len, ln_list, ln_tuple, v_abs, v_min2, v_max2, v_max1, v_sum1, v_list1, v_sorted, v_count, ls_list, v_idx, v_sl, v_tup, v_lst, vs_nil, vs_cons, vo_none, vo_some, va_nil, va_cons, vi_rng1, vi_rng2, vi_rng3, vi_ex, v_comp, x_asg, x_unp, x_app, x_del, x_setI, ow_own, x_for, x_while, x_ret, x_fail, fz_var, fz_own, fz_val, fz_r1, fz_r2, fz_r3, fz_call, fz_bin, it_0, it_1, it_2, it_3, sz_0, sz_1, sz_2, sz_3, sz_4, sz_e0, sz_p0, sz_p1, ko_eq, kf_nil, kf_cons, lp_nil, bv_val, bv_own, bv_bor, ib_val, ib_own, ib_bor, fr_val, fr_own, lf_int, lf_bool, lf_none, lf_ints, as_int, as_bool, bd_add, bd_sub, bd_mul, bd_fdivp, bd_modp, bd_pow, bd_cat, bd_rep, cd_lt, cd_le, cd_gt, cd_ge, ix_list, ix_tuple, bo_none, bo_some, bt_one, bt_many, ag_val, ag_own, cmp_eq_int, cmp_ne_int, cmp_eq_ints, cmp_ne_ints, vv_val, vv_own, vr_val, vr_own, x_retV, ck_bool, ck_none, ck_int, ck_tuple, ck_list, ck_nb, ck_bn, ty_int, ty_bool, ty_list, ty_tuple, f_lighter, T.lt, h]
  · simp [x_run, x_cons, x_nil, x_ife, v_and, v_or, v_cmp2, v_var, lk_eq, ifO_some, ifO_ite, ifB_bool, ifB_ite, bind_ite, map_ite, asBl_bool, asBl_ite, fold_bool, seqB_next, seqB_ret, seqB_none, finB_none, seqB_ite, finB_ret, finB_next, finB_ite, v_int, v_bool, v_none, v_data, v_bin, v_neg, v_not, v_cmp, v_isC, v_isTy, v_call, v_len, ln_list, ln_tuple, v_abs, v_min2, v_max2, v_max1, v_sum1, v_list1, v_sorted, v_count, ls_list, v_idx, v_sl, v_tup, v_lst, vs_nil, vs_cons, vo_none, vo_some, va_nil, va_cons, vi_rng1, vi_rng2, vi_rng3, vi_ex, v_comp, x_asg, x_unp, x_app, x_del, x_setI, ow_own, x_for, x_while, x_ret, x_fail, fz_var, fz_own, fz_val, fz_r1, fz_r2, fz_r3, fz_call, fz_bin, it_0, it_1, it_2, it_3, sz_0, sz_1, sz_2, sz_3, sz_4, sz_e0, sz_p0, sz_p1, ko_eq, kf_nil, kf_cons, lp_nil, bv_val, bv_own, bv_bor, ib_val, ib_own, ib_bor, fr_val, fr_own, lf_int, lf_bool, lf_none, lf_ints, as_int, as_bool, bd_add, bd_sub, bd_mul, bd_fdivp, bd_modp, bd_pow, bd_cat, bd_rep, cd_lt, cd_le, cd_gt, cd_ge, ix_list, ix_tuple, bo_none, bo_some, bt_one, bt_many, ag_val, ag_own, cmp_eq_int, cmp_ne_int, cmp_eq_ints, cmp_ne_ints, vv_val, vv_own, vr_val, vr_own, x_retV, ck_bool, ck_none, ck_int, ck_tuple, ck_list, ck_nb, ck_bn, ty_int, ty_bool, ty_list, ty_tuple, f_lighter, T.lt, h]
noncomputable def ins (t : T) : List T → List T
  | [] => [t]
  | o :: r => if t.lt o then t :: o :: r else o :: ins t r
theorem ins_length (t : T) : ∀ l, (ins t l).length = l.length + 1
  | [] => rfl
  | o :: r => by unfold ins; split <;> simp [ins_length t r]
theorem l_insT (n wf : Nat) (t : T) (A : Option AV) : ∀ (l out : List T) (o : Option AV), out.length + l.length < szLine →
    ∃ o', loopB (.one 4) b_insert_sorted_0 (callF wf fnsL (n + 1)) wf (l.map T.enc) [A, some (.val t.enc), some (.own (out.map T.enc)), some (.val (.bool true)), o] = some ([A, some (.val t.enc), some (.own ((out ++ l).map T.enc)), some (.val (.bool true)), o'], .next)
  | [], out, o, _ => ⟨o, by simp [x_run, x_cons, x_nil, x_ife, v_and, v_or, v_cmp2, v_var, lk_eq, ifO_some, ifO_ite, ifB_bool, ifB_ite, bind_ite, map_ite, asBl_bool, asBl_ite, fold_bool, seqB_next, seqB_ret, seqB_none, finB_none, seqB_ite, finB_ret, finB_next, finB_ite, v_int, v_bool, v_none, v_data, v_bin, v_neg, v_not, v_cmp, v_isC, v_isTy, v_call, v_len, ln_list, ln_tuple, v_abs, v_min2, v_max2, v_max1, v_sum1, v_list1, v_sorted, v_count, ls_list, v_idx, v_sl, v_tup, v_lst, vs_nil, vs_cons, vo_none, vo_some, va_nil, va_cons, vi_rng1, vi_rng2, vi_rng3, vi_ex, v_comp, x_asg, x_unp, x_app, x_del, x_setI, ow_own, x_for, x_while, x_ret, x_fail, fz_var, fz_own, fz_val, fz_r1, fz_r2, fz_r3, fz_call, fz_bin, it_0, it_1, it_2, it_3, sz_0, sz_1, sz_2, sz_3, sz_4, sz_e0, sz_p0, sz_p1, ko_eq, kf_nil, kf_cons, lp_nil, bv_val, bv_own, bv_bor, ib_val, ib_own, ib_bor, fr_val, fr_own, lf_int, lf_bool, lf_none, lf_ints, as_int, as_bool, bd_add, bd_sub, bd_mul, bd_fdivp, bd_modp, bd_pow, bd_cat, bd_rep, cd_lt, cd_le, cd_gt, cd_ge, ix_list, ix_tuple, bo_none, bo_some, bt_one, bt_many, ag_val, ag_own, cmp_eq_int, cmp_ne_int, cmp_eq_ints, cmp_ne_ints, vv_val, vv_own, vr_val, vr_own, x_retV, ck_bool, ck_none, ck_int, ck_tuple, ck_list, ck_nb, ck_bn, ty_int, ty_bool, ty_list, ty_tuple, ]⟩
  | x :: r, out, o, h => by
    obtain ⟨o', e⟩ := l_insT n wf t A r (out ++ [x]) (some (.val x.enc)) (by simpa [Nat.add_assoc, Nat.add_comm 1] using h)
    refine ⟨o', ?_⟩
    have hz : out.length < szLine := by simp at h; omega
    rw [List.map_cons, lp_cons, show out ++ x :: r = (out ++ [x]) ++ r by simp, ← e]
    simp [x_run, x_cons, x_nil, x_ife, v_and, v_or, v_cmp2, v_var, lk_eq, ifO_some, ifO_ite, ifB_bool, ifB_ite, bind_ite, map_ite, asBl_bool, asBl_ite, fold_bool, seqB_next, seqB_ret, seqB_none, finB_none, seqB_ite, finB_ret, finB_next, finB_ite, v_int, v_bool, v_none, v_data, v_bin, v_neg, v_not, v_cmp, v_isC, v_isTy, v_call, v_len, ln_list, ln_tuple, v_abs, v_min2, v_max2, v_max1, v_sum1, v_list1, v_sorted, v_count, ls_list, v_idx, v_sl, v_tup, v_lst, vs_nil, vs_cons, vo_none, vo_some, va_nil, va_cons, vi_rng1, vi_rng2, vi_rng3, vi_ex, v_comp, x_asg, x_unp, x_app, x_del, x_setI, ow_own, x_for, x_while, x_ret, x_fail, fz_var, fz_own, fz_val, fz_r1, fz_r2, fz_r3, fz_call, fz_bin, it_0, it_1, it_2, it_3, sz_0, sz_1, sz_2, sz_3, sz_4, sz_e0, sz_p0, sz_p1, ko_eq, kf_nil, kf_cons, lp_nil, bv_val, bv_own, bv_bor, ib_val, ib_own, ib_bor, fr_val, fr_own, lf_int, lf_bool, lf_none, lf_ints, as_int, as_bool, bd_add, bd_sub, bd_mul, bd_fdivp, bd_modp, bd_pow, bd_cat, bd_rep, cd_lt, cd_le, cd_gt, cd_ge, ix_list, ix_tuple, bo_none, bo_some, bt_one, bt_many, ag_val, ag_own, cmp_eq_int, cmp_ne_int, cmp_eq_ints, cmp_ne_ints, vv_val, vv_own, vr_val, vr_own, x_retV, ck_bool, ck_none, ck_int, ck_tuple, ck_list, ck_nb, ck_bn, ty_int, ty_bool, ty_list, ty_tuple, b_insert_sorted_0, hz]
theorem l_insF (n wf : Nat) (t : T) (A : Option AV) : ∀ (l out : List T) (o : Option AV), out.length + l.length + 1 < szLine →
    ∃ o' q p, loopB (.one 4) b_insert_sorted_0 (callF wf fnsL (n + 1)) wf (l.map T.enc) [A, some (.val t.enc), some (.own (out.map T.enc)), some (.val (.bool false)), o] = some ([A, some (.val t.enc), some (.own (q.map T.enc)), some (.val (.bool p)), o'], .next) ∧ (if p then q else q ++ [t]) = out ++ ins t l
  | [], out, o, _ => ⟨o, out, false, by simp [x_run, x_cons, x_nil, x_ife, v_and, v_or, v_cmp2, v_var, lk_eq, ifO_some, ifO_ite, ifB_bool, ifB_ite, bind_ite, map_ite, asBl_bool, asBl_ite, fold_bool, seqB_next, seqB_ret, seqB_none, finB_none, seqB_ite, finB_ret, finB_next, finB_ite, v_int, v_bool, v_none, v_data, v_bin, v_neg, v_not, v_cmp, v_isC, v_isTy, v_call, v_len, ln_list, ln_tuple, v_abs, v_min2, v_max2, v_max1, v_sum1, v_list1, v_sorted, v_count, ls_list, v_idx, v_sl, v_tup, v_lst, vs_nil, vs_cons, vo_none, vo_some, va_nil, va_cons, vi_rng1, vi_rng2, vi_rng3, vi_ex, v_comp, x_asg, x_unp, x_app, x_del, x_setI, ow_own, x_for, x_while, x_ret, x_fail, fz_var, fz_own, fz_val, fz_r1, fz_r2, fz_r3, fz_call, fz_bin, it_0, it_1, it_2, it_3, sz_0, sz_1, sz_2, sz_3, sz_4, sz_e0, sz_p0, sz_p1, ko_eq, kf_nil, kf_cons, lp_nil, bv_val, bv_own, bv_bor, ib_val, ib_own, ib_bor, fr_val, fr_own, lf_int, lf_bool, lf_none, lf_ints, as_int, as_bool, bd_add, bd_sub, bd_mul, bd_fdivp, bd_modp, bd_pow, bd_cat, bd_rep, cd_lt, cd_le, cd_gt, cd_ge, ix_list, ix_tuple, bo_none, bo_some, bt_one, bt_many, ag_val, ag_own, cmp_eq_int, cmp_ne_int, cmp_eq_ints, cmp_ne_ints, vv_val, vv_own, vr_val, vr_own, x_retV, ck_bool, ck_none, ck_int, ck_tuple, ck_list, ck_nb, ck_bn, ty_int, ty_bool, ty_list, ty_tuple, ], by simp [ins]⟩
  | x :: r, out, o, h => by
    have hz : out.length < szLine := by simp at h; omega
    have hz2 : out.length + 1 < szLine := by simp at h; omega
    by_cases hx : t.lt x = true
    · obtain ⟨o', e⟩ := l_insT n wf t A r (out ++ [t] ++ [x]) (some (.val x.enc)) (by simp at h ⊢; omega)
      refine ⟨o', out ++ t :: x :: r, true, ?_, by simp [ins, hx]⟩
      rw [List.map_cons, lp_cons, show out ++ t :: x :: r = (out ++ [t] ++ [x]) ++ r by simp, ← e]
      simp [x_run, x_cons, x_nil, x_ife, v_and, v_or, v_cmp2, v_var, lk_eq, ifO_some, ifO_ite, ifB_bool, ifB_ite, bind_ite, map_ite, asBl_bool, asBl_ite, fold_bool, seqB_next, seqB_ret, seqB_none, finB_none, seqB_ite, finB_ret, finB_next, finB_ite, v_int, v_bool, v_none, v_data, v_bin, v_neg, v_not, v_cmp, v_isC, v_isTy, v_call, v_len, ln_list, ln_tuple, v_abs, v_min2, v_max2, v_max1, v_sum1, v_list1, v_sorted, v_count, ls_list, v_idx, v_sl, v_tup, v_lst, vs_nil, vs_cons, vo_none, vo_some, va_nil, va_cons, vi_rng1, vi_rng2, vi_rng3, vi_ex, v_comp, x_asg, x_unp, x_app, x_del, x_setI, ow_own, x_for, x_while, x_ret, x_fail, fz_var, fz_own, fz_val, fz_r1, fz_r2, fz_r3, fz_call, fz_bin, it_0, it_1, it_2, it_3, sz_0, sz_1, sz_2, sz_3, sz_4, sz_e0, sz_p0, sz_p1, ko_eq, kf_nil, kf_cons, lp_nil, bv_val, bv_own, bv_bor, ib_val, ib_own, ib_bor, fr_val, fr_own, lf_int, lf_bool, lf_none, lf_ints, as_int, as_bool, bd_add, bd_sub, bd_mul, bd_fdivp, bd_modp, bd_pow, bd_cat, bd_rep, cd_lt, cd_le, cd_gt, cd_ge, ix_list, ix_tuple, bo_none, bo_some, bt_one, bt_many, ag_val, ag_own, cmp_eq_int, cmp_ne_int, cmp_eq_ints, cmp_ne_ints, vv_val, vv_own, vr_val, vr_own, x_retV, ck_bool, ck_none, ck_int, ck_tuple, ck_list, ck_nb, ck_bn, ty_int, ty_bool, ty_list, ty_tuple, b_insert_sorted_0, hz, hz2, c_lighter, hx]
    · obtain ⟨o', q, p, e, e'⟩ := l_insF n wf t A r (out ++ [x]) (some (.val x.enc)) (by simp at h ⊢; omega)
      refine ⟨o', q, p, ?_, by rw [e']; simp [ins, hx]⟩
      rw [List.map_cons, lp_cons, ← e]
      simp [x_run, x_cons, x_nil, x_ife, v_and, v_or, v_cmp2, v_var, lk_eq, ifO_some, ifO_ite, ifB_bool, ifB_ite, bind_ite, map_ite, asBl_bool, asBl_ite, fold_bool, seqB_next, seqB_ret, seqB_none, finB_none, seqB_ite, finB_ret, finB_next, finB_ite, v_int, v_bool, v_none, v_data, v_bin, v_neg, v_not, v_cmp, v_isC, v_isTy, v_call, v_len, ln_list, ln_tuple, v_abs, v_min2, v_max2, v_max1, v_sum1, v_list1, v_sorted, v_count, ls_list, v_idx, v_sl, v_tup, v_lst, vs_nil, vs_cons, vo_none, vo_some, va_nil, va_cons, vi_rng1, vi_rng2, vi_rng3, vi_ex, v_comp, x_asg, x_unp, x_app, x_del, x_setI, ow_own, x_for, x_while, x_ret, x_fail, fz_var, fz_own, fz_val, fz_r1, fz_r2, fz_r3, fz_call, fz_bin, it_0, it_1, it_2, it_3, sz_0, sz_1, sz_2, sz_3, sz_4, sz_e0, sz_p0, sz_p1, ko_eq, kf_nil, kf_cons, lp_nil, bv_val, bv_own, bv_bor, ib_val, ib_own, ib_bor, fr_val, fr_own, lf_int, lf_bool, lf_none, lf_ints, as_int, as_bool, bd_add, bd_sub, bd_mul, bd_fdivp, bd_modp, bd_pow, bd_cat, bd_rep, cd_lt, cd_le, cd_gt, cd_ge, ix_list, ix_tuple, bo_none, bo_some, bt_one, bt_many, ag_val, ag_own, cmp_eq_int, cmp_ne_int, cmp_eq_ints, cmp_ne_ints, vv_val, vv_own, vr_val, vr_own, x_retV, ck_bool, ck_none, ck_int, ck_tuple, ck_list, ck_nb, ck_bn, ty_int, ty_bool, ty_list, ty_tuple, b_insert_sorted_0, hz, c_lighter, hx]
theorem c_ins (n wf : Nat) (t : T) (l : List T) (h : l.length + 1 < szLine) : callF wf fnsL (n + 2) 1 [.list (l.map T.enc), t.enc] = some (.own ((ins t l).map T.enc)) := by
  rw [callF_at (fn := f_insert_sorted) rfl]
  obtain ⟨o', q, p, e, e'⟩ := l_insF n wf t (some (.val (.list (l.map T.enc)))) l [] none (by simpa using h)
  have hq : p = false → q.length < szLine := by
    intro hp
    subst hp
    have := congrArg List.length e'
    simp [ins_length] at this
    omega
  simp only [List.nil_append] at e'
  simp only [List.map_nil] at e
  rw [← e']
  cases p with
  | true => simp [x_run, x_cons, x_nil, x_ife, v_and, v_or, v_cmp2, v_var, lk_eq, ifO_some, ifO_ite, ifB_bool, ifB_ite, bind_ite, map_ite, asBl_bool, asBl_ite, fold_bool, seqB_next, seqB_ret, seqB_none, finB_none, seqB_ite, finB_ret, finB_next, finB_ite, v_int, v_bool, v_none, v_data, v_bin, v_neg, v_not, v_cmp, v_isC, v_isTy, v_call, v_len, ln_list, ln_tuple, v_abs, v_min2, v_max2, v_max1, v_sum1, v_list1, v_sorted, v_count, ls_list, v_idx, v_sl, v_tup, v_lst, vs_nil, vs_cons, vo_none, vo_some, va_nil, va_cons, vi_rng1, vi_rng2, vi_rng3, vi_ex, v_comp, x_asg, x_unp, x_app, x_del, x_setI, ow_own, x_for, x_while, x_ret, x_fail, fz_var, fz_own, fz_val, fz_r1, fz_r2, fz_r3, fz_call, fz_bin, it_0, it_1, it_2, it_3, sz_0, sz_1, sz_2, sz_3, sz_4, sz_e0, sz_p0, sz_p1, ko_eq, kf_nil, kf_cons, lp_nil, bv_val, bv_own, bv_bor, ib_val, ib_own, ib_bor, fr_val, fr_own, lf_int, lf_bool, lf_none, lf_ints, as_int, as_bool, bd_add, bd_sub, bd_mul, bd_fdivp, bd_modp, bd_pow, bd_cat, bd_rep, cd_lt, cd_le, cd_gt, cd_ge, ix_list, ix_tuple, bo_none, bo_some, bt_one, bt_many, ag_val, ag_own, cmp_eq_int, cmp_ne_int, cmp_eq_ints, cmp_ne_ints, vv_val, vv_own, vr_val, vr_own, x_retV, ck_bool, ck_none, ck_int, ck_tuple, ck_list, ck_nb, ck_bn, ty_int, ty_bool, ty_list, ty_tuple, f_insert_sorted, e]
  | false => simp [x_run, x_cons, x_nil, x_ife, v_and, v_or, v_cmp2, v_var, lk_eq, ifO_some, ifO_ite, ifB_bool, ifB_ite, bind_ite, map_ite, asBl_bool, asBl_ite, fold_bool, seqB_next, seqB_ret, seqB_none, finB_none, seqB_ite, finB_ret, finB_next, finB_ite, v_int, v_bool, v_none, v_data, v_bin, v_neg, v_not, v_cmp, v_isC, v_isTy, v_call, v_len, ln_list, ln_tuple, v_abs, v_min2, v_max2, v_max1, v_sum1, v_list1, v_sorted, v_count, ls_list, v_idx, v_sl, v_tup, v_lst, vs_nil, vs_cons, vo_none, vo_some, va_nil, va_cons, vi_rng1, vi_rng2, vi_rng3, vi_ex, v_comp, x_asg, x_unp, x_app, x_del, x_setI, ow_own, x_for, x_while, x_ret, x_fail, fz_var, fz_own, fz_val, fz_r1, fz_r2, fz_r3, fz_call, fz_bin, it_0, it_1, it_2, it_3, sz_0, sz_1, sz_2, sz_3, sz_4, sz_e0, sz_p0, sz_p1, ko_eq, kf_nil, kf_cons, lp_nil, bv_val, bv_own, bv_bor, ib_val, ib_own, ib_bor, fr_val, fr_own, lf_int, lf_bool, lf_none, lf_ints, as_int, as_bool, bd_add, bd_sub, bd_mul, bd_fdivp, bd_modp, bd_pow, bd_cat, bd_rep, cd_lt, cd_le, cd_gt, cd_ge, ix_list, ix_tuple, bo_none, bo_some, bt_one, bt_many, ag_val, ag_own, cmp_eq_int, cmp_ne_int, cmp_eq_ints, cmp_ne_ints, vv_val, vv_own, vr_val, vr_own, x_retV, ck_bool, ck_none, ck_int, ck_tuple, ck_list, ck_nb, ck_bn, ty_int, ty_bool, ty_list, ty_tuple, f_insert_sorted, e]; exact hq rfl
/-! ### leaves and their levels -/
noncomputable def levels : T → Int → List (Int × Int)
  | .leaf _ s, d => [(s, d)]
  | .node _ _ l r, d => levels l (d + 1) ++ levels r (d + 1)
noncomputable def T.size : T → Nat
  | .leaf _ _ => 1
  | .node _ _ l r => 1 + l.size + r.size
noncomputable def encL (p : Int × Int) : PyData := .tuple [.int p.1, .int p.2]
noncomputable def encP (p : T × Int) : PyData := .tuple [p.1.enc, .int p.2]
noncomputable def lvs : List (T × Int) → List (Int × Int)
  | [] => []
  | p :: r => levels p.1 p.2 ++ lvs r
noncomputable def tots : List (T × Int) → Nat
  | [] => 0
  | p :: r => p.1.size + tots r
theorem itemD_last (xs : List PyData) (x : PyData) : itemD (xs ++ [x]) (-1) = some x := by
  unfold itemD
  rw [if_neg (by decide), if_pos (by simp; omega)]
  have : (-1 + ((xs ++ [x]).length : Int)).toNat = xs.length := by simp; omega
  rw [this]
  simp
theorem size_pos (t : T) : 0 < t.size := by cases t <;> simp [T.size] <;> omega
theorem l_levels (F : Nat → List PyData → Option BV) (wf : Nat) (A : Option AV) : ∀ (n : Nat) (rs : List (T × Int)) (out : List (Int × Int)) (o o' : Option AV), tots rs < n → rs.length + n < szLine → out.length + n < szLine →
    ∃ p p', whileB (.cmp .gt (.len (.var 2)) (.int 0)) b_leaf_levels_0 F wf n [A, some (.own (out.map encL)), some (.own (rs.reverse.map encP)), o, o'] = some ([A, some (.own ((out ++ lvs rs).map encL)), some (.own []), p, p'], .next)
  | 0, rs, _, _, _, h, _, _ => absurd h (Nat.not_lt_zero _)
  | n + 1, [], out, o, o', h, _, _ => ⟨o, o', by rw [wh_succ]; simp [x_run, x_cons, x_nil, x_ife, v_and, v_or, v_cmp2, v_var, lk_eq, ifO_some, ifO_ite, ifB_bool, ifB_ite, bind_ite, map_ite, asBl_bool, asBl_ite, fold_bool, seqB_next, seqB_ret, seqB_none, finB_none, seqB_ite, finB_ret, finB_next, finB_ite, v_int, v_bool, v_none, v_data, v_bin, v_neg, v_not, v_cmp, v_isC, v_isTy, v_call, v_len, ln_list, ln_tuple, v_abs, v_min2, v_max2, v_max1, v_sum1, v_list1, v_sorted, v_count, ls_list, v_idx, v_sl, v_tup, v_lst, vs_nil, vs_cons, vo_none, vo_some, va_nil, va_cons, vi_rng1, vi_rng2, vi_rng3, vi_ex, v_comp, x_asg, x_unp, x_app, x_del, x_setI, ow_own, x_for, x_while, x_ret, x_fail, fz_var, fz_own, fz_val, fz_r1, fz_r2, fz_r3, fz_call, fz_bin, it_0, it_1, it_2, it_3, sz_0, sz_1, sz_2, sz_3, sz_4, sz_e0, sz_p0, sz_p1, ko_eq, kf_nil, kf_cons, lp_nil, bv_val, bv_own, bv_bor, ib_val, ib_own, ib_bor, fr_val, fr_own, lf_int, lf_bool, lf_none, lf_ints, as_int, as_bool, bd_add, bd_sub, bd_mul, bd_fdivp, bd_modp, bd_pow, bd_cat, bd_rep, cd_lt, cd_le, cd_gt, cd_ge, ix_list, ix_tuple, bo_none, bo_some, bt_one, bt_many, ag_val, ag_own, cmp_eq_int, cmp_ne_int, cmp_eq_ints, cmp_ne_ints, vv_val, vv_own, vr_val, vr_own, x_retV, ck_bool, ck_none, ck_int, ck_tuple, ck_list, ck_nb, ck_bn, ty_int, ty_bool, ty_list, ty_tuple, lvs]⟩
  | n + 1, (.leaf w s, d) :: rest, out, o, o', h, hz, hz' => by
    simp only [tots, T.size] at h
    simp only [List.length_cons] at hz
    obtain ⟨p, p', e⟩ := l_levels F wf A n rest (out ++ [(s, d)]) (some (.val (T.leaf w s).enc)) (some (.val (.int d))) (by omega) (by omega) (by simp; omega)
    refine ⟨p, p', ?_⟩
    have h1 : out.length < szLine := by omega
    have h2 : (0 : Int) < rest.length + 1 := by omega
    rw [wh_succ, show out ++ lvs ((.leaf w s, d) :: rest) = (out ++ [(s, d)]) ++ lvs rest by simp [lvs, levels], ← e]
    simp [x_run, x_cons, x_nil, x_ife, v_and, v_or, v_cmp2, v_var, lk_eq, ifO_some, ifO_ite, ifB_bool, ifB_ite, bind_ite, map_ite, asBl_bool, asBl_ite, fold_bool, seqB_next, seqB_ret, seqB_none, finB_none, seqB_ite, finB_ret, finB_next, finB_ite, v_int, v_bool, v_none, v_data, v_bin, v_neg, v_not, v_cmp, v_isC, v_isTy, v_call, v_len, ln_list, ln_tuple, v_abs, v_min2, v_max2, v_max1, v_sum1, v_list1, v_sorted, v_count, ls_list, v_idx, v_sl, v_tup, v_lst, vs_nil, vs_cons, vo_none, vo_some, va_nil, va_cons, vi_rng1, vi_rng2, vi_rng3, vi_ex, v_comp, x_asg, x_unp, x_app, x_del, x_setI, ow_own, x_for, x_while, x_ret, x_fail, fz_var, fz_own, fz_val, fz_r1, fz_r2, fz_r3, fz_call, fz_bin, it_0, it_1, it_2, it_3, sz_0, sz_1, sz_2, sz_3, sz_4, sz_e0, sz_p0, sz_p1, ko_eq, kf_nil, kf_cons, lp_nil, bv_val, bv_own, bv_bor, ib_val, ib_own, ib_bor, fr_val, fr_own, lf_int, lf_bool, lf_none, lf_ints, as_int, as_bool, bd_add, bd_sub, bd_mul, bd_fdivp, bd_modp, bd_pow, bd_cat, bd_rep, cd_lt, cd_le, cd_gt, cd_ge, ix_list, ix_tuple, bo_none, bo_some, bt_one, bt_many, ag_val, ag_own, cmp_eq_int, cmp_ne_int, cmp_eq_ints, cmp_ne_ints, vv_val, vv_own, vr_val, vr_own, x_retV, ck_bool, ck_none, ck_int, ck_tuple, ck_list, ck_nb, ck_bn, ty_int, ty_bool, ty_list, ty_tuple, b_leaf_levels_0, itemD_last, encP, T.enc, encL, h1, h2]
  | n + 1, (.node w s l r, d) :: rest, out, o, o', h, hz, hz' => by
    simp only [tots, T.size] at h
    simp only [List.length_cons] at hz
    obtain ⟨p, p', e⟩ := l_levels F wf A n ((l, d + 1) :: (r, d + 1) :: rest) out (some (.val (T.node w s l r).enc)) (some (.val (.int d))) (by simp only [tots]; omega) (by simp; have := size_pos l; have := size_pos r; omega) (by omega)
    refine ⟨p, p', ?_⟩
    have h1 : rest.length < szLine := by omega
    have h2 : (0 : Int) < rest.length + 1 := by omega
    have h3 : rest.length + 1 < szLine := by omega
    rw [wh_succ, show out ++ lvs ((.node w s l r, d) :: rest) = out ++ lvs ((l, d + 1) :: (r, d + 1) :: rest) by simp [lvs, levels], ← e]
    simp [x_run, x_cons, x_nil, x_ife, v_and, v_or, v_cmp2, v_var, lk_eq, ifO_some, ifO_ite, ifB_bool, ifB_ite, bind_ite, map_ite, asBl_bool, asBl_ite, fold_bool, seqB_next, seqB_ret, seqB_none, finB_none, seqB_ite, finB_ret, finB_next, finB_ite, v_int, v_bool, v_none, v_data, v_bin, v_neg, v_not, v_cmp, v_isC, v_isTy, v_call, v_len, ln_list, ln_tuple, v_abs, v_min2, v_max2, v_max1, v_sum1, v_list1, v_sorted, v_count, ls_list, v_idx, v_sl, v_tup, v_lst, vs_nil, vs_cons, vo_none, vo_some, va_nil, va_cons, vi_rng1, vi_rng2, vi_rng3, vi_ex, v_comp, x_asg, x_unp, x_app, x_del, x_setI, ow_own, x_for, x_while, x_ret, x_fail, fz_var, fz_own, fz_val, fz_r1, fz_r2, fz_r3, fz_call, fz_bin, it_0, it_1, it_2, it_3, sz_0, sz_1, sz_2, sz_3, sz_4, sz_e0, sz_p0, sz_p1, ko_eq, kf_nil, kf_cons, lp_nil, bv_val, bv_own, bv_bor, ib_val, ib_own, ib_bor, fr_val, fr_own, lf_int, lf_bool, lf_none, lf_ints, as_int, as_bool, bd_add, bd_sub, bd_mul, bd_fdivp, bd_modp, bd_pow, bd_cat, bd_rep, cd_lt, cd_le, cd_gt, cd_ge, ix_list, ix_tuple, bo_none, bo_some, bt_one, bt_many, ag_val, ag_own, cmp_eq_int, cmp_ne_int, cmp_eq_ints, cmp_ne_ints, vv_val, vv_own, vr_val, vr_own, x_retV, ck_bool, ck_none, ck_int, ck_tuple, ck_list, ck_nb, ck_bn, ty_int, ty_bool, ty_list, ty_tuple, b_leaf_levels_0, itemD_last, encP, T.enc, encL, h1, h2, h3]
theorem c_levels (n wf : Nat) (t : T) (h : t.size < wf) (hw : wf < 1000) : callF wf fnsL (n + 1) 3 [t.enc] = some (.own ((levels t 0).map encL)) := by
  rw [callF_at (fn := f_leaf_levels) rfl]
  obtain ⟨p, p', e⟩ := l_levels (callF wf fnsL n) wf (some (.val t.enc)) wf [(t, 0)] [] none none (by simpa [tots] using h) (by simp [szLine]; omega) (by simp [szLine]; omega)
  simp [encP, lvs] at e
  simp [x_run, x_cons, x_nil, x_ife, v_and, v_or, v_cmp2, v_var, lk_eq, ifO_some, ifO_ite, ifB_bool, ifB_ite, bind_ite, map_ite, asBl_bool, asBl_ite, fold_bool, seqB_next, seqB_ret, seqB_none, finB_none, seqB_ite, finB_ret, finB_next, finB_ite, v_int, v_bool, v_none, v_data, v_bin, v_neg, v_not, v_cmp, v_isC, v_isTy, v_call, v_len, ln_list, ln_tuple, v_abs, v_min2, v_max2, v_max1, v_sum1, v_list1, v_sorted, v_count, ls_list, v_idx, v_sl, v_tup, v_lst, vs_nil, vs_cons, vo_none, vo_some, va_nil, va_cons, vi_rng1, vi_rng2, vi_rng3, vi_ex, v_comp, x_asg, x_unp, x_app, x_del, x_setI, ow_own, x_for, x_while, x_ret, x_fail, fz_var, fz_own, fz_val, fz_r1, fz_r2, fz_r3, fz_call, fz_bin, it_0, it_1, it_2, it_3, sz_0, sz_1, sz_2, sz_3, sz_4, sz_e0, sz_p0, sz_p1, ko_eq, kf_nil, kf_cons, lp_nil, bv_val, bv_own, bv_bor, ib_val, ib_own, ib_bor, fr_val, fr_own, lf_int, lf_bool, lf_none, lf_ints, as_int, as_bool, bd_add, bd_sub, bd_mul, bd_fdivp, bd_modp, bd_pow, bd_cat, bd_rep, cd_lt, cd_le, cd_gt, cd_ge, ix_list, ix_tuple, bo_none, bo_some, bt_one, bt_many, ag_val, ag_own, cmp_eq_int, cmp_ne_int, cmp_eq_ints, cmp_ne_ints, vv_val, vv_own, vr_val, vr_own, x_retV, ck_bool, ck_none, ck_int, ck_tuple, ck_list, ck_nb, ck_bn, ty_int, ty_bool, ty_list, ty_tuple, f_leaf_levels, e]
theorem levels_length : ∀ (t : T) (d : Int), 2 * (levels t d).length = t.size + 1
  | .leaf _ _, d => rfl
  | .node _ _ l r, d => by
    have h1 := levels_length l (d + 1)
    have h2 := levels_length r (d + 1)
    simp only [levels, List.length_append, T.size]; omega
/-! ### the Huffman tree -/
noncomputable def joinT (a b : T) : T := .node (a.w + b.w) (if b.s < a.s then b.s else a.s) a b
theorem enc_w (t : T) : idxD t.enc (.int 0) = some (.int t.w) := by obtain ⟨r, e⟩ := enc_0 t; rw [e]; simp [x_run, x_cons, x_nil, x_ife, v_and, v_or, v_cmp2, v_var, lk_eq, ifO_some, ifO_ite, ifB_bool, ifB_ite, bind_ite, map_ite, asBl_bool, asBl_ite, fold_bool, seqB_next, seqB_ret, seqB_none, finB_none, seqB_ite, finB_ret, finB_next, finB_ite, v_int, v_bool, v_none, v_data, v_bin, v_neg, v_not, v_cmp, v_isC, v_isTy, v_call, v_len, ln_list, ln_tuple, v_abs, v_min2, v_max2, v_max1, v_sum1, v_list1, v_sorted, v_count, ls_list, v_idx, v_sl, v_tup, v_lst, vs_nil, vs_cons, vo_none, vo_some, va_nil, va_cons, vi_rng1, vi_rng2, vi_rng3, vi_ex, v_comp, x_asg, x_unp, x_app, x_del, x_setI, ow_own, x_for, x_while, x_ret, x_fail, fz_var, fz_own, fz_val, fz_r1, fz_r2, fz_r3, fz_call, fz_bin, it_0, it_1, it_2, it_3, sz_0, sz_1, sz_2, sz_3, sz_4, sz_e0, sz_p0, sz_p1, ko_eq, kf_nil, kf_cons, lp_nil, bv_val, bv_own, bv_bor, ib_val, ib_own, ib_bor, fr_val, fr_own, lf_int, lf_bool, lf_none, lf_ints, as_int, as_bool, bd_add, bd_sub, bd_mul, bd_fdivp, bd_modp, bd_pow, bd_cat, bd_rep, cd_lt, cd_le, cd_gt, cd_ge, ix_list, ix_tuple, bo_none, bo_some, bt_one, bt_many, ag_val, ag_own, cmp_eq_int, cmp_ne_int, cmp_eq_ints, cmp_ne_ints, vv_val, vv_own, vr_val, vr_own, x_retV, ck_bool, ck_none, ck_int, ck_tuple, ck_list, ck_nb, ck_bn, ty_int, ty_bool, ty_list, ty_tuple, ]
theorem enc_s (t : T) : idxD t.enc (.int 1) = some (.int t.s) := by obtain ⟨r, e⟩ := enc_0 t; rw [e]; simp [x_run, x_cons, x_nil, x_ife, v_and, v_or, v_cmp2, v_var, lk_eq, ifO_some, ifO_ite, ifB_bool, ifB_ite, bind_ite, map_ite, asBl_bool, asBl_ite, fold_bool, seqB_next, seqB_ret, seqB_none, finB_none, seqB_ite, finB_ret, finB_next, finB_ite, v_int, v_bool, v_none, v_data, v_bin, v_neg, v_not, v_cmp, v_isC, v_isTy, v_call, v_len, ln_list, ln_tuple, v_abs, v_min2, v_max2, v_max1, v_sum1, v_list1, v_sorted, v_count, ls_list, v_idx, v_sl, v_tup, v_lst, vs_nil, vs_cons, vo_none, vo_some, va_nil, va_cons, vi_rng1, vi_rng2, vi_rng3, vi_ex, v_comp, x_asg, x_unp, x_app, x_del, x_setI, ow_own, x_for, x_while, x_ret, x_fail, fz_var, fz_own, fz_val, fz_r1, fz_r2, fz_r3, fz_call, fz_bin, it_0, it_1, it_2, it_3, sz_0, sz_1, sz_2, sz_3, sz_4, sz_e0, sz_p0, sz_p1, ko_eq, kf_nil, kf_cons, lp_nil, bv_val, bv_own, bv_bor, ib_val, ib_own, ib_bor, fr_val, fr_own, lf_int, lf_bool, lf_none, lf_ints, as_int, as_bool, bd_add, bd_sub, bd_mul, bd_fdivp, bd_modp, bd_pow, bd_cat, bd_rep, cd_lt, cd_le, cd_gt, cd_ge, ix_list, ix_tuple, bo_none, bo_some, bt_one, bt_many, ag_val, ag_own, cmp_eq_int, cmp_ne_int, cmp_eq_ints, cmp_ne_ints, vv_val, vv_own, vr_val, vr_own, x_retV, ck_bool, ck_none, ck_int, ck_tuple, ck_list, ck_nb, ck_bn, ty_int, ty_bool, ty_list, ty_tuple, ]
noncomputable def stepB (freq : List Int) (f : List T) (k : Nat) : List T := if 0 < cellI freq k then ins (.leaf (cellI freq k) k) f else f
noncomputable def buildK (freq : List Int) (k : Nat) : List T := (List.range k).foldl (stepB freq) []
noncomputable def jstep : List T → List T
  | a :: b :: r => ins (joinT a b) r
  | l => l
noncomputable def joins : Nat → List T → List T
  | 0, f => f
  | n + 1, f => joins n (jstep f)
noncomputable def huff (freq : List Int) : Option T := (joins ((buildK freq freq.length).length - 1) (buildK freq freq.length)).head?
noncomputable def encO : Option T → PyData
  | none => .none
  | some t => t.enc
theorem stepB_len (freq : List Int) (f : List T) (k : Nat) : (stepB freq f k).length ≤ f.length + 1 := by
  unfold stepB; split
  · rw [ins_length]; omega
  · omega
theorem l_build (n wf : Nat) (freq : List Int) (R : Gam) : ∀ (ks : List Nat) (f : List T) (o : Option AV), (∀ k ∈ ks, k < freq.length) → f.length + ks.length + 1 < szLine →
    ∃ o', loopB (.one 2) b_huffman_tree_0 (callF wf fnsL (n + 2)) wf (ks.map fun (i : Nat) => PyData.int i) (some (.val (.list (freq.map .int))) :: some (.val (.list (f.map T.enc))) :: o :: R) =
      some (some (.val (.list (freq.map .int))) :: some (.val (.list ((ks.foldl (stepB freq) f).map T.enc))) :: o' :: R, .next)
  | [], f, o, _, _ => ⟨o, by simp [x_run, x_cons, x_nil, x_ife, v_and, v_or, v_cmp2, v_var, lk_eq, ifO_some, ifO_ite, ifB_bool, ifB_ite, bind_ite, map_ite, asBl_bool, asBl_ite, fold_bool, seqB_next, seqB_ret, seqB_none, finB_none, seqB_ite, finB_ret, finB_next, finB_ite, v_int, v_bool, v_none, v_data, v_bin, v_neg, v_not, v_cmp, v_isC, v_isTy, v_call, v_len, ln_list, ln_tuple, v_abs, v_min2, v_max2, v_max1, v_sum1, v_list1, v_sorted, v_count, ls_list, v_idx, v_sl, v_tup, v_lst, vs_nil, vs_cons, vo_none, vo_some, va_nil, va_cons, vi_rng1, vi_rng2, vi_rng3, vi_ex, v_comp, x_asg, x_unp, x_app, x_del, x_setI, ow_own, x_for, x_while, x_ret, x_fail, fz_var, fz_own, fz_val, fz_r1, fz_r2, fz_r3, fz_call, fz_bin, it_0, it_1, it_2, it_3, sz_0, sz_1, sz_2, sz_3, sz_4, sz_e0, sz_p0, sz_p1, ko_eq, kf_nil, kf_cons, lp_nil, bv_val, bv_own, bv_bor, ib_val, ib_own, ib_bor, fr_val, fr_own, lf_int, lf_bool, lf_none, lf_ints, as_int, as_bool, bd_add, bd_sub, bd_mul, bd_fdivp, bd_modp, bd_pow, bd_cat, bd_rep, cd_lt, cd_le, cd_gt, cd_ge, ix_list, ix_tuple, bo_none, bo_some, bt_one, bt_many, ag_val, ag_own, cmp_eq_int, cmp_ne_int, cmp_eq_ints, cmp_ne_ints, vv_val, vv_own, vr_val, vr_own, x_retV, ck_bool, ck_none, ck_int, ck_tuple, ck_list, ck_nb, ck_bn, ty_int, ty_bool, ty_list, ty_tuple, ]⟩
  | k :: r, f, o, hk, hz => by
    have hl := stepB_len freq f k
    simp only [List.length_cons] at hz
    obtain ⟨o', e⟩ := l_build n wf freq R r (stepB freq f k) (some (.val (.int k))) (fun x hx => hk x (by simp [hx])) (by omega)
    refine ⟨o', ?_⟩
    have hkk : (k : Int) < freq.length := by have := hk k (by simp); omega
    have hi := itemD_ints freq k (by omega) hkk
    rw [List.map_cons, lp_cons, List.foldl_cons, ← e]
    by_cases hp : 0 < cellI freq k
    · have hc := c_ins n wf (.leaf (cellI freq k) k) f (by omega)
      simp only [T.enc] at hc
      simp [x_run, x_cons, x_nil, x_ife, v_and, v_or, v_cmp2, v_var, lk_eq, ifO_some, ifO_ite, ifB_bool, ifB_ite, bind_ite, map_ite, asBl_bool, asBl_ite, fold_bool, seqB_next, seqB_ret, seqB_none, finB_none, seqB_ite, finB_ret, finB_next, finB_ite, v_int, v_bool, v_none, v_data, v_bin, v_neg, v_not, v_cmp, v_isC, v_isTy, v_call, v_len, ln_list, ln_tuple, v_abs, v_min2, v_max2, v_max1, v_sum1, v_list1, v_sorted, v_count, ls_list, v_idx, v_sl, v_tup, v_lst, vs_nil, vs_cons, vo_none, vo_some, va_nil, va_cons, vi_rng1, vi_rng2, vi_rng3, vi_ex, v_comp, x_asg, x_unp, x_app, x_del, x_setI, ow_own, x_for, x_while, x_ret, x_fail, fz_var, fz_own, fz_val, fz_r1, fz_r2, fz_r3, fz_call, fz_bin, it_0, it_1, it_2, it_3, sz_0, sz_1, sz_2, sz_3, sz_4, sz_e0, sz_p0, sz_p1, ko_eq, kf_nil, kf_cons, lp_nil, bv_val, bv_own, bv_bor, ib_val, ib_own, ib_bor, fr_val, fr_own, lf_int, lf_bool, lf_none, lf_ints, as_int, as_bool, bd_add, bd_sub, bd_mul, bd_fdivp, bd_modp, bd_pow, bd_cat, bd_rep, cd_lt, cd_le, cd_gt, cd_ge, ix_list, ix_tuple, bo_none, bo_some, bt_one, bt_many, ag_val, ag_own, cmp_eq_int, cmp_ne_int, cmp_eq_ints, cmp_ne_ints, vv_val, vv_own, vr_val, vr_own, x_retV, ck_bool, ck_none, ck_int, ck_tuple, ck_list, ck_nb, ck_bn, ty_int, ty_bool, ty_list, ty_tuple, b_huffman_tree_0, hi, hp, hc, stepB]
    · simp [x_run, x_cons, x_nil, x_ife, v_and, v_or, v_cmp2, v_var, lk_eq, ifO_some, ifO_ite, ifB_bool, ifB_ite, bind_ite, map_ite, asBl_bool, asBl_ite, fold_bool, seqB_next, seqB_ret, seqB_none, finB_none, seqB_ite, finB_ret, finB_next, finB_ite, v_int, v_bool, v_none, v_data, v_bin, v_neg, v_not, v_cmp, v_isC, v_isTy, v_call, v_len, ln_list, ln_tuple, v_abs, v_min2, v_max2, v_max1, v_sum1, v_list1, v_sorted, v_count, ls_list, v_idx, v_sl, v_tup, v_lst, vs_nil, vs_cons, vo_none, vo_some, va_nil, va_cons, vi_rng1, vi_rng2, vi_rng3, vi_ex, v_comp, x_asg, x_unp, x_app, x_del, x_setI, ow_own, x_for, x_while, x_ret, x_fail, fz_var, fz_own, fz_val, fz_r1, fz_r2, fz_r3, fz_call, fz_bin, it_0, it_1, it_2, it_3, sz_0, sz_1, sz_2, sz_3, sz_4, sz_e0, sz_p0, sz_p1, ko_eq, kf_nil, kf_cons, lp_nil, bv_val, bv_own, bv_bor, ib_val, ib_own, ib_bor, fr_val, fr_own, lf_int, lf_bool, lf_none, lf_ints, as_int, as_bool, bd_add, bd_sub, bd_mul, bd_fdivp, bd_modp, bd_pow, bd_cat, bd_rep, cd_lt, cd_le, cd_gt, cd_ge, ix_list, ix_tuple, bo_none, bo_some, bt_one, bt_many, ag_val, ag_own, cmp_eq_int, cmp_ne_int, cmp_eq_ints, cmp_ne_ints, vv_val, vv_own, vr_val, vr_own, x_retV, ck_bool, ck_none, ck_int, ck_tuple, ck_list, ck_nb, ck_bn, ty_int, ty_bool, ty_list, ty_tuple, b_huffman_tree_0, hi, hp, stepB]
theorem jstep_len {f : List T} (h : 2 ≤ f.length) : (jstep f).length = f.length - 1 := by
  match f, h with
  | a :: b :: r, _ => simp [jstep, ins_length]
theorem joins_len : ∀ (k : Nat) (f : List T), k < f.length → (joins k f).length = f.length - k
  | 0, f, _ => rfl
  | k + 1, f, h => by
    have := jstep_len (f := f) (by omega)
    rw [joins, joins_len k _ (by omega), this]; omega
theorem l_join (n wf : Nat) (A o2 : Option AV) : ∀ (ks : List Nat) (f : List T) (o3 o4 o5 o6 : Option AV), ks.length < f.length → f.length + 1 < szLine →
    ∃ p3 p4 p5 p6, loopB (.one 3) b_huffman_tree_1 (callF wf fnsL (n + 2)) wf (ks.map fun (i : Nat) => PyData.int i) [A, some (.val (.list (f.map T.enc))), o2, o3, o4, o5, o6] =
      some ([A, some (.val (.list ((joins ks.length f).map T.enc))), o2, p3, p4, p5, p6], .next)
  | [], f, o3, o4, o5, o6, _, _ => ⟨o3, o4, o5, o6, by simp [x_run, x_cons, x_nil, x_ife, v_and, v_or, v_cmp2, v_var, lk_eq, ifO_some, ifO_ite, ifB_bool, ifB_ite, bind_ite, map_ite, asBl_bool, asBl_ite, fold_bool, seqB_next, seqB_ret, seqB_none, finB_none, seqB_ite, finB_ret, finB_next, finB_ite, v_int, v_bool, v_none, v_data, v_bin, v_neg, v_not, v_cmp, v_isC, v_isTy, v_call, v_len, ln_list, ln_tuple, v_abs, v_min2, v_max2, v_max1, v_sum1, v_list1, v_sorted, v_count, ls_list, v_idx, v_sl, v_tup, v_lst, vs_nil, vs_cons, vo_none, vo_some, va_nil, va_cons, vi_rng1, vi_rng2, vi_rng3, vi_ex, v_comp, x_asg, x_unp, x_app, x_del, x_setI, ow_own, x_for, x_while, x_ret, x_fail, fz_var, fz_own, fz_val, fz_r1, fz_r2, fz_r3, fz_call, fz_bin, it_0, it_1, it_2, it_3, sz_0, sz_1, sz_2, sz_3, sz_4, sz_e0, sz_p0, sz_p1, ko_eq, kf_nil, kf_cons, lp_nil, bv_val, bv_own, bv_bor, ib_val, ib_own, ib_bor, fr_val, fr_own, lf_int, lf_bool, lf_none, lf_ints, as_int, as_bool, bd_add, bd_sub, bd_mul, bd_fdivp, bd_modp, bd_pow, bd_cat, bd_rep, cd_lt, cd_le, cd_gt, cd_ge, ix_list, ix_tuple, bo_none, bo_some, bt_one, bt_many, ag_val, ag_own, cmp_eq_int, cmp_ne_int, cmp_eq_ints, cmp_ne_ints, vv_val, vv_own, vr_val, vr_own, x_retV, ck_bool, ck_none, ck_int, ck_tuple, ck_list, ck_nb, ck_bn, ty_int, ty_bool, ty_list, ty_tuple, joins]⟩
  | k :: ks, a :: b :: r, o3, o4, o5, o6, h, hz => by
    simp only [List.length_cons] at h hz
    have hl := jstep_len (f := a :: b :: r) (by simp)
    simp only [List.length_cons] at hl
    obtain ⟨p3, p4, p5, p6, e⟩ := l_join n wf A o2 ks (jstep (a :: b :: r)) (some (.val (.int k))) (some (.val a.enc)) (some (.val b.enc)) (some (.val (joinT a b).enc)) (by omega) (by omega)
    refine ⟨p3, p4, p5, p6, ?_⟩
    have hc := c_ins n wf (joinT a b) r (by omega)
    simp only [joinT, T.enc] at hc
    rw [List.map_cons, lp_cons, List.length_cons, joins, ← e]
    simp [x_run, x_cons, x_nil, x_ife, v_and, v_or, v_cmp2, v_var, lk_eq, ifO_some, ifO_ite, ifB_bool, ifB_ite, bind_ite, map_ite, asBl_bool, asBl_ite, fold_bool, seqB_next, seqB_ret, seqB_none, finB_none, seqB_ite, finB_ret, finB_next, finB_ite, v_int, v_bool, v_none, v_data, v_bin, v_neg, v_not, v_cmp, v_isC, v_isTy, v_call, v_len, ln_list, ln_tuple, v_abs, v_min2, v_max2, v_max1, v_sum1, v_list1, v_sorted, v_count, ls_list, v_idx, v_sl, v_tup, v_lst, vs_nil, vs_cons, vo_none, vo_some, va_nil, va_cons, vi_rng1, vi_rng2, vi_rng3, vi_ex, v_comp, x_asg, x_unp, x_app, x_del, x_setI, ow_own, x_for, x_while, x_ret, x_fail, fz_var, fz_own, fz_val, fz_r1, fz_r2, fz_r3, fz_call, fz_bin, it_0, it_1, it_2, it_3, sz_0, sz_1, sz_2, sz_3, sz_4, sz_e0, sz_p0, sz_p1, ko_eq, kf_nil, kf_cons, lp_nil, bv_val, bv_own, bv_bor, ib_val, ib_own, ib_bor, fr_val, fr_own, lf_int, lf_bool, lf_none, lf_ints, as_int, as_bool, bd_add, bd_sub, bd_mul, bd_fdivp, bd_modp, bd_pow, bd_cat, bd_rep, cd_lt, cd_le, cd_gt, cd_ge, ix_list, ix_tuple, bo_none, bo_some, bt_one, bt_many, ag_val, ag_own, cmp_eq_int, cmp_ne_int, cmp_eq_ints, cmp_ne_ints, vv_val, vv_own, vr_val, vr_own, x_retV, ck_bool, ck_none, ck_int, ck_tuple, ck_list, ck_nb, ck_bn, ty_int, ty_bool, ty_list, ty_tuple, b_huffman_tree_1, enc_w, enc_s, joinT, T.enc, jstep, sliceD, hc]
  | k :: ks, [a], _, _, _, _, h, _ => by simp at h
  | k :: ks, [], _, _, _, _, h, _ => by simp at h
theorem c_huff (n wf : Nat) (freq : List Int) (h : freq.length < 1000) : callF wf fnsL (n + 3) 2 [.list (freq.map .int)] = some (.val (encO (huff freq))) := by
  rw [callF_at (fn := f_huffman_tree) rfl]
  obtain ⟨o', e⟩ := l_build n wf freq [none, none, none, none] (List.range freq.length) [] none (by simp) (by simp [szLine]; omega)
  have hr := range_len freq.length (by omega)
  simp only [List.map_nil] at e
  have hb : (List.range freq.length).foldl (stepB freq) [] = buildK freq freq.length := rfl
  have hbl : (buildK freq freq.length).length ≤ freq.length := by
    have : ∀ (ks : List Nat) (f : List T), (ks.foldl (stepB freq) f).length ≤ f.length + ks.length := by
      intro ks
      induction ks with
      | nil => simp
      | cons k r ih => intro f; have := ih (stepB freq f k); have := stepB_len freq f k; simp at *; omega
    have := this (List.range freq.length) []
    simpa [buildK] using this
  rw [hb] at e
  unfold huff
  generalize buildK freq freq.length = f at *
  match f with
  | [] =>
    simp only [List.map_nil] at e
    simp [x_run, x_cons, x_nil, x_ife, v_and, v_or, v_cmp2, v_var, lk_eq, ifO_some, ifO_ite, ifB_bool, ifB_ite, bind_ite, map_ite, asBl_bool, asBl_ite, fold_bool, seqB_next, seqB_ret, seqB_none, finB_none, seqB_ite, finB_ret, finB_next, finB_ite, v_int, v_bool, v_none, v_data, v_bin, v_neg, v_not, v_cmp, v_isC, v_isTy, v_call, v_len, ln_list, ln_tuple, v_abs, v_min2, v_max2, v_max1, v_sum1, v_list1, v_sorted, v_count, ls_list, v_idx, v_sl, v_tup, v_lst, vs_nil, vs_cons, vo_none, vo_some, va_nil, va_cons, vi_rng1, vi_rng2, vi_rng3, vi_ex, v_comp, x_asg, x_unp, x_app, x_del, x_setI, ow_own, x_for, x_while, x_ret, x_fail, fz_var, fz_own, fz_val, fz_r1, fz_r2, fz_r3, fz_call, fz_bin, it_0, it_1, it_2, it_3, sz_0, sz_1, sz_2, sz_3, sz_4, sz_e0, sz_p0, sz_p1, ko_eq, kf_nil, kf_cons, lp_nil, bv_val, bv_own, bv_bor, ib_val, ib_own, ib_bor, fr_val, fr_own, lf_int, lf_bool, lf_none, lf_ints, as_int, as_bool, bd_add, bd_sub, bd_mul, bd_fdivp, bd_modp, bd_pow, bd_cat, bd_rep, cd_lt, cd_le, cd_gt, cd_ge, ix_list, ix_tuple, bo_none, bo_some, bt_one, bt_many, ag_val, ag_own, cmp_eq_int, cmp_ne_int, cmp_eq_ints, cmp_ne_ints, vv_val, vv_own, vr_val, vr_own, x_retV, ck_bool, ck_none, ck_int, ck_tuple, ck_list, ck_nb, ck_bn, ty_int, ty_bool, ty_list, ty_tuple, f_huffman_tree, hr, e, joins, encO]
  | a :: r =>
    simp only [List.length_cons] at hbl
    obtain ⟨p3, p4, p5, p6, e2⟩ := l_join n wf (some (.val (.list (freq.map .int)))) o' (List.range r.length) (a :: r) none none none none (by simp) (by simp [szLine]; omega)
    have hr2 := range_len r.length (by omega)
    have hj := joins_len r.length (a :: r) (by simp)
    rw [List.length_range] at e2
    simp only [List.length_cons, Nat.add_sub_cancel]
    generalize joins r.length (a :: r) = g at *
    match g, hj with
    | t :: _, _ =>
      simp only [List.map_cons] at e e2
      have h0 : ¬ ((r.length : Int) + 1 = 0) := by omega
      have h1 : (r.length : Int) + 1 - 1 = r.length := by omega
      simp [x_run, x_cons, x_nil, x_ife, v_and, v_or, v_cmp2, v_var, lk_eq, ifO_some, ifO_ite, ifB_bool, ifB_ite, bind_ite, map_ite, asBl_bool, asBl_ite, fold_bool, seqB_next, seqB_ret, seqB_none, finB_none, seqB_ite, finB_ret, finB_next, finB_ite, v_int, v_bool, v_none, v_data, v_bin, v_neg, v_not, v_cmp, v_isC, v_isTy, v_call, v_len, ln_list, ln_tuple, v_abs, v_min2, v_max2, v_max1, v_sum1, v_list1, v_sorted, v_count, ls_list, v_idx, v_sl, v_tup, v_lst, vs_nil, vs_cons, vo_none, vo_some, va_nil, va_cons, vi_rng1, vi_rng2, vi_rng3, vi_ex, v_comp, x_asg, x_unp, x_app, x_del, x_setI, ow_own, x_for, x_while, x_ret, x_fail, fz_var, fz_own, fz_val, fz_r1, fz_r2, fz_r3, fz_call, fz_bin, it_0, it_1, it_2, it_3, sz_0, sz_1, sz_2, sz_3, sz_4, sz_e0, sz_p0, sz_p1, ko_eq, kf_nil, kf_cons, lp_nil, bv_val, bv_own, bv_bor, ib_val, ib_own, ib_bor, fr_val, fr_own, lf_int, lf_bool, lf_none, lf_ints, as_int, as_bool, bd_add, bd_sub, bd_mul, bd_fdivp, bd_modp, bd_pow, bd_cat, bd_rep, cd_lt, cd_le, cd_gt, cd_ge, ix_list, ix_tuple, bo_none, bo_some, bt_one, bt_many, ag_val, ag_own, cmp_eq_int, cmp_ne_int, cmp_eq_ints, cmp_ne_ints, vv_val, vv_own, vr_val, vr_own, x_retV, ck_bool, ck_none, ck_int, ck_tuple, ck_list, ck_nb, ck_bn, ty_int, ty_bool, ty_list, ty_tuple, f_huffman_tree, hr, e, h0, h1, hr2, e2, encO]
    | [], hj => simp at hj
/-! ### facts of the tree -/
noncomputable def syms (t : T) : List Int := (levels t 0).map (·.1)
theorem syms_at : ∀ (t : T) (d : Int), (levels t d).map (·.1) = syms t := by
  intro t
  have h : ∀ (t : T) (d e : Int), (levels t d).map (·.1) = (levels t e).map (·.1) := by
    intro t
    induction t with
    | leaf w s => intro d e; rfl
    | node w s l r il ir => intro d e; simp only [levels, List.map_append, il (d + 1) (e + 1), ir (d + 1) (e + 1)]
  exact fun d => h t d 0
theorem syms_join (a b : T) : syms (joinT a b) = syms a ++ syms b := by
  show (levels a (0 + 1) ++ levels b (0 + 1)).map _ = _
  rw [List.map_append, syms_at, syms_at]
noncomputable def symsF : List T → List Int
  | [] => []
  | t :: r => syms t ++ symsF r
theorem symsF_ins (t : T) : ∀ f, (symsF (ins t f)).Perm (syms t ++ symsF f)
  | [] => by simp [ins, symsF]
  | o :: r => by
    unfold ins
    split
    · simp [symsF]
    · simp only [symsF]
      refine ((symsF_ins t r).append_left _).trans ?_
      rw [← List.append_assoc, ← List.append_assoc]
      exact List.perm_append_comm.append_right _
theorem symsF_jstep {f : List T} (h : 2 ≤ f.length) : (symsF (jstep f)).Perm (symsF f) := by
  match f, h with
  | a :: b :: r, _ =>
    refine (symsF_ins _ _).trans ?_
    rw [syms_join, List.append_assoc]
    exact .refl _
theorem symsF_joins : ∀ (k : Nat) (f : List T), k < f.length → (symsF (joins k f)).Perm (symsF f)
  | 0, f, _ => .refl _
  | k + 1, f, h => (symsF_joins k (jstep f) (by rw [jstep_len (by omega)]; omega)).trans (symsF_jstep (by omega))
noncomputable def posL (freq : List Int) (k : Nat) : List Int := ((List.range k).filter fun (i : Nat) => decide (0 < cellI freq i)).map fun (i : Nat) => (i : Int)
theorem build_perm (freq : List Int) : ∀ k, (symsF (buildK freq k)).Perm (posL freq k) ∧ (buildK freq k).length = (posL freq k).length
  | 0 => ⟨.refl _, rfl⟩
  | k + 1 => by
    obtain ⟨h1, h2⟩ := build_perm freq k
    unfold buildK posL at *
    rw [List.range_succ, List.foldl_append, List.filter_append, List.map_append]
    generalize (List.range k).foldl (stepB freq) [] = f at *
    simp only [List.foldl_cons, List.foldl_nil, stepB]
    by_cases hp : 0 < cellI freq k
    · rw [if_pos hp]
      constructor
      · refine (symsF_ins _ _).trans ?_
        refine (List.perm_append_comm).trans ?_
        simp only [List.filter_cons, List.filter_nil, hp, decide_true, if_true, List.map_cons, List.map_nil]
        exact h1.append (.refl _)
      · rw [ins_length]; simp [hp, h2]
    · rw [if_neg hp]
      simp [hp, h1, h2]
theorem posL_nodup (freq : List Int) (k : Nat) : (posL freq k).Nodup := by
  unfold posL
  refine List.Pairwise.map _ (R := fun a b : Nat => a ≠ b) (fun a b h => by omega) ?_
  exact List.Pairwise.filter _ List.nodup_range
theorem posL_mem (freq : List Int) (k : Nat) (x : Int) (h : x ∈ posL freq k) : 0 ≤ x ∧ x < k ∧ 0 < cellI freq x := by
  obtain ⟨i, hi, rfl⟩ := List.mem_map.mp h
  have := List.mem_filter.mp hi
  have h1 : i < k := by simpa using this.1
  have h2 : 0 < cellI freq i := by simpa using this.2
  omega
theorem huff_some {freq : List Int} {t : T} (h : huff freq = some t) : (syms t).Perm (posL freq freq.length) := by
  obtain ⟨h1, h2⟩ := build_perm freq freq.length
  unfold huff at h
  generalize buildK freq freq.length = f at *
  by_cases hz : f.length = 0
  · have : f = [] := List.length_eq_zero_iff.mp hz
    subst this
    simp [joins] at h
  · have hl := joins_len (f.length - 1) f (by omega)
    have hp := symsF_joins (f.length - 1) f (by omega)
    generalize joins (f.length - 1) f = g at *
    match g, hl, h with
    | [t'], _, h =>
      simp at h
      subst h
      simp [symsF] at hp
      exact hp.trans h1
    | [], hl, h => simp at h
    | a :: b :: r, hl, _ => simp at hl; omega
theorem levels_len_syms (t : T) : (levels t 0).length = (syms t).length := by simp [syms]
/-- the code lengths, plainly -/
noncomputable def setL (L : List Int) (p : Int × Int) : List Int := L.set p.1.toNat p.2
noncomputable def lens (freq : List Int) : List Int := match huff freq with
  | none => List.replicate freq.length 0
  | some (.leaf _ s) => (List.replicate freq.length 0).set s.toNat 1
  | some t => (levels t 0).foldl setL (List.replicate freq.length 0)
theorem l_lens (F : Nat → List PyData → Option BV) (wf : Nat) (A B : Option AV) : ∀ (l : List (Int × Int)) (L : List Int) (o o' : Option AV), (∀ p ∈ l, 0 ≤ p.1 ∧ p.1 < L.length) →
    ∃ q q', loopB (.many [3, 4]) b_code_lengths_0 F wf (l.map encL) [A, some (.own (L.map .int)), B, o, o'] = some ([A, some (.own ((l.foldl setL L).map .int)), B, q, q'], .next)
  | [], L, o, o', _ => ⟨o, o', by simp [x_run, x_cons, x_nil, x_ife, v_and, v_or, v_cmp2, v_var, lk_eq, ifO_some, ifO_ite, ifB_bool, ifB_ite, bind_ite, map_ite, asBl_bool, asBl_ite, fold_bool, seqB_next, seqB_ret, seqB_none, finB_none, seqB_ite, finB_ret, finB_next, finB_ite, v_int, v_bool, v_none, v_data, v_bin, v_neg, v_not, v_cmp, v_isC, v_isTy, v_call, v_len, ln_list, ln_tuple, v_abs, v_min2, v_max2, v_max1, v_sum1, v_list1, v_sorted, v_count, ls_list, v_idx, v_sl, v_tup, v_lst, vs_nil, vs_cons, vo_none, vo_some, va_nil, va_cons, vi_rng1, vi_rng2, vi_rng3, vi_ex, v_comp, x_asg, x_unp, x_app, x_del, x_setI, ow_own, x_for, x_while, x_ret, x_fail, fz_var, fz_own, fz_val, fz_r1, fz_r2, fz_r3, fz_call, fz_bin, it_0, it_1, it_2, it_3, sz_0, sz_1, sz_2, sz_3, sz_4, sz_e0, sz_p0, sz_p1, ko_eq, kf_nil, kf_cons, lp_nil, bv_val, bv_own, bv_bor, ib_val, ib_own, ib_bor, fr_val, fr_own, lf_int, lf_bool, lf_none, lf_ints, as_int, as_bool, bd_add, bd_sub, bd_mul, bd_fdivp, bd_modp, bd_pow, bd_cat, bd_rep, cd_lt, cd_le, cd_gt, cd_ge, ix_list, ix_tuple, bo_none, bo_some, bt_one, bt_many, ag_val, ag_own, cmp_eq_int, cmp_ne_int, cmp_eq_ints, cmp_ne_ints, vv_val, vv_own, vr_val, vr_own, x_retV, ck_bool, ck_none, ck_int, ck_tuple, ck_list, ck_nb, ck_bn, ty_int, ty_bool, ty_list, ty_tuple, ]⟩
  | p :: r, L, o, o', h => by
    obtain ⟨q, q', e⟩ := l_lens F wf A B r (setL L p) (some (.val (.int p.1))) (some (.val (.int p.2))) (fun x hx => by have := h x (by simp [hx]); simpa [setL] using this)
    refine ⟨q, q', ?_⟩
    have hp := h p (by simp)
    rw [List.map_cons, lp_cons, List.foldl_cons, ← e]
    simp [x_run, x_cons, x_nil, x_ife, v_and, v_or, v_cmp2, v_var, lk_eq, ifO_some, ifO_ite, ifB_bool, ifB_ite, bind_ite, map_ite, asBl_bool, asBl_ite, fold_bool, seqB_next, seqB_ret, seqB_none, finB_none, seqB_ite, finB_ret, finB_next, finB_ite, v_int, v_bool, v_none, v_data, v_bin, v_neg, v_not, v_cmp, v_isC, v_isTy, v_call, v_len, ln_list, ln_tuple, v_abs, v_min2, v_max2, v_max1, v_sum1, v_list1, v_sorted, v_count, ls_list, v_idx, v_sl, v_tup, v_lst, vs_nil, vs_cons, vo_none, vo_some, va_nil, va_cons, vi_rng1, vi_rng2, vi_rng3, vi_ex, v_comp, x_asg, x_unp, x_app, x_del, x_setI, ow_own, x_for, x_while, x_ret, x_fail, fz_var, fz_own, fz_val, fz_r1, fz_r2, fz_r3, fz_call, fz_bin, it_0, it_1, it_2, it_3, sz_0, sz_1, sz_2, sz_3, sz_4, sz_e0, sz_p0, sz_p1, ko_eq, kf_nil, kf_cons, lp_nil, bv_val, bv_own, bv_bor, ib_val, ib_own, ib_bor, fr_val, fr_own, lf_int, lf_bool, lf_none, lf_ints, as_int, as_bool, bd_add, bd_sub, bd_mul, bd_fdivp, bd_modp, bd_pow, bd_cat, bd_rep, cd_lt, cd_le, cd_gt, cd_ge, ix_list, ix_tuple, bo_none, bo_some, bt_one, bt_many, ag_val, ag_own, cmp_eq_int, cmp_ne_int, cmp_eq_ints, cmp_ne_ints, vv_val, vv_own, vr_val, vr_own, x_retV, ck_bool, ck_none, ck_int, ck_tuple, ck_list, ck_nb, ck_bn, ty_int, ty_bool, ty_list, ty_tuple, b_code_lengths_0, encL, hp.1, hp.2, setL]
theorem flat_zero (n : Nat) : (List.replicate n [PyData.int 0]).flatten = (List.replicate n (0 : Int)).map .int := by
  induction n with
  | zero => rfl
  | succ n ih => rw [List.replicate_succ, List.flatten_cons, ih, List.replicate_succ]; rfl
theorem c_lens (n wf : Nat) (freq : List Int) (h : freq.length < 400) (hs : ∀ t, huff freq = some t → t.size < wf) (hw : wf < 1000) : callF wf fnsL (n + 4) 4 [.list (freq.map .int)] = some (.own ((lens freq).map .int)) := by
  rw [callF_at (fn := f_code_lengths) rfl]
  have hc := c_huff n wf freq (by omega)
  have hz : (freq.length : Int) < 9223372036854775808 := by omega
  have hz' : (-9223372036854775808 : Int) ≤ freq.length := by omega
  have hz2 : freq.length ≤ szLine := by simp [szLine]; omega
  have hm : ∀ t, huff freq = some t → ∀ x ∈ syms t, 0 ≤ x ∧ x < freq.length := fun t ht x hx => by
    have := posL_mem freq freq.length x ((huff_some ht).mem_iff.mp hx)
    exact ⟨this.1, this.2.1⟩
  cases ht : huff freq with
  | none =>
    rw [ht] at hc
    simp [x_run, x_cons, x_nil, x_ife, v_and, v_or, v_cmp2, v_var, lk_eq, ifO_some, ifO_ite, ifB_bool, ifB_ite, bind_ite, map_ite, asBl_bool, asBl_ite, fold_bool, seqB_next, seqB_ret, seqB_none, finB_none, seqB_ite, finB_ret, finB_next, finB_ite, v_int, v_bool, v_none, v_data, v_bin, v_neg, v_not, v_cmp, v_isC, v_isTy, v_call, v_len, ln_list, ln_tuple, v_abs, v_min2, v_max2, v_max1, v_sum1, v_list1, v_sorted, v_count, ls_list, v_idx, v_sl, v_tup, v_lst, vs_nil, vs_cons, vo_none, vo_some, va_nil, va_cons, vi_rng1, vi_rng2, vi_rng3, vi_ex, v_comp, x_asg, x_unp, x_app, x_del, x_setI, ow_own, x_for, x_while, x_ret, x_fail, fz_var, fz_own, fz_val, fz_r1, fz_r2, fz_r3, fz_call, fz_bin, it_0, it_1, it_2, it_3, sz_0, sz_1, sz_2, sz_3, sz_4, sz_e0, sz_p0, sz_p1, ko_eq, kf_nil, kf_cons, lp_nil, bv_val, bv_own, bv_bor, ib_val, ib_own, ib_bor, fr_val, fr_own, lf_int, lf_bool, lf_none, lf_ints, as_int, as_bool, bd_add, bd_sub, bd_mul, bd_fdivp, bd_modp, bd_pow, bd_cat, bd_rep, cd_lt, cd_le, cd_gt, cd_ge, ix_list, ix_tuple, bo_none, bo_some, bt_one, bt_many, ag_val, ag_own, cmp_eq_int, cmp_ne_int, cmp_eq_ints, cmp_ne_ints, vv_val, vv_own, vr_val, vr_own, x_retV, ck_bool, ck_none, ck_int, ck_tuple, ck_list, ck_nb, ck_bn, ty_int, ty_bool, ty_list, ty_tuple, f_code_lengths, hz, hz', hz2, hc, encO, flat_zero, lens, ht]
  | some t =>
    rw [ht] at hc
    have hm := hm t ht
    cases t with
    | leaf w s =>
      have hs2 := hm s (by simp [syms, levels])
      simp only [encO, T.enc] at hc
      simp [x_run, x_cons, x_nil, x_ife, v_and, v_or, v_cmp2, v_var, lk_eq, ifO_some, ifO_ite, ifB_bool, ifB_ite, bind_ite, map_ite, asBl_bool, asBl_ite, fold_bool, seqB_next, seqB_ret, seqB_none, finB_none, seqB_ite, finB_ret, finB_next, finB_ite, v_int, v_bool, v_none, v_data, v_bin, v_neg, v_not, v_cmp, v_isC, v_isTy, v_call, v_len, ln_list, ln_tuple, v_abs, v_min2, v_max2, v_max1, v_sum1, v_list1, v_sorted, v_count, ls_list, v_idx, v_sl, v_tup, v_lst, vs_nil, vs_cons, vo_none, vo_some, va_nil, va_cons, vi_rng1, vi_rng2, vi_rng3, vi_ex, v_comp, x_asg, x_unp, x_app, x_del, x_setI, ow_own, x_for, x_while, x_ret, x_fail, fz_var, fz_own, fz_val, fz_r1, fz_r2, fz_r3, fz_call, fz_bin, it_0, it_1, it_2, it_3, sz_0, sz_1, sz_2, sz_3, sz_4, sz_e0, sz_p0, sz_p1, ko_eq, kf_nil, kf_cons, lp_nil, bv_val, bv_own, bv_bor, ib_val, ib_own, ib_bor, fr_val, fr_own, lf_int, lf_bool, lf_none, lf_ints, as_int, as_bool, bd_add, bd_sub, bd_mul, bd_fdivp, bd_modp, bd_pow, bd_cat, bd_rep, cd_lt, cd_le, cd_gt, cd_ge, ix_list, ix_tuple, bo_none, bo_some, bt_one, bt_many, ag_val, ag_own, cmp_eq_int, cmp_ne_int, cmp_eq_ints, cmp_ne_ints, vv_val, vv_own, vr_val, vr_own, x_retV, ck_bool, ck_none, ck_int, ck_tuple, ck_list, ck_nb, ck_bn, ty_int, ty_bool, ty_list, ty_tuple, f_code_lengths, hz, hz', hz2, hc, flat_zero, lens, ht, hs2.1, hs2.2]
    | node w s l r =>
      have hl := c_levels (n + 2) wf (.node w s l r) (hs _ ht) hw
      obtain ⟨q, q', e⟩ := l_lens (callF wf fnsL (n + 3)) wf (some (.val (.list (freq.map .int)))) (some (.val (T.node w s l r).enc)) (levels (.node w s l r) 0) (List.replicate freq.length 0) none none (fun p hp => by
        have := hm p.1 (List.mem_map.mpr ⟨p, hp, rfl⟩)
        simpa using this)
      simp only [encO, T.enc] at hc
      simp only [T.enc, List.map_replicate] at e hl
      simp [x_run, x_cons, x_nil, x_ife, v_and, v_or, v_cmp2, v_var, lk_eq, ifO_some, ifO_ite, ifB_bool, ifB_ite, bind_ite, map_ite, asBl_bool, asBl_ite, fold_bool, seqB_next, seqB_ret, seqB_none, finB_none, seqB_ite, finB_ret, finB_next, finB_ite, v_int, v_bool, v_none, v_data, v_bin, v_neg, v_not, v_cmp, v_isC, v_isTy, v_call, v_len, ln_list, ln_tuple, v_abs, v_min2, v_max2, v_max1, v_sum1, v_list1, v_sorted, v_count, ls_list, v_idx, v_sl, v_tup, v_lst, vs_nil, vs_cons, vo_none, vo_some, va_nil, va_cons, vi_rng1, vi_rng2, vi_rng3, vi_ex, v_comp, x_asg, x_unp, x_app, x_del, x_setI, ow_own, x_for, x_while, x_ret, x_fail, fz_var, fz_own, fz_val, fz_r1, fz_r2, fz_r3, fz_call, fz_bin, it_0, it_1, it_2, it_3, sz_0, sz_1, sz_2, sz_3, sz_4, sz_e0, sz_p0, sz_p1, ko_eq, kf_nil, kf_cons, lp_nil, bv_val, bv_own, bv_bor, ib_val, ib_own, ib_bor, fr_val, fr_own, lf_int, lf_bool, lf_none, lf_ints, as_int, as_bool, bd_add, bd_sub, bd_mul, bd_fdivp, bd_modp, bd_pow, bd_cat, bd_rep, cd_lt, cd_le, cd_gt, cd_ge, ix_list, ix_tuple, bo_none, bo_some, bt_one, bt_many, ag_val, ag_own, cmp_eq_int, cmp_ne_int, cmp_eq_ints, cmp_ne_ints, vv_val, vv_own, vr_val, vr_own, x_retV, ck_bool, ck_none, ck_int, ck_tuple, ck_list, ck_nb, ck_bn, ty_int, ty_bool, ty_list, ty_tuple, f_code_lengths, hz, hz', hz2, hc, flat_zero, lens, ht, hl, e]
/-! ### Kraft's sum -/
theorem mem_fold : ∀ (l : List (Int × Int)) (L : List Int) (n : Int), n ∈ l.foldl setL L → n ∈ L ∨ ∃ p ∈ l, n = p.2
  | [], L, n, h => .inl h
  | p :: r, L, n, h => by
    rcases mem_fold r (setL L p) n h with q | ⟨p', hp', e⟩
    · rcases List.mem_or_eq_of_mem_set q with q | q
      · exact .inl q
      · exact .inr ⟨p, by simp, q⟩
    · exact .inr ⟨p', by simp [hp'], e⟩
theorem fold_off (i : Nat) : ∀ (l : List (Int × Int)) (L : List Int), (∀ p ∈ l, p.1.toNat ≠ i) → (l.foldl setL L)[i]? = L[i]?
  | [], L, _ => rfl
  | p :: r, L, h => by
    rw [List.foldl_cons, fold_off i r _ fun q hq => h q (by simp [hq]), show setL L p = L.set p.1.toNat p.2 from rfl, List.getElem?_set_ne (h p (by simp))]
theorem fold_at : ∀ (l : List (Int × Int)) (L : List Int), (l.map (·.1)).Nodup → (∀ p ∈ l, 0 ≤ p.1 ∧ p.1 < L.length) → ∀ p ∈ l, (l.foldl setL L)[p.1.toNat]? = some p.2
  | q :: r, L, hn, h, p, hp => by
    simp only [List.map_cons, List.nodup_cons] at hn
    rw [List.foldl_cons]
    rcases List.mem_cons.mp hp with e | hp
    · subst e
      have hp := h p (by simp)
      rw [fold_off _ r _ fun x hx => ?_]
      · rw [show setL L p = L.set p.1.toNat p.2 from rfl, List.getElem?_set_self (by omega)]
      · intro e
        have hx' := h x (by simp [hx])
        have : x.1 = p.1 := by omega
        exact hn.1 (this ▸ List.mem_map.mpr ⟨x, hx, rfl⟩)
    · exact fold_at r _ hn.2 (fun x hx => by have := h x (by simp [hx]); simpa [setL] using this) p hp
theorem levels_bd : ∀ (t : T) (d : Int) (p : Int × Int), p ∈ levels t d → d ≤ p.2 ∧ 2 * (p.2 - d) + 1 ≤ t.size
  | .leaf w s, d, p, h => by simp [levels] at h; subst h; simp [T.size]
  | .node w s l r, d, p, h => by
    have h1 := size_pos l
    have h2 := size_pos r
    simp only [levels, List.mem_append] at h
    simp only [T.size]
    rcases h with h | h
    · have := levels_bd l (d + 1) p h; omega
    · have := levels_bd r (d + 1) p h; omega
theorem freq_eq (freq : List Int) : freq = (List.range freq.length).map fun (i : Nat) => cellI freq i := by
  refine List.ext_getElem (by simp) fun i h1 h2 => ?_
  simp only [List.getElem_map, List.getElem_range]
  unfold cellI
  rw [if_pos (by omega)]
  simp [h1]
theorem pos_count (freq : List Int) : (posL freq freq.length).length = (freq.filter fun c => decide (0 < c)).length := by
  conv => rhs; rw [freq_eq freq]
  rw [List.filter_map, List.length_map]
  unfold posL
  rw [List.length_map]
  rfl
theorem huff_size {freq : List Int} {t : T} (h : huff freq = some t) : t.size + 1 = 2 * (freq.filter fun c => decide (0 < c)).length := by
  rw [← pos_count, ← (huff_some h).length_eq, ← levels_len_syms, levels_length]
theorem lens_mem {freq : List Int} {n : Int} (h : n ∈ lens freq) : n = 0 ∨ (n = 1 ∧ ∃ w s, huff freq = some (.leaf w s)) ∨ ∃ t p, huff freq = some t ∧ p ∈ levels t 0 ∧ n = p.2 := by
  unfold lens at h
  cases ht : huff freq with
  | none => rw [ht] at h; exact .inl (List.eq_of_mem_replicate h)
  | some t =>
    rw [ht] at h
    cases t with
    | leaf w s =>
      rcases List.mem_or_eq_of_mem_set h with q | q
      · exact .inl (List.eq_of_mem_replicate q)
      · exact .inr (.inl ⟨q, w, s, rfl⟩)
    | node w s l r =>
      rcases mem_fold _ _ _ h with q | ⟨p, hp, q⟩
      · exact .inl (List.eq_of_mem_replicate q)
      · exact .inr (.inr ⟨_, p, rfl, hp, q⟩)
theorem lens_bd {freq : List Int} {n : Int} (h : n ∈ lens freq) : 0 ≤ n ∧ n ≤ freq.length := by
  have hc : (freq.filter fun c => decide (0 < c)).length ≤ freq.length := List.length_filter_le _ _
  rcases lens_mem h with rfl | ⟨rfl, w, s, e⟩ | ⟨t, p, e, hp, rfl⟩
  · omega
  · have := huff_size e; simp only [T.size] at this; omega
  · have := huff_size e
    have := levels_bd t 0 p hp
    omega
/-! ### the order of trees -/
noncomputable def kT (t : T) : Int × Int := (t.w, t.s)
theorem lt_kT (a b : T) : a.lt b = ltP (kT a) (kT b) := rfl
theorem ins_kT (t : T) : ∀ l, ins t l = insB kT t l
  | [] => rfl
  | o :: r => by simp only [ins, insB, lt_kT, ins_kT t r]
/-- a forest: sorted, no two trees with the same least symbol -/
structure Fst (f : List T) : Prop where
  srt : SrtP (f.map kT)
  nod : (f.map T.s).Nodup
theorem ne_kT {a b : T} (h : a.s ≠ b.s) : kT a ≠ kT b := fun e => h (Prod.ext_iff.mp e).2
theorem Fst.ins {f : List T} (h : Fst f) {t : T} (ht : ∀ x ∈ f, x.s ≠ t.s) : Fst (ins t f) := by
  rw [ins_kT]
  refine ⟨insB_srt kT t f h.srt fun y hy => ne_kT fun e => ht y hy e.symm, ?_⟩
  refine (((insB_perm kT t f).map T.s).nodup_iff).mpr ?_
  simp only [List.map_cons, List.nodup_cons]
  refine ⟨fun hm => ?_, h.nod⟩
  obtain ⟨x, hx, e⟩ := List.mem_map.mp hm
  exact ht x hx e
theorem Fst.tail {a : T} {f : List T} (h : Fst (a :: f)) : Fst f := ⟨(List.pairwise_cons.mp h.srt).2, (List.nodup_cons.mp h.nod).2⟩
theorem joinT_s (a b : T) : (joinT a b).s = a.s ∨ (joinT a b).s = b.s := by
  show (if b.s < a.s then b.s else a.s) = _ ∨ (if b.s < a.s then b.s else a.s) = _
  split
  · exact .inr rfl
  · exact .inl rfl
theorem Fst.jstep {a b : T} {r : List T} (h : Fst (a :: b :: r)) : Fst (jstep (a :: b :: r)) := by
  refine h.tail.tail.ins fun x hx e => ?_
  have h1 := List.nodup_cons.mp h.nod
  have h2 := List.nodup_cons.mp h1.2
  rcases joinT_s a b with q | q
  · exact h1.1 (by rw [← q, ← e]; exact List.mem_cons_of_mem _ (List.mem_map.mpr ⟨x, hx, rfl⟩))
  · exact h2.1 (by rw [← q, ← e]; exact List.mem_map.mpr ⟨x, hx, rfl⟩)
theorem leaves_perm (freq : List Int) : ∀ k, (buildK freq k).Perm (((List.range k).filter fun (i : Nat) => decide (0 < cellI freq i)).map fun (i : Nat) => T.leaf (cellI freq i) i) ∧ Fst (buildK freq k) ∧ ∀ x ∈ buildK freq k, 0 ≤ x.s ∧ x.s < k
  | 0 => ⟨.refl _, ⟨by simp [buildK], by simp [buildK]⟩, by simp [buildK]⟩
  | k + 1 => by
    obtain ⟨h1, h2, h3⟩ := leaves_perm freq k
    unfold buildK at *
    rw [List.range_succ, List.foldl_append, List.filter_append, List.map_append]
    generalize (List.range k).foldl (stepB freq) [] = f at *
    simp only [List.foldl_cons, List.foldl_nil, stepB]
    by_cases hp : 0 < cellI freq k
    · rw [if_pos hp]
      refine ⟨?_, h2.ins fun x hx => ?_, fun x hx => ?_⟩
      · rw [ins_kT]
        refine (insB_perm kT _ _).trans ?_
        simp only [List.filter_cons, List.filter_nil, hp, decide_true, if_true, List.map_cons, List.map_nil]
        exact (h1.cons _).trans (List.perm_append_comm (l₁ := [T.leaf (cellI freq k) k]))
      · have := h3 x hx
        show x.s ≠ (k : Int)
        omega
      · rw [ins_kT] at hx
        rcases List.mem_cons.mp ((insB_perm kT _ _).mem_iff.mp hx) with rfl | hx
        · show 0 ≤ (k : Int) ∧ (k : Int) < (k + 1 : Nat)
          omega
        · have := h3 x hx
          omega
    · rw [if_neg hp]
      refine ⟨by simpa [hp] using h1, h2, fun x hx => ?_⟩
      have := h3 x hx
      omega
/-! ### merging the two least, again and again -/
noncomputable def hc : Nat → List Int → Int
  | n + 1, a :: b :: r => (a + b) + hc n (insI (a + b) r)
  | _, _ => 0
theorem insI_perm (x : Int) : ∀ l, (insI x l).Perm (x :: l)
  | [] => .refl _
  | y :: r => by
    unfold insI
    split
    · exact .refl _
    · exact ((insI_perm x r).cons y).trans (.swap x y r)
abbrev SrtI (l : List Int) : Prop := l.Pairwise (· ≤ ·)
theorem insI_srt (x : Int) : ∀ l, SrtI l → SrtI (insI x l)
  | [], _ => by simp [insI]
  | y :: r, h => by
    have h' := List.pairwise_cons.mp h
    unfold insI
    split
    · rename_i q
      refine List.pairwise_cons.mpr ⟨fun z hz => ?_, h⟩
      rcases List.mem_cons.mp hz with rfl | hz
      · exact q
      · exact Int.le_trans q (h'.1 z hz)
    · rename_i q
      refine List.pairwise_cons.mpr ⟨fun z hz => ?_, insI_srt x r h'.2⟩
      rcases List.mem_cons.mp ((insI_perm x r).mem_iff.mp hz) with rfl | hz
      · omega
      · exact h'.1 z hz
theorem srtI_eq {l m : List Int} (hl : SrtI l) (hm : SrtI m) (p : l.Perm m) : l = m := p.eq_of_pairwise (fun a b _ _ h h' => Int.le_antisymm h h') hl hm
/-! ### weights with levels -/
noncomputable def kr (H : Nat) (L : List Nat) : Nat := (L.map fun l => 2 ^ (H - l)).sum
noncomputable def cst (P : List (Int × Nat)) : Int := (P.map fun p => p.1 * (p.2 : Int)).sum
theorem kr_perm {H : Nat} {L M : List Nat} (h : L.Perm M) : kr H L = kr H M := by
  induction h with
  | nil => rfl
  | cons x _ ih => simp only [kr, List.map_cons, List.sum_cons] at ih ⊢; rw [ih]
  | swap x y l => simp only [kr, List.map_cons, List.sum_cons]; omega
  | trans _ _ h1 h2 => rw [h1, h2]
theorem cst_perm {P R : List (Int × Nat)} (h : P.Perm R) : cst P = cst R := by
  induction h with
  | nil => rfl
  | cons x _ ih => simp only [cst, List.map_cons, List.sum_cons] at ih ⊢; rw [ih]
  | swap x y l => simp only [cst, List.map_cons, List.sum_cons]; omega
  | trans _ _ h1 h2 => rw [h1, h2]
theorem perm_of_mem {α : Type} {x : α} : ∀ {l : List α}, x ∈ l → ∃ r, l.Perm (x :: r)
  | y :: l, h => by
    rcases List.mem_cons.mp h with rfl | h
    · exact ⟨l, .refl _⟩
    · obtain ⟨r, p⟩ := perm_of_mem h
      exact ⟨y :: r, (p.cons y).trans (.swap x y r)⟩
/-- the least weight may take a greatest level -/
theorem swap_least {P : List (Int × Nat)} {a : Int} {m : Nat} {r : List Int} (hw : (P.map (·.1)).Perm (a :: r)) (ha : ∀ x ∈ r, a ≤ x) (hm : ∀ l ∈ P.map (·.2), l ≤ m) (hx : m ∈ P.map (·.2)) :
    ∃ Q : List (Int × Nat), (Q.map (·.1)).Perm r ∧ (m :: Q.map (·.2)).Perm (P.map (·.2)) ∧ a * (m : Int) + cst Q ≤ cst P := by
  obtain ⟨⟨x, m'⟩, hp, rfl⟩ := List.mem_map.mp hx
  obtain ⟨Q, hQ⟩ := perm_of_mem hp
  simp only at hm
  have hwx : (x :: Q.map (·.1)).Perm (a :: r) := ((hQ.map (fun p : Int × Nat => p.1)).symm.trans hw)
  have hcq := cst_perm hQ
  by_cases e : x = a
  · subst e
    refine ⟨Q, (List.perm_cons _).mp hwx, (hQ.map (fun p : Int × Nat => p.2)).symm, ?_⟩
    rw [hcq]
    simp [cst]
  · have hxr : x ∈ r := by
      have := hwx.mem_iff.mp (List.mem_cons_self)
      rcases List.mem_cons.mp this with q | q
      · exact absurd q e
      · exact q
    have haQ : a ∈ Q.map (·.1) := by
      have := hwx.mem_iff.mpr (List.mem_cons_self)
      rcases List.mem_cons.mp this with q | q
      · exact absurd q.symm e
      · exact q
    obtain ⟨⟨a', l⟩, hq, rfl⟩ := List.mem_map.mp haQ
    obtain ⟨R, hR⟩ := perm_of_mem hq
    simp only at *
    have hl : l ≤ m' := hm l (List.mem_map.mpr ⟨(a', l), hQ.mem_iff.mpr (List.mem_cons_of_mem _ hq), rfl⟩)
    have hax := ha x hxr
    refine ⟨(x, l) :: R, ?_, ?_, ?_⟩
    · have h1 : (x :: a' :: R.map (·.1)).Perm (a' :: r) := ((hR.map (fun p : Int × Nat => p.1)).cons x).symm.trans hwx
      have h2 : (a' :: x :: R.map (·.1)).Perm (a' :: r) := (List.Perm.swap x a' _).trans h1
      exact (List.perm_cons _).mp h2
    · have h1 : (P.map (·.2)).Perm (m' :: l :: R.map (·.2)) := (hQ.map (fun p : Int × Nat => p.2)).trans ((hR.map (fun p : Int × Nat => p.2)).cons m')
      exact h1.symm
    · have hcR := cst_perm hR
      rw [hcq]
      have e1 : cst ((x, m') :: Q) = x * (m' : Int) + cst Q := by simp [cst]
      have e2 : cst ((a', l) :: R) = a' * (l : Int) + cst R := by simp [cst]
      have e3 : cst ((x, l) :: R) = x * (l : Int) + cst R := by simp [cst]
      rw [e1, hcR, e2, e3]
      have h0 : 0 ≤ (x - a') * ((m' : Int) - l) := Int.mul_nonneg (by omega) (by omega)
      rw [Int.sub_mul, Int.mul_sub, Int.mul_sub] at h0
      omega
theorem kr_even {H m : Nat} (hm : 1 ≤ m) (hH : m ≤ H) : ∀ {L : List Nat}, (∀ l ∈ L, l < m) → ∃ q, kr H L = 2 * (2 ^ (H - m)) * q
  | [], _ => ⟨0, by simp [kr]⟩
  | l :: L, h => by
    obtain ⟨q, e⟩ := kr_even hm hH (L := L) fun x hx => h x (by simp [hx])
    have hl := h l (by simp)
    refine ⟨2 ^ (m - 1 - l) + q, ?_⟩
    have e1 : 2 ^ (H - l) = 2 * 2 ^ (H - m) * 2 ^ (m - 1 - l) := by
      rw [show H - l = (1 + (H - m)) + (m - 1 - l) by omega, Nat.pow_add, Nat.pow_add]
    simp only [kr, List.map_cons, List.sum_cons] at e ⊢
    rw [e, e1, Nat.mul_add]
theorem ar1 {hn c1 abm1 ab abm am bm cR cQ cP : Int} (key : hn ≤ c1) (e1 : c1 = abm1 + cR) (e2 : abm1 + ab = abm) (e3 : abm = am + bm) (q3 : am + cQ ≤ cP) (r3 : bm + cR ≤ cQ) : ab + hn ≤ cP := by omega
theorem ar2 {kP kmm u kR k3 u2 HH : Nat} (h1 : kmm = kP) (h2 : kmm = u + (u + kR)) (h3 : k3 = u2 + kR) (h4 : u2 = u + u) (hk : kP ≤ HH) : k3 ≤ HH := by omega
theorem ar3 {hn c1 cP xm1 xm cQ : Int} (key : hn ≤ c1) (e1 : c1 = xm1 + cQ) (e2 : cP = xm + cQ) (e3 : xm1 ≤ xm) : hn ≤ cP := by omega
theorem ar5 {u q t : Nat} (hu : 0 < u) (hk : u + 2 * u * q ≤ 2 * u * t) : 2 * u + 2 * u * q ≤ 2 * u * t := by
  have h5 : u * (1 + 2 * q) ≤ u * (2 * t) := by
    have e1 : u * (1 + 2 * q) = u + 2 * u * q := by rw [Nat.mul_add, Nat.mul_one]; congr 1; rw [← Nat.mul_assoc, Nat.mul_comm u 2]
    have e2 : u * (2 * t) = 2 * u * t := by rw [← Nat.mul_assoc, Nat.mul_comm u 2]
    omega
  have h6 := Nat.le_of_mul_le_mul_left h5 hu
  have h7 : 1 + q ≤ t := by clear h5 hk; omega
  have h8 := Nat.mul_le_mul_left (2 * u) h7
  rw [Nat.mul_add, Nat.mul_one] at h8
  exact h8
theorem ar6 (m H : Nat) (hm : 1 ≤ m) (hH : m ≤ H) : 2 ^ (H - (m - 1)) = 2 ^ (H - m) + 2 ^ (H - m) := by
  rw [show H - (m - 1) = (H - m) + 1 by omega, Nat.pow_succ]; omega
theorem ar7 (m H : Nat) (hm : 1 ≤ m) (hH : m ≤ H) : 2 ^ H = 2 * 2 ^ (H - m) * 2 ^ (m - 1) := by
  have : 2 ^ H = 2 ^ ((1 + (H - m)) + (m - 1)) := congrArg (2 ^ ·) (by omega)
  rw [this, Nat.pow_add, Nat.pow_add]
theorem ar8 (x : Int) (m : Nat) (hm : 1 ≤ m) : x * ((m - 1 : Nat) : Int) + x = x * (m : Int) := by
  have : ((m - 1 : Nat) : Int) = (m : Int) - 1 := by omega
  rw [this, Int.mul_sub, Int.mul_one]; omega
theorem ar9 (m H : Nat) (hH : m ≤ H) : m - 1 ≤ H := by omega
/-- the merging costs no more than any levels that Kraft's sum allows -/
theorem hc_le (H : Nat) : ∀ (n s : Nat) (W : List Int) (P : List (Int × Nat)), W.length = n → ((P.map (·.2)).sum = s) → SrtI W → (∀ x ∈ W, 0 ≤ x) → (P.map (·.1)).Perm W → (∀ l ∈ P.map (·.2), l ≤ H) → kr H (P.map (·.2)) ≤ 2 ^ H → hc n W ≤ cst P := by
  intro n
  induction n with
  | zero =>
    intro s W P hn _ _ _ hp _ _
    have : W = [] := List.length_eq_zero_iff.mp hn
    subst this
    have : P = [] := by simpa using hp.length_eq
    subst this
    simp [hc, cst]
  | succ n ihn =>
    intro s
    induction s using Nat.strongRecOn with
    | _ s ihs =>
      intro W P hn hs hsrt hpos hp hH hk
      have hcpos : 0 ≤ cst P := by
        have : ∀ R : List (Int × Nat), (∀ x ∈ R.map (·.1), 0 ≤ x) → 0 ≤ cst R := by
          intro R
          induction R with
          | nil => intro _; simp [cst]
          | cons x R ih =>
            intro h
            have h1 := ih fun y hy => h y (by simp at hy ⊢; exact .inr hy)
            have h2 : 0 ≤ x.1 * (x.2 : Int) := Int.mul_nonneg (h x.1 (by simp)) (by omega)
            simp only [cst, List.map_cons, List.sum_cons] at h1 ⊢
            omega
        exact this P fun x hx => hpos x (hp.mem_iff.mp hx)
      match W, hn with
      | [w], _ => simpa [hc] using hcpos
      | a :: b :: r, hn =>
        have hlen : P.length = r.length + 2 := by have := hp.length_eq; simpa using this
        -- a greatest level
        obtain ⟨m, hm1, hm2⟩ : ∃ m, m ∈ P.map (·.2) ∧ ∀ l ∈ P.map (·.2), l ≤ m := by
          have : ∀ L : List Nat, L ≠ [] → ∃ m, m ∈ L ∧ ∀ l ∈ L, l ≤ m := by
            intro L
            induction L with
            | nil => intro h; exact absurd rfl h
            | cons x L ih =>
              intro _
              by_cases hL : L = []
              · subst hL; exact ⟨x, by simp, by simp⟩
              · obtain ⟨m, h1, h2⟩ := ih hL
                by_cases q : m ≤ x
                · exact ⟨x, by simp, fun l hl => by rcases List.mem_cons.mp hl with rfl | hl; exact Nat.le_refl _; exact Nat.le_trans (h2 l hl) q⟩
                · exact ⟨m, by simp [h1], fun l hl => by rcases List.mem_cons.mp hl with rfl | hl; omega; exact h2 l hl⟩
          refine this _ fun q => ?_
          have := congrArg List.length q
          simp at this
          rw [this] at hlen
          simp at hlen
        have hmH := hH m hm1
        obtain ⟨L', hL'⟩ := perm_of_mem hm1
        have hL'len : L'.length = r.length + 1 := by have := hL'.length_eq; simp at this; omega
        have hkL := kr_perm (H := H) hL'
        have hk1 : kr H (m :: L') = 2 ^ (H - m) + kr H L' := by simp [kr]
        have hm0 : 1 ≤ m := by
          rcases Nat.eq_zero_or_pos m with q | q
          · exfalso
            subst q
            match L', hL'len with
            | l :: L'', _ =>
              have h2 : kr H (l :: L'') = 2 ^ (H - l) + kr H L'' := by simp [kr]
              have h3 : 0 < 2 ^ (H - l) := Nat.pow_pos (by decide)
              have h4 : 2 ^ (H - 0) = 2 ^ H := rfl
              omega
          · exact q
        by_cases hmm : m ∈ L'
        · -- two pairs with the greatest level
          have srt1 := List.pairwise_cons.mp hsrt
          have srt2 := List.pairwise_cons.mp srt1.2
          obtain ⟨Q, q1, q2, q3⟩ := swap_least hp srt1.1 hm2 hm1
          have hmQ : m ∈ Q.map (·.2) := by
            have h1 : (m :: Q.map (·.2)).Perm (m :: L') := q2.trans hL'
            exact ((List.perm_cons _).mp h1).mem_iff.mpr hmm
          obtain ⟨R, r1, r2, r3⟩ := swap_least q1 srt2.1 (fun l hl => hm2 l (q2.mem_iff.mp (List.mem_cons_of_mem _ hl))) hmQ
          have lev : (m :: m :: R.map (·.2)).Perm (P.map (·.2)) := (r2.cons m).trans q2
          have key := ihn (((a + b, m - 1) :: R).map (·.2)).sum (insI (a + b) r) ((a + b, m - 1) :: R) (by rw [(insI_perm _ _).length_eq]; simpa using hn) rfl (insI_srt _ _ srt2.2) (fun x hx => by
              rcases List.mem_cons.mp ((insI_perm _ _).mem_iff.mp hx) with rfl | hx
              · have h1 := hpos a (by simp); have h2 := hpos b (by simp); omega
              · exact hpos x (by simp [hx])) (by
              rw [List.map_cons]
              exact (r1.cons _).trans (insI_perm _ _).symm) (fun l hl => by
              rw [List.map_cons] at hl
              rcases List.mem_cons.mp hl with rfl | hl
              · exact ar9 m H hmH
              · exact hH l (lev.mem_iff.mp (by simp only [List.mem_cons]; exact .inr (.inr hl)))) (by
              have h1 := kr_perm (H := H) lev
              have h2 : kr H (m :: m :: R.map (·.2)) = 2 ^ (H - m) + (2 ^ (H - m) + kr H (R.map (·.2))) := by simp [kr]
              have h3 : kr H (((a + b, m - 1) :: R).map (·.2)) = 2 ^ (H - (m - 1)) + kr H (R.map (·.2)) := by simp [kr]
              exact ar2 h1 h2 h3 (ar6 m H hm0 hmH) hk)
          have e1 : cst ((a + b, m - 1) :: R) = (a + b) * ((m - 1 : Nat) : Int) + cst R := by simp [cst]
          exact ar1 key e1 (ar8 (a + b) m hm0) (Int.add_mul _ _ _) q3 r3
        · -- one alone: it may be lowered
          obtain ⟨⟨x, m'⟩, hx, rfl⟩ := List.mem_map.mp hm1
          obtain ⟨Q, hQ⟩ := perm_of_mem hx
          simp only at *
          have hQL : (Q.map (·.2)).Perm L' := by
            have h1 : (m' :: Q.map (·.2)).Perm (m' :: L') := (hQ.map (fun p : Int × Nat => p.2)).symm.trans hL'
            exact (List.perm_cons _).mp h1
          have hlt : ∀ l ∈ Q.map (·.2), l < m' := fun l hl => by
            have h1 : l ≤ m' := hm2 l ((hQ.map (fun p : Int × Nat => p.2)).mem_iff.mpr (List.mem_cons_of_mem _ hl))
            have h2 : l ≠ m' := fun q => hmm (hQL.mem_iff.mp (q ▸ hl))
            omega
          obtain ⟨q, hq⟩ := kr_even hm0 hmH hlt
          have hkQ := kr_perm (H := H) hQL
          have hu : 0 < 2 ^ (H - m') := Nat.pow_pos (by decide)
          have hHH := ar7 m' H hm0 hmH
          have hs' : (P.map (·.2)).sum = m' + (Q.map (·.2)).sum := by
            have : ∀ {L M : List Nat}, L.Perm M → L.sum = M.sum := fun h => by
              induction h with
              | nil => rfl
              | cons x _ ih => simp [ih]
              | swap x y l => simp; omega
              | trans _ _ h1 h2 => rw [h1, h2]
            rw [this (hQ.map (fun p : Int × Nat => p.2))]; simp
          have key := ihs ((m' - 1) + (Q.map (·.2)).sum) (by omega) (a :: b :: r) ((x, m' - 1) :: Q) hn (by simp) hsrt hpos ((hQ.map (fun p : Int × Nat => p.1)).symm.trans hp) (fun l hl => by
              rw [List.map_cons] at hl
              rcases List.mem_cons.mp hl with rfl | hl
              · exact ar9 m' H hmH
              · exact hH l ((hQ.map (fun p : Int × Nat => p.2)).mem_iff.mpr (List.mem_cons_of_mem _ hl))) (by
              have h3 : kr H (((x, m' - 1) :: Q).map (·.2)) = 2 ^ (H - (m' - 1)) + kr H (Q.map (·.2)) := by simp [kr]
              have h4 : 2 ^ (H - (m' - 1)) = 2 * 2 ^ (H - m') := (ar6 m' H hm0 hmH).trans (Nat.two_mul _).symm
              rw [h3, h4, hq]
              rw [hkL, hk1, ← hkQ, hq, hHH] at hk
              rw [hHH]
              exact ar5 hu hk)
          have e1 : cst ((x, m' - 1) :: Q) = x * ((m' - 1 : Nat) : Int) + cst Q := by simp [cst]
          have e2 : cst P = x * (m' : Int) + cst Q := by rw [cst_perm hQ]; simp [cst]
          have hx0 : 0 ≤ x := hpos x (hp.mem_iff.mp (List.mem_map.mpr ⟨(x, m'), hx, rfl⟩))
          have e3 : x * ((m' - 1 : Nat) : Int) ≤ x * (m' : Int) := Int.mul_le_mul_of_nonneg_left (Int.ofNat_le.mpr (Nat.sub_le _ _)) hx0
          exact ar3 key e1 e2 e3
theorem hc_flat (W : List Int) (k : Nat) (hs : SrtI W) (hp : ∀ x ∈ W, 0 ≤ x) (hk : W.length ≤ 2 ^ k) : hc W.length W ≤ k * W.sum := by
  have h := hc_le k W.length _ W (W.map fun x => (x, k)) rfl rfl hs hp (by rw [List.map_map]; simp [Function.comp_def]) (by simp) (by
    have : ∀ W : List Int, kr k ((W.map fun x => (x, k)).map (·.2)) = W.length := by
      intro W
      induction W with
      | nil => rfl
      | cons x W ih => simp only [kr, List.map_cons, List.sum_cons, List.length_cons] at ih ⊢; rw [ih]; simp; omega
    rw [this]; exact hk)
  have : ∀ W : List Int, cst (W.map fun x => (x, k)) = k * W.sum := by
    intro W
    induction W with
    | nil => simp [cst]
    | cons x W ih =>
      simp only [cst, List.map_cons, List.sum_cons] at ih ⊢
      rw [ih, Int.mul_add, Int.mul_comm x]
  rw [this] at h
  exact h
/-! ### levels, added up -/
noncomputable def glL (l : List (Int × Int)) (i : Int) : Int := (l.map fun p => if p.1 = i then p.2 else 0).sum
noncomputable def glT (t : T) (i : Int) : Int := glL (levels t 0) i
/-- the list of an int at each place -/
noncomputable def tab (N : Nat) (g : Nat → Int) : List Int := (List.range N).map g
theorem tab_len (N : Nat) (g : Nat → Int) : (tab N g).length = N := by simp [tab]
theorem tab_set (N : Nat) (g : Nat → Int) (s : Int) (h : 0 ≤ s) (v : Int) : (tab N g).set s.toNat v = tab N fun i => if (i : Int) = s then v else g i := by
  apply List.ext_getElem
  · simp [tab]
  · intro i h1 h2
    rw [List.getElem_set]
    simp only [tab, List.getElem_map, List.getElem_range]
    by_cases e : s.toNat = i
    · rw [if_pos e, if_pos (by omega)]
    · rw [if_neg e, if_neg (by omega)]
theorem tab_zero (N : Nat) : List.replicate N (0 : Int) = tab N fun _ => 0 := by
  apply List.ext_getElem
  · simp [tab]
  · intro i h1 h2
    simp [tab]
theorem cell_tab (N : Nat) (g : Nat → Int) (s : Int) (h : 0 ≤ s) (h' : s < N) : cellI (tab N g) s = g s.toNat := by
  have : s.toNat < N := by omega
  simp [cellI, tab, h', this]
theorem glL_off : ∀ (l : List (Int × Int)) (i : Int), (∀ p ∈ l, p.1 ≠ i) → glL l i = 0
  | [], _, _ => rfl
  | p :: l, i, h => by
    have ih := glL_off l i fun q hq => h q (by simp [hq])
    unfold glL at ih ⊢
    simp [ih, h p (by simp)]
theorem glL_at : ∀ (l : List (Int × Int)), (l.map (·.1)).Nodup → ∀ p ∈ l, glL l p.1 = p.2
  | q :: l, hn, p, hp => by
    simp only [List.map_cons, List.nodup_cons] at hn
    rcases List.mem_cons.mp hp with rfl | hp
    · have := glL_off l p.1 fun r hr e => hn.1 (by rw [← e]; exact List.mem_map.mpr ⟨r, hr, rfl⟩)
      unfold glL at this ⊢
      simp [this]
    · have ih := glL_at l hn.2 p hp
      have hne : q.1 ≠ p.1 := fun e => hn.1 (by rw [e]; exact List.mem_map.mpr ⟨p, hp, rfl⟩)
      unfold glL at ih ⊢
      simp [ih, hne]
theorem fold_tab (l : List (Int × Int)) (N : Nat) (hn : (l.map (·.1)).Nodup) (hb : ∀ p ∈ l, 0 ≤ p.1 ∧ p.1 < N) : l.foldl setL (List.replicate N 0) = tab N fun i => glL l i := by
  apply List.ext_getElem?
  intro i
  by_cases hi : i < N
  · have ht : (tab N fun i => glL l i)[i]? = some (glL l i) := by simp [tab, hi]
    rw [ht]
    by_cases hm : ∃ p ∈ l, p.1.toNat = i
    · obtain ⟨p, hp, e⟩ := hm
      have h1 := fold_at l (List.replicate N 0) hn (fun p hp => by simpa using hb p hp) p hp
      rw [e] at h1
      have hp0 := hb p hp
      have e2 : (i : Int) = p.1 := by omega
      rw [h1, e2, glL_at l hn p hp]
    · have h1 := fold_off i l (List.replicate N 0) fun p hp e => hm ⟨p, hp, e⟩
      rw [h1, glL_off l i fun p hp e => hm ⟨p, hp, by omega⟩]
      simp [hi]
  · have h1 := fold_off i l (List.replicate N 0) fun p hp e => by have := hb p hp; omega
    rw [h1, List.getElem?_eq_none (by simp; omega), List.getElem?_eq_none (by rw [tab_len]; omega)]
theorem lens_tab {freq : List Int} {t : T} (ht : huff freq = some t) (hn : ∀ w s, t ≠ .leaf w s) : lens freq = tab freq.length fun i => glT t i := by
  have hp := huff_some ht
  have e : lens freq = (levels t 0).foldl setL (List.replicate freq.length 0) := by
    unfold lens
    rw [ht]
    cases t with
    | leaf w s => exact absurd rfl (hn w s)
    | node w s l r => rfl
  rw [e, fold_tab _ _ ((hp.nodup_iff).mpr (posL_nodup _ _)) fun p hp' => ?_]
  · rfl
  · have := posL_mem freq freq.length p.1 (hp.mem_iff.mp (List.mem_map.mpr ⟨p, hp', rfl⟩))
    omega
/-! ### the cost of a tree -/
noncomputable def icost : T → Int
  | .leaf _ _ => 0
  | .node w _ l r => w + icost l + icost r
noncomputable def Con (freq : List Int) : T → Prop
  | .leaf w s => w = cellI freq s
  | .node w _ l r => w = l.w + r.w ∧ Con freq l ∧ Con freq r
theorem lev_cost (freq : List Int) : ∀ (t : T) (d : Int), Con freq t → ((levels t d).map fun p => cellI freq p.1 * p.2).sum = icost t + d * t.w
  | .leaf w s, d, h => by
    have h' : w = cellI freq s := h
    simp [levels, icost, T.w, ← h', Int.mul_comm]
  | .node w s l r, d, h => by
    obtain ⟨h1, h2, h3⟩ := h
    have e1 := lev_cost freq l (d + 1) h2
    have e2 := lev_cost freq r (d + 1) h3
    show ((levels l (d + 1) ++ levels r (d + 1)).map fun p => cellI freq p.1 * p.2).sum = (w + icost l + icost r) + d * w
    rw [List.map_append, List.sum_append, e1, e2, Int.add_mul, Int.add_mul, h1, Int.mul_add]
    omega
noncomputable def icF (f : List T) : Int := (f.map icost).sum
theorem icF_ins (t : T) : ∀ f, icF (ins t f) = icost t + icF f
  | [] => by simp [ins, icF]
  | o :: r => by
    have ih := icF_ins t r
    unfold ins
    split
    · simp [icF]
    · simp only [icF, List.map_cons, List.sum_cons] at ih ⊢
      omega
theorem srt_w {f : List T} (h : Fst f) : SrtI (f.map T.w) := by
  have h' := h.srt
  rw [SrtP, List.pairwise_map] at h'
  rw [SrtI, List.pairwise_map]
  refine h'.imp fun {a b} q => ?_
  rw [ltP_iff] at q
  simp only [kT] at q
  omega
theorem w_ins (t : T) (f : List T) (h : Fst f) (h' : Fst (ins t f)) : (ins t f).map T.w = insI t.w (f.map T.w) := by
  refine srtI_eq (srt_w h') (insI_srt _ _ (srt_w h)) ?_
  rw [ins_kT]
  exact ((insB_perm kT t f).map T.w).trans (insI_perm _ _).symm
theorem joins_cost : ∀ (m : Nat) (f : List T), f.length = m + 1 → Fst f → ∃ t, joins m f = [t] ∧ icost t = icF f + hc (m + 1) (f.map T.w)
  | 0, f, hl, _ => by
    match f, hl with
    | [t], _ => exact ⟨t, rfl, by simp [icF, hc]⟩
  | m + 1, f, hl, hF => by
    match f, hl with
    | a :: b :: r, hl =>
      obtain ⟨t, h1, h2⟩ := joins_cost m (jstep (a :: b :: r)) (by rw [jstep_len (by simp)]; simp at hl ⊢; omega) hF.jstep
      refine ⟨t, h1, ?_⟩
      have e1 : (jstep (a :: b :: r)).map T.w = insI (a.w + b.w) (r.map T.w) := w_ins (joinT a b) r hF.tail.tail hF.jstep
      have e2 : icF (jstep (a :: b :: r)) = icost (joinT a b) + icF r := icF_ins _ _
      rw [h2, e1, e2]
      show (a.w + b.w + icost a + icost b) + icF r + hc (m + 1) (insI (a.w + b.w) (r.map T.w)) = icF (a :: b :: r) + ((a.w + b.w) + hc (m + 1) (insI (a.w + b.w) (r.map T.w)))
      simp only [icF, List.map_cons, List.sum_cons]
      omega
    | [t], hl => simp at hl
    | [], hl => simp at hl
theorem con_ins {freq : List Int} {t : T} (ht : Con freq t) : ∀ {f : List T}, (∀ x ∈ f, Con freq x) → ∀ x ∈ ins t f, Con freq x := fun {f} h x hx => by
  rw [ins_kT] at hx
  rcases List.mem_cons.mp ((insB_perm kT t f).mem_iff.mp hx) with rfl | hx
  · exact ht
  · exact h x hx
theorem con_joins {freq : List Int} : ∀ (m : Nat) (f : List T), (∀ x ∈ f, Con freq x) → ∀ x ∈ joins m f, Con freq x
  | 0, f, h => h
  | m + 1, a :: b :: r, h => con_joins m _ (con_ins (freq := freq) (t := joinT a b) (show Con freq (joinT a b) from ⟨rfl, h a (by simp), h b (by simp)⟩) fun x hx => h x (by simp [hx]))
  | m + 1, [a], h => con_joins m [a] h
  | m + 1, [], h => con_joins m [] h
/-- the positive counts -/
noncomputable def posC (freq : List Int) : List Int := freq.filter fun c => decide (0 < c)
theorem build_w (freq : List Int) : ((buildK freq freq.length).map T.w).Perm (posC freq) ∧ (∀ x ∈ buildK freq freq.length, Con freq x) ∧ icF (buildK freq freq.length) = 0 := by
  obtain ⟨hp, _, _⟩ := leaves_perm freq freq.length
  refine ⟨?_, fun x hx => ?_, ?_⟩
  · have h1 := hp.map T.w
    rw [List.map_map] at h1
    have h2 : posC freq = ((List.range freq.length).filter fun (i : Nat) => decide (0 < cellI freq i)).map (T.w ∘ fun (i : Nat) => T.leaf (cellI freq i) i) := by
      unfold posC
      conv => lhs; rw [freq_eq freq]
      rw [List.filter_map]
      rfl
    rw [h2]
    exact h1
  · obtain ⟨i, _, rfl⟩ := List.mem_map.mp (hp.mem_iff.mp hx)
    rfl
  · have key : ∀ {f g : List T}, f.Perm g → icF f = icF g := fun h => by
      induction h with
      | nil => rfl
      | cons x _ ih => simp only [icF, List.map_cons, List.sum_cons] at ih ⊢; rw [ih]
      | swap x y l => simp only [icF, List.map_cons, List.sum_cons]; omega
      | trans _ _ h1 h2 => rw [h1, h2]
    rw [key hp]
    generalize ((List.range freq.length).filter fun (i : Nat) => decide (0 < cellI freq i)) = R
    induction R with
    | nil => rfl
    | cons x R ih => simp only [icF, List.map_cons, List.sum_cons] at ih ⊢; rw [ih]; rfl
noncomputable def lawCost (some : List Int) : Int := if some.length < 2 then (sortI some).sum else hc some.length (sortI some)
noncomputable def dot (freq L : List Int) : Int := ((List.range freq.length).map fun (i : Nat) => cellI freq i * cellI L i).sum
theorem dot_fold (freq : List Int) (l : List (Int × Int)) (hb : ∀ p ∈ l, 0 ≤ p.1 ∧ p.1 < freq.length) : dot freq (tab freq.length fun i => glL l i) = (l.map fun p => cellI freq p.1 * p.2).sum := by
  have e1 : dot freq (tab freq.length fun i => glL l i) = ((List.range freq.length).map fun (i : Nat) => cellI freq i * glL l i).sum := by
    unfold dot
    congr 1
    refine List.map_congr_left fun i hi => ?_
    have hi' := List.mem_range.mp hi
    rw [cell_tab freq.length (fun i => glL l i) i (by omega) (by omega)]
    simp
  rw [e1]
  induction l with
  | nil =>
    have : ∀ R : List Nat, (R.map fun (i : Nat) => cellI freq i * glL [] i).sum = 0 := by
      intro R
      induction R with
      | nil => rfl
      | cons x R ih => simp only [List.map_cons, List.sum_cons, ih]; simp [glL]
    simpa using this _
  | cons p l ih =>
    have ih := ih (fun q hq => hb q (by simp [hq])) (by
      unfold dot
      congr 1
      refine List.map_congr_left fun i hi => ?_
      have hi' := List.mem_range.mp hi
      rw [cell_tab freq.length (fun i => glL l i) i (by omega) (by omega)]
      simp)
    have hp := hb p (by simp)
    have e2 : ∀ i : Int, glL (p :: l) i = (if p.1 = i then p.2 else 0) + glL l i := fun i => by simp [glL]
    have e3 : ∀ R : List Nat, (R.map fun (i : Nat) => cellI freq i * glL (p :: l) i).sum = (R.map fun (i : Nat) => cellI freq i * (if p.1 = (i : Int) then p.2 else 0)).sum + (R.map fun (i : Nat) => cellI freq i * glL l i).sum := by
      intro R
      have e5 : (fun (i : Nat) => cellI freq i * glL (p :: l) i) = fun (i : Nat) => cellI freq i * (if p.1 = (i : Int) then p.2 else 0) + cellI freq i * glL l i := by
        funext i
        rw [e2, Int.mul_add]
      rw [e5]
      induction R with
      | nil => rfl
      | cons x R ih => simp only [List.map_cons, List.sum_cons] at ih ⊢; omega
    have e4 : ∀ n : Nat, ((List.range n).map fun (i : Nat) => cellI freq i * (if p.1 = (i : Int) then p.2 else 0)).sum = if p.1 < n then cellI freq p.1 * p.2 else 0 := by
      intro n
      induction n with
      | zero => simp; omega
      | succ n ih =>
        rw [List.range_succ, List.map_append, List.sum_append, ih]
        simp only [List.map_cons, List.map_nil, List.sum_cons, List.sum_nil]
        by_cases q : p.1 = (n : Int)
        · rw [if_neg (by omega), if_pos q, if_pos (by omega), q]; omega
        · rw [if_neg q]
          by_cases q' : p.1 < (n : Int)
          · rw [if_pos q', if_pos (by omega)]; simp
          · rw [if_neg q', if_neg (by omega)]; simp
    rw [e3, e4, if_pos hp.2, ih, List.map_cons, List.sum_cons]
theorem sortI_of {l m : List Int} (hs : SrtI l) (hp : l.Perm m) : sortI m = l := srtI_eq (sortI_eq m).2 hs ((sortI_eq m).1.trans hp.symm)
theorem cost_eq (freq : List Int) : dot freq (lens freq) = lawCost (posC freq) := by
  obtain ⟨hw, hcon, hic⟩ := build_w freq
  obtain ⟨_, hF, hs⟩ := leaves_perm freq freq.length
  have hlen := hw.length_eq
  rw [List.length_map] at hlen
  have hsort := sortI_of (srt_w hF) hw
  unfold lawCost
  rw [hsort, ← hlen]
  have hgl : ∀ t, huff freq = some t → ∀ p ∈ levels t 0, 0 ≤ p.1 ∧ p.1 < freq.length := fun t ht p hp => by
    have := posL_mem freq freq.length p.1 ((huff_some ht).mem_iff.mp (List.mem_map.mpr ⟨p, hp, rfl⟩))
    omega
  have hsz : ∀ t, huff freq = some t → t.size + 1 = 2 * (buildK freq freq.length).length := fun t ht => by
    rw [huff_size ht, hlen]; rfl
  by_cases h0 : (buildK freq freq.length).length = 0
  · have hz : huff freq = none := by unfold huff; rw [List.length_eq_zero_iff.mp h0]; rfl
    have hl : lens freq = tab freq.length fun i => glL [] i := by
      unfold lens; rw [hz]
      show List.replicate freq.length 0 = _
      rw [tab_zero]; rfl
    rw [if_pos (by omega), hl, dot_fold freq [] (by simp), List.length_eq_zero_iff.mp h0]
    rfl
  · obtain ⟨t, hj, ht⟩ := joins_cost ((buildK freq freq.length).length - 1) (buildK freq freq.length) (by omega) hF
    have hh : huff freq = some t := by unfold huff; rw [hj]; rfl
    have ht' := con_joins ((buildK freq freq.length).length - 1) (buildK freq freq.length) hcon t (by rw [hj]; simp)
    have hsz := hsz t hh
    by_cases h1 : (buildK freq freq.length).length < 2
    · rw [if_pos h1]
      have h1' : (buildK freq freq.length).length = 1 := by omega
      cases t with
      | node w s l r => simp only [T.size] at hsz; have := size_pos l; have := size_pos r; omega
      | leaf w s =>
        have hb : buildK freq freq.length = [T.leaf w s] := by rw [h1'] at hj; exact hj
        have hs' := hs (T.leaf w s) (by rw [hb]; simp)
        simp only [T.s] at hs'
        have hl : lens freq = tab freq.length fun i => glL [(s, 1)] i := by
          unfold lens; rw [hh]
          show (List.replicate freq.length 0).set s.toNat 1 = _
          rw [tab_zero, tab_set _ _ _ hs'.1]
          congr 1
          funext i
          simp only [glL, List.map_cons, List.map_nil, List.sum_cons, List.sum_nil]
          by_cases q : (i : Int) = s
          · rw [if_pos q, if_pos q.symm]; rfl
          · rw [if_neg q, if_neg fun e => q e.symm]; rfl
        rw [hl, dot_fold freq _ (by simpa using hs'), hb]
        have hw' : w = cellI freq s := ht'
        simp [T.w, ← hw']
    · rw [if_neg h1]
      have hn : ∀ w s, t ≠ .leaf w s := fun w s q => by rw [q] at hsz; simp only [T.size] at hsz; omega
      rw [lens_tab hh hn]
      have := dot_fold freq (levels t 0) (hgl t hh)
      rw [show (tab freq.length fun i => glT t i) = tab freq.length fun i => glL (levels t 0) i from rfl, this, lev_cost freq t 0 ht', ht, hic]
      rw [show (buildK freq freq.length).length - 1 + 1 = (buildK freq freq.length).length by omega]
      omega
/-! ### the functions -/
noncomputable def fuelL : Nat := 100
noncomputable def cell1 (ns : List Int) (k : Int) : Int := if k < ns.length then cellI ns k else 1
theorem c_cell (n wf : Nat) (ns : List Int) (k : Int) (hk : 0 ≤ k) : callF wf fnsL (n + 1) 5 [.list (ns.map .int), .int k] = some (.val (.int (cell1 ns k))) := by
  rw [callF_at (fn := f__law_cell) rfl]
  by_cases h : k < ns.length
  · simp [x_run, x_cons, x_nil, x_ife, v_and, v_or, v_cmp2, v_var, lk_eq, ifO_some, ifO_ite, ifB_bool, ifB_ite, bind_ite, map_ite, asBl_bool, asBl_ite, fold_bool, seqB_next, seqB_ret, seqB_none, finB_none, seqB_ite, finB_ret, finB_next, finB_ite, v_int, v_bool, v_none, v_data, v_bin, v_neg, v_not, v_cmp, v_isC, v_isTy, v_call, v_len, ln_list, ln_tuple, v_abs, v_min2, v_max2, v_max1, v_sum1, v_list1, v_sorted, v_count, ls_list, v_idx, v_sl, v_tup, v_lst, vs_nil, vs_cons, vo_none, vo_some, va_nil, va_cons, vi_rng1, vi_rng2, vi_rng3, vi_ex, v_comp, x_asg, x_unp, x_app, x_del, x_setI, ow_own, x_for, x_while, x_ret, x_fail, fz_var, fz_own, fz_val, fz_r1, fz_r2, fz_r3, fz_call, fz_bin, it_0, it_1, it_2, it_3, sz_0, sz_1, sz_2, sz_3, sz_4, sz_e0, sz_p0, sz_p1, ko_eq, kf_nil, kf_cons, lp_nil, bv_val, bv_own, bv_bor, ib_val, ib_own, ib_bor, fr_val, fr_own, lf_int, lf_bool, lf_none, lf_ints, as_int, as_bool, bd_add, bd_sub, bd_mul, bd_fdivp, bd_modp, bd_pow, bd_cat, bd_rep, cd_lt, cd_le, cd_gt, cd_ge, ix_list, ix_tuple, bo_none, bo_some, bt_one, bt_many, ag_val, ag_own, cmp_eq_int, cmp_ne_int, cmp_eq_ints, cmp_ne_ints, vv_val, vv_own, vr_val, vr_own, x_retV, ck_bool, ck_none, ck_int, ck_tuple, ck_list, ck_nb, ck_bn, ty_int, ty_bool, ty_list, ty_tuple, f__law_cell, h, itemD_ints ns k hk h, cell1]
  · simp [x_run, x_cons, x_nil, x_ife, v_and, v_or, v_cmp2, v_var, lk_eq, ifO_some, ifO_ite, ifB_bool, ifB_ite, bind_ite, map_ite, asBl_bool, asBl_ite, fold_bool, seqB_next, seqB_ret, seqB_none, finB_none, seqB_ite, finB_ret, finB_next, finB_ite, v_int, v_bool, v_none, v_data, v_bin, v_neg, v_not, v_cmp, v_isC, v_isTy, v_call, v_len, ln_list, ln_tuple, v_abs, v_min2, v_max2, v_max1, v_sum1, v_list1, v_sorted, v_count, ls_list, v_idx, v_sl, v_tup, v_lst, vs_nil, vs_cons, vo_none, vo_some, va_nil, va_cons, vi_rng1, vi_rng2, vi_rng3, vi_ex, v_comp, x_asg, x_unp, x_app, x_del, x_setI, ow_own, x_for, x_while, x_ret, x_fail, fz_var, fz_own, fz_val, fz_r1, fz_r2, fz_r3, fz_call, fz_bin, it_0, it_1, it_2, it_3, sz_0, sz_1, sz_2, sz_3, sz_4, sz_e0, sz_p0, sz_p1, ko_eq, kf_nil, kf_cons, lp_nil, bv_val, bv_own, bv_bor, ib_val, ib_own, ib_bor, fr_val, fr_own, lf_int, lf_bool, lf_none, lf_ints, as_int, as_bool, bd_add, bd_sub, bd_mul, bd_fdivp, bd_modp, bd_pow, bd_cat, bd_rep, cd_lt, cd_le, cd_gt, cd_ge, ix_list, ix_tuple, bo_none, bo_some, bt_one, bt_many, ag_val, ag_own, cmp_eq_int, cmp_ne_int, cmp_eq_ints, cmp_ne_ints, vv_val, vv_own, vr_val, vr_own, x_retV, ck_bool, ck_none, ck_int, ck_tuple, ck_list, ck_nb, ck_bn, ty_int, ty_bool, ty_list, ty_tuple, f__law_cell, h, cell1]
theorem sortD_ints (l : List Int) (h : l.length < 64) : sortD (l.map .int) = some ((sortI l).map .int) := by
  unfold sortD
  rw [if_neg (by simp; omega)]
  simp [asInts_map]
theorem l_cost (F : Nat → List PyData → Option BV) (wf : Nat) (A : Option AV) : ∀ (ks : List Nat) (row : List Int) (cost : Int) (o3 o4 : Option AV), SrtI row → ks.length + 1 = row.length → row.length < 60 →
    ∃ p1 p3 p4, loopB (.one 3) b__law_cost_0 F wf (ks.map fun (i : Nat) => PyData.int i) [A, some (.val (.list (row.map .int))), some (.val (.int cost)), o3, o4] = some ([A, p1, some (.val (.int (cost + hc row.length row))), p3, p4], .next)
  | [], row, cost, o3, o4, hs, hl, _ => by
    match row, hl with
    | [w], _ => exact ⟨some (.val (.list [.int w])), o3, o4, by simp [x_run, x_cons, x_nil, x_ife, v_and, v_or, v_cmp2, v_var, lk_eq, ifO_some, ifO_ite, ifB_bool, ifB_ite, bind_ite, map_ite, asBl_bool, asBl_ite, fold_bool, seqB_next, seqB_ret, seqB_none, finB_none, seqB_ite, finB_ret, finB_next, finB_ite, v_int, v_bool, v_none, v_data, v_bin, v_neg, v_not, v_cmp, v_isC, v_isTy, v_call, v_len, ln_list, ln_tuple, v_abs, v_min2, v_max2, v_max1, v_sum1, v_list1, v_sorted, v_count, ls_list, v_idx, v_sl, v_tup, v_lst, vs_nil, vs_cons, vo_none, vo_some, va_nil, va_cons, vi_rng1, vi_rng2, vi_rng3, vi_ex, v_comp, x_asg, x_unp, x_app, x_del, x_setI, ow_own, x_for, x_while, x_ret, x_fail, fz_var, fz_own, fz_val, fz_r1, fz_r2, fz_r3, fz_call, fz_bin, it_0, it_1, it_2, it_3, sz_0, sz_1, sz_2, sz_3, sz_4, sz_e0, sz_p0, sz_p1, ko_eq, kf_nil, kf_cons, lp_nil, bv_val, bv_own, bv_bor, ib_val, ib_own, ib_bor, fr_val, fr_own, lf_int, lf_bool, lf_none, lf_ints, as_int, as_bool, bd_add, bd_sub, bd_mul, bd_fdivp, bd_modp, bd_pow, bd_cat, bd_rep, cd_lt, cd_le, cd_gt, cd_ge, ix_list, ix_tuple, bo_none, bo_some, bt_one, bt_many, ag_val, ag_own, cmp_eq_int, cmp_ne_int, cmp_eq_ints, cmp_ne_ints, vv_val, vv_own, vr_val, vr_own, x_retV, ck_bool, ck_none, ck_int, ck_tuple, ck_list, ck_nb, ck_bn, ty_int, ty_bool, ty_list, ty_tuple, hc]⟩
  | k :: ks, row, cost, o3, o4, hs, hl, hz => by
    match row, hl with
    | [w], hl => simp at hl
    | a :: b :: r, hl =>
      have s1 := List.pairwise_cons.mp hs
      have s2 := List.pairwise_cons.mp s1.2
      simp only [List.length_cons] at hl hz
      have hins := (insI_perm (a + b) r).length_eq
      obtain ⟨p1, p3, p4, e⟩ := l_cost F wf A ks (insI (a + b) r) (cost + (a + b)) (some (.val (.int k))) (some (.val (.int (a + b)))) (insI_srt _ _ s2.2) (by rw [hins]; simp; omega) (by rw [hins]; simp; omega)
      refine ⟨p1, p3, p4, ?_⟩
      have hsort : sortD (r.map PyData.int ++ [.int (a + b)]) = some ((insI (a + b) r).map .int) := by
        have h1 := sortD_ints (r ++ [a + b]) (by simp; omega)
        rw [List.map_append] at h1
        rw [sortI_of (insI_srt (a + b) r s2.2) ((insI_perm _ _).trans (List.perm_append_comm (l₁ := [a + b]) (l₂ := r)))] at h1
        exact h1
      have hhc : cost + hc (a :: b :: r).length (a :: b :: r) = cost + (a + b) + hc (insI (a + b) r).length (insI (a + b) r) := by
        rw [hins]
        show cost + ((a + b) + hc (r.length + 1) (insI (a + b) r)) = _
        rw [List.length_cons]; omega
      have z1 : r.length + 1 ≤ szLine := by simp [szLine]; omega
      rw [List.map_cons, lp_cons, hhc, ← e]
      simp [x_run, x_cons, x_nil, x_ife, v_and, v_or, v_cmp2, v_var, lk_eq, ifO_some, ifO_ite, ifB_bool, ifB_ite, bind_ite, map_ite, asBl_bool, asBl_ite, fold_bool, seqB_next, seqB_ret, seqB_none, finB_none, seqB_ite, finB_ret, finB_next, finB_ite, v_int, v_bool, v_none, v_data, v_bin, v_neg, v_not, v_cmp, v_isC, v_isTy, v_call, v_len, ln_list, ln_tuple, v_abs, v_min2, v_max2, v_max1, v_sum1, v_list1, v_sorted, v_count, ls_list, v_idx, v_sl, v_tup, v_lst, vs_nil, vs_cons, vo_none, vo_some, va_nil, va_cons, vi_rng1, vi_rng2, vi_rng3, vi_ex, v_comp, x_asg, x_unp, x_app, x_del, x_setI, ow_own, x_for, x_while, x_ret, x_fail, fz_var, fz_own, fz_val, fz_r1, fz_r2, fz_r3, fz_call, fz_bin, it_0, it_1, it_2, it_3, sz_0, sz_1, sz_2, sz_3, sz_4, sz_e0, sz_p0, sz_p1, ko_eq, kf_nil, kf_cons, lp_nil, bv_val, bv_own, bv_bor, ib_val, ib_own, ib_bor, fr_val, fr_own, lf_int, lf_bool, lf_none, lf_ints, as_int, as_bool, bd_add, bd_sub, bd_mul, bd_fdivp, bd_modp, bd_pow, bd_cat, bd_rep, cd_lt, cd_le, cd_gt, cd_ge, ix_list, ix_tuple, bo_none, bo_some, bt_one, bt_many, ag_val, ag_own, cmp_eq_int, cmp_ne_int, cmp_eq_ints, cmp_ne_ints, vv_val, vv_own, vr_val, vr_own, x_retV, ck_bool, ck_none, ck_int, ck_tuple, ck_list, ck_nb, ck_bn, ty_int, ty_bool, ty_list, ty_tuple, b__law_cost_0, sliceD, hsort, z1]
theorem c_cost (n wf : Nat) (l : List Int) (h : l.length < 60) : callF wf fnsL (n + 1) 6 [.list (l.map .int)] = some (.val (.int (lawCost l))) := by
  rw [callF_at (fn := f__law_cost) rfl]
  have hs := sortD_ints l (by omega)
  have hp := sortI_eq l
  have hl := hp.1.length_eq
  unfold lawCost
  by_cases h2 : l.length < 2
  · have h2' : (sortI l).length < 2 := by omega
    have h2'' : ((sortI l).length : Int) < 2 := by omega
    rw [if_pos h2]
    generalize sortI l = S at *
    simp [x_run, x_cons, x_nil, x_ife, v_and, v_or, v_cmp2, v_var, lk_eq, ifO_some, ifO_ite, ifB_bool, ifB_ite, bind_ite, map_ite, asBl_bool, asBl_ite, fold_bool, seqB_next, seqB_ret, seqB_none, finB_none, seqB_ite, finB_ret, finB_next, finB_ite, v_int, v_bool, v_none, v_data, v_bin, v_neg, v_not, v_cmp, v_isC, v_isTy, v_call, v_len, ln_list, ln_tuple, v_abs, v_min2, v_max2, v_max1, v_sum1, v_list1, v_sorted, v_count, ls_list, v_idx, v_sl, v_tup, v_lst, vs_nil, vs_cons, vo_none, vo_some, va_nil, va_cons, vi_rng1, vi_rng2, vi_rng3, vi_ex, v_comp, x_asg, x_unp, x_app, x_del, x_setI, ow_own, x_for, x_while, x_ret, x_fail, fz_var, fz_own, fz_val, fz_r1, fz_r2, fz_r3, fz_call, fz_bin, it_0, it_1, it_2, it_3, sz_0, sz_1, sz_2, sz_3, sz_4, sz_e0, sz_p0, sz_p1, ko_eq, kf_nil, kf_cons, lp_nil, bv_val, bv_own, bv_bor, ib_val, ib_own, ib_bor, fr_val, fr_own, lf_int, lf_bool, lf_none, lf_ints, as_int, as_bool, bd_add, bd_sub, bd_mul, bd_fdivp, bd_modp, bd_pow, bd_cat, bd_rep, cd_lt, cd_le, cd_gt, cd_ge, ix_list, ix_tuple, bo_none, bo_some, bt_one, bt_many, ag_val, ag_own, cmp_eq_int, cmp_ne_int, cmp_eq_ints, cmp_ne_ints, vv_val, vv_own, vr_val, vr_own, x_retV, ck_bool, ck_none, ck_int, ck_tuple, ck_list, ck_nb, ck_bn, ty_int, ty_bool, ty_list, ty_tuple, f__law_cost, hs, h2', h2'', asInts_map]
  · obtain ⟨p1, p3, p4, e⟩ := l_cost (callF wf fnsL n) wf (some (.val (.list (l.map .int)))) (List.range (l.length - 1)) (sortI l) 0 none none hp.2 (by simp; omega) (by omega)
    have hr := range_len (l.length - 1) (by omega)
    have h2' : ¬ (sortI l).length < 2 := by omega
    have h2'' : ¬ ((sortI l).length : Int) < 2 := by omega
    have h3 : ((sortI l).length : Int) - 1 = ((l.length - 1 : Nat) : Int) := by omega
    rw [if_neg h2]
    rw [hl] at e
    generalize sortI l = S at *
    have hr' : rangeD 0 ((S.length : Int) - 1) 1 = some ((List.range (l.length - 1)).map fun (i : Nat) => PyData.int i) := by rw [h3]; exact hr
    simp [x_run, x_cons, x_nil, x_ife, v_and, v_or, v_cmp2, v_var, lk_eq, ifO_some, ifO_ite, ifB_bool, ifB_ite, bind_ite, map_ite, asBl_bool, asBl_ite, fold_bool, seqB_next, seqB_ret, seqB_none, finB_none, seqB_ite, finB_ret, finB_next, finB_ite, v_int, v_bool, v_none, v_data, v_bin, v_neg, v_not, v_cmp, v_isC, v_isTy, v_call, v_len, ln_list, ln_tuple, v_abs, v_min2, v_max2, v_max1, v_sum1, v_list1, v_sorted, v_count, ls_list, v_idx, v_sl, v_tup, v_lst, vs_nil, vs_cons, vo_none, vo_some, va_nil, va_cons, vi_rng1, vi_rng2, vi_rng3, vi_ex, v_comp, x_asg, x_unp, x_app, x_del, x_setI, ow_own, x_for, x_while, x_ret, x_fail, fz_var, fz_own, fz_val, fz_r1, fz_r2, fz_r3, fz_call, fz_bin, it_0, it_1, it_2, it_3, sz_0, sz_1, sz_2, sz_3, sz_4, sz_e0, sz_p0, sz_p1, ko_eq, kf_nil, kf_cons, lp_nil, bv_val, bv_own, bv_bor, ib_val, ib_own, ib_bor, fr_val, fr_own, lf_int, lf_bool, lf_none, lf_ints, as_int, as_bool, bd_add, bd_sub, bd_mul, bd_fdivp, bd_modp, bd_pow, bd_cat, bd_rep, cd_lt, cd_le, cd_gt, cd_ge, ix_list, ix_tuple, bo_none, bo_some, bt_one, bt_many, ag_val, ag_own, cmp_eq_int, cmp_ne_int, cmp_eq_ints, cmp_ne_ints, vv_val, vv_own, vr_val, vr_own, x_retV, ck_bool, ck_none, ck_int, ck_tuple, ck_list, ck_nb, ck_bn, ty_int, ty_bool, ty_list, ty_tuple, f__law_cost, hs, h2', h2'', hr', e]
/-! ### the flat length -/
noncomputable def flatOf (n : Nat) : Int := if n ≤ 2 then 1 else if n ≤ 4 then 2 else if n ≤ 8 then 3 else 4
theorem flatOf_bd (n : Nat) : 1 ≤ flatOf n ∧ flatOf n ≤ 4 := by
  unfold flatOf
  repeat' split
  all_goals omega
theorem l_flat1 (F : Nat → List PyData → Option BV) (wf m n f : Nat) (hf : (f : Int) ≤ 1024) (a0 a1 a3 a5 a6 : Option AV) :
    whileB (.cmp .lt (.bin .pow (.int 2) (.var 4)) (.var 2)) b_law_huffman_beats_equal_lengths_2 F wf (m + 1) [a0, a1, some (.val (.int n)), a3, some (.val (.int f)), a5, a6] =
      if (2 : Int) ^ f < n then whileB (.cmp .lt (.bin .pow (.int 2) (.var 4)) (.var 2)) b_law_huffman_beats_equal_lengths_2 F wf m [a0, a1, some (.val (.int n)), a3, some (.val (.int ((f + 1 : Nat) : Int))), a5, a6] else some ([a0, a1, some (.val (.int n)), a3, some (.val (.int f)), a5, a6], .next) := by
  simp [x_run, x_cons, x_nil, x_ife, v_and, v_or, v_cmp2, v_var, lk_eq, ifO_some, ifO_ite, ifB_bool, ifB_ite, bind_ite, map_ite, asBl_bool, asBl_ite, fold_bool, seqB_next, seqB_ret, seqB_none, finB_none, seqB_ite, finB_ret, finB_next, finB_ite, v_int, v_bool, v_none, v_data, v_bin, v_neg, v_not, v_cmp, v_isC, v_isTy, v_call, v_len, ln_list, ln_tuple, v_abs, v_min2, v_max2, v_max1, v_sum1, v_list1, v_sorted, v_count, ls_list, v_idx, v_sl, v_tup, v_lst, vs_nil, vs_cons, vo_none, vo_some, va_nil, va_cons, vi_rng1, vi_rng2, vi_rng3, vi_ex, v_comp, x_asg, x_unp, x_app, x_del, x_setI, ow_own, x_for, x_while, x_ret, x_fail, fz_var, fz_own, fz_val, fz_r1, fz_r2, fz_r3, fz_call, fz_bin, it_0, it_1, it_2, it_3, sz_0, sz_1, sz_2, sz_3, sz_4, sz_e0, sz_p0, sz_p1, ko_eq, kf_nil, kf_cons, lp_nil, bv_val, bv_own, bv_bor, ib_val, ib_own, ib_bor, fr_val, fr_own, lf_int, lf_bool, lf_none, lf_ints, as_int, as_bool, bd_add, bd_sub, bd_mul, bd_fdivp, bd_modp, bd_pow, bd_cat, bd_rep, cd_lt, cd_le, cd_gt, cd_ge, ix_list, ix_tuple, bo_none, bo_some, bt_one, bt_many, ag_val, ag_own, cmp_eq_int, cmp_ne_int, cmp_eq_ints, cmp_ne_ints, vv_val, vv_own, vr_val, vr_own, x_retV, ck_bool, ck_none, ck_int, ck_tuple, ck_list, ck_nb, ck_bn, ty_int, ty_bool, ty_list, ty_tuple, wh_succ, b_law_huffman_beats_equal_lengths_2, hf]
theorem pw (n f k : Nat) (h : 2 ^ f = k) : ((2 : Int) ^ f < n) = (k < n) := by
  rw [pow2_cast, h]
  exact propext Int.ofNat_lt
theorem l_flat (F : Nat → List PyData → Option BV) (wf m n : Nat) (hn : n ≤ 16) (a0 a1 a3 a5 a6 : Option AV) :
    whileB (.cmp .lt (.bin .pow (.int 2) (.var 4)) (.var 2)) b_law_huffman_beats_equal_lengths_2 F wf (m + 5) [a0, a1, some (.val (.int n)), a3, some (.val (.int 1)), a5, a6] = some ([a0, a1, some (.val (.int n)), a3, some (.val (.int (flatOf n))), a5, a6], .next) := by
  have s1 := l_flat1 F wf (m + 4) n 1 (by decide) a0 a1 a3 a5 a6
  have s2 := l_flat1 F wf (m + 3) n 2 (by decide) a0 a1 a3 a5 a6
  have s3 := l_flat1 F wf (m + 2) n 3 (by decide) a0 a1 a3 a5 a6
  have s4 := l_flat1 F wf (m + 1) n 4 (by decide) a0 a1 a3 a5 a6
  simp only [pw n 1 2 rfl] at s1
  simp only [pw n 2 4 rfl] at s2
  simp only [pw n 3 8 rfl] at s3
  simp only [pw n 4 16 rfl] at s4
  refine s1.trans ?_
  unfold flatOf
  by_cases h1 : n ≤ 2
  · rw [if_neg (Nat.not_lt.mpr h1), if_pos h1]; rfl
  · rw [if_pos (Nat.not_le.mp h1), if_neg h1]
    refine s2.trans ?_
    by_cases h2 : n ≤ 4
    · rw [if_neg (Nat.not_lt.mpr h2), if_pos h2]; rfl
    · rw [if_pos (Nat.not_le.mp h2), if_neg h2]
      refine s3.trans ?_
      by_cases h3 : n ≤ 8
      · rw [if_neg (Nat.not_lt.mpr h3), if_pos h3]; rfl
      · rw [if_pos (Nat.not_le.mp h3), if_neg h3]
        refine s4.trans ?_
        rw [if_neg (Nat.not_lt.mpr hn)]; rfl
theorem comp_posC (F : Nat → List PyData → Option BV) (e : E) (c : List E) (k N : Nat) (he : e = .var k) (hcc : c = [.cmp .gt (.var k) (.int 0)]) (hk : k < N) (l : List Int) : compGo (turn e (.one k) c F (List.replicate N none)) (l.map .int) = some ((posC l).map .int) := by
  rw [compGo_filterMap (g := fun x => if 0 < x then some (.int x) else none) l fun x hx => ?_]
  · congr 1
    induction l with
    | nil => rfl
    | cons x l ih =>
      by_cases hp : 0 < x
      · rw [List.filterMap_cons, if_pos hp, ih]; simp [posC, hp]
      · rw [List.filterMap_cons, if_neg hp, ih]; simp [posC, hp]
  · subst he hcc
    by_cases hp : 0 < x
    · simp [x_run, x_cons, x_nil, x_ife, v_and, v_or, v_cmp2, v_var, lk_eq, ifO_some, ifO_ite, ifB_bool, ifB_ite, bind_ite, map_ite, asBl_bool, asBl_ite, fold_bool, seqB_next, seqB_ret, seqB_none, finB_none, seqB_ite, finB_ret, finB_next, finB_ite, v_int, v_bool, v_none, v_data, v_bin, v_neg, v_not, v_cmp, v_isC, v_isTy, v_call, v_len, ln_list, ln_tuple, v_abs, v_min2, v_max2, v_max1, v_sum1, v_list1, v_sorted, v_count, ls_list, v_idx, v_sl, v_tup, v_lst, vs_nil, vs_cons, vo_none, vo_some, va_nil, va_cons, vi_rng1, vi_rng2, vi_rng3, vi_ex, v_comp, x_asg, x_unp, x_app, x_del, x_setI, ow_own, x_for, x_while, x_ret, x_fail, fz_var, fz_own, fz_val, fz_r1, fz_r2, fz_r3, fz_call, fz_bin, it_0, it_1, it_2, it_3, sz_0, sz_1, sz_2, sz_3, sz_4, sz_e0, sz_p0, sz_p1, ko_eq, kf_nil, kf_cons, lp_nil, bv_val, bv_own, bv_bor, ib_val, ib_own, ib_bor, fr_val, fr_own, lf_int, lf_bool, lf_none, lf_ints, as_int, as_bool, bd_add, bd_sub, bd_mul, bd_fdivp, bd_modp, bd_pow, bd_cat, bd_rep, cd_lt, cd_le, cd_gt, cd_ge, ix_list, ix_tuple, bo_none, bo_some, bt_one, bt_many, ag_val, ag_own, cmp_eq_int, cmp_ne_int, cmp_eq_ints, cmp_ne_ints, vv_val, vv_own, vr_val, vr_own, x_retV, ck_bool, ck_none, ck_int, ck_tuple, ck_list, ck_nb, ck_bn, ty_int, ty_bool, ty_list, ty_tuple, turn, hk, hp]
    · simp [x_run, x_cons, x_nil, x_ife, v_and, v_or, v_cmp2, v_var, lk_eq, ifO_some, ifO_ite, ifB_bool, ifB_ite, bind_ite, map_ite, asBl_bool, asBl_ite, fold_bool, seqB_next, seqB_ret, seqB_none, finB_none, seqB_ite, finB_ret, finB_next, finB_ite, v_int, v_bool, v_none, v_data, v_bin, v_neg, v_not, v_cmp, v_isC, v_isTy, v_call, v_len, ln_list, ln_tuple, v_abs, v_min2, v_max2, v_max1, v_sum1, v_list1, v_sorted, v_count, ls_list, v_idx, v_sl, v_tup, v_lst, vs_nil, vs_cons, vo_none, vo_some, va_nil, va_cons, vi_rng1, vi_rng2, vi_rng3, vi_ex, v_comp, x_asg, x_unp, x_app, x_del, x_setI, ow_own, x_for, x_while, x_ret, x_fail, fz_var, fz_own, fz_val, fz_r1, fz_r2, fz_r3, fz_call, fz_bin, it_0, it_1, it_2, it_3, sz_0, sz_1, sz_2, sz_3, sz_4, sz_e0, sz_p0, sz_p1, ko_eq, kf_nil, kf_cons, lp_nil, bv_val, bv_own, bv_bor, ib_val, ib_own, ib_bor, fr_val, fr_own, lf_int, lf_bool, lf_none, lf_ints, as_int, as_bool, bd_add, bd_sub, bd_mul, bd_fdivp, bd_modp, bd_pow, bd_cat, bd_rep, cd_lt, cd_le, cd_gt, cd_ge, ix_list, ix_tuple, bo_none, bo_some, bt_one, bt_many, ag_val, ag_own, cmp_eq_int, cmp_ne_int, cmp_eq_ints, cmp_ne_ints, vv_val, vv_own, vr_val, vr_own, x_retV, ck_bool, ck_none, ck_int, ck_tuple, ck_list, ck_nb, ck_bn, ty_int, ty_bool, ty_list, ty_tuple, turn, hk, hp]
theorem preH_ok (n : Nat) (freq : List Int) (h : freq.length ≤ 12) : exs (callF fuelL fnsL (n + 4)) fuelL ([PyData.list (freq.map .int)].map (fun d => some (AV.val d)) ++ List.replicate 6 none) preH =
    some ([some (.val (.list (freq.map .int))), some (.val (.list ((lens freq).map .int))), some (.val (.int (posC freq).length)), none, some (.val (.int (flatOf (posC freq).length))), none, none], .next) := by
  have hl := c_lens n fuelL freq (by omega) (fun t ht => by
    have h1 := huff_size ht
    have h2 := List.length_filter_le (fun c => decide (0 < c)) freq
    rw [show fuelL = 100 from rfl]; omega) (by decide)
  have hpl : (posC freq).length ≤ freq.length := List.length_filter_le _ _
  have hw := l_flat (callF fuelL fnsL (n + 4)) fuelL 95 (posC freq).length (by omega) (some (.val (.list (freq.map .int)))) (some (.val (.list ((lens freq).map .int)))) none none none
  have hc := comp_posC (callF fuelL fnsL (n + 4)) e_law_huffman_beats_equal_lengths_0 c_law_huffman_beats_equal_lengths_1 3 7 rfl rfl (by decide) freq
  have hz : ¬ szLine < freq.length := by simp [szLine]; omega
  have hz' : freq.length ≤ szLine := by simp [szLine]; omega
  generalize lens freq = L at *
  generalize flatOf (posC freq).length = fl at *
  generalize posC freq = pc at *
  simp only [List.replicate] at hc
  have hf : (95 + 5 : Nat) = fuelL := rfl
  rw [hf] at hw
  simp [x_run, x_cons, x_nil, x_ife, v_and, v_or, v_cmp2, v_var, lk_eq, ifO_some, ifO_ite, ifB_bool, ifB_ite, bind_ite, map_ite, asBl_bool, asBl_ite, fold_bool, seqB_next, seqB_ret, seqB_none, finB_none, seqB_ite, finB_ret, finB_next, finB_ite, v_int, v_bool, v_none, v_data, v_bin, v_neg, v_not, v_cmp, v_isC, v_isTy, v_call, v_len, ln_list, ln_tuple, v_abs, v_min2, v_max2, v_max1, v_sum1, v_list1, v_sorted, v_count, ls_list, v_idx, v_sl, v_tup, v_lst, vs_nil, vs_cons, vo_none, vo_some, va_nil, va_cons, vi_rng1, vi_rng2, vi_rng3, vi_ex, v_comp, x_asg, x_unp, x_app, x_del, x_setI, ow_own, x_for, x_while, x_ret, x_fail, fz_var, fz_own, fz_val, fz_r1, fz_r2, fz_r3, fz_call, fz_bin, it_0, it_1, it_2, it_3, sz_0, sz_1, sz_2, sz_3, sz_4, sz_e0, sz_p0, sz_p1, ko_eq, kf_nil, kf_cons, lp_nil, bv_val, bv_own, bv_bor, ib_val, ib_own, ib_bor, fr_val, fr_own, lf_int, lf_bool, lf_none, lf_ints, as_int, as_bool, bd_add, bd_sub, bd_mul, bd_fdivp, bd_modp, bd_pow, bd_cat, bd_rep, cd_lt, cd_le, cd_gt, cd_ge, ix_list, ix_tuple, bo_none, bo_some, bt_one, bt_many, ag_val, ag_own, cmp_eq_int, cmp_ne_int, cmp_eq_ints, cmp_ne_ints, vv_val, vv_own, vr_val, vr_own, x_retV, ck_bool, ck_none, ck_int, ck_tuple, ck_list, ck_nb, ck_bn, ty_int, ty_bool, ty_list, ty_tuple, preH, hl, hc, hz, hz', hw]
theorem postH_ok (F : Nat → List PyData → Option BV) (wf : Nat) (freq : List Int) (n : Nat) (cost : Int) (a1 a2 a3 a6 : Option AV) : exs F wf [some (.val (.list (freq.map .int))), a1, a2, a3, some (.val (.int (flatOf n))), some (.val (.int cost)), a6] postH =
    some ([some (.val (.list (freq.map .int))), a1, a2, a3, some (.val (.int (flatOf n))), some (.val (.int cost)), a6], .ret (.val (.bool (decide (cost ≤ flatOf n * freq.sum))))) := by
  have h0 := flatOf_bd n
  have h1 : (-18446744073709551616 : Int) < flatOf n := by omega
  have h2 : flatOf n < 18446744073709551616 := by omega
  generalize flatOf n = fl at *
  simp [x_run, x_cons, x_nil, x_ife, v_and, v_or, v_cmp2, v_var, lk_eq, ifO_some, ifO_ite, ifB_bool, ifB_ite, bind_ite, map_ite, asBl_bool, asBl_ite, fold_bool, seqB_next, seqB_ret, seqB_none, finB_none, seqB_ite, finB_ret, finB_next, finB_ite, v_int, v_bool, v_none, v_data, v_bin, v_neg, v_not, v_cmp, v_isC, v_isTy, v_call, v_len, ln_list, ln_tuple, v_abs, v_min2, v_max2, v_max1, v_sum1, v_list1, v_sorted, v_count, ls_list, v_idx, v_sl, v_tup, v_lst, vs_nil, vs_cons, vo_none, vo_some, va_nil, va_cons, vi_rng1, vi_rng2, vi_rng3, vi_ex, v_comp, x_asg, x_unp, x_app, x_del, x_setI, ow_own, x_for, x_while, x_ret, x_fail, fz_var, fz_own, fz_val, fz_r1, fz_r2, fz_r3, fz_call, fz_bin, it_0, it_1, it_2, it_3, sz_0, sz_1, sz_2, sz_3, sz_4, sz_e0, sz_p0, sz_p1, ko_eq, kf_nil, kf_cons, lp_nil, bv_val, bv_own, bv_bor, ib_val, ib_own, ib_bor, fr_val, fr_own, lf_int, lf_bool, lf_none, lf_ints, as_int, as_bool, bd_add, bd_sub, bd_mul, bd_fdivp, bd_modp, bd_pow, bd_cat, bd_rep, cd_lt, cd_le, cd_gt, cd_ge, ix_list, ix_tuple, bo_none, bo_some, bt_one, bt_many, ag_val, ag_own, cmp_eq_int, cmp_ne_int, cmp_eq_ints, cmp_ne_ints, vv_val, vv_own, vr_val, vr_own, x_retV, ck_bool, ck_none, ck_int, ck_tuple, ck_list, ck_nb, ck_bn, ty_int, ty_bool, ty_list, ty_tuple, postH, asInts_map, h1, h2]
/-! ### no dearer than equal lengths -/
theorem sum_posC : ∀ (l : List Int), (∀ x ∈ l, 0 ≤ x) → (posC l).sum = l.sum
  | [], _ => rfl
  | x :: l, h => by
    have ih := sum_posC l fun y hy => h y (by simp [hy])
    have hx := h x (by simp)
    unfold posC at ih ⊢
    by_cases hp : 0 < x
    · rw [List.filter_cons_of_pos (by simpa using hp), List.sum_cons, List.sum_cons, ih]
    · rw [List.filter_cons_of_neg (by simpa using hp), List.sum_cons, ih]; omega
theorem sum_permI {l m : List Int} (h : l.Perm m) : l.sum = m.sum := by
  induction h with
  | nil => rfl
  | cons x _ ih => simp [ih]
  | swap x y l => simp; omega
  | trans _ _ h1 h2 => rw [h1, h2]
theorem cost_bound (freq : List Int) (h : freq.length ≤ 10) (hp : ∀ x ∈ freq, 0 ≤ x) : lawCost (posC freq) ≤ flatOf (posC freq).length * freq.sum := by
  rw [← sum_posC freq hp]
  have hpl : (posC freq).length ≤ freq.length := List.length_filter_le _ _
  have hpp : ∀ x ∈ posC freq, 0 ≤ x := fun x hx => hp x (List.mem_filter.mp hx).1
  generalize posC freq = W at *
  have hs := sortI_eq W
  have hsum := sum_permI hs.1
  have hlen := hs.1.length_eq
  have h0 : 0 ≤ W.sum := by
    clear hs hsum hlen hpl
    induction W with
    | nil => simp
    | cons x W ih =>
      have h1 := hpp x (by simp)
      have h2 := ih fun y hy => hpp y (by simp [hy])
      simp only [List.sum_cons]; omega
  unfold lawCost
  have key : ∀ k : Nat, W.length ≤ 2 ^ k → hc W.length (sortI W) ≤ k * W.sum := fun k hk => by
    have := hc_flat (sortI W) k hs.2 (fun x hx => hpp x (hs.1.mem_iff.mp hx)) (by omega)
    rw [hlen, hsum] at this
    exact this
  by_cases h2 : W.length < 2
  · rw [if_pos h2, hsum]
    unfold flatOf
    rw [if_pos (by omega)]; omega
  · rw [if_neg h2]
    unfold flatOf
    split
    · exact key 1 (by omega)
    · split
      · exact key 2 (by omega)
      · split
        · exact key 3 (by omega)
        · exact key 4 (by omega)
/-! ### the law -/
noncomputable def absI (c : Int) : Int := if c < 0 then -c else c
noncomputable def segA : List S := preL.take 4
noncomputable def segB : List S := preL.drop 4
theorem segA_ok (ns : List Int) : ∃ (C : List Int) (margin way : Int), C.length ≤ 9 ∧ (∀ x ∈ C, 0 ≤ x) ∧ 0 ≤ margin ∧ margin < 4 ∧
    exs (callF fuelL fnsL 19) fuelL ([PyData.list (ns.map .int)].map (fun d => some (AV.val d)) ++ List.replicate 13 none) segA =
      some ([some (.val (.list (ns.map .int))), some (.val (.int margin)), some (.val (.int way)), some (.val (.list (C.map .int))), none, none, none, none, none, none, none, none, none, none], .next) := by
  have hc0 := c_cell 18 fuelL ns 0 (by decide)
  have hc1 := c_cell 18 fuelL ns 1 (by decide)
  have hc2 := c_cell 18 fuelL ns 2 (by decide)
  obtain ⟨m, hm⟩ : ∃ m : Nat, cell1 ns 0 % 10 = m := ⟨(cell1 ns 0 % 10).toNat, by omega⟩
  have hr := range_len m (by omega)
  have hz : ¬ szLine < m := by simp [szLine]; omega
  have hz' : m ≤ szLine := by simp [szLine]; omega
  have hcomp : compGo (turn e_law_0 (.one 4) [] (callF fuelL fnsL 19) [some (.val (.list (ns.map .int))), none, none, none, none, none, none, none, none, none, none, none, none, none]) ((List.range m).map fun (i : Nat) => PyData.int i) = some (((List.range m).map fun (i : Nat) => absI (cell1 ns (3 + i))).map .int) := by
    rw [List.map_map]
    refine compGo_map _ fun x _ => ?_
    have hcx := c_cell 18 fuelL ns (3 + x) (by omega)
    simp [x_run, x_cons, x_nil, x_ife, v_and, v_or, v_cmp2, v_var, lk_eq, ifO_some, ifO_ite, ifB_bool, ifB_ite, bind_ite, map_ite, asBl_bool, asBl_ite, fold_bool, seqB_next, seqB_ret, seqB_none, finB_none, seqB_ite, finB_ret, finB_next, finB_ite, v_int, v_bool, v_none, v_data, v_bin, v_neg, v_not, v_cmp, v_isC, v_isTy, v_call, v_len, ln_list, ln_tuple, v_abs, v_min2, v_max2, v_max1, v_sum1, v_list1, v_sorted, v_count, ls_list, v_idx, v_sl, v_tup, v_lst, vs_nil, vs_cons, vo_none, vo_some, va_nil, va_cons, vi_rng1, vi_rng2, vi_rng3, vi_ex, v_comp, x_asg, x_unp, x_app, x_del, x_setI, ow_own, x_for, x_while, x_ret, x_fail, fz_var, fz_own, fz_val, fz_r1, fz_r2, fz_r3, fz_call, fz_bin, it_0, it_1, it_2, it_3, sz_0, sz_1, sz_2, sz_3, sz_4, sz_e0, sz_p0, sz_p1, ko_eq, kf_nil, kf_cons, lp_nil, bv_val, bv_own, bv_bor, ib_val, ib_own, ib_bor, fr_val, fr_own, lf_int, lf_bool, lf_none, lf_ints, as_int, as_bool, bd_add, bd_sub, bd_mul, bd_fdivp, bd_modp, bd_pow, bd_cat, bd_rep, cd_lt, cd_le, cd_gt, cd_ge, ix_list, ix_tuple, bo_none, bo_some, bt_one, bt_many, ag_val, ag_own, cmp_eq_int, cmp_ne_int, cmp_eq_ints, cmp_ne_ints, vv_val, vv_own, vr_val, vr_own, x_retV, ck_bool, ck_none, ck_int, ck_tuple, ck_list, ck_nb, ck_bn, ty_int, ty_bool, ty_list, ty_tuple, turn, e_law_0, hcx, absI]
  generalize hma : cell1 ns 1 % 4 = margin at *
  generalize hwa : cell1 ns 2 % 4 = way at *
  have hC : ((List.range m).map fun (i : Nat) => absI (cell1 ns (3 + i))).length = m := by simp
  have hC0 : ∀ x ∈ ((List.range m).map fun (i : Nat) => absI (cell1 ns (3 + i))), 0 ≤ x := fun x hx => by
    obtain ⟨i, _, rfl⟩ := List.mem_map.mp hx
    unfold absI
    split <;> omega
  generalize ((List.range m).map fun (i : Nat) => absI (cell1 ns (3 + i))) = C at *
  by_cases h2 : way % 2 = 1
  · have hcomp2 : compGo (turn e_law_1 (.one 5) [] (callF fuelL fnsL 19) [none, none, none, none, none, none, none, none, none, none, none, none, none, none]) (C.map .int) = some ((C.map fun c => c % 6).map .int) := by
      rw [List.map_map]
      refine compGo_map _ fun x _ => ?_
      simp [x_run, x_cons, x_nil, x_ife, v_and, v_or, v_cmp2, v_var, lk_eq, ifO_some, ifO_ite, ifB_bool, ifB_ite, bind_ite, map_ite, asBl_bool, asBl_ite, fold_bool, seqB_next, seqB_ret, seqB_none, finB_none, seqB_ite, finB_ret, finB_next, finB_ite, v_int, v_bool, v_none, v_data, v_bin, v_neg, v_not, v_cmp, v_isC, v_isTy, v_call, v_len, ln_list, ln_tuple, v_abs, v_min2, v_max2, v_max1, v_sum1, v_list1, v_sorted, v_count, ls_list, v_idx, v_sl, v_tup, v_lst, vs_nil, vs_cons, vo_none, vo_some, va_nil, va_cons, vi_rng1, vi_rng2, vi_rng3, vi_ex, v_comp, x_asg, x_unp, x_app, x_del, x_setI, ow_own, x_for, x_while, x_ret, x_fail, fz_var, fz_own, fz_val, fz_r1, fz_r2, fz_r3, fz_call, fz_bin, it_0, it_1, it_2, it_3, sz_0, sz_1, sz_2, sz_3, sz_4, sz_e0, sz_p0, sz_p1, ko_eq, kf_nil, kf_cons, lp_nil, bv_val, bv_own, bv_bor, ib_val, ib_own, ib_bor, fr_val, fr_own, lf_int, lf_bool, lf_none, lf_ints, as_int, as_bool, bd_add, bd_sub, bd_mul, bd_fdivp, bd_modp, bd_pow, bd_cat, bd_rep, cd_lt, cd_le, cd_gt, cd_ge, ix_list, ix_tuple, bo_none, bo_some, bt_one, bt_many, ag_val, ag_own, cmp_eq_int, cmp_ne_int, cmp_eq_ints, cmp_ne_ints, vv_val, vv_own, vr_val, vr_own, x_retV, ck_bool, ck_none, ck_int, ck_tuple, ck_list, ck_nb, ck_bn, ty_int, ty_bool, ty_list, ty_tuple, turn, e_law_1]
    have hzC : ¬ szLine < C.length := by rw [hC]; exact hz
    have hzC' : C.length ≤ szLine := by rw [hC]; exact hz'
    refine ⟨C.map fun c => c % 6, margin, way, by simp; omega, fun x hx => ?_, by omega, by omega, ?_⟩
    · obtain ⟨c, _, rfl⟩ := List.mem_map.mp hx
      omega
    · simp [x_run, x_cons, x_nil, x_ife, v_and, v_or, v_cmp2, v_var, lk_eq, ifO_some, ifO_ite, ifB_bool, ifB_ite, bind_ite, map_ite, asBl_bool, asBl_ite, fold_bool, seqB_next, seqB_ret, seqB_none, finB_none, seqB_ite, finB_ret, finB_next, finB_ite, v_int, v_bool, v_none, v_data, v_bin, v_neg, v_not, v_cmp, v_isC, v_isTy, v_call, v_len, ln_list, ln_tuple, v_abs, v_min2, v_max2, v_max1, v_sum1, v_list1, v_sorted, v_count, ls_list, v_idx, v_sl, v_tup, v_lst, vs_nil, vs_cons, vo_none, vo_some, va_nil, va_cons, vi_rng1, vi_rng2, vi_rng3, vi_ex, v_comp, x_asg, x_unp, x_app, x_del, x_setI, ow_own, x_for, x_while, x_ret, x_fail, fz_var, fz_own, fz_val, fz_r1, fz_r2, fz_r3, fz_call, fz_bin, it_0, it_1, it_2, it_3, sz_0, sz_1, sz_2, sz_3, sz_4, sz_e0, sz_p0, sz_p1, ko_eq, kf_nil, kf_cons, lp_nil, bv_val, bv_own, bv_bor, ib_val, ib_own, ib_bor, fr_val, fr_own, lf_int, lf_bool, lf_none, lf_ints, as_int, as_bool, bd_add, bd_sub, bd_mul, bd_fdivp, bd_modp, bd_pow, bd_cat, bd_rep, cd_lt, cd_le, cd_gt, cd_ge, ix_list, ix_tuple, bo_none, bo_some, bt_one, bt_many, ag_val, ag_own, cmp_eq_int, cmp_ne_int, cmp_eq_ints, cmp_ne_ints, vv_val, vv_own, vr_val, vr_own, x_retV, ck_bool, ck_none, ck_int, ck_tuple, ck_list, ck_nb, ck_bn, ty_int, ty_bool, ty_list, ty_tuple, segA, preL, hc0, hc1, hc2, hm, hma, hwa, hr, hz, hz', hcomp, h2, hcomp2, hzC, hzC']
  · exact ⟨C, margin, way, by omega, hC0, by omega, by omega, by simp [x_run, x_cons, x_nil, x_ife, v_and, v_or, v_cmp2, v_var, lk_eq, ifO_some, ifO_ite, ifB_bool, ifB_ite, bind_ite, map_ite, asBl_bool, asBl_ite, fold_bool, seqB_next, seqB_ret, seqB_none, finB_none, seqB_ite, finB_ret, finB_next, finB_ite, v_int, v_bool, v_none, v_data, v_bin, v_neg, v_not, v_cmp, v_isC, v_isTy, v_call, v_len, ln_list, ln_tuple, v_abs, v_min2, v_max2, v_max1, v_sum1, v_list1, v_sorted, v_count, ls_list, v_idx, v_sl, v_tup, v_lst, vs_nil, vs_cons, vo_none, vo_some, va_nil, va_cons, vi_rng1, vi_rng2, vi_rng3, vi_ex, v_comp, x_asg, x_unp, x_app, x_del, x_setI, ow_own, x_for, x_while, x_ret, x_fail, fz_var, fz_own, fz_val, fz_r1, fz_r2, fz_r3, fz_call, fz_bin, it_0, it_1, it_2, it_3, sz_0, sz_1, sz_2, sz_3, sz_4, sz_e0, sz_p0, sz_p1, ko_eq, kf_nil, kf_cons, lp_nil, bv_val, bv_own, bv_bor, ib_val, ib_own, ib_bor, fr_val, fr_own, lf_int, lf_bool, lf_none, lf_ints, as_int, as_bool, bd_add, bd_sub, bd_mul, bd_fdivp, bd_modp, bd_pow, bd_cat, bd_rep, cd_lt, cd_le, cd_gt, cd_ge, ix_list, ix_tuple, bo_none, bo_some, bt_one, bt_many, ag_val, ag_own, cmp_eq_int, cmp_ne_int, cmp_eq_ints, cmp_ne_ints, vv_val, vv_own, vr_val, vr_own, x_retV, ck_bool, ck_none, ck_int, ck_tuple, ck_list, ck_nb, ck_bn, ty_int, ty_bool, ty_list, ty_tuple, segA, preL, hc0, hc1, hc2, hm, hma, hwa, hr, hz, hz', hcomp, h2]⟩
theorem flat_item (n : Nat) (h : n ≤ 9) : itemD [PyData.int 1, .int 1, .int 1, .int 2, .int 2, .int 3, .int 3, .int 3, .int 3, .int 4] (n : Int) = some (.int (flatOf n)) := by
  match n, h with
  | 0, _ => rfl
  | 1, _ => rfl
  | 2, _ => rfl
  | 3, _ => rfl
  | 4, _ => rfl
  | 5, _ => rfl
  | 6, _ => rfl
  | 7, _ => rfl
  | 8, _ => rfl
  | 9, _ => rfl
theorem posC_cons {d : Int} (h : d ≤ 0) (C : List Int) : posC (d :: C) = posC C := by
  unfold posC
  rw [List.filter_cons_of_neg (by simp; omega)]
theorem posC_snoc {d : Int} (h : d ≤ 0) (C : List Int) : posC (C ++ [d]) = posC C := by
  unfold posC
  rw [List.filter_append, List.filter_cons_of_neg (by simp; omega)]; simp
noncomputable def dueB (freq : List Int) : Bool := decide (lawCost (posC freq) ≤ flatOf (posC freq).length * freq.sum)
theorem segB_ok (o0 : Option AV) (C : List Int) (margin way : Int) (hC : C.length ≤ 9) (hp : ∀ x ∈ C, 0 ≤ x) (hm : 0 ≤ margin) :
    ∃ (freq : List Int) (p8 p9 p10 p11 : Option AV), freq.length ≤ 10 ∧ exs (callF fuelL fnsL 19) fuelL [o0, some (.val (.int margin)), some (.val (.int way)), some (.val (.list (C.map .int))), none, none, none, none, none, none, none, none, none, none] segB =
      some ([o0, some (.val (.int margin)), some (.val (.int way)), some (.val (.list (C.map .int))), none, none, some (.val (.list (freq.map .int))), some (.val (.bool (dueB freq))), p8, p9, p10, p11, some (.val (.list (freq.map .int))), none], .next) := by
  by_cases h0 : 0 < margin
  · have hcomp := comp_posC (callF fuelL fnsL 19) e_law_2 c_law_3 5 14 rfl rfl (by decide) C
    have hpl : (posC C).length ≤ C.length := List.length_filter_le _ _
    have hcost := c_cost 18 fuelL (posC C) (by omega)
    have hfl := flat_item (posC C).length (by omega)
    have hfb := flatOf_bd (posC C).length
    have hz : ¬ szLine < C.length := by simp [szLine]; omega
    have hz' : C.length ≤ szLine := by simp [szLine]; omega
    have hz1 : C.length + 1 ≤ szLine := by simp [szLine]; omega
    have hz2 : 1 + C.length ≤ szLine := by simp [szLine]; omega
    obtain ⟨debt, hdebt, hd0⟩ : ∃ debt : Int, (if lawCost (posC C) / flatOf (posC C).length + margin - 2 - C.sum < 0 then lawCost (posC C) / flatOf (posC C).length + margin - 2 - C.sum else 0) = debt ∧ debt ≤ 0 := ⟨_, rfl, by split <;> omega⟩
    have hb1 : 0 < flatOf (posC C).length := by omega
    have hb2 : flatOf (posC C).length < 340282366920938463463374607431768211456 := by omega
    have hb3 : (-18446744073709551616 : Int) < flatOf (posC C).length := by omega
    have hb4 : flatOf (posC C).length < 18446744073709551616 := by omega
    have hlc : (posC C).length < 60 := by omega
    simp only [List.replicate] at hcomp
    by_cases hw : way < 2
    · refine ⟨debt :: C, some (.val (.list ((posC C).map .int))), some (.val (.int (lawCost (posC C)))), some (.val (.int (flatOf (posC C).length))), some (.val (.int debt)), by simp; omega, ?_⟩
      have hdue : dueB (debt :: C) = decide (lawCost (posC C) ≤ flatOf (posC C).length * (debt + C.sum)) := by
        unfold dueB; rw [posC_cons hd0, List.sum_cons]
      rw [hdue]
      have has := asInts_map (debt :: C)
      simp only [List.map_cons] at has
      generalize flatOf (posC C).length = fl at *
      generalize lawCost (posC C) = lc at *
      generalize posC C = pc at *
      simp [x_run, x_cons, x_nil, x_ife, v_and, v_or, v_cmp2, v_var, lk_eq, ifO_some, ifO_ite, ifB_bool, ifB_ite, bind_ite, map_ite, asBl_bool, asBl_ite, fold_bool, seqB_next, seqB_ret, seqB_none, finB_none, seqB_ite, finB_ret, finB_next, finB_ite, v_int, v_bool, v_none, v_data, v_bin, v_neg, v_not, v_cmp, v_isC, v_isTy, v_call, v_len, ln_list, ln_tuple, v_abs, v_min2, v_max2, v_max1, v_sum1, v_list1, v_sorted, v_count, ls_list, v_idx, v_sl, v_tup, v_lst, vs_nil, vs_cons, vo_none, vo_some, va_nil, va_cons, vi_rng1, vi_rng2, vi_rng3, vi_ex, v_comp, x_asg, x_unp, x_app, x_del, x_setI, ow_own, x_for, x_while, x_ret, x_fail, fz_var, fz_own, fz_val, fz_r1, fz_r2, fz_r3, fz_call, fz_bin, it_0, it_1, it_2, it_3, sz_0, sz_1, sz_2, sz_3, sz_4, sz_e0, sz_p0, sz_p1, ko_eq, kf_nil, kf_cons, lp_nil, bv_val, bv_own, bv_bor, ib_val, ib_own, ib_bor, fr_val, fr_own, lf_int, lf_bool, lf_none, lf_ints, as_int, as_bool, bd_add, bd_sub, bd_mul, bd_fdivp, bd_modp, bd_pow, bd_cat, bd_rep, cd_lt, cd_le, cd_gt, cd_ge, ix_list, ix_tuple, bo_none, bo_some, bt_one, bt_many, ag_val, ag_own, cmp_eq_int, cmp_ne_int, cmp_eq_ints, cmp_ne_ints, vv_val, vv_own, vr_val, vr_own, x_retV, ck_bool, ck_none, ck_int, ck_tuple, ck_list, ck_nb, ck_bn, ty_int, ty_bool, ty_list, ty_tuple, segB, preL, h0, hcomp, hz, hz', hcost, hfl, hb1, hb2, hb3, hb4, asInts_map, hdebt, hw, hz1, hz2, has]
    · refine ⟨C ++ [debt], some (.val (.list ((posC C).map .int))), some (.val (.int (lawCost (posC C)))), some (.val (.int (flatOf (posC C).length))), some (.val (.int debt)), by simp; omega, ?_⟩
      have hdue : dueB (C ++ [debt]) = decide (lawCost (posC C) ≤ flatOf (posC C).length * (C.sum + debt)) := by
        unfold dueB; rw [posC_snoc hd0, List.sum_append]; simp
      rw [hdue]
      have has := asInts_map (C ++ [debt])
      simp only [List.map_append, List.map_cons, List.map_nil] at has
      generalize flatOf (posC C).length = fl at *
      generalize lawCost (posC C) = lc at *
      generalize posC C = pc at *
      simp [x_run, x_cons, x_nil, x_ife, v_and, v_or, v_cmp2, v_var, lk_eq, ifO_some, ifO_ite, ifB_bool, ifB_ite, bind_ite, map_ite, asBl_bool, asBl_ite, fold_bool, seqB_next, seqB_ret, seqB_none, finB_none, seqB_ite, finB_ret, finB_next, finB_ite, v_int, v_bool, v_none, v_data, v_bin, v_neg, v_not, v_cmp, v_isC, v_isTy, v_call, v_len, ln_list, ln_tuple, v_abs, v_min2, v_max2, v_max1, v_sum1, v_list1, v_sorted, v_count, ls_list, v_idx, v_sl, v_tup, v_lst, vs_nil, vs_cons, vo_none, vo_some, va_nil, va_cons, vi_rng1, vi_rng2, vi_rng3, vi_ex, v_comp, x_asg, x_unp, x_app, x_del, x_setI, ow_own, x_for, x_while, x_ret, x_fail, fz_var, fz_own, fz_val, fz_r1, fz_r2, fz_r3, fz_call, fz_bin, it_0, it_1, it_2, it_3, sz_0, sz_1, sz_2, sz_3, sz_4, sz_e0, sz_p0, sz_p1, ko_eq, kf_nil, kf_cons, lp_nil, bv_val, bv_own, bv_bor, ib_val, ib_own, ib_bor, fr_val, fr_own, lf_int, lf_bool, lf_none, lf_ints, as_int, as_bool, bd_add, bd_sub, bd_mul, bd_fdivp, bd_modp, bd_pow, bd_cat, bd_rep, cd_lt, cd_le, cd_gt, cd_ge, ix_list, ix_tuple, bo_none, bo_some, bt_one, bt_many, ag_val, ag_own, cmp_eq_int, cmp_ne_int, cmp_eq_ints, cmp_ne_ints, vv_val, vv_own, vr_val, vr_own, x_retV, ck_bool, ck_none, ck_int, ck_tuple, ck_list, ck_nb, ck_bn, ty_int, ty_bool, ty_list, ty_tuple, segB, preL, h0, hcomp, hz, hz', hcost, hfl, hb1, hb2, hb3, hb4, asInts_map, hdebt, hw, hz1, hz2, has]
  · have hdue : dueB C = true := by
      unfold dueB
      exact decide_eq_true (cost_bound C (by omega) hp)
    exact ⟨C, none, none, none, none, by omega, by rw [hdue]; simp [x_run, x_cons, x_nil, x_ife, v_and, v_or, v_cmp2, v_var, lk_eq, ifO_some, ifO_ite, ifB_bool, ifB_ite, bind_ite, map_ite, asBl_bool, asBl_ite, fold_bool, seqB_next, seqB_ret, seqB_none, finB_none, seqB_ite, finB_ret, finB_next, finB_ite, v_int, v_bool, v_none, v_data, v_bin, v_neg, v_not, v_cmp, v_isC, v_isTy, v_call, v_len, ln_list, ln_tuple, v_abs, v_min2, v_max2, v_max1, v_sum1, v_list1, v_sorted, v_count, ls_list, v_idx, v_sl, v_tup, v_lst, vs_nil, vs_cons, vo_none, vo_some, va_nil, va_cons, vi_rng1, vi_rng2, vi_rng3, vi_ex, v_comp, x_asg, x_unp, x_app, x_del, x_setI, ow_own, x_for, x_while, x_ret, x_fail, fz_var, fz_own, fz_val, fz_r1, fz_r2, fz_r3, fz_call, fz_bin, it_0, it_1, it_2, it_3, sz_0, sz_1, sz_2, sz_3, sz_4, sz_e0, sz_p0, sz_p1, ko_eq, kf_nil, kf_cons, lp_nil, bv_val, bv_own, bv_bor, ib_val, ib_own, ib_bor, fr_val, fr_own, lf_int, lf_bool, lf_none, lf_ints, as_int, as_bool, bd_add, bd_sub, bd_mul, bd_fdivp, bd_modp, bd_pow, bd_cat, bd_rep, cd_lt, cd_le, cd_gt, cd_ge, ix_list, ix_tuple, bo_none, bo_some, bt_one, bt_many, ag_val, ag_own, cmp_eq_int, cmp_ne_int, cmp_eq_ints, cmp_ne_ints, vv_val, vv_own, vr_val, vr_own, x_retV, ck_bool, ck_none, ck_int, ck_tuple, ck_list, ck_nb, ck_bn, ty_int, ty_bool, ty_list, ty_tuple, segB, preL, h0]⟩
theorem preL_ok (ns : List Int) : ∃ (freq : List Int) (p1 p2 p3 p8 p9 p10 p11 : Option AV), freq.length ≤ 10 ∧
    exs (callF fuelL fnsL 19) fuelL ([PyData.list (ns.map .int)].map (fun d => some (AV.val d)) ++ List.replicate 13 none) preL =
      some ([some (.val (.list (ns.map .int))), p1, p2, p3, none, none, some (.val (.list (freq.map .int))), some (.val (.bool (dueB freq))), p8, p9, p10, p11, some (.val (.list (freq.map .int))), none], .next) := by
  obtain ⟨C, margin, way, hC, hp, hm, _, e1⟩ := segA_ok ns
  obtain ⟨freq, p8, p9, p10, p11, hf, e2⟩ := segB_ok (some (.val (.list (ns.map .int)))) C margin way hC hp hm
  refine ⟨freq, some (.val (.int margin)), some (.val (.int way)), some (.val (.list (C.map .int))), p8, p9, p10, p11, hf, ?_⟩
  rw [show preL = segA ++ segB from rfl, x_append, e1, seqB_next]
  exact e2
theorem postL_ok (F : Nat → List PyData → Option BV) (wf : Nat) (freq : List Int) (b : Bool) (a0 a1 a2 a3 a4 a5 a8 a9 a10 a11 : Option AV) : ∃ G, exs F wf [a0, a1, a2, a3, a4, a5, some (.val (.list (freq.map .int))), some (.val (.bool b)), a8, a9, a10, a11, some (.val (.list (freq.map .int))), some (.val (.bool b))] postL = some (G, .ret (.val (.bool true))) := by
  refine ⟨[a0, a1, a2, a3, a4, a5, some (.val (.list (freq.map .int))), some (.val (.bool b)), a8, a9, a10, a11, some (.val (.list (freq.map .int))), some (.val (.bool b))], ?_⟩
  cases b with
  | true => simp [x_run, x_cons, x_nil, x_ife, v_and, v_or, v_cmp2, v_var, lk_eq, ifO_some, ifO_ite, ifB_bool, ifB_ite, bind_ite, map_ite, asBl_bool, asBl_ite, fold_bool, seqB_next, seqB_ret, seqB_none, finB_none, seqB_ite, finB_ret, finB_next, finB_ite, v_int, v_bool, v_none, v_data, v_bin, v_neg, v_not, v_cmp, v_isC, v_isTy, v_call, v_len, ln_list, ln_tuple, v_abs, v_min2, v_max2, v_max1, v_sum1, v_list1, v_sorted, v_count, ls_list, v_idx, v_sl, v_tup, v_lst, vs_nil, vs_cons, vo_none, vo_some, va_nil, va_cons, vi_rng1, vi_rng2, vi_rng3, vi_ex, v_comp, x_asg, x_unp, x_app, x_del, x_setI, ow_own, x_for, x_while, x_ret, x_fail, fz_var, fz_own, fz_val, fz_r1, fz_r2, fz_r3, fz_call, fz_bin, it_0, it_1, it_2, it_3, sz_0, sz_1, sz_2, sz_3, sz_4, sz_e0, sz_p0, sz_p1, ko_eq, kf_nil, kf_cons, lp_nil, bv_val, bv_own, bv_bor, ib_val, ib_own, ib_bor, fr_val, fr_own, lf_int, lf_bool, lf_none, lf_ints, as_int, as_bool, bd_add, bd_sub, bd_mul, bd_fdivp, bd_modp, bd_pow, bd_cat, bd_rep, cd_lt, cd_le, cd_gt, cd_ge, ix_list, ix_tuple, bo_none, bo_some, bt_one, bt_many, ag_val, ag_own, cmp_eq_int, cmp_ne_int, cmp_eq_ints, cmp_ne_ints, vv_val, vv_own, vr_val, vr_own, x_retV, ck_bool, ck_none, ck_int, ck_tuple, ck_list, ck_nb, ck_bn, ty_int, ty_bool, ty_list, ty_tuple, postL]
  | false => simp [x_run, x_cons, x_nil, x_ife, v_and, v_or, v_cmp2, v_var, lk_eq, ifO_some, ifO_ite, ifB_bool, ifB_ite, bind_ite, map_ite, asBl_bool, asBl_ite, fold_bool, seqB_next, seqB_ret, seqB_none, finB_none, seqB_ite, finB_ret, finB_next, finB_ite, v_int, v_bool, v_none, v_data, v_bin, v_neg, v_not, v_cmp, v_isC, v_isTy, v_call, v_len, ln_list, ln_tuple, v_abs, v_min2, v_max2, v_max1, v_sum1, v_list1, v_sorted, v_count, ls_list, v_idx, v_sl, v_tup, v_lst, vs_nil, vs_cons, vo_none, vo_some, va_nil, va_cons, vi_rng1, vi_rng2, vi_rng3, vi_ex, v_comp, x_asg, x_unp, x_app, x_del, x_setI, ow_own, x_for, x_while, x_ret, x_fail, fz_var, fz_own, fz_val, fz_r1, fz_r2, fz_r3, fz_call, fz_bin, it_0, it_1, it_2, it_3, sz_0, sz_1, sz_2, sz_3, sz_4, sz_e0, sz_p0, sz_p1, ko_eq, kf_nil, kf_cons, lp_nil, bv_val, bv_own, bv_bor, ib_val, ib_own, ib_bor, fr_val, fr_own, lf_int, lf_bool, lf_none, lf_ints, as_int, as_bool, bd_add, bd_sub, bd_mul, bd_fdivp, bd_modp, bd_pow, bd_cat, bd_rep, cd_lt, cd_le, cd_gt, cd_ge, ix_list, ix_tuple, bo_none, bo_some, bt_one, bt_many, ag_val, ag_own, cmp_eq_int, cmp_ne_int, cmp_eq_ints, cmp_ne_ints, vv_val, vv_own, vr_val, vr_own, x_retV, ck_bool, ck_none, ck_int, ck_tuple, ck_list, ck_nb, ck_bn, ty_int, ty_bool, ty_list, ty_tuple, postL]
theorem lens_len (freq : List Int) : (lens freq).length = freq.length := by
  have fold : ∀ (l : List (Int × Int)) (L : List Int), (l.foldl setL L).length = L.length := by
    intro l
    induction l with
    | nil => intro L; rfl
    | cons p l ih => intro L; rw [List.foldl_cons, ih]; simp [setL]
  unfold lens
  split
  · simp
  · simp
  · rw [fold]; simp
theorem due_eq (freq : List Int) : decide (dot freq (lens freq) ≤ flatOf (posC freq).length * freq.sum) = dueB freq := by
  unfold dueB
  rw [cost_eq]

end Mine

namespace Mine
open PySem PyProof.Rows
noncomputable def RO : List DefRec := recsOf PySem.Challenge.pw_k10_0038
set_option maxRecDepth 100000 in
theorem RO_len : RO.length = 9 := by decide +kernel
noncomputable def D7 : DefRec := RO[5]'(by rw [RO_len]; decide)
noncomputable def D8 : DefRec := RO[8]'(by rw [RO_len]; decide)
noncomputable def RS : List DefRec := [RO[0]'(by rw [RO_len]; decide), RO[1]'(by rw [RO_len]; decide), RO[2]'(by rw [RO_len]; decide), RO[3]'(by rw [RO_len]; decide), RO[4]'(by rw [RO_len]; decide), RO[6]'(by rw [RO_len]; decide), RO[7]'(by rw [RO_len]; decide), D7, D8]
noncomputable def NF : Nf := ⟨RS, [("_law_flat", [1, 1, 1, 2, 2, 3, 3, 3, 3, 4])]⟩
theorem RS_mem (d : DefRec) (h : d ∈ RS) : d ∈ RO := by
  simp only [RS, D7, D8, List.mem_cons, List.not_mem_nil, or_false] at h
  rcases h with rfl | rfl | rfl | rfl | rfl | rfl | rfl | rfl | rfl <;> exact List.getElem_mem _
set_option maxRecDepth 100000 in
theorem chk_ok : chkAll NF RS nmsL fnsL = true := by decide +kernel
set_option maxRecDepth 100000 in
theorem chk_preH : chkFn NF nmH { D7 with body := D7.body.take 4 } fnH = true := by decide +kernel
set_option maxRecDepth 100000 in
theorem chk_preL : chkFn NF nmL { D8 with body := D8.body.take 8 } fnL = true := by decide +kernel
set_option maxRecDepth 100000 in
theorem len7 : D7.body.length = 6 := by decide +kernel
set_option maxRecDepth 100000 in
theorem len8 : D8.body.length = 13 := by decide +kernel
set_option maxRecDepth 100000 in
theorem chk_sum : kSumSt nmH D7.scope 0 1 "cost" "freq" "lengths" "i" (D7.body[4]'(by rw [len7]; decide)) = true := by decide +kernel
set_option maxRecDepth 100000 in
theorem chk_call : kAsg1 "got" (kApp1 D7.name (kNameIs "freq")) (D8.body[8]'(by rw [len8]; decide)) = true := by decide +kernel
set_option maxRecDepth 100000 in
theorem chk_postH : chkSs nmH NF 60 D7.scope postH (D7.body.drop 5) = true := by decide +kernel
set_option maxRecDepth 100000 in
theorem chk_postL : chkSs nmL NF 60 D8.scope postL (D8.body.drop 9) = true := by decide +kernel
set_option maxRecDepth 100000 in
theorem chk_lc : kLC D7.scope "cost" = true ∧ kLC D8.scope "got" = true ∧ kGI D8.scope D7.name = true ∧ (D7.name == ("__debug__" : Str)) = false := by decide +kernel
theorem cut7 : D7.body = D7.body.take 4 ++ (D7.body[4]'(by rw [len7]; decide)) :: D7.body.drop 5 := by
  rw [← List.drop_eq_getElem_cons, List.take_append_drop]
theorem cut8 : D8.body = D8.body.take 8 ++ (D8.body[8]'(by rw [len8]; decide)) :: D8.body.drop 9 := by
  rw [← List.drop_eq_getElem_cons, List.take_append_drop]
end Mine
open PySem PySem.W PyProof.Rows in
set_option maxRecDepth 100000 in
set_option maxHeartbeats 8000000 in
theorem PySem.Challenge.cw_k10_0038_holds : PySem.Challenge.rw_k10_0038.Holds := by
  (w_on; o_law; k_head; (case hw => w_witness2); w_strict (
  k_fill
  intro w s₀ s₁ mg mb G Y fa o pm cd doc dV kV ho hd hcd hD hmg hg args vals as hpre hlay hrd hwl hlo
  refine Ground.open G ?_
  intro T B D TE TW
  wrow_args hpre hlay hrd hwl hlo
  obtain ⟨gsc, p1, pu1, px1, ps1, pv1, px2, ps2, bp, px, pr, pl, pu2, plc, prc, gpos, pos, py, apos, est, okS⟩ := Mine.kSumSt_ok Mine.chk_sum
  obtain ⟨q1, q2, q3, q4, q5, est'⟩ := Mine.kCallSt_ok Mine.chk_call
  have hc7 := Mine.cut7
  have hc8 := Mine.cut8
  rw [est] at hc7
  rw [est'] at hc8
  obtain ⟨freq, a1, a2, a3, a8, a9, a10, a11, hfl, hpreL⟩ := Mine.preL_ok _
  have hpreH := Mine.preH_ok 14 freq (by omega)
  have hpostH := Mine.postH_ok (Mine.callF Mine.fuelL Mine.fnsL 18) Mine.fuelL freq (Mine.posC freq).length (Mine.dot freq (Mine.lens freq)) (some (.val (.list ((Mine.lens freq).map .int)))) (some (.val (.int (Mine.posC freq).length))) none none
  rw [Mine.due_eq] at hpostH
  obtain ⟨G2, hpostL⟩ := Mine.postL_ok (Mine.callF Mine.fuelL Mine.fnsL 19) Mine.fuelL freq (Mine.dueB freq) _ a1 a2 a3 none none a8 a9 a10 a11
  refine Mine.law_sum (nf := Mine.NF) (fns := Mine.fnsL) (n := 18) (wf := Mine.fuelL) (f := 8) (f' := 7) (d := Mine.D8) (d' := Mine.D7) (ku := 0) (kv := 1) (ky := 5) (kf := 6) (kg := 13) (U := freq) (V := Mine.lens freq) (b := Mine.dueB freq) (fn := Mine.fnL) (fn' := Mine.fnH) T
    (fun i d e => Mine.RS_mem d (List.mem_of_getElem? e)) ?hlit ?hbi (Mine.chkAll_ok Mine.chk_ok) rfl hmg (by assumption) (Mine.well_nod (by assumption)) (by assumption) (Int.ofNat_le.mp (Int.not_lt.mp (by assumption))) (by decide) (by decide) hg
    rfl ?hfind (Mine.chkFn_ok Mine.chk_preH) hc7 okS rfl (Mine.kLC_ok Mine.chk_lc.1) Mine.chk_postH hpreH rfl rfl rfl (Nat.le_of_eq (Mine.lens_len freq).symm) (by omega) (fun y hy => by have := Mine.lens_bd hy; omega) hpostH
    (Mine.chkFn_ok Mine.chk_preL) hc8 rfl (by decide) rfl (Mine.kLC_ok Mine.chk_lc.2.1) (Mine.kGI_ok Mine.chk_lc.2.2.1) Mine.chk_lc.2.2.2 Mine.chk_postL hpreL rfl rfl hpostL fun s' g5 c Pt L ps m B5 F5 hb hos => ?fin
  case hlit =>
    intro q hq
    have := List.mem_singleton.mp hq
    subst this
    exact B.tupI _ _ (by decide +kernel)
  case hbi => decide +kernel
  case hfind => rfl
  case fin =>
    refine goodWG_reads (d := .bool true) (as := []) B5 F5 hb (fun _ => rfl) (.bool true) (fun _ => ⟨.nil, fun _ h => (nomatch h)⟩) ?_ hos
    exact postW_of rfl rfl (by first | decide | decide +kernel | simp [same])
  ))


