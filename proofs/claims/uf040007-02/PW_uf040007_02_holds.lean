import PyProof.Rows.All
import Open.Line
import KE.KDictSum
import PyProof.Rows.SetFrom
import PySem.Challenge.RW_uf040007_02
set_option Elab.async false
set_option linter.unusedVariables false
set_option linter.unusedSimpArgs false
set_option genSizeOfSpec false
set_option genSizeOf false
set_option genSizeOfSpec false
set_option genInjectivity false
namespace Mine
open PySem

/-- abstract values -/
inductive AV where
  | none
  | bool (b : Bool)
  | int (i : Int)
  | str (s : List Nat)
  | tup (vs : List AV)
  | loc (n : Nat)
  | rng (a b s : Int)
  | scr (xs : List Int)

set_option genInjectivity true in
inductive Key where
  | int (i : Int)
  | pair (a b : Int)
  deriving DecidableEq

inductive AObj where
  | list (vs : List AV)
  | dict (kvs : List (Key × AV)) (ep : Nat)

abbrev AHeap := List AObj
abbrev Locs := List (Option AV)

inductive Res (α : Type) where
  | ok (a : α) (h : AHeap)
  | bad

inductive COp where
  | eq | ne | lt | le | gt | ge | isin | notin
inductive BOp where
  | add | sub | mul | div | mod | pow
inductive BI where
  | len | sorted | list
inductive Ty where
  | int | bool | tuple | list

mutual
inductive X where
  | none
  | bool (b : Bool)
  | int (i : Int)
  | str (s : List Nat)
  | loc (i : Nat)
  | bin (op : BOp) (l r : X)
  | neg (x : X)
  | not (x : X)
  | and (l r : X)
  | or (l r : X)
  | cmp (op : COp) (l r : X)
  | call (f : Str) (as : Xs)
  | bi (b : BI) (as : Xs)
  | isi (x : X) (t : Ty)
  | append (o : X) (as : Xs)
  | sub (o i : X)
  | lenset (x : X)
  | tup (es : Xs)
  | list (es : Xs)
  | dict0
  | dict1 (k v : X)
  | range (as : Xs)
inductive Xs where
  | nil
  | cons (x : X) (xs : Xs)
end

/-- a comprehension: what it gives, how many names, which one, of what, if what -/
structure CP where
  e : X
  k : Nat
  j : Nat
  it : X
  cs : Xs

mutual
inductive S where
  | expr (x : X)
  | ret (x : X)
  | asg (i : Nat) (x : X)
  | setitem (o k x : X)
  | iff (c : X) (a b : Ss)
  | whil (c : X) (b : Ss)
  | forr (i : Nat) (it : X) (b : Ss)
  | comp (i : Nat) (p : CP)
  | retc (p : CP)
inductive Ss where
  | nil
  | cons (s : S) (r : Ss)
end

structure FDef where
  params : Nat
  slots : Nat
  body : Ss

end Mine

namespace Mine
open PySem

structure Cx where
  sc : Scope
  loc : List (Str × Nat)
  n : Nat
  funs : List Str

noncomputable def isLocKind : NameKind → Bool
  | .local | .cell | .free => true
  | _ => false

noncomputable def plainName (x : Str) : Bool := x != ("__debug__" : Str) && x != ("__classdict__" : Str)
noncomputable def Cx.slot (c : Cx) (x : Str) : Option Nat :=
  match c.sc.names.lookup x with
  | some k => if isLocKind k && plainName x then c.loc.lookup x else none
  | none => none
noncomputable def Cx.isGlob (c : Cx) (x : Str) : Bool := c.sc.names.lookup x == some .globalImplicit && plainName x

noncomputable def Cx.slotW (c : Cx) (x : Str) : Option Nat :=
  match c.sc.names.lookup x with
  | some .local | some .cell => c.slot x
  | _ => none
noncomputable def isComp : Expr → Bool
  | .ListComp .. | .SetComp .. | .DictComp .. | .GeneratorExp .. => true
  | _ => false

noncomputable def compBOp : Operator → Option BOp
  | .Add => some .add | .Sub => some .sub | .Mult => some .mul | .FloorDiv => some .div | .Mod => some .mod | .Pow => some .pow
  | _ => none
noncomputable def compCOp : CmpOp → Option COp
  | .Eq => some .eq | .NotEq => some .ne | .Lt => some .lt | .LtE => some .le | .Gt => some .gt | .GtE => some .ge
  | .In => some .isin | .NotIn => some .notin
  | _ => none

noncomputable def biOf (x : Str) : Option BI := if x == ("len" : Str) then some .len else if x == ("sorted" : Str) then some .sorted else if x == ("list" : Str) then some .list else none
noncomputable def tyOf (x : Str) : Option Ty := if x == ("int" : Str) then some .int else if x == ("bool" : Str) then some .bool else if x == ("tuple" : Str) then some .tuple else if x == ("list" : Str) then some .list else none

noncomputable def tgtName : Expr → Option Str
  | .Name x _ => some x
  | _ => none
noncomputable def compTy (c : Cx) (e : Expr) : Option Ty := (tgtName e).bind fun x => if c.isGlob x then tyOf x else none
/-- the block of a comprehension: its own names behind those of the function -/
noncomputable def ownNames (scope : Scope) : List Str := scope.names.filterMap fun p => if p.2 == .local && p.1 != (".0" : Str) then some p.1 else none
noncomputable def innerCx (c : Cx) (scope : Scope) : Cx :=
  { c with sc := scope, loc := (ownNames scope).zipIdx c.n ++ c.loc, n := c.n + (ownNames scope).length }
/-- the block's names: each once; its own, those of the function's cells, those of the top -/
noncomputable def innerName (c : Cx) (p : Str × NameKind) : Bool := match p.2 with
  | .local => p.1 != (".0" : Str) || (c.loc.lookup p.1).isNone
  | .free => c.sc.names.lookup p.1 == some .cell && (c.slot p.1).isSome
  | .globalImplicit => true
  | _ => false
noncomputable def innerOk (c : Cx) (scope : Scope) : Bool :=
  scope.kind == .function && decide (scope.names.map (·.1)).Nodup && scope.names.all (innerName c)

noncomputable def compTyArgs (c : Cx) (as : List Expr) : Option Ty := match as with
  | [] => none
  | _ :: r => match r with
    | [] => none
    | t :: r => match r with
      | [] => compTy c t
      | _ => none
noncomputable def compCall (c : Cx) (f : Str) (as : Xs) : Option X :=
  if c.funs.contains f then some (.call f as)
  else if f == ("range" : Str) then some (.range as)
  else match biOf f with
    | some b => some (.bi b as)
    | none => none

noncomputable def notSuper : Expr → Bool
  | .Name .. => true
  | .Subscript .. => true
  | _ => false

noncomputable def compConst : Const → Option X
  | .none => some .none
  | .bool b => some (.bool b)
  | .int i => some (.int i)
  | .str s => some (.str s.cps.toList)
  | _ => none
noncomputable def compName (c : Cx) (x : Str) : Option X :=
  match c.slot x with
  | some i => some (.loc i)
  | none => none
noncomputable def compUn (op : UnaryOp) (x : X) : Option X := match op with
  | .USub => some (.neg x)
  | .Not => some (.not x)
  | _ => none
noncomputable def compCmp1 (ops : List CmpOp) (l : X) (rs : Xs) : Option X := match rs with
  | .cons r .nil => match ops with
    | [op] => match compCOp op with
      | some o => some (.cmp o l r)
      | none => none
    | _ => none
  | _ => none
noncomputable def compBool (f : Expr → Option X) (op : BoolOp) : List Expr → Option X
  | [] => none
  | x :: r => match r with
    | [] => f x
    | _ => do
      let a ← f x
      let b ← compBool f op r
      return match op with | .And => .and a b | .Or => .or a b
noncomputable def compEs (f : Expr → Option X) : List Expr → Option Xs
  | [] => some .nil
  | e :: r => do return .cons (← f e) (← compEs f r)
noncomputable def compHead (f : Expr → Option X) : List Expr → Option X
  | [] => none
  | e :: _ => f e
noncomputable def compDict (f : Expr → Option X) : List (Option Expr) → List Expr → Option X
  | [], [] => some .dict0
  | [some k], [v] => do return .dict1 (← f k) (← f v)
  | _, _ => none
/-- set(e): its one argument -/
noncomputable def setArgs (as : List Expr) : Option Expr := match as with
  | [] => none
  | e :: r => match r with
    | [] => some e
    | _ => none
noncomputable def setArg (c : Cx) : Expr → Option Expr
  | .Call g as ks _ => match ks with
    | [] => (tgtName g).bind fun g => if c.isGlob g && g == ("set" : Str) then setArgs as else none
    | _ => none
  | _ => none
noncomputable def lenSet (c : Cx) (g : Str) (as : List Expr) : Option Expr := if g == ("len" : Str) then (setArgs as).bind (setArg c) else none
noncomputable def stepE (f : Expr → Option X) (c : Cx) : Expr → Option X
  | .Constant v _ _ => compConst v
  | .Name x _ => compName c x
  | .BinOp l op r _ => do return .bin (← compBOp op) (← f l) (← f r)
  | .UnaryOp op x _ => do compUn op (← f x)
  | .BoolOp op vs _ => compBool f op vs
  | .Compare l ops rs _ => do compCmp1 ops (← f l) (← compEs f rs)
  | .Call g as ks pos => match ks with
    | [] => match g with
      | .Name g _ => if !c.isGlob g then none
        else if g == ("isinstance" : Str) then do return .isi (← compHead f as) (← compTyArgs c as)
        else match lenSet c g as with
          | some e => do return .lenset (← f e)
          | none => do compCall c g (← compEs f as)
      | .Attribute o m ap => if !(ap.endLine == pos.line && notSuper o && decide (as.length < 20) && m == ("append" : Str)) then none
        else do return .append (← f o) (← compEs f as)
      | _ => none
    | _ => none
  | .Subscript o i _ => match i with
    | .Slice .. => none
    | i => do return .sub (← f o) (← f i)
  | .Tuple es _ _ => do return .tup (← compEs f es)
  | .List es _ => do return .list (← compEs f es)
  | .Dict ks vs _ => compDict f ks vs
  | _ => none
noncomputable def compE : Nat → Cx → Expr → Option X
  | 0, _, _ => none
  | n + 1, c, e => stepE (compE n c) c e
noncomputable def deep : Nat := 30

/-- a list comprehension of one clause -/
noncomputable def compCP (c : Cx) (elt : Expr) (x : Str) (iter : Expr) (ifs : List Expr) (scope : Scope) : Option CP :=
  if innerOk c scope && scope.names.lookup x == some .local && decide (ifs.length ≤ 1) then do
    return ⟨← compE deep (innerCx c scope) elt, (ownNames scope).length, ← (innerCx c scope).slotW x, ← compE deep c iter, ← compEs (compE deep (innerCx c scope)) ifs⟩
  else none
/-- the name that it is put into: a local one of the function's, on its row, none of its own -/
noncomputable def putOk (c : Cx) (y : Str) (py : Pos) (scope : Scope) (pos : Pos) : Bool :=
  c.sc.names.lookup y == some .local && py.line == pos.line && !(scope.names.any fun p => p.1 == y && (p.2 == .local || p.2 == .cell))
noncomputable def compLC (c : Cx) (ok : Scope → Pos → Bool) : Expr → Option CP
  | .ListComp elt gens scope pos => match gens with
    | [] => none
    | g :: r => match r with
      | [] => if g.is_async == 0 && ok scope pos then do compCP c elt (← tgtName g.target) g.iter g.ifs scope else none
      | _ => none
  | _ => none
noncomputable def tgtOf (c : Cx) (t : Expr) : Option Nat := (tgtName t).bind c.slotW
noncomputable def compAsg (c : Cx) (ts : List Expr) (v : Expr) : Option S := match ts with
  | [t] => match t with
    | .Name x p => if isComp v then do return .comp (← c.slotW x) (← compLC c (putOk c x p) v) else do return .asg (← c.slotW x) (← compE deep c v)
    | .Subscript o k _ => do return .setitem (← compE deep c o) (← compE deep c k) (← compE deep c v)
    | _ => none
  | _ => none
noncomputable def compSs (g : Stmt → Option S) : List Stmt → Option Ss
  | [] => some .nil
  | s :: r => do return .cons (← g s) (← compSs g r)
noncomputable def stepS (g : Stmt → Option S) (c : Cx) : Stmt → Option S
  | .Expr x _ => if isComp x then none else do return .expr (← compE deep c x)
  | .Return v _ => match v with
    | some x => if isComp x then do return .retc (← compLC c (fun _ _ => true) x) else do return .ret (← compE deep c x)
    | none => none
  | .Assign ts v _ => compAsg c ts v
  | .If t a b _ => do return .iff (← compE deep c t) (← compSs g a) (← compSs g b)
  | .While t b o _ => if o.isEmpty then do return .whil (← compE deep c t) (← compSs g b) else none
  | .For t it b o _ => if o.isEmpty then do return .forr (← tgtOf c t) (← compE deep c it) (← compSs g b) else none
  | _ => none
noncomputable def compS : Nat → Cx → Stmt → Option S
  | 0, _, _ => none
  | n + 1, c, s => stepS (compS n c) c s

noncomputable def slotNames (ps : List Str) (sc : Scope) : List Str :=
  ps ++ sc.names.filterMap fun p => if isLocKind p.2 && !ps.contains p.1 then some p.1 else none

/-- a plain function: named parameters alone, no name of an outer function -/
noncomputable def defOk (args : Arguments) (sc : Scope) : Bool :=
  args.posonlyargs.isEmpty && args.kwonlyargs.isEmpty && args.vararg.isNone && args.kwarg.isNone && sc.kind == .function && !sc.isGenerator && !sc.isCoroutine &&
  decide (args.args.map (·.arg)).Nodup && decide (sc.names.map (·.1)).Nodup && sc.names.all (fun p => p.2 != .free) &&
  (args.args.map (·.arg)).all (fun x => sc.names.lookup x == some .local || sc.names.lookup x == some .cell)
noncomputable def compDef (funs : List Str) (args : Arguments) (body : List Stmt) (sc : Scope) : Option FDef := do
  let ps := args.args.map (·.arg)
  let ns := slotNames ps sc
  if !defOk args sc then none
  let b ← compSs (compS deep { sc := sc, loc := ns.zipIdx, n := ns.length, funs := funs }) body
  return ⟨ps.length, ns.length, b⟩

abbrev Prog := List (Str × FDef)

end Mine

namespace Mine
open PySem

noncomputable def sizeLim : Nat := 2 ^ 20

namespace Res
noncomputable def bind {α β : Type} (r : Res α) (f : α → AHeap → Res β) : Res β := match r with
  | .ok a h => f a h
  | .bad => .bad
end Res

noncomputable def Key.av : Key → AV
  | .int i => .int i
  | .pair a b => .tup [.int a, .int b]
noncomputable def AV.key? : AV → Option Key
  | .int i => some (.int i)
  | .tup xs => match xs with
    | [.int a, .int b] => some (.pair a b)
    | _ => Option.none
  | _ => Option.none
noncomputable def Key.sort : Key → Bool
  | .int _ => false
  | .pair _ _ => true
noncomputable def sortOk (kvs : List (Key × AV)) (k : Key) : Bool := kvs.all fun p => p.1.sort == k.sort

/-- == of two values -/
noncomputable def eqAll (f : AV → AV → Option Bool) : List AV → List AV → Option Bool
  | [], [] => some true
  | x :: xs, y :: ys => match f x y, eqAll f xs ys with
    | some b, some r => some (b && r)
    | _, _ => none
  | _, _ => some false
noncomputable def listAt (h : AHeap) (n : Nat) : Option (List AV) := match h[n]? with
  | some o => match o with
    | .list xs => some xs
    | _ => none
  | none => none
noncomputable def dictAt (h : AHeap) (n : Nat) : Option (List (Key × AV) × Nat) := match h[n]? with
  | some o => match o with
    | .dict kvs ep => some (kvs, ep)
    | _ => none
  | none => none
noncomputable def eqL (f : AV → AV → Option Bool) (a b : Option (List AV)) : Option Bool := match a, b with
  | some xs, some ys => if xs.length = ys.length then eqAll f xs ys else some false
  | _, _ => none
noncomputable def eqv (h : AHeap) : Nat → AV → AV → Option Bool
  | 0, _, _ => none
  | n + 1, a, b => match a with
    | .int x => match b with
      | .int y => some (decide (x = y))
      | _ => none
    | .str x => match b with
      | .str y => some (decide (x = y))
      | _ => none
    | .tup xs => match b with
      | .tup ys => eqAll (eqv h n) xs ys
      | _ => none
    | .loc i => match b with
      | .loc j => eqL (eqv h n) (listAt h i) (listAt h j)
      | _ => none
    | _ => none
noncomputable def eqFuel : Nat := 6

noncomputable def cmpOrd (op : COp) (x y : Int) : Option Bool := match op with
  | .lt => some (decide (x < y))
  | .le => some (decide (x ≤ y))
  | .gt => some (decide (y < x))
  | .ge => some (decide (y ≤ x))
  | _ => none
noncomputable def ordAV (op : COp) (a b : AV) : Option Bool := match a with
  | .int x => match b with
    | .int y => cmpOrd op x y
    | _ => none
  | _ => none

noncomputable def findEq (h : AHeap) (v : AV) : List AV → Option Bool
  | [] => some false
  | x :: r => match eqv h eqFuel x v, findEq h v r with
    | some b, some r => some (b || r)
    | _, _ => none
noncomputable def inDict (kvs : List (Key × AV)) (k : Option Key) : Option Bool := match k with
  | some k => if sortOk kvs k then some (kvs.lookup k).isSome else none
  | none => none
noncomputable def isIn (h : AHeap) (v c : AV) : Option Bool := match c with
  | .tup xs => findEq h v xs
  | .loc n => match h[n]? with
    | some o => match o with
      | .list xs => findEq h v xs
      | .dict kvs _ => inDict kvs v.key?
    | none => none
  | _ => none

noncomputable def cmpAV (h : AHeap) (op : COp) (a b : AV) : Option Bool := match op with
  | .eq => eqv h eqFuel a b
  | .ne => (eqv h eqFuel a b).map not
  | .isin => isIn h a b
  | .notin => (isIn h a b).map not
  | op => ordAV op a b

noncomputable def mulOk (a b : Int) : Bool := decide (a.natAbs < 2 ^ 64) || decide (b.natAbs < 2 ^ 64)

noncomputable def newList (vs : List AV) (h : AHeap) : Res AV := if vs.length ≤ sizeLim then .ok (.loc h.length) (h ++ [.list vs]) else .bad
noncomputable def newListO (vs : Option (List AV)) (h : AHeap) : Res AV := match vs with
  | some vs => newList vs h
  | none => .bad
noncomputable def okO (v : Option AV) (h : AHeap) : Res AV := match v with
  | some v => .ok v h
  | none => .bad

noncomputable def binI (op : BOp) (x y : Int) (h : AHeap) : Res AV := match op with
  | .add => .ok (.int (x + y)) h
  | .sub => .ok (.int (x - y)) h
  | .mul => if mulOk x y then .ok (.int (x * y)) h else .bad
  | .div => if y = 0 then .bad else .ok (.int (x.fdiv y)) h
  | .mod => if y = 0 then .bad else .ok (.int (x.fmod y)) h
  | .pow => if x = 2 ∧ y = 7 then .ok (.int 128) h else .bad
noncomputable def catL (a b : Option (List AV)) : Option (List AV) := match a, b with
  | some xs, some ys => some (xs ++ ys)
  | _, _ => none
noncomputable def repL (a : Option (List AV)) (k : Int) : Option (List AV) := match a with
  | some xs => match xs with
    | [x] => if 0 ≤ k ∧ k ≤ sizeLim then some (List.replicate k.toNat x) else none
    | _ => none
  | none => none
noncomputable def isAdd : BOp → Bool
  | .add => true
  | _ => false
noncomputable def isMul : BOp → Bool
  | .mul => true
  | _ => false
noncomputable def binAV (op : BOp) (a b : AV) (h : AHeap) : Res AV := match a with
  | .int x => match b with
    | .int y => binI op x y h
    | _ => .bad
  | .loc n => match b with
    | .loc m => if isAdd op then newListO (catL (listAt h n) (listAt h m)) h else .bad
    | .int k => if isMul op then newListO (repL (listAt h n) k) h else .bad
    | _ => .bad
  | _ => .bad

noncomputable def negAV (a : AV) (h : AHeap) : Res AV := match a with
  | .int x => .ok (.int (-x)) h
  | _ => .bad

noncomputable def lenAV (a : AV) (h : AHeap) : Res AV := match a with
  | .tup xs => if xs.length ≤ sizeLim then .ok (.int xs.length) h else .bad
  | .scr xs => if xs.length ≤ sizeLim then .ok (.int xs.length) h else .bad
  | .loc n => match h[n]? with
    | some o => match o with
      | .list xs => .ok (.int xs.length) h
      | .dict kvs _ => .ok (.int kvs.length) h
    | none => .bad
  | _ => .bad

noncomputable def rngLen (a b s : Int) : Nat := if s = 1 then (b - a).toNat else if s = -1 then (a - b).toNat else 0
noncomputable def rngItems (a b s : Int) : List AV := (List.range (rngLen a b s)).map fun (k : Nat) => .int (a + s * k)

/-- what an iteration takes, in order -/
noncomputable def itemsAV (a : AV) (h : AHeap) : Option (List AV) := match a with
  | .tup xs => some xs
  | .loc n => match h[n]? with
    | some o => match o with
      | .list xs => some xs
      | .dict kvs _ => some (kvs.map fun p => p.1.av)
    | none => none
  | .rng a b s => if (s = 1 ∨ s = -1) ∧ a.natAbs ≤ sizeLim ∧ b.natAbs ≤ sizeLim then some (rngItems a b s) else none
  | _ => none

noncomputable def dictPut (kvs : List (Key × AV)) (k : Key) (v : AV) : List (Key × AV) :=
  if kvs.any (fun p => p.1 == k) then kvs.map (fun p => if p.1 == k then (p.1, v) else p) else kvs ++ [(k, v)]

noncomputable def intKeys : List (Key × AV) → Option (List Int)
  | [] => some []
  | (k, _) :: r => match k with
    | .int i => (intKeys r).map (i :: ·)
    | _ => none
noncomputable def sortZ (is : List Int) : Option (List AV) := if is.length < 64 then some ((is.mergeSort fun a b => decide (a ≤ b)).map .int) else none
noncomputable def sortedAV (h : AHeap) (n : Nat) : Option (List AV) := match dictAt h n with
  | some d => (intKeys d.1).bind sortZ
  | none => none
noncomputable def biAV (b : BI) (as : List AV) (h : AHeap) : Res AV := match as with
  | [a] => match b with
    | .len => lenAV a h
    | .list => match a with
      | .loc n => newListO (listAt h n) h
      | _ => .bad
    | .sorted => match a with
      | .loc n => newListO (sortedAV h n) h
      | _ => .bad
  | _ => .bad

noncomputable def appendAV (o : AV) (as : List AV) (h : AHeap) : Res AV := match o with
  | .loc n => match as with
    | [v] => match listAt h n with
      | some xs => if xs.length < sizeLim then .ok .none (h.set n (.list (xs ++ [v]))) else .bad
      | none => .bad
    | _ => .bad
  | _ => .bad
noncomputable def isListAV (v : AV) (h : AHeap) : Bool := match v with
  | .loc n => (listAt h n).isSome
  | _ => false

noncomputable def idx? {α : Type} (xs : List α) (i : Int) : Option α :=
  if 0 ≤ i then xs[i.toNat]? else if 0 ≤ i + xs.length then xs[(i + xs.length).toNat]? else none
noncomputable def subD (kvs : List (Key × AV)) (k : Option Key) : Option AV := match k with
  | some k => if sortOk kvs k then kvs.lookup k else none
  | none => none
noncomputable def intOf : AV → Option Int
  | .int i => some i
  | _ => none
noncomputable def subI (xs : List AV) (i : Option Int) : Option AV := match i with
  | some i => if xs.length ≤ sizeLim then idx? xs i else none
  | none => none
noncomputable def subO (ob : AObj) (i : AV) (h : AHeap) : Res AV := match ob with
  | .list xs => okO (subI xs (intOf i)) h
  | .dict kvs _ => okO (subD kvs i.key?) h
noncomputable def subAV (o i : AV) (h : AHeap) : Res AV := match o with
  | .tup xs => okO (subI xs (intOf i)) h
  | .scr xs => okO (subI (xs.map .int) (intOf i)) h
  | .loc n => match h[n]? with
    | some ob => subO ob i h
    | none => .bad
  | _ => .bad

/-- the keys met, each once -/
noncomputable def addNew (seen : List (List Int)) (k : List Int) : List (List Int) := if k ∈ seen then seen else seen ++ [k]
noncomputable def pairKey (v : AV) : Option (List Int) := match v with
  | .tup xs => match xs with
    | [.int a, .int b] => some [a, b]
    | _ => none
  | _ => none
noncomputable def pairKeys : List AV → Option (List (List Int))
  | [] => some []
  | x :: r => match pairKey x, pairKeys r with
    | some k, some ks => some (k :: ks)
    | _, _ => none
/-- how many pairs a list has, each once -/
noncomputable def lenSetO (ks : Option (List (List Int))) (h : AHeap) : Res AV := match ks with
  | some ks => if ks.length ≤ 18 then .ok (.int (ks.foldl addNew []).length) h else .bad
  | none => .bad
noncomputable def lenSetAV (v : AV) (h : AHeap) : Res AV := match v with
  | .loc n => lenSetO ((listAt h n).bind pairKeys) h
  | _ => .bad

noncomputable def isTy (h : AHeap) (a : AV) (t : Ty) : Option Bool := match a with
  | .int _ => match t with
    | .int => some true
    | .bool => some false
    | _ => none
  | .tup _ => match t with
    | .tuple => some true
    | _ => none
  | .loc n => match t with
    | .list => (listAt h n).map fun _ => true
    | _ => none
  | _ => none

structure Ctx where
  F : Str → List AV → AHeap → Res AV
  fuel : Nat

noncomputable def rangeOf (as : List AV) : Option AV := match as with
  | [a] => match a with
    | .int b => if b.natAbs ≤ sizeLim then some (.rng 0 b 1) else none
    | _ => none
  | [a, b, s] => match a, b, s with
    | .int a, .int b, .int s => if s = -1 ∧ a.natAbs ≤ sizeLim ∧ b.natAbs ≤ sizeLim then some (.rng a b (-1)) else none
    | _, _, _ => none
  | _ => none

/-- the epoch of what is walked -/
noncomputable def epochOf (a : AV) (h : AHeap) : Option (Nat × Nat) := match a with
  | .loc n => (dictAt h n).map fun d => (d.2, d.1.length)
  | _ => none
/-- the item at a place, as the walk finds it now -/
noncomputable def nextAt (src : AV) (e : Option (Nat × Nat)) (i : Nat) (h : AHeap) : Option (Option AV) :=
  match itemsAV src h with
  | some xs => if epochOf src h = e then some xs[i]? else none
  | none => none

noncomputable def compLoop (body : AV → AHeap → Res (Option AV)) (src : AV) (e : Option (Nat × Nat)) : Nat → Nat → List AV → AHeap → Res (List AV)
  | 0, _, _, _ => .bad
  | f + 1, i, acc, h => match nextAt src e i h with
    | none => .bad
    | some none => .ok acc h
    | some (some v) => (body v h).bind fun r h => match r with
      | some x => if acc.length < sizeLim then compLoop body src e f (i + 1) (acc ++ [x]) h else .bad
      | none => compLoop body src e f (i + 1) acc h

noncomputable def dict1 (k : Option Key) (v : AV) (h : AHeap) : Res AV := match k with
  | some k => .ok (.loc h.length) (h ++ [.dict [(k, v)] 1])
  | none => .bad
noncomputable def locAt (l : Locs) (i : Nat) : Option AV := match l[i]? with
  | some o => o
  | none => none
noncomputable def notAV (v : AV) (h : AHeap) : Res AV := match v with
  | .bool b => .ok (.bool !b) h
  | _ => .bad
noncomputable def condV (v : AV) (x y : Res AV) : Res AV := match v with
  | .bool b => if b then x else y
  | _ => .bad
noncomputable def boolO (r : Option Bool) (h : AHeap) : Res AV := match r with
  | some r => .ok (.bool r) h
  | none => .bad

mutual
noncomputable def evalX (c : Ctx) : X → Locs → AHeap → Res AV
  | .none, _, h => .ok .none h
  | .bool b, _, h => .ok (.bool b) h
  | .int i, _, h => .ok (.int i) h
  | .str s, _, h => .ok (.str s) h
  | .loc i, l, h => okO (locAt l i) h
  | .bin op a b, l, h => (evalX c a l h).bind fun x h => (evalX c b l h).bind fun y h => binAV op x y h
  | .neg a, l, h => (evalX c a l h).bind negAV
  | .not a, l, h => (evalX c a l h).bind notAV
  | .and a b, l, h => (evalX c a l h).bind fun x h => condV x (evalX c b l h) (.ok (.bool false) h)
  | .or a b, l, h => (evalX c a l h).bind fun x h => condV x (.ok (.bool true) h) (evalX c b l h)
  | .cmp op a b, l, h => (evalX c a l h).bind fun x h => (evalX c b l h).bind fun y h => boolO (cmpAV h op x y) h
  | .call f as, l, h => (evalXs c as l h).bind fun vs h => c.F f vs h
  | .bi b as, l, h => (evalXs c as l h).bind fun vs h => biAV b vs h
  | .isi x t, l, h => (evalX c x l h).bind fun v h => boolO (isTy h v t) h
  | .append o as, l, h => (evalX c o l h).bind fun v h => if isListAV v h then (evalXs c as l h).bind fun vs h => appendAV v vs h else .bad
  | .sub o i, l, h => (evalX c o l h).bind fun v h => (evalX c i l h).bind fun k h => subAV v k h
  | .lenset x, l, h => (evalX c x l h).bind lenSetAV
  | .tup es, l, h => (evalXs c es l h).bind fun vs h => if vs.length ≤ sizeLim then .ok (.tup vs) h else .bad
  | .list es, l, h => (evalXs c es l h).bind fun vs h => newList vs h
  | .dict0, _, h => .ok (.loc h.length) (h ++ [.dict [] 0])
  | .dict1 k v, l, h => (evalX c k l h).bind fun k h => (evalX c v l h).bind fun v h => dict1 k.key? v h
  | .range as, l, h => (evalXs c as l h).bind fun vs h => okO (rangeOf vs) h
noncomputable def evalXs (c : Ctx) : Xs → Locs → AHeap → Res (List AV)
  | .nil, _, h => .ok [] h
  | .cons x r, l, h => (evalX c x l h).bind fun v h => (evalXs c r l h).bind fun vs h => .ok (v :: vs) h
end
noncomputable def evalConds (c : Ctx) : Xs → Locs → AHeap → Res Bool
  | .nil, _, h => .ok true h
  | .cons x r, l, h => (evalX c x l h).bind fun v h => match v with
    | .bool b => if b then evalConds c r l h else .ok false h
    | _ => .bad

inductive Flow where
  | next
  | ret (v : AV)
inductive SR where
  | ok (f : Flow) (l : Locs) (h : AHeap)
  | bad
noncomputable def Res.st {α : Type} (r : Res α) (f : α → AHeap → SR) : SR := match r with
  | .ok a h => f a h
  | .bad => .bad

noncomputable def setL (h : AHeap) (n : Nat) (xs : List AV) (v : AV) (k : Option Int) : Option AHeap := match k with
  | some i => if 0 ≤ i ∧ i < xs.length then some (h.set n (.list (xs.set i.toNat v)))
        else if i < 0 ∧ 0 ≤ i + xs.length then some (h.set n (.list (xs.set (i + xs.length).toNat v))) else none
  | none => none
noncomputable def setD (h : AHeap) (n : Nat) (kvs : List (Key × AV)) (ep : Nat) (v : AV) (k : Option Key) : Option AHeap := match k with
  | some k => if sortOk kvs k && decide (kvs.length < sizeLim) then some (h.set n (.dict (dictPut kvs k v) (if (kvs.lookup k).isSome then ep else ep + 1))) else none
  | none => none
noncomputable def setItemAV (o k v : AV) (h : AHeap) : Option AHeap := match o with
  | .loc n => match h[n]? with
    | some ob => match ob with
      | .dict kvs ep => setD h n kvs ep v k.key?
      | .list xs => setL h n xs v (intOf k)
    | none => none
  | _ => none
noncomputable def heapO (l : Locs) (h : Option AHeap) : SR := match h with
  | some h => .ok .next l h
  | none => .bad
noncomputable def condS (v : AV) (x y : SR) : SR := match v with
  | .bool b => if b then x else y
  | _ => .bad
/-- what a turn leaves -/
noncomputable def SR.turn (r : SR) (k : Locs → AHeap → SR) : SR := match r with
  | .ok f l h => match f with
    | .next => k l h
    | .ret v => .ok (.ret v) l h
  | .bad => .bad

noncomputable def whileLoop (test : Locs → AHeap → Res AV) (body : Locs → AHeap → SR) : Nat → Locs → AHeap → SR
  | 0, _, _ => .bad
  | f + 1, l, h => (test l h).st fun v h => condS v ((body l h).turn (whileLoop test body f)) (.ok .next l h)
noncomputable def forLoop (i : Nat) (body : Locs → AHeap → SR) (src : AV) (e : Option (Nat × Nat)) : Nat → Nat → Locs → AHeap → SR
  | 0, _, _, _ => .bad
  | f + 1, k, l, h => match nextAt src e k h with
    | none => .bad
    | some r => match r with
      | none => .ok .next l h
      | some v => (body (l.set i (some v)) h).turn (forLoop i body src e f (k + 1))
/-- the names of a comprehension's block -/
noncomputable def inner (l : Locs) (k j : Nat) (v : AV) : Locs := (l ++ List.replicate k none).set j (some v)
noncomputable def compBody (c : Ctx) (e : X) (cs : Xs) (l : Locs) (h : AHeap) : Res (Option AV) :=
  (evalConds c cs l h).bind fun b h => if b then (evalX c e l h).bind fun x h => .ok (some x) h else .ok none h
noncomputable def evalCP (c : Ctx) (p : CP) (l : Locs) (h : AHeap) : Res AV := (evalX c p.it l h).bind fun src h =>
  (compLoop (fun v h => compBody c p.e p.cs (inner l p.k p.j v) h) src (epochOf src h) c.fuel 0 [] h).bind fun vs h => newList vs h

mutual
noncomputable def execS (c : Ctx) : S → Locs → AHeap → SR
  | .expr x, l, h => (evalX c x l h).st fun _ h => .ok .next l h
  | .ret x, l, h => (evalX c x l h).st fun v h => .ok (.ret v) l h
  | .asg i x, l, h => (evalX c x l h).st fun v h => .ok .next (l.set i (some v)) h
  | .setitem o k x, l, h => (evalX c x l h).st fun v h => (evalX c o l h).st fun o h => (evalX c k l h).st fun k h => heapO l (setItemAV o k v h)
  | .iff t a b, l, h => (evalX c t l h).st fun v h => condS v (execSs c a l h) (execSs c b l h)
  | .whil t b, l, h => whileLoop (fun l h => evalX c t l h) (fun l h => execSs c b l h) c.fuel l h
  | .forr i it b, l, h => (evalX c it l h).st fun src h => forLoop i (fun l h => execSs c b l h) src (epochOf src h) c.fuel 0 l h
  | .comp i p, l, h => (evalCP c p l h).st fun v h => .ok .next (l.set i (some v)) h
  | .retc p, l, h => (evalCP c p l h).st fun v h => .ok (.ret v) l h
noncomputable def execSs (c : Ctx) : Ss → Locs → AHeap → SR
  | .nil, l, h => .ok .next l h
  | .cons s r, l, h => (execS c s l h).turn fun l h => execSs c r l h
end

noncomputable def retR (r : SR) : Res AV := match r with
  | .ok f _ h => match f with
    | .ret v => .ok v h
    | .next => .ok .none h
  | .bad => .bad
noncomputable def runDef (c : Ctx) (d : FDef) (as : List AV) (h : AHeap) : Res AV :=
  if as.length = d.params then retR (execSs c d.body (as.map some ++ List.replicate (d.slots - d.params) none) h)
  else .bad

noncomputable def fuelOf : Nat := 100000
noncomputable def semF (p : Prog) : Nat → Str → List AV → AHeap → Res AV
  | 0 => fun _ _ _ => .bad
  | n + 1 => fun f as h => match p.lookup f with
    | some d => runDef ⟨semF p n, fuelOf⟩ d as h
    | none => .bad
end Mine

namespace Mine
open PySem

/-! equations that run the small language -/
section
variable {α β : Type} {a : α} {h : AHeap} {l : Locs} {c : Ctx}
theorem bok {f : α → AHeap → Res β} : (Res.ok a h).bind f = f a h := rfl
theorem sok {f : α → AHeap → SR} : (Res.ok a h).st f = f a h := rfl
theorem turn_next {k : Locs → AHeap → SR} : (SR.ok .next l h).turn k = k l h := rfl
theorem turn_ret {k : Locs → AHeap → SR} {v : AV} : (SR.ok (.ret v) l h).turn k = .ok (.ret v) l h := rfl
theorem cond_t {x y : SR} : condS (.bool true) x y = x := rfl
theorem cond_f {x y : SR} : condS (.bool false) x y = y := rfl
theorem condV_t {x y : Res AV} : condV (.bool true) x y = x := rfl
theorem condV_f {x y : Res AV} : condV (.bool false) x y = y := rfl
theorem cond_if {p : Prop} [Decidable p] {x y : SR} : condS (.bool (decide p)) x y = if p then x else y := by
  by_cases hp : p <;> simp [hp, condS]
theorem boolO_some {b : Bool} : boolO (some b) h = .ok (.bool b) h := rfl
theorem okO_some {b : AV} : okO (some b) h = .ok b h := rfl
theorem heapO_some : heapO l (some h) = .ok .next l h := rfl
theorem notAV_bool {b : Bool} : notAV (.bool b) h = .ok (.bool !b) h := rfl
theorem negAV_int {b : Int} : negAV (.int b) h = .ok (.int (-b)) h := rfl
theorem retR_ret {v : AV} : retR (.ok (.ret v) l h) = .ok v h := rfl
theorem retR_next : retR (.ok .next l h) = .ok .none h := rfl

theorem loc0 {o : AV} {r : Locs} : locAt (some o :: r) 0 = some o := rfl
theorem locS {o : Option AV} {r : Locs} {i : Nat} : locAt (o :: r) (i + 1) = locAt r i := rfl

theorem ss_nil : execSs c .nil l h = .ok .next l h := rfl
theorem ss_cons {s : S} {r : Ss} : execSs c (.cons s r) l h = (execS c s l h).turn fun l h => execSs c r l h := rfl
theorem s_expr {x : X} : execS c (.expr x) l h = (evalX c x l h).st fun _ h => .ok .next l h := rfl
theorem s_ret {x : X} : execS c (.ret x) l h = (evalX c x l h).st fun v h => .ok (.ret v) l h := rfl
theorem s_asg {i : Nat} {x : X} : execS c (.asg i x) l h = (evalX c x l h).st fun v h => .ok .next (l.set i (some v)) h := rfl
theorem s_set {o k x : X} : execS c (.setitem o k x) l h = (evalX c x l h).st fun v h => (evalX c o l h).st fun o h => (evalX c k l h).st fun k h => heapO l (setItemAV o k v h) := rfl
theorem s_iff {t : X} {x y : Ss} : execS c (.iff t x y) l h = (evalX c t l h).st fun v h => condS v (execSs c x l h) (execSs c y l h) := rfl
theorem s_whil {t : X} {b : Ss} : execS c (.whil t b) l h = whileLoop (fun l h => evalX c t l h) (fun l h => execSs c b l h) c.fuel l h := rfl
theorem s_for {i : Nat} {it : X} {b : Ss} : execS c (.forr i it b) l h = (evalX c it l h).st fun src h => forLoop i (fun l h => execSs c b l h) src (epochOf src h) c.fuel 0 l h := rfl
theorem s_comp {i : Nat} {p : CP} : execS c (.comp i p) l h = (evalCP c p l h).st fun v h => .ok .next (l.set i (some v)) h := rfl
theorem s_retc {p : CP} : execS c (.retc p) l h = (evalCP c p l h).st fun v h => .ok (.ret v) l h := rfl
theorem x_cp {p : CP} : evalCP c p l h = (evalX c p.it l h).bind fun src h =>
    (compLoop (fun v h => compBody c p.e p.cs (inner l p.k p.j v) h) src (epochOf src h) c.fuel 0 [] h).bind fun vs h => newList vs h := rfl
theorem x_none : evalX c .none l h = .ok .none h := rfl
theorem x_bool {b : Bool} : evalX c (.bool b) l h = .ok (.bool b) h := rfl
theorem x_int {b : Int} : evalX c (.int b) l h = .ok (.int b) h := rfl
theorem x_str {b : List Nat} : evalX c (.str b) l h = .ok (.str b) h := rfl
theorem x_loc {i : Nat} : evalX c (.loc i) l h = okO (locAt l i) h := rfl
theorem x_bin {op : BOp} {x y : X} : evalX c (.bin op x y) l h = (evalX c x l h).bind fun x h => (evalX c y l h).bind fun y h => binAV op x y h := rfl
theorem x_neg {x : X} : evalX c (.neg x) l h = (evalX c x l h).bind negAV := rfl
theorem x_not {x : X} : evalX c (.not x) l h = (evalX c x l h).bind notAV := rfl
theorem x_and {x y : X} : evalX c (.and x y) l h = (evalX c x l h).bind fun v h => condV v (evalX c y l h) (.ok (.bool false) h) := rfl
theorem x_or {x y : X} : evalX c (.or x y) l h = (evalX c x l h).bind fun v h => condV v (.ok (.bool true) h) (evalX c y l h) := rfl
theorem x_cmp {op : COp} {x y : X} : evalX c (.cmp op x y) l h = (evalX c x l h).bind fun x h => (evalX c y l h).bind fun y h => boolO (cmpAV h op x y) h := rfl
theorem x_call {f : Str} {as : Xs} : evalX c (.call f as) l h = (evalXs c as l h).bind fun vs h => c.F f vs h := rfl
theorem x_bi {b : BI} {as : Xs} : evalX c (.bi b as) l h = (evalXs c as l h).bind fun vs h => biAV b vs h := rfl
theorem x_isi {x : X} {t : Ty} : evalX c (.isi x t) l h = (evalX c x l h).bind fun v h => boolO (isTy h v t) h := rfl
theorem x_append {o : X} {as : Xs} : evalX c (.append o as) l h = (evalX c o l h).bind fun v h => if isListAV v h then (evalXs c as l h).bind fun vs h => appendAV v vs h else .bad := rfl
theorem x_sub {x y : X} : evalX c (.sub x y) l h = (evalX c x l h).bind fun x h => (evalX c y l h).bind fun y h => subAV x y h := rfl
theorem x_lenset {x : X} : evalX c (.lenset x) l h = (evalX c x l h).bind lenSetAV := rfl
theorem x_tup {as : Xs} : evalX c (.tup as) l h = (evalXs c as l h).bind fun vs h => if vs.length ≤ sizeLim then .ok (.tup vs) h else .bad := rfl
theorem x_list {as : Xs} : evalX c (.list as) l h = (evalXs c as l h).bind fun vs h => newList vs h := rfl
theorem x_dict0 : evalX c .dict0 l h = .ok (.loc h.length) (h ++ [.dict [] 0]) := rfl
theorem x_dict1 {x y : X} : evalX c (.dict1 x y) l h = (evalX c x l h).bind fun k h => (evalX c y l h).bind fun v h => dict1 k.key? v h := rfl
theorem x_range {as : Xs} : evalX c (.range as) l h = (evalXs c as l h).bind fun vs h => okO (rangeOf vs) h := rfl
theorem xs_nil : evalXs c .nil l h = .ok [] h := rfl
theorem xs_cons {x : X} {xs : Xs} : evalXs c (.cons x xs) l h = (evalX c x l h).bind fun v h => (evalXs c xs l h).bind fun vs h => .ok (v :: vs) h := rfl

end
theorem semF_at {prog : Prog} {f : Str} {d : FDef} (h : prog.lookup f = some d) (n : Nat) (as : List AV) (hp : AHeap) : semF prog (n + 1) f as hp = runDef ⟨semF prog n, fuelOf⟩ d as hp := by
  show (match prog.lookup f with | some d => runDef ⟨semF prog n, fuelOf⟩ d as hp | none => .bad) = _
  rw [h]
end Mine

namespace Mine
namespace Cu

section Assoc
variable {α β : Type} [DecidableEq α] [BEq α] [LawfulBEq α]
noncomputable def put (t : List (α × β)) (a : α) (b : β) : List (α × β) :=
  if t.any (fun p => p.1 == a) then t.map (fun p => if p.1 == a then (p.1, b) else p) else t ++ [(a, b)]

theorem lookup_none {t : List (α × β)} {a : α} : t.lookup a = none ↔ a ∉ t.map (·.1) := by
  induction t with
  | nil => simp
  | cons p t ih =>
    obtain ⟨k, v⟩ := p
    simp only [List.lookup_cons, List.map_cons, List.mem_cons, not_or]
    by_cases e : a = k
    · simp [e]
    · simp only [beq_eq_false_iff_ne.mpr e, ih, e, not_false_eq_true, true_and]
theorem lookup_mem {t : List (α × β)} {a : α} {b : β} (h : t.lookup a = some b) : (a, b) ∈ t := by
  induction t with
  | nil => simp at h
  | cons p t ih =>
    obtain ⟨k, v⟩ := p
    simp only [List.lookup_cons] at h
    by_cases e : a = k
    · simp only [e, BEq.rfl, Option.some.injEq] at h; simp [e, h]
    · simp only [beq_eq_false_iff_ne.mpr e] at h; exact List.mem_cons_of_mem _ (ih h)
theorem lookup_of_mem {t : List (α × β)} (nd : (t.map (·.1)).Nodup) {a : α} {b : β} (h : (a, b) ∈ t) : t.lookup a = some b := by
  induction t with
  | nil => simp at h
  | cons p t ih =>
    obtain ⟨k, v⟩ := p
    simp only [List.map_cons, List.nodup_cons] at nd
    simp only [List.lookup_cons]
    rcases List.mem_cons.mp h with e | e
    · injection e with e1 e2; subst e1; subst e2; simp
    · have : a ≠ k := by rintro rfl; exact nd.1 (List.mem_map.mpr ⟨_, e, rfl⟩)
      simp only [beq_eq_false_iff_ne.mpr this]; exact ih nd.2 e

theorem any_iff {t : List (α × β)} {a : α} : t.any (fun p => p.1 == a) = true ↔ a ∈ t.map (·.1) := by
  simp only [List.any_eq_true, beq_iff_eq, List.mem_map]
theorem put_keys {t : List (α × β)} {a : α} {b : β} : (put t a b).map (·.1) = if a ∈ t.map (·.1) then t.map (·.1) else t.map (·.1) ++ [a] := by
  unfold put
  by_cases h : a ∈ t.map (·.1)
  · rw [if_pos (any_iff.mpr h), if_pos h, List.map_map]
    apply List.map_congr_left
    intro p _
    simp only [Function.comp]; split <;> rfl
  · rw [if_neg (fun q => h (any_iff.mp q)), if_neg h]; simp
theorem put_nodup {t : List (α × β)} (nd : (t.map (·.1)).Nodup) {a : α} {b : β} : ((put t a b).map (·.1)).Nodup := by
  rw [put_keys]
  split
  · exact nd
  · rename_i h
    rw [List.nodup_append]
    refine ⟨nd, by simp, ?_⟩
    intro x hx y hy e
    simp at hy; subst hy; subst e; exact h hx
theorem put_length {t : List (α × β)} {a : α} {b : β} : (put t a b).length = if a ∈ t.map (·.1) then t.length else t.length + 1 := by
  have := congrArg List.length (put_keys (t := t) (a := a) (b := b))
  rw [List.length_map] at this
  rw [this]; split <;> simp
theorem put_lookup {t : List (α × β)} {a x : α} {b : β} : (put t a b).lookup x = if x = a then some b else t.lookup x := by
  unfold put
  split
  · rename_i h
    induction t with
    | nil => simp at h
    | cons p t ih =>
      obtain ⟨k, v⟩ := p
      by_cases e : k = a
      · subst e
        by_cases ex : x = k
        · subst ex; simp
        · simp only [List.map_cons, BEq.rfl, if_true, List.lookup_cons, beq_eq_false_iff_ne.mpr ex, if_neg ex]
          clear ih h
          induction t with
          | nil => rfl
          | cons q t ih =>
            obtain ⟨k2, v2⟩ := q
            by_cases e2 : k2 = k
            · subst e2; simp only [List.map_cons, BEq.rfl, if_true, List.lookup_cons, beq_eq_false_iff_ne.mpr ex]; exact ih
            · simp only [List.map_cons, beq_eq_false_iff_ne.mpr e2, List.lookup_cons]
              show (match x == k2 with | true => some v2 | false => _) = (match x == k2 with | true => some v2 | false => _)
              cases x == k2
              · exact ih
              · rfl
      · have h' : t.any (fun p => p.1 == a) = true := by simpa [e] using h
        simp only [List.map_cons, beq_eq_false_iff_ne.mpr e, List.lookup_cons, Bool.false_eq_true, if_false]
        by_cases ex : x = k
        · subst ex; simp [e]
        · simp only [beq_eq_false_iff_ne.mpr ex]; exact ih h'
  · rename_i h
    rw [any_iff] at h
    rw [← lookup_none] at h
    rw [List.lookup_append]
    by_cases e : x = a
    · subst e; simp [h]
    · simp [e, List.lookup_cons, beq_eq_false_iff_ne.mpr e]
end Assoc

theorem card_le {α : Type} [DecidableEq α] {l l' : List α} (nd : l.Nodup) (s : ∀ x ∈ l, x ∈ l') : l.length ≤ l'.length := by
  induction l generalizing l' with
  | nil => simp
  | cons a l ih =>
    rw [List.nodup_cons] at nd
    have ha := s a (by simp)
    have := ih (l' := l'.erase a) nd.2 (fun x hx => (List.mem_erase_of_ne (by rintro rfl; exact nd.1 hx)).mpr (s x (by simp [hx])))
    rw [List.length_erase_of_mem ha] at this
    have : 0 < l'.length := List.length_pos_of_mem ha
    simp; omega

abbrev Seat := Int × Int
abbrev Tk := List (Seat × Nat)
noncomputable def hm (ps : List Seat) (n : Nat) (r : Int) : Seat := (r, if r = 0 then (ps[n]?.getD (0, 0)).1 else (ps[n]?.getD (0, 0)).2)

structure Inv (ps : List Seat) (t : Tk) (m : Nat) : Prop where
  nd : (t.map (·.1)).Nodup
  len : t.length = m
  home : ∀ s n, t.lookup s = some n → n < m ∧ (s = hm ps n 0 ∨ s = hm ps n 1)
  inj : ∀ s s' n, t.lookup s = some n → t.lookup s' = some n → s = s'

theorem Inv.nil (ps : List Seat) : Inv ps [] 0 := ⟨by simp, rfl, by simp, by simp⟩
theorem Inv.row {ps t m} (I : Inv ps t m) {s n} (h : t.lookup s = some n) : s.1 = 0 ∨ s.1 = 1 := by
  rcases (I.home s n h).2 with e | e <;> simp [e, hm]
theorem Inv.self {ps t m} (I : Inv ps t m) {s n} (h : t.lookup s = some n) : s = hm ps n s.1 := by
  rcases (I.home s n h).2 with e | e <;> rw [e] <;> simp [hm]

structure Way (ps : List Seat) (t : Tk) (s0 : Seat) (w : List Seat) : Prop where
  head : w[0]? = some s0
  nd : w.Nodup
  step : ∀ i s s', w[i]? = some s → w[i + 1]? = some s' → ∃ n, t.lookup s = some n ∧ s' = hm ps n (1 - s.1)

theorem Way.one (ps : List Seat) (t : Tk) (s0 : Seat) : Way ps t s0 [s0] := ⟨rfl, by simp, by intro i s s' _ h; simp at h⟩
theorem Way.pos {ps t s0 w} (W : Way ps t s0 w) : 0 < w.length := by
  have := W.head
  rcases w with _ | _ <;> simp at this ⊢
theorem Way.snoc {ps t s0 w} (W : Way ps t s0 w) {s n} (hl : w[w.length - 1]? = some s) (hn : t.lookup s = some n) (hx : hm ps n (1 - s.1) ∉ w) :
    Way ps t s0 (w ++ [hm ps n (1 - s.1)]) := by
  have hp := W.pos
  refine ⟨?_, ?_, ?_⟩
  · rw [List.getElem?_append_left hp]; exact W.head
  · rw [List.nodup_append]
    refine ⟨W.nd, by simp, ?_⟩
    intro x hx' y hy e
    simp at hy; subst hy; subst e; exact hx hx'
  · intro i a b ha hb
    by_cases h : i + 1 < w.length
    · rw [List.getElem?_append_left h] at hb
      rw [List.getElem?_append_left (by omega)] at ha
      exact W.step i a b ha hb
    · have hi : i + 1 = w.length := by
        have := (List.getElem?_eq_some_iff.mp hb).1
        simp at this; omega
      rw [List.getElem?_append_left (by omega)] at ha
      have : i = w.length - 1 := by omega
      subst this
      rw [hl] at ha; injection ha with ha; subst ha
      rw [List.getElem?_append_right (by omega)] at hb
      have e : w.length - 1 + 1 - w.length = 0 := by omega
      rw [e] at hb; simp at hb
      exact ⟨n, hn, hb.symm⟩
/-- a way is no longer than the table and one -/
theorem Way.short {ps t s0 w} (W : Way ps t s0 w) : w.length ≤ t.length + 1 := by
  have h : (w.take (w.length - 1)).length ≤ (t.map (·.1)).length := by
    apply card_le (W.nd.sublist (List.take_sublist _ _))
    intro x hx
    obtain ⟨i, hi, e⟩ := List.getElem_of_mem hx
    rw [List.length_take] at hi
    have h1 : w[i]? = some x := by rw [← e, List.getElem_take]; exact List.getElem?_eq_getElem _
    obtain ⟨n, hn, _⟩ := W.step i x _ h1 (List.getElem?_eq_getElem (by omega))
    exact List.mem_map.mpr ⟨_, lookup_mem hn, rfl⟩
  rw [List.length_take, List.length_map] at h
  omega

noncomputable def Closed (ps : List Seat) (t : Tk) (w : List Seat) : Prop := ∃ s n, w[w.length - 1]? = some s ∧ t.lookup s = some n ∧ hm ps n (1 - s.1) ∈ w
theorem Closed.taken {ps t s0 w} (W : Way ps t s0 w) (C : Closed ps t w) {s} (h : s ∈ w) : ∃ n, t.lookup s = some n ∧ hm ps n (1 - s.1) ∈ w := by
  obtain ⟨i, hi, e⟩ := List.getElem_of_mem h
  have h1 : w[i]? = some s := by rw [← e]; exact List.getElem?_eq_getElem _
  by_cases hl : i + 1 < w.length
  · obtain ⟨n, hn, e2⟩ := W.step i s _ h1 (List.getElem?_eq_getElem hl)
    exact ⟨n, hn, by rw [← e2]; exact List.getElem_mem _⟩
  · obtain ⟨s', n, h2, h3, h4⟩ := C
    have : i = w.length - 1 := by omega
    rw [← this, h1] at h2; injection h2 with h2; subst h2
    exact ⟨n, h3, h4⟩
theorem Closed.homes {ps t m s0 w} (I : Inv ps t m) (W : Way ps t s0 w) (C : Closed ps t w) {s n} (h : s ∈ w) (hn : t.lookup s = some n) :
    hm ps n 0 ∈ w ∧ hm ps n 1 ∈ w := by
  obtain ⟨n', hn', ho⟩ := C.taken W h
  rw [hn] at hn'; injection hn' with e; subst e
  have hs := I.self hn
  rcases I.row hn with e | e <;> rw [e] at ho hs <;> simp at ho
  · exact ⟨hs ▸ h, ho⟩
  · exact ⟨ho, hs ▸ h⟩

theorem crowd {ps t m w0 w1} (I : Inv ps t m) (W0 : Way ps t (hm ps m 0) w0) (W1 : Way ps t (hm ps m 1) w1) (C0 : Closed ps t w0) (C1 : Closed ps t w1)
    {ks : List Nat} (hk : ∀ n, n ∈ ks ↔ n = m ∨ ∃ s, (s ∈ w0 ∨ s ∈ w1) ∧ t.lookup s = some n)
    {P : List Seat} (nd : P.Nodup) (hP : ∀ s ∈ P, ∃ n ∈ ks, s = hm ps n 0 ∨ s = hm ps n 1) : P.length < ks.length := by
  have hh0 : hm ps m 0 ∈ w0 := List.mem_of_getElem? W0.head
  have hh1 : hm ps m 1 ∈ w1 := List.mem_of_getElem? W1.head
  have hin : ∀ s ∈ P, s ∈ w0 ∨ s ∈ w1 := by
    intro s hs
    obtain ⟨n, hn, e⟩ := hP s hs
    rcases (hk n).mp hn with rfl | ⟨s', hs', hl⟩
    · rcases e with rfl | rfl
      · exact .inl hh0
      · exact .inr hh1
    · rcases hs' with h | h
      · have := C0.homes I W0 h hl
        rcases e with rfl | rfl
        · exact .inl this.1
        · exact .inl this.2
      · have := C1.homes I W1 h hl
        rcases e with rfl | rfl
        · exact .inr this.1
        · exact .inr this.2
  have ht : ∀ s ∈ P, ∃ n, t.lookup s = some n := by
    intro s hs
    rcases hin s hs with h | h
    · obtain ⟨n, hn, _⟩ := C0.taken W0 h; exact ⟨n, hn⟩
    · obtain ⟨n, hn, _⟩ := C1.taken W1 h; exact ⟨n, hn⟩
  have key : (m :: P.map (fun s => (t.lookup s).getD 0)).length ≤ ks.length := by
    apply card_le
    · rw [List.nodup_cons]
      constructor
      · intro h
        obtain ⟨s, hs, e⟩ := List.mem_map.mp h
        obtain ⟨n, hn⟩ := ht s hs
        rw [hn] at e; simp at e
        have := (I.home s n hn).1; omega
      · clear hP
        induction P with
        | nil => simp
        | cons a P ih =>
          rw [List.nodup_cons] at nd
          rw [List.map_cons, List.nodup_cons]
          refine ⟨?_, ih nd.2 (fun s hs => hin s (by simp [hs])) (fun s hs => ht s (by simp [hs]))⟩
          intro h
          obtain ⟨s, hs, e⟩ := List.mem_map.mp h
          obtain ⟨n, hn⟩ := ht s (by simp [hs])
          obtain ⟨n', hn'⟩ := ht a (by simp)
          rw [hn, hn'] at e; simp at e; subst e
          have := I.inj _ _ _ hn hn'
          subst this; exact nd.1 hs
    · intro x hx
      rcases List.mem_cons.mp hx with rfl | h
      · exact (hk _).mpr (.inl rfl)
      · obtain ⟨s, hs, e⟩ := List.mem_map.mp h
        obtain ⟨n, hn⟩ := ht s hs
        rw [hn] at e; simp at e; subst e
        exact (hk _).mpr (.inr ⟨s, hin s hs, hn⟩)
  simp at key; omega

structure Mid (t : Tk) (w : List Seat) (j : Nat) (T : Tk) : Prop where
  a : ∀ i s s', j ≤ i → w[i]? = some s → w[i + 1]? = some s' → T.lookup s' = t.lookup s
  b : ∀ s, (∀ i, j < i → w[i]? ≠ some s) → T.lookup s = t.lookup s
  nd : (T.map (·.1)).Nodup
  len : T.length = if j + 1 < w.length then t.length + 1 else t.length

theorem nd_at {w : List Seat} (nd : w.Nodup) {i j : Nat} {s : Seat} (hi : w[i]? = some s) (hj : w[j]? = some s) : i = j := by
  obtain ⟨h1, e1⟩ := List.getElem?_eq_some_iff.mp hi
  obtain ⟨h2, e2⟩ := List.getElem?_eq_some_iff.mp hj
  have q := List.pairwise_iff_getElem.mp nd
  rcases Nat.lt_trichotomy i j with h | h | h
  · exact absurd (e1.trans e2.symm) (q i j h1 h2 h)
  · exact h
  · exact absurd (e2.trans e1.symm) (q j i h2 h1 h)

theorem Mid.start {ps t m w} (I : Inv ps t m) : Mid t w (w.length - 1) t :=
  ⟨fun i s s' hi _ h => absurd (List.getElem?_eq_some_iff.mp h).1 (by omega), fun _ _ => rfl, I.nd, by rw [if_neg (by omega)]⟩
theorem Mid.get {ps t s0 w j T} (W : Way ps t s0 w) (M : Mid t w j T) {s} (h : w[j]? = some s) : T.lookup s = t.lookup s :=
  M.b s fun i hi e => by have := nd_at W.nd h e; omega
theorem some_mem {t : Tk} {s : Seat} {n : Nat} (h : t.lookup s = some n) : s ∈ t.map (·.1) := List.mem_map.mpr ⟨_, lookup_mem h, rfl⟩

theorem Mid.step {ps t s0 w j T} (W : Way ps t s0 w) (hop : ∀ s, w[w.length - 1]? = some s → t.lookup s = none) (M : Mid t w (j + 1) T) {a b n}
    (ha : w[j]? = some a) (hb : w[j + 1]? = some b) (hn : t.lookup a = some n) : T.lookup a = some n ∧ Mid t w j (put T b n) := by
  have hTa : T.lookup a = t.lookup a := M.b a fun i hi e => by have := nd_at W.nd ha e; omega
  have hTb : T.lookup b = t.lookup b := M.get W hb
  refine ⟨hTa.trans hn, ?_, ?_, put_nodup M.nd, ?_⟩
  · intro i s s' hi h1 h2
    rw [put_lookup]
    by_cases e : s' = b
    · subst e
      have : i + 1 = j + 1 := nd_at W.nd h2 hb
      have : i = j := by omega
      subst this
      rw [ha] at h1; injection h1 with h1; subst h1
      rw [if_pos rfl, hn]
    · rw [if_neg e]
      refine M.a i s s' ?_ h1 h2
      apply Nat.lt_of_le_of_ne hi
      rintro rfl
      rw [hb] at h2; injection h2 with h2; exact e h2.symm
  · intro s hs
    rw [put_lookup, if_neg (by rintro rfl; exact hs (j + 1) (by omega) hb)]
    exact M.b s fun i hi => hs i (by omega)
  · have hlt : j + 1 < w.length := (List.getElem?_eq_some_iff.mp hb).1
    rw [put_length, M.len, if_pos hlt]
    by_cases h : j + 1 + 1 < w.length
    · obtain ⟨n', hn', _⟩ := W.step (j + 1) b _ hb (List.getElem?_eq_getElem h)
      rw [if_pos (some_mem (hTb.trans hn')), if_pos h]
    · have : j + 1 = w.length - 1 := by omega
      have := hop b (this ▸ hb)
      rw [if_neg (lookup_none.mp (hTb.trans this)), if_neg h]

theorem Mid.done {ps t m r w T} (I : Inv ps t m) (hr : r = 0 ∨ r = 1) (W : Way ps t (hm ps m r) w) (hop : ∀ s, w[w.length - 1]? = some s → t.lookup s = none) (M : Mid t w 0 T) :
    Inv ps (put T (hm ps m r) m) (m + 1) := by
  have hT0 : T.lookup (hm ps m r) = t.lookup (hm ps m r) := M.get W W.head
  /- where a seat's number came from -/
  have src : ∀ s n, s ≠ hm ps m r → T.lookup s = some n → ∃ p, t.lookup p = some n ∧ ((∃ i, w[i]? = some p ∧ w[i + 1]? = some s) ∨ (p = s ∧ s ∉ w)) := by
    intro s n hne h
    by_cases hs : s ∈ w
    · obtain ⟨i, hi, e⟩ := List.getElem_of_mem hs
      cases i with
      | zero =>
        have := W.head
        rw [List.getElem?_eq_getElem hi, e] at this; injection this with this; exact absurd this hne
      | succ i =>
        have h1 : w[i]? = some w[i] := List.getElem?_eq_getElem (by omega)
        have h2 : w[i + 1]? = some s := by rw [← e]; exact List.getElem?_eq_getElem _
        exact ⟨_, (M.a i _ _ (by omega) h1 h2).symm.trans h, .inl ⟨i, h1, h2⟩⟩
    · exact ⟨s, (M.b s fun i _ e => hs (List.mem_of_getElem? e)).symm.trans h, .inr ⟨rfl, hs⟩⟩
  refine ⟨put_nodup M.nd, ?_, ?_, ?_⟩
  · rw [put_length, M.len, I.len]
    by_cases h : 0 + 1 < w.length
    · obtain ⟨n, hn, _⟩ := W.step 0 _ _ W.head (List.getElem?_eq_getElem h)
      rw [if_pos (some_mem (hT0.trans hn)), if_pos h]
    · have := W.pos
      have e : w.length - 1 = 0 := by omega
      rw [if_neg (lookup_none.mp (hT0.trans (hop _ (e ▸ W.head)))), if_neg h]
  · intro s n h
    rw [put_lookup] at h
    by_cases e : s = hm ps m r
    · rw [if_pos e] at h; injection h with h; subst h
      refine ⟨by omega, ?_⟩
      rcases hr with rfl | rfl
      · exact .inl e
      · exact .inr e
    · rw [if_neg e] at h
      obtain ⟨p, hp, ⟨i, h1, h2⟩ | ⟨rfl, _⟩⟩ := src s n e h
      · obtain ⟨n', hn', e2⟩ := W.step i p s h1 h2
        rw [hp] at hn'; injection hn' with hn'; subst hn'
        refine ⟨by have := (I.home p n hp).1; omega, ?_⟩
        rcases I.row hp with e3 | e3 <;> rw [e3] at e2 <;> simp at e2
        · exact .inr e2
        · exact .inl e2
      · have := I.home p n hp
        exact ⟨by omega, this.2⟩
  · intro s s' n h h'
    rw [put_lookup] at h h'
    by_cases e : s = hm ps m r
    · rw [if_pos e] at h; injection h with h; subst h
      by_cases e' : s' = hm ps m r
      · rw [e, e']
      · rw [if_neg e'] at h'
        obtain ⟨p, hp, _⟩ := src s' m e' h'
        have := (I.home p m hp).1; omega
    · rw [if_neg e] at h
      obtain ⟨p, hp, q⟩ := src s n e h
      by_cases e' : s' = hm ps m r
      · rw [if_pos e'] at h'; injection h' with h'; subst h'
        have := (I.home p m hp).1; omega
      · rw [if_neg e'] at h'
        obtain ⟨p', hp', q'⟩ := src s' n e' h'
        have := I.inj _ _ _ hp hp'
        subst this
        rcases q with ⟨i, h1, h2⟩ | ⟨rfl, h2⟩ <;> rcases q' with ⟨i', h1', h2'⟩ | ⟨rfl, h2'⟩
        · have := nd_at W.nd h1 h1'; subst this
          rw [h2] at h2'; injection h2'
        · exact absurd (List.mem_of_getElem? h1) h2'
        · exact absurd (List.mem_of_getElem? h1') h2
        · rfl

/-- every number has a seat -/
theorem Inv.full {ps t m} (I : Inv ps t m) {k : Nat} (hk : k < m) : ∃ s, (s, k) ∈ t := by
  apply Classical.byContradiction
  intro hn
  have nd2 : (t.map (·.2)).Nodup := by
    have nd := I.nd
    have inj : ∀ s s' n, (s, n) ∈ t → (s', n) ∈ t → s = s' := fun s s' n h h' => I.inj s s' n (lookup_of_mem I.nd h) (lookup_of_mem I.nd h')
    clear I hn
    induction t with
    | nil => simp
    | cons p t ih =>
      rw [List.map_cons, List.nodup_cons] at nd ⊢
      refine ⟨?_, ih nd.2 fun s s' n h h' => inj s s' n (by simp [h]) (by simp [h'])⟩
      intro h
      obtain ⟨⟨s, n⟩, hs, e⟩ := List.mem_map.mp h
      simp at e; subst e
      have := inj s p.1 p.2 (by simp [hs]) (by simp)
      subst this
      exact nd.1 (List.mem_map.mpr ⟨_, hs, rfl⟩)
  have h1 : (t.map (·.2)).length ≤ ((List.range m).erase k).length := by
    apply card_le nd2
    intro x hx
    obtain ⟨⟨s, n⟩, hs, e⟩ := List.mem_map.mp hx
    simp at e; subst e
    have := (I.home s n (lookup_of_mem I.nd hs)).1
    exact (List.mem_erase_of_ne (by rintro rfl; exact hn ⟨s, hs⟩)).mpr (List.mem_range.mpr this)
  rw [List.length_erase_of_mem (List.mem_range.mpr hk), List.length_map, I.len, List.length_range] at h1
  omega

end Cu
end Mine

namespace Mine
open PySem PySem.SetTable

/-! the table of a set: where a search goes -/
noncomputable def adv (M : Nat) (p : Probe) : Probe :=
  if p.more > 0 then { p with j := p.j + 1, more := p.more - 1 }
  else { p with j := (leap M p.i p.perturb).1, more := runEnd M (leap M p.i p.perturb).1 - (leap M p.i p.perturb).1, i := (leap M p.i p.perturb).1, perturb := (leap M p.i p.perturb).2 }
theorem advance_is (t : SetTable) (p : Probe) : t.advance p = adv t.mask p := rfl
noncomputable def rs (M i q : Nat) : Probe := ⟨i, runEnd M i - i, i, q, none⟩
noncomputable def seqP (M : Nat) (h : Int) : Nat → Probe
  | 0 => rs M (bits h % (M + 1)) (bits h)
  | n + 1 => adv M (seqP M h n)
noncomputable def at_ (M : Nat) (h : Int) (n : Nat) : Nat := (seqP M h n).j
noncomputable def runs (M : Nat) (h : Int) : Nat → Nat
  | 0 => bits h % (M + 1)
  | k + 1 => (leap M (runs M h k) (bits h / 32 ^ k)).1

theorem seq_run {M n i q : Nat} {h : Int} (e : seqP M h n = rs M i q) : ∀ d, d ≤ runEnd M i - i → seqP M h (n + d) = ⟨i + d, runEnd M i - i - d, i, q, none⟩
  | 0, _ => e
  | d + 1, hd => by
    show adv M (seqP M h (n + d)) = _
    rw [seq_run e d (by omega)]
    unfold adv
    rw [if_pos (by show runEnd M i - i - d > 0; omega)]
    rfl
theorem runEnd_le {M i : Nat} : i ≤ runEnd M i ∧ runEnd M i ≤ i + 9 ∧ (i ≤ M → runEnd M i ≤ M) := by unfold runEnd; split <;> omega
theorem seq_next {M n i q : Nat} {h : Int} (e : seqP M h n = rs M i q) : seqP M h (n + (runEnd M i - i) + 1) = rs M (leap M i q).1 (q / 32) := by
  show adv M (seqP M h (n + (runEnd M i - i))) = _
  rw [seq_run e _ (Nat.le_refl _)]
  unfold adv
  rw [if_neg (by show ¬ (runEnd M i - i - (runEnd M i - i) > 0); omega)]
  rfl
theorem seq_runs {M : Nat} {h : Int} : ∀ k, ∃ n, n ≤ 10 * k ∧ seqP M h n = rs M (runs M h k) (bits h / 32 ^ k)
  | 0 => ⟨0, Nat.le_refl _, by rw [Nat.pow_zero, Nat.div_one]; rfl⟩
  | k + 1 => by
    obtain ⟨n, hn, e⟩ := seq_runs (M := M) (h := h) k
    have := @runEnd_le M (runs M h k)
    refine ⟨_, ?_, (seq_next e).trans (by rw [Nat.pow_succ, Nat.div_div_eq_div_mul]; rfl)⟩
    omega

theorem bits_lt (h : Int) : bits h < 2 ^ 64 := by unfold bits; omega
theorem bits_gone {h : Int} {k : Nat} (hk : 13 ≤ k) : bits h / 32 ^ k = 0 := by
  refine Nat.div_eq_of_lt (Nat.lt_of_lt_of_le (bits_lt h) (Nat.le_trans (by decide) (Nat.pow_le_pow_right (by decide) hk)))
theorem runs_lt {M : Nat} {h : Int} : ∀ k, runs M h k ≤ M
  | 0 => Nat.le_of_lt_succ (Nat.mod_lt _ (Nat.succ_pos _))
  | k + 1 => Nat.le_of_lt_succ (Nat.mod_lt _ (Nat.succ_pos _))
noncomputable def meets (N : Nat) : Nat → Nat → Nat → Bool
  | 0, _, _ => false
  | f + 1, i, e => i == e || meets N f ((i * 5 + 1) % N) e
theorem meets_run {M : Nat} {h : Int} {e : Nat} : ∀ f k, 13 ≤ k → meets (M + 1) f (runs M h k) e = true → ∃ m, m < f ∧ runs M h (k + m) = e
  | 0, k, hk, h' => nomatch h'
  | f + 1, k, hk, h' => by
    unfold meets at h'
    rw [Bool.or_eq_true, beq_iff_eq] at h'
    rcases h' with h' | h'
    · exact ⟨0, Nat.succ_pos _, h'⟩
    · have e1 : runs M h (k + 1) = (runs M h k * 5 + 1) % (M + 1) := by
        show (leap M _ _).1 = _
        rw [bits_gone hk]; rfl
      rw [← e1] at h'
      obtain ⟨m, hm, e2⟩ := meets_run f (k + 1) (by omega) h'
      exact ⟨m + 1, by omega, by rw [← e2]; congr 1; omega⟩
noncomputable def Good (M : Nat) : Prop := M = 7 ∨ M = 31
theorem meets_all {M : Nat} (g : Good M) : ∀ i, i ≤ M → ∀ e, e ≤ M → meets (M + 1) (M + 1) i e = true := by
  have h7 : ∀ i, i < 8 → ∀ e, e < 8 → meets 8 8 i e = true := by decide +kernel
  have h31 : ∀ i, i < 32 → ∀ e, e < 32 → meets 32 32 i e = true := by decide +kernel
  intro i hi e he
  rcases g with rfl | rfl
  · exact h7 i (by omega) e (by omega)
  · exact h31 i (by omega) e (by omega)
theorem hits {M : Nat} (g : Good M) (h : Int) {e : Nat} (he : e ≤ M) : ∃ k, k ≤ M + 13 ∧ runs M h k = e := by
  obtain ⟨m, hm, x⟩ := meets_run (M + 1) 13 (Nat.le_refl _) (meets_all g _ (runs_lt 13) e he)
  exact ⟨13 + m, by omega, x⟩

theorem seq_in {M : Nat} {h : Int} : ∀ n, (seqP M h n).j + (seqP M h n).more ≤ M ∧ (seqP M h n).i ≤ M
  | 0 => by
    have h1 : bits h % (M + 1) ≤ M := Nat.le_of_lt_succ (Nat.mod_lt _ (Nat.succ_pos _))
    have := @runEnd_le M (bits h % (M + 1))
    exact ⟨by show bits h % (M + 1) + (runEnd M (bits h % (M + 1)) - bits h % (M + 1)) ≤ M; omega, h1⟩
  | n + 1 => by
    obtain ⟨h1, h2⟩ := seq_in (M := M) (h := h) n
    show (adv M (seqP M h n)).j + (adv M (seqP M h n)).more ≤ M ∧ (adv M (seqP M h n)).i ≤ M
    unfold adv
    split
    · exact ⟨by show (seqP M h n).j + 1 + ((seqP M h n).more - 1) ≤ M; omega, h2⟩
    · have h3 : (leap M (seqP M h n).i (seqP M h n).perturb).1 ≤ M := Nat.le_of_lt_succ (Nat.mod_lt _ (Nat.succ_pos _))
      have := @runEnd_le M (leap M (seqP M h n).i (seqP M h n).perturb).1
      exact ⟨by show (leap M (seqP M h n).i (seqP M h n).perturb).1 + (runEnd M (leap M (seqP M h n).i (seqP M h n).perturb).1 - (leap M (seqP M h n).i (seqP M h n).perturb).1) ≤ M; omega, h3⟩
theorem at_le {M : Nat} {h : Int} (n : Nat) : at_ M h n ≤ M := by have := (seq_in (M := M) (h := h) n).1; unfold at_; omega
theorem seq_dummy {M : Nat} {h : Int} : ∀ n, (seqP M h n).dummy = none
  | 0 => rfl
  | n + 1 => by
    show (adv M (seqP M h n)).dummy = none
    unfold adv
    split <;> exact seq_dummy n

theorem least {p : Nat → Prop} : ∀ n, p n → ∃ m, m ≤ n ∧ p m ∧ ∀ k, k < m → ¬ p k
  | n, h => Classical.byCases (fun q : ∃ k, k < n ∧ p k => by
      obtain ⟨k, hk, hp⟩ := q
      obtain ⟨m, hm, x⟩ := least k hp
      exact ⟨m, by omega, x⟩) fun q => ⟨n, Nat.le_refl _, h, fun k hk hp => q ⟨k, hk, hp⟩⟩

/-- the first free place of a search -/
noncomputable def First (M : Nat) (L : List Nat) (h : Int) (n : Nat) : Prop := at_ M h n ∉ L ∧ ∀ m, m < n → at_ M h m ∈ L
theorem free_there {M : Nat} {L : List Nat} (hl : L.length ≤ M) : ∃ e, e ≤ M ∧ e ∉ L := Classical.byContradiction fun hn => by
  have := Cu.card_le (l := List.range (M + 1)) (l' := L) List.nodup_range fun x hx => Classical.byContradiction fun q => hn ⟨x, Nat.le_of_lt_succ (List.mem_range.mp hx), q⟩
  rw [List.length_range] at this
  omega
theorem first_is {M : Nat} (g : Good M) {L : List Nat} (hl : L.length ≤ M) (h : Int) : ∃ n, n ≤ 10 * (M + 13) ∧ First M L h n := by
  obtain ⟨e, he, hn⟩ := free_there hl
  obtain ⟨k, hk, e1⟩ := hits g h he
  obtain ⟨n, hn', e2⟩ := seq_runs (M := M) (h := h) k
  have e3 : at_ M h n ∉ L := by unfold at_; rw [e2]; show runs M h k ∉ L; rw [e1]; exact hn
  obtain ⟨m, hm, h1, h2⟩ := least (p := fun n => at_ M h n ∉ L) n e3
  exact ⟨m, by omega, h1, fun k hk => Classical.byContradiction (h2 k hk)⟩
end Mine

namespace Mine
open PySem PySem.SetTable

/-- places in rising order -/
noncomputable def Up (xs : Array Nat) : Prop := ∀ a b x y : Nat, a < b → xs[a]? = some x → xs[b]? = some y → x < y
theorem below_go {xs : Array Nat} {j : Nat} (u : Up xs) : ∀ f lo hi, hi ≤ lo + f → lo ≤ hi → hi ≤ xs.size → (∀ a x : Nat, a < lo → xs[a]? = some x → x < j) → (∀ a x : Nat, hi ≤ a → xs[a]? = some x → j ≤ x) →
    below.go xs j f lo hi ≤ xs.size ∧ (∀ a x : Nat, a < below.go xs j f lo hi → xs[a]? = some x → x < j) ∧ ∀ a x : Nat, below.go xs j f lo hi ≤ a → xs[a]? = some x → j ≤ x
  | 0, lo, hi, h1, h2, h3, h4, h5 => by
    have e : lo = hi := by omega
    subst e
    exact ⟨h3, h4, h5⟩
  | f + 1, lo, hi, h1, h2, h3, h4, h5 => by
    unfold below.go
    split
    · rename_i hlt
      have hm : (lo + hi) / 2 < xs.size := by omega
      have hg : xs[(lo + hi) / 2]? = some (xs[(lo + hi) / 2]'hm) := Array.getElem?_eq_getElem hm
      have hd : xs.getD ((lo + hi) / 2) j = xs[(lo + hi) / 2]'hm := by rw [Array.getD_eq_getD_getElem?, hg]; rfl
      dsimp only
      rw [hd]
      split
      · rename_i hx
        refine below_go u f _ hi (by omega) (by omega) h3 (fun a x ha he => ?_) h5
        rcases Nat.lt_or_ge a ((lo + hi) / 2) with q | q
        · exact Nat.lt_trans (u _ _ _ _ q he hg) hx
        · have : a = (lo + hi) / 2 := by omega
          subst this
          rw [hg] at he; cases he; exact hx
      · rename_i hx
        refine below_go u f lo _ (by omega) (by omega) (by omega) h4 (fun a x ha he => ?_)
        rcases Nat.lt_or_ge ((lo + hi) / 2) a with q | q
        · exact Nat.le_of_lt (Nat.lt_of_le_of_lt (Nat.not_lt.mp hx) (u _ _ _ _ q hg he))
        · have : a = (lo + hi) / 2 := by omega
          subst this
          rw [hg] at he; cases he; exact Nat.not_lt.mp hx
    · have e : lo = hi := by omega
      subst e
      exact ⟨h3, h4, h5⟩
theorem below_is {xs : Array Nat} {j : Nat} (u : Up xs) : below xs j ≤ xs.size ∧ (∀ a x : Nat, a < below xs j → xs[a]? = some x → x < j) ∧ ∀ a x : Nat, below xs j ≤ a → xs[a]? = some x → j ≤ x :=
  below_go u xs.size 0 xs.size (by omega) (by omega) (Nat.le_refl _) (fun a x h => nomatch h) fun a x h e => by
    rw [Array.getElem?_eq_none h] at e; cases e
theorem below_at {xs : Array Nat} {j i : Nat} (u : Up xs) (h : xs[i]? = some j) : below xs j = i := by
  obtain ⟨h1, h2, h3⟩ := below_is (j := j) u
  rcases Nat.lt_trichotomy (below xs j) i with q | q | q
  · have hi := (Array.getElem?_eq_some_iff.mp h).1
    have hb : below xs j < xs.size := by omega
    have := h3 _ _ (Nat.le_refl _) (Array.getElem?_eq_getElem hb)
    have := u _ _ _ _ q (Array.getElem?_eq_getElem hb) h
    omega
  · exact q
  · have := h2 _ _ q h
    omega
theorem slot_live {t : SetTable} {i j : Nat} (u : Up t.place) (h : t.place[i]? = some j) : t.slot j = .live i := by
  unfold slot
  dsimp only
  rw [below_at u h, h, if_pos (by exact beq_self_eq_true _)]
theorem slot_empty {t : SetTable} {j : Nat} (hd : t.dummies = #[]) (h : j ∉ t.place.toList) : t.slot j = .empty := by
  unfold slot
  dsimp only
  rw [if_neg fun q => h (List.mem_of_getElem? ((Array.getElem?_toList ..).trans (eq_of_beq q))), hd]
  rfl

theorem insertAt_list {α : Type} (xs : Array α) (p : Nat) (x : α) : (insertAt xs p x).toList = xs.toList.take p ++ x :: xs.toList.drop p := by
  unfold insertAt
  rw [Array.toList_append, Array.toList_push, Array.toList_extract, Array.toList_extract, List.append_assoc]
  simp only [List.extract, Nat.sub_zero, List.drop_zero, List.singleton_append]
  rw [List.take_of_length_le (i := xs.size - p) (by rw [List.length_drop, Array.length_toList]; exact Nat.le_refl _)]

/-- a table in order, with what lies in it -/
structure Tab (t : SetTable) (es : Array (Int × Value)) : Prop where
  dum : t.dummies = #[]
  good : Good t.mask
  size : t.place.size = es.size
  room : es.size ≤ t.mask
  up : Up t.place
  low : ∀ j ∈ t.place.toList, j ≤ t.mask
  reach : ∀ (i j : Nat) (e : Int × Value), t.place[i]? = some j → es[i]? = some e → ∃ m, at_ t.mask e.1 m = j ∧ ∀ k, k < m → at_ t.mask e.1 k ∈ t.place.toList

theorem Tab.fresh (f m : Nat) (led : Bool) : Tab (.fresh f m led) #[] :=
  ⟨rfl, .inl rfl, rfl, Nat.zero_le _, fun _ _ _ _ _ h => (by cases h), fun _ h => (nomatch h), fun _ _ _ h => (by cases h)⟩
theorem Tab.notGave {t : SetTable} {es : Array (Int × Value)} (T : Tab t es) : t.mask % 2 = 1 := by rcases T.good with e | e <;> rw [e]

/-- what a search meets from a place on -/
theorem probe_go {t : SetTable} {es : Array (Int × Value)} (T : Tab t es) {hashAt : Nat → Int} {h : Int} {n₀ : Nat} (F : First t.mask t.place.toList h n₀) : ∀ f n, n ≤ n₀ → n₀ < n + f →
    (∃ m i : Nat, n ≤ m ∧ m < n₀ ∧ t.place[i]? = some (at_ t.mask h m) ∧ hashAt i = h ∧ probe.go t hashAt h f (seqP t.mask h n) = some (.candidate (at_ t.mask h m) i (seqP t.mask h (m + 1))) ∧
      ∀ k i : Nat, n ≤ k → k < m → t.place[i]? = some (at_ t.mask h k) → hashAt i ≠ h) ∨
    (probe.go t hashAt h f (seqP t.mask h n) = some (.empty (at_ t.mask h n₀) none) ∧ ∀ k i : Nat, n ≤ k → k < n₀ → t.place[i]? = some (at_ t.mask h k) → hashAt i ≠ h)
  | 0, n, h1, h2 => by omega
  | f + 1, n, h1, h2 => by
    unfold probe.go
    rcases Nat.lt_or_ge n n₀ with hn | hn
    · obtain ⟨i, hi, ei⟩ := List.mem_iff_getElem.mp (F.2 n hn)
      have hi' : t.place[i]? = some (at_ t.mask h n) := by rw [← Array.getElem?_toList, List.getElem?_eq_getElem hi, ei]
      have hs : t.slot (seqP t.mask h n).j = .live i := slot_live T.up hi'
      rw [hs]
      dsimp only
      by_cases hh : hashAt i = h
      · rw [if_pos (beq_iff_eq.mpr hh)]
        exact .inl ⟨n, i, Nat.le_refl _, hn, hi', hh, rfl, fun k _ a b => absurd b (Nat.not_lt.mpr a)⟩
      · rw [if_neg fun q => hh (eq_of_beq q), advance_is]
        have here : ∀ i', t.place[i']? = some (at_ t.mask h n) → hashAt i' ≠ h := fun i' e => by
          have := (below_at T.up e).symm.trans (below_at T.up hi')
          rw [this]; exact hh
        rcases probe_go T F f (n + 1) hn (by omega) with ⟨m, i', a, b, c, d, e, g⟩ | ⟨e, g⟩
        · refine .inl ⟨m, i', by omega, b, c, d, e, fun k i2 h3 h4 h5 => ?_⟩
          rcases Nat.lt_or_ge n k with q | q
          · exact g k i2 q h4 h5
          · have : k = n := by omega
            subst this; exact here i2 h5
        · refine .inr ⟨e, fun k i2 h3 h4 h5 => ?_⟩
          rcases Nat.lt_or_ge n k with q | q
          · exact g k i2 q h4 h5
          · have : k = n := by omega
            subst this; exact here i2 h5
    · have e : n = n₀ := by omega
      subst e
      have hs : t.slot (seqP t.mask h n).j = .empty := slot_empty T.dum F.1
      rw [hs]
      refine .inr ⟨?_, fun k _ a b => absurd b (Nat.not_lt.mpr a)⟩
      dsimp only
      rw [seq_dummy]
      rfl
end Mine

namespace Mine
open PySem PySem.SetTable

theorem ins_at {α : Type} {l : List α} {p i : Nat} {x y : α} (hp : p ≤ l.length) (h : (l.take p ++ x :: l.drop p)[i]? = some y) : (i < p ∧ l[i]? = some y) ∨ (i = p ∧ y = x) ∨ (p < i ∧ l[i - 1]? = some y) := by
  rcases Nat.lt_trichotomy i p with q | q | q
  · rw [List.getElem?_append_left (by rw [List.length_take]; omega), List.getElem?_take_of_lt q] at h
    exact .inl ⟨q, h⟩
  · subst q
    rw [List.getElem?_append_right (by rw [List.length_take]; omega), List.length_take, Nat.min_eq_left hp, Nat.sub_self] at h
    cases h
    exact .inr (.inl ⟨rfl, rfl⟩)
  · rw [List.getElem?_append_right (by rw [List.length_take]; omega), List.length_take, Nat.min_eq_left hp] at h
    obtain ⟨d, rfl⟩ : ∃ d, i = p + 1 + d := ⟨i - (p + 1), by omega⟩
    have e : p + 1 + d - p = d + 1 := by omega
    rw [e, List.getElem?_cons_succ, List.getElem?_drop] at h
    have e2 : p + 1 + d - 1 = p + d := by omega
    rw [e2]
    exact .inr (.inr ⟨by omega, h⟩)
theorem insA_at {α : Type} {xs : Array α} {p i : Nat} {x y : α} (hp : p ≤ xs.size) (h : (insertAt xs p x)[i]? = some y) : (i < p ∧ xs[i]? = some y) ∨ (i = p ∧ y = x) ∨ (p < i ∧ xs[i - 1]? = some y) := by
  rw [← Array.getElem?_toList, insertAt_list] at h
  rcases ins_at hp h with q | q | ⟨a, b⟩
  · exact .inl ⟨q.1, by rw [← Array.getElem?_toList]; exact q.2⟩
  · exact .inr (.inl q)
  · exact .inr (.inr ⟨a, by rw [← Array.getElem?_toList]; exact b⟩)
theorem ins_mem {α : Type} {xs : Array α} {p : Nat} {x y : α} : y ∈ (insertAt xs p x).toList ↔ y = x ∨ y ∈ xs.toList := by
  rw [insertAt_list, List.mem_append, List.mem_cons]
  have : y ∈ xs.toList ↔ y ∈ xs.toList.take p ∨ y ∈ xs.toList.drop p := by rw [← List.mem_append, List.take_append_drop]
  rw [this]
  exact ⟨fun h => by rcases h with h | h | h; exact .inr (.inl h); exact .inl h; exact .inr (.inr h), fun h => by rcases h with h | h | h; exact .inr (.inl h); exact .inl h; exact .inr (.inr h)⟩
theorem ins_size {α : Type} {xs : Array α} {p : Nat} {x : α} (hp : p ≤ xs.size) : (insertAt xs p x).size = xs.size + 1 := by
  rw [← Array.length_toList, insertAt_list, List.length_append, List.length_cons, List.length_take, List.length_drop, Array.length_toList]
  omega

theorem Tab.put {t : SetTable} {es : Array (Int × Value)} (T : Tab t es) {h : Int} {x : Value} {n₀ : Nat} (F : First t.mask t.place.toList h n₀) (hr : es.size + 1 ≤ t.mask) (pl : Bool) :
    Tab { (t.put (at_ t.mask h n₀)).1 with plain := pl } (insertAt es (t.put (at_ t.mask h n₀)).2 (h, x)) := by
  have hb := below_is (j := at_ t.mask h n₀) T.up
  have hps : below t.place (at_ t.mask h n₀) ≤ es.size := by rw [← T.size]; exact hb.1
  have hne : ∀ a y : Nat, below t.place (at_ t.mask h n₀) ≤ a → t.place[a]? = some y → at_ t.mask h n₀ < y := fun a y ha e => by
    refine Nat.lt_of_le_of_ne (hb.2.2 a y ha e) fun q => F.1 ?_
    rw [q]
    exact List.mem_of_getElem? ((Array.getElem?_toList ..).trans e)
  refine ⟨?_, T.good, ?_, ?_, ?_, ?_, ?_⟩
  · show (if has t.dummies _ then _ else t.dummies) = _
    rw [T.dum]; rfl
  · show (insertAt t.place _ _).size = (insertAt es (below t.place (at_ t.mask h n₀)) _).size
    rw [ins_size hb.1, ins_size hps, T.size]
  · show (insertAt es (below t.place (at_ t.mask h n₀)) _).size ≤ t.mask
    rw [ins_size hps]; exact hr
  · intro a b y z hab ha hb'
    rcases insA_at hb.1 ha with ⟨a1, a2⟩ | ⟨a1, a2⟩ | ⟨a1, a2⟩ <;> rcases insA_at hb.1 hb' with ⟨b1, b2⟩ | ⟨b1, b2⟩ | ⟨b1, b2⟩
    · exact T.up _ _ _ _ hab a2 b2
    · rw [b2]; exact hb.2.1 _ _ a1 a2
    · exact T.up _ _ _ _ (by omega) a2 b2
    · omega
    · omega
    · rw [a2]; exact hne _ _ (by omega) b2
    · omega
    · omega
    · exact T.up _ _ _ _ (by omega) a2 b2
  · intro j hj
    rcases ins_mem.mp hj with q | q
    · rw [q]; exact at_le _
    · exact T.low j q
  · have more : ∀ y, y ∈ t.place.toList → y ∈ (insertAt t.place (below t.place (at_ t.mask h n₀)) (at_ t.mask h n₀)).toList := fun y hy => ins_mem.mpr (.inr hy)
    intro i j e h1 h2
    rcases insA_at hb.1 h1 with ⟨a1, a2⟩ | ⟨a1, a2⟩ | ⟨a1, a2⟩ <;> rcases insA_at hps h2 with ⟨b1, b2⟩ | ⟨b1, b2⟩ | ⟨b1, b2⟩
    · obtain ⟨m, e1, e2⟩ := T.reach _ _ _ a2 b2
      exact ⟨m, e1, fun k hk => more _ (e2 k hk)⟩
    · omega
    · exact absurd b1 (by show ¬ (below t.place (at_ t.mask h n₀) < i); omega)
    · exact absurd b1 (by show ¬ (i < below t.place (at_ t.mask h n₀)); omega)
    · subst a2; subst b2
      exact ⟨n₀, rfl, fun k hk => more _ (F.2 k hk)⟩
    · exact absurd b1 (by show ¬ (below t.place (at_ t.mask h n₀) < i); omega)
    · exact absurd b1 (by show ¬ (i < below t.place (at_ t.mask h n₀)); omega)
    · exact absurd b1 (by show ¬ (i = below t.place (at_ t.mask h n₀)); omega)
    · obtain ⟨m, e1, e2⟩ := T.reach _ _ _ a2 b2
      exact ⟨m, e1, fun k hk => more _ (e2 k hk)⟩

/-! the table laid anew -/
/-- the table while it is laid: each of the first k has a place that its search meets -/
structure Lay (M : Nat) (hs : List Int) (ow : Array (Option Nat)) (k : Nat) : Prop where
  size : ow.size = M + 1
  low : ∀ j q : Nat, ow[j]? = some (some q) → q < k
  has : ∀ q : Nat, q < k → ∃ j : Nat, ow[j]? = some (some q)
  one : ∀ i j q : Nat, ow[i]? = some (some q) → ow[j]? = some (some q) → i = j
  reach : ∀ (j q : Nat) (h : Int), ow[j]? = some (some q) → hs[q]? = some h → ∃ m, at_ M h m = j ∧ ∀ n, n < m → ∃ p, ow[at_ M h n]? = some (some p)
theorem Lay.nil (M : Nat) (hs : List Int) : Lay M hs (Array.replicate (M + 1) none) 0 := by
  have hn : ∀ j q : Nat, (Array.replicate (M + 1) (none : Option Nat))[j]? ≠ some (some q) := fun j q e => by
    rw [Array.getElem?_replicate] at e
    split at e <;> cases e
  exact ⟨Array.size_replicate, fun j q e => absurd e (hn j q), fun q h => absurd h (Nat.not_lt_zero q), fun i j q e => absurd e (hn i q), fun j q h e => absurd e (hn j q)⟩

theorem isNone_at {ow : Array (Option Nat)} {j : Nat} (hj : j < ow.size) : (ow.getD j (some 0)).isNone = true ↔ ow[j]? = some none := by
  rw [Array.getD_eq_getD_getElem?, Array.getElem?_eq_getElem hj]
  cases ow[j] <;> simp
theorem find_range {p : Nat → Bool} {n : Nat} : (∃ k, k < n ∧ (List.range n).find? p = some k ∧ p k = true ∧ ∀ m, m < k → p m = false) ∨ ((List.range n).find? p = none ∧ ∀ m, m < n → p m = false) := by
  cases h : (List.range n).find? p with
  | none => exact .inr ⟨rfl, fun m hm => by have := List.find?_eq_none.mp h m (List.mem_range.mpr hm); cases hp : p m; rfl; exact absurd hp this⟩
  | some k =>
    rw [List.find?_range_eq_some] at h
    obtain ⟨h1, h2, h3⟩ := h
    refine .inl ⟨k, List.mem_range.mp h2, rfl, h1, fun m hm => ?_⟩
    have := h3 m hm
    cases hp : p m
    · rfl
    · rw [hp] at this; cases this

noncomputable def firstNone (M : Nat) (ow : Array (Option Nat)) (h : Int) (n : Nat) : Prop := ow[at_ M h n]? = some none ∧ ∀ m, m < n → ∃ p, ow[at_ M h m]? = some (some p)
/-- the search for a free place finds the first one that is -/
theorem free_go {M : Nat} {ow : Array (Option Nat)} {h : Int} (hsz : ow.size = M + 1) {K : Nat} (hK : ow[runs M h K]? = some none) : ∀ f k n, k ≤ K → K < k + f → seqP M h n = rs M (runs M h k) (bits h / 32 ^ k) → (∀ m, m < n → ∃ p, ow[at_ M h m]? = some (some p)) →
    ∃ n₀, layClean.free M ow f (runs M h k) (bits h / 32 ^ k) = some (at_ M h n₀) ∧ firstNone M ow h n₀
  | 0, k, n, h1, h2, _, _ => by omega
  | f + 1, k, n, h1, h2, he, hb => by
    unfold layClean.free
    have hre := @runEnd_le M (runs M h k)
    have hr := runs_lt (M := M) (h := h) k
    have hat : ∀ d, d < runEnd M (runs M h k) + 1 - runs M h k → at_ M h (n + d) = runs M h k + d := fun d hd => by
      unfold at_; rw [seq_run he d (by omega)]
    have hin : ∀ d, d < runEnd M (runs M h k) + 1 - runs M h k → runs M h k + d < ow.size := fun d hd => by
      have := hre.2.2 hr
      omega
    have full : ∀ d, d < runEnd M (runs M h k) + 1 - runs M h k → (ow.getD (runs M h k + d) (some 0)).isNone = false → ∃ p, ow[at_ M h (n + d)]? = some (some p) := fun d hd e => by
      rw [hat d hd]
      have hq := Array.getElem?_eq_getElem (hin d hd)
      cases hx : ow[runs M h k + d]'(hin d hd) with
      | some p => exact ⟨p, by rw [hq, hx]⟩
      | none => rw [hx] at hq; rw [(isNone_at (hin d hd)).mpr hq] at e; cases e
    rcases find_range (p := fun d => (ow.getD (runs M h k + d) (some 0)).isNone) (n := runEnd M (runs M h k) + 1 - runs M h k) with ⟨d, hd, e1, e2, e3⟩ | ⟨e1, e2⟩
    · rw [e1]
      refine ⟨n + d, by rw [hat d hd], by rw [hat d hd]; exact (isNone_at (hin d hd)).mp e2, fun m hm => ?_⟩
      rcases Nat.lt_or_ge m n with q | q
      · exact hb m q
      · obtain ⟨d', rfl⟩ := Nat.exists_eq_add_of_le q
        exact full d' (by omega) (e3 d' (by omega))
    · rw [e1]
      have hk : k ≠ K := fun q => by
        subst q
        have := e2 0 (by omega)
        rw [(isNone_at (hin 0 (by omega))).mpr hK] at this
        cases this
      obtain ⟨n₀, h3, h4⟩ := free_go hsz hK f (k + 1) _ (by omega) (by omega) ((seq_next he).trans (by rw [Nat.pow_succ, Nat.div_div_eq_div_mul]; rfl)) fun m hm => by
        rcases Nat.lt_or_ge m n with q | q
        · exact hb m q
        · obtain ⟨d', rfl⟩ := Nat.exists_eq_add_of_le q
          exact full d' (by omega) (e2 d' (by omega))
      refine ⟨n₀, ?_, h4⟩
      rw [Nat.pow_succ, ← Nat.div_div_eq_div_mul] at h3
      exact h3

theorem none_there {M : Nat} {hs : List Int} {ow : Array (Option Nat)} {k : Nat} (L : Lay M hs ow k) (hk : k ≤ M) : ∃ j, j ≤ M ∧ ow[j]? = some none := Classical.byContradiction fun hn => by
  have full : ∀ j, j < M + 1 → ∃ q, ow[j]? = some (some q) := fun j hj => by
    have hj' : j < ow.size := by rw [L.size]; exact hj
    have e := Array.getElem?_eq_getElem hj'
    cases hx : ow[j] with
    | some q => exact ⟨q, by rw [e, hx]⟩
    | none => exact absurd ⟨j, Nat.le_of_lt_succ hj, by rw [e, hx]⟩ hn
  have hnd : ((List.range (M + 1)).map fun j => (ow[j]?.getD none).getD 0).Nodup := by
    refine List.pairwise_map.mpr (List.Pairwise.imp_of_mem ?_ List.nodup_range)
    intro a b ha hb hne e
    obtain ⟨q, hq⟩ := full a (List.mem_range.mp ha)
    obtain ⟨q', hq'⟩ := full b (List.mem_range.mp hb)
    rw [hq, hq'] at e
    cases (show q = q' from e)
    exact hne (L.one _ _ _ hq hq')
  have := Cu.card_le (l' := List.range k) hnd fun x hx => by
    obtain ⟨j, hj, rfl⟩ := List.mem_map.mp hx
    obtain ⟨q, hq⟩ := full j (List.mem_range.mp hj)
    rw [hq]
    exact List.mem_range.mpr (L.low j q hq)
  rw [List.length_map, List.length_range, List.length_range] at this
  omega

theorem Lay.step {M : Nat} (g : Good M) {hs : List Int} {ow : Array (Option Nat)} {k : Nat} (L : Lay M hs ow k) (hk : k ≤ M) {h : Int} (hh : hs[k]? = some h) :
    ∃ j, layClean.free M ow (turns M) (bits h % (M + 1)) (bits h) = some j ∧ Lay M hs (ow.setIfInBounds j (some k)) (k + 1) := by
  obtain ⟨e, he, hn⟩ := none_there L hk
  obtain ⟨K, hK, e1⟩ := hits g h he
  obtain ⟨n₀, h1, h2, h3⟩ := free_go (h := h) L.size (K := K) (by rw [e1]; exact hn) (turns M) 0 0 (Nat.zero_le _) (by unfold turns; omega) (by rw [Nat.pow_zero, Nat.div_one]; rfl) fun m hm => absurd hm (Nat.not_lt_zero m)
  rw [Nat.pow_zero, Nat.div_one] at h1
  have hj : at_ M h n₀ < ow.size := by rw [L.size]; exact Nat.lt_succ_of_le (at_le _)
  have hset : ∀ i q : Nat, (ow.setIfInBounds (at_ M h n₀) (some k))[i]? = some (some q) → (i = at_ M h n₀ ∧ q = k) ∨ (i ≠ at_ M h n₀ ∧ ow[i]? = some (some q)) := fun i q e => by
    by_cases hi : at_ M h n₀ = i
    · subst hi
      rw [Array.getElem?_setIfInBounds_self_of_lt hj] at e
      cases e; exact .inl ⟨rfl, rfl⟩
    · rw [Array.getElem?_setIfInBounds_ne hi] at e
      exact .inr ⟨fun q => hi q.symm, e⟩
  have old : ∀ i q : Nat, ow[i]? = some (some q) → (ow.setIfInBounds (at_ M h n₀) (some k))[i]? = some (some q) := fun i q e => by
    rw [Array.getElem?_setIfInBounds_ne fun hi => by subst hi; rw [h2] at e; cases e]; exact e
  have new : (ow.setIfInBounds (at_ M h n₀) (some k))[at_ M h n₀]? = some (some k) := Array.getElem?_setIfInBounds_self_of_lt hj
  refine ⟨_, h1, by rw [Array.size_setIfInBounds]; exact L.size, fun i q e => ?_, fun q hq => ?_, fun i j q e e' => ?_, fun j q h' e e' => ?_⟩
  · rcases hset i q e with ⟨_, rfl⟩ | ⟨_, e⟩
    · omega
    · have := L.low i q e; omega
  · rcases Nat.lt_or_ge q k with a | a
    · obtain ⟨j, e⟩ := L.has q a
      exact ⟨j, old j q e⟩
    · cases (show q = k by omega)
      exact ⟨_, new⟩
  · rcases hset i q e with ⟨a, b⟩ | ⟨_, b⟩ <;> rcases hset j q e' with ⟨c, d⟩ | ⟨_, d⟩
    · rw [a, c]
    · have := L.low j q d; omega
    · have := L.low i q b; omega
    · exact L.one i j q b d
  · rcases hset j q e with ⟨a, b⟩ | ⟨_, b⟩
    · subst b; rw [hh] at e'; cases e'
      exact ⟨n₀, a.symm, fun n hn => by obtain ⟨p, hp⟩ := h3 n hn; exact ⟨p, old _ _ hp⟩⟩
    · obtain ⟨m, e1, e2⟩ := L.reach j q h' b e'
      exact ⟨m, e1, fun n hn => by obtain ⟨p, hp⟩ := e2 n hn; exact ⟨p, old _ _ hp⟩⟩
end Mine

namespace Mine
open PySem PySem.SetTable

noncomputable def layStep (M : Nat) (acc : Option (Array (Option Nat) × Nat)) (h : Int) : Option (Array (Option Nat) × Nat) := do
  let (owner, k) ← acc
  let j ← layClean.free M owner (turns M) (bits h % (M + 1)) (bits h)
  pure (owner.setIfInBounds j (some k), k + 1)
theorem lay_fold {M : Nat} (g : Good M) {hs : List Int} (hM : hs.length ≤ M) : ∀ (r : List Int) (ow : Array (Option Nat)) (k : Nat), k + r.length = hs.length → hs.drop k = r → Lay M hs ow k →
    ∃ ow', r.foldl (layStep M) (some (ow, k)) = some (ow', hs.length) ∧ Lay M hs ow' hs.length
  | [], ow, k, hk, _, L => by
    cases (show k = hs.length from hk)
    exact ⟨ow, rfl, L⟩
  | h :: r, ow, k, hk, hd, L => by
    have hh : hs[k]? = some h := by
      have := congrArg (·[0]?) hd
      simpa using this
    rw [List.length_cons] at hk
    obtain ⟨j, e, L'⟩ := L.step g (by omega) hh
    have es : layStep M (some (ow, k)) h = some (ow.setIfInBounds j (some k), k + 1) := by
      show (layClean.free M ow (turns M) (bits h % (M + 1)) (bits h)).bind _ = _
      rw [e]; rfl
    rw [List.foldl_cons, es]
    exact lay_fold g hM r _ (k + 1) (by omega) (by rw [← List.drop_drop, hd]; rfl) L'
theorem layClean_is {M : Nat} (g : Good M) {hs : Array Int} (hM : hs.size ≤ M) : ∃ ow, layClean M hs = some ow ∧ Lay M hs.toList ow hs.size := by
  obtain ⟨ow, e, L⟩ := lay_fold g (hs := hs.toList) (by rw [Array.length_toList]; exact hM) hs.toList _ 0 (Nat.zero_add _) rfl (Lay.nil M hs.toList)
  refine ⟨ow, ?_, by rw [← Array.length_toList]; exact L⟩
  show (hs.foldl (layStep M) (some (Array.replicate (M + 1) none, 0))).map (·.1) = _
  rw [← Array.foldl_toList, e]; rfl

noncomputable def liveOf (M : Nat) (ow : Array (Option Nat)) : List (Nat × Nat) := (List.range (M + 1)).filterMap fun j => (ow.getD j none).map (j, ·)
theorem getD_some {ow : Array (Option Nat)} {j q : Nat} : ow.getD j none = some q ↔ ow[j]? = some (some q) := by
  rw [Array.getD_eq_getD_getElem?]
  cases ow[j]? with
  | none => exact ⟨fun h => (nomatch h), fun h => (nomatch h)⟩
  | some x => exact ⟨fun h => congrArg some h, fun h => Option.some.inj h⟩
theorem live_mem {M : Nat} {ow : Array (Option Nat)} (hs : ow.size = M + 1) {j q : Nat} : (j, q) ∈ liveOf M ow ↔ ow[j]? = some (some q) := by
  unfold liveOf
  rw [List.mem_filterMap, ← getD_some]
  constructor
  · rintro ⟨j', _, e⟩
    obtain ⟨q', e1, e2⟩ := Option.map_eq_some_iff.mp e
    cases e2; exact e1
  · intro e
    refine ⟨j, List.mem_range.mpr ?_, by rw [e]; rfl⟩
    rw [← hs]; exact (Array.getElem?_eq_some_iff.mp (getD_some.mp e)).1
theorem live_up {M : Nat} {ow : Array (Option Nat)} : (liveOf M ow).Pairwise fun a b => a.1 < b.1 := by
  unfold liveOf
  refine List.Pairwise.filterMap _ ?_ List.pairwise_lt_range
  intro a b hab x hx y hy
  obtain ⟨_, _, rfl⟩ := Option.map_eq_some_iff.mp hx
  obtain ⟨_, _, rfl⟩ := Option.map_eq_some_iff.mp hy
  exact hab

theorem live_length {M : Nat} {hs : List Int} {ow : Array (Option Nat)} {n : Nat} (L : Lay M hs ow n) : (liveOf M ow).length = n := by
  have nd : ((liveOf M ow).map (·.2)).Nodup := by
    refine List.pairwise_map.mpr (List.Pairwise.imp_of_mem ?_ live_up)
    rintro ⟨a, x⟩ ⟨b, y⟩ ha hb hab (e : x = y)
    subst e
    have := L.one _ _ _ ((live_mem L.size).mp ha) ((live_mem L.size).mp hb)
    exact absurd this (Nat.ne_of_lt hab)
  refine Nat.le_antisymm ?_ ?_
  · have := Cu.card_le (l' := List.range n) nd fun x hx => by
      obtain ⟨⟨j, q⟩, hp, rfl⟩ := List.mem_map.mp hx
      exact List.mem_range.mpr (L.low j q ((live_mem L.size).mp hp))
    rw [List.length_map, List.length_range] at this
    exact this
  · have := Cu.card_le (l := List.range n) (l' := (liveOf M ow).map (·.2)) List.nodup_range fun q hq => by
      obtain ⟨j, e⟩ := L.has q (List.mem_range.mp hq)
      exact List.mem_map.mpr ⟨(j, q), (live_mem L.size).mpr e, rfl⟩
    rw [List.length_map, List.length_range] at this
    exact this

theorem filterMap_all {α β : Type} {f : α → Option β} {g : α → β} : ∀ {l : List α}, (∀ x ∈ l, f x = some (g x)) → l.filterMap f = l.map g
  | [], _ => rfl
  | x :: r, h => by rw [List.filterMap_cons_some (h x (.head _)), List.map_cons, filterMap_all fun y hy => h y (.tail _ hy)]

theorem laid_is {M : Nat} (g : Good M) {es : Array (Int × Value)} (hM : es.size ≤ M) (f m : Nat) (led pl : Bool) :
    ∃ t' order, laid M f m led pl (es.map (·.1)) = some (t', order) ∧ (order.filterMap (es[·]?)).size = es.size ∧ Tab t' (order.filterMap (es[·]?)) ∧ (∀ e, e ∈ (order.filterMap (es[·]?)).toList ↔ e ∈ es.toList) ∧ t'.mask = M := by
  obtain ⟨ow, e, L⟩ := layClean_is g (hs := es.map (·.1)) (by rw [Array.size_map]; exact hM)
  rw [Array.size_map] at L
  have hlow : ∀ p ∈ liveOf M ow, p.2 < es.size := fun p hp => L.low p.1 p.2 ((live_mem L.size).mp hp)
  have hes : (((liveOf M ow).map (·.2)).toArray.filterMap (es[·]?)).toList = (liveOf M ow).map fun p => es.getD p.2 (0, .none) := by
    rw [Array.toList_filterMap, List.filterMap_map]
    refine filterMap_all fun p hp => ?_
    show es[p.2]? = some (es.getD p.2 (0, .none))
    rw [Array.getD_eq_getD_getElem?, Array.getElem?_eq_getElem (hlow p hp)]; rfl
  have hsz : (((liveOf M ow).map (·.2)).toArray.filterMap (es[·]?)).size = es.size := by
    rw [← Array.length_toList, hes, List.length_map, live_length L]
  have hpl : ∀ i j : Nat, ((liveOf M ow).map (·.1)).toArray[i]? = some j → ∃ q, (liveOf M ow)[i]? = some (j, q) := fun i j h => by
    rw [List.getElem?_toArray, List.getElem?_map] at h
    obtain ⟨⟨j', q⟩, h1, h2⟩ := Option.map_eq_some_iff.mp h
    cases (show j' = j from h2)
    exact ⟨q, h1⟩
  refine ⟨⟨M, ((liveOf M ow).map (·.1)).toArray, #[], f, led, m, pl⟩, ((liveOf M ow).map (·.2)).toArray, ?_, hsz, ⟨rfl, g, ?_, ?_, ?_, ?_, ?_⟩, fun x => ?_, rfl⟩
  · show (layClean M (es.map (·.1))).bind _ = _
    rw [e]; rfl
  · rw [hsz]
    show ((liveOf M ow).map (·.1)).toArray.size = _
    rw [List.size_toArray, List.length_map, live_length L]
  · rw [hsz]; exact hM
  · intro a b x y hab ha hb
    obtain ⟨q, h1⟩ := hpl a x ha
    obtain ⟨q', h2⟩ := hpl b y hb
    obtain ⟨h1', h1⟩ := List.getElem?_eq_some_iff.mp h1
    obtain ⟨h2', h2⟩ := List.getElem?_eq_some_iff.mp h2
    have := List.pairwise_iff_getElem.mp (live_up (M := M) (ow := ow)) a b h1' h2' hab
    rw [h1, h2] at this
    exact this
  · intro j hj
    obtain ⟨⟨j', q⟩, hp, rfl⟩ := List.mem_map.mp hj
    have := (Array.getElem?_eq_some_iff.mp ((live_mem L.size).mp hp)).1
    rw [L.size] at this
    exact Nat.le_of_lt_succ this
  · intro i j x h1 h2
    obtain ⟨q, h1⟩ := hpl i j h1
    have hm := (live_mem L.size).mp (List.mem_of_getElem? h1)
    rw [← Array.getElem?_toList, hes, List.getElem?_map, h1] at h2
    have hx : es.getD q (0, .none) = x := Option.some.inj h2
    have hq := hlow _ (List.mem_of_getElem? h1)
    obtain ⟨n, e1, e2⟩ := L.reach j q x.1 hm (by
      rw [Array.getElem?_toList, Array.getElem?_map, Array.getElem?_eq_getElem hq]
      rw [Array.getD_eq_getD_getElem?, Array.getElem?_eq_getElem hq] at hx
      rw [← hx]; rfl)
    refine ⟨n, e1, fun k hk => ?_⟩
    obtain ⟨p, hp⟩ := e2 k hk
    exact List.mem_map.mpr ⟨(_, p), (live_mem L.size).mpr hp, rfl⟩
  · rw [hes, List.mem_map]
    constructor
    · rintro ⟨p, hp, rfl⟩
      rw [Array.getD_eq_getD_getElem?, Array.getElem?_eq_getElem (hlow p hp)]
      exact Array.mem_toList_iff.mpr (Array.getElem_mem (hlow p hp))
    · intro hx
      obtain ⟨q, hq, ex⟩ := Array.mem_iff_getElem.mp (Array.mem_toList_iff.mp hx)
      obtain ⟨j, hj⟩ := L.has q hq
      refine ⟨(j, q), (live_mem L.size).mpr hj, ?_⟩
      show es.getD q (0, .none) = x
      rw [Array.getD_eq_getD_getElem?, Array.getElem?_eq_getElem hq, ex]; rfl
end Mine

namespace Mine
open PySem PySem.Spec PyProof.Rows

abbrev Sg := List (Addr × Nat)

structure Bs where
  h₀ : Heap

abbrev ObjAt (h : Heap) (a : Addr) (cls : Value) (d : Data) : Prop := h.get? a = some { cls := cls, data := d }

mutual
noncomputable def RV (B : Bs) (h : Heap) (σ : Sg) : AV → Value → Prop
  | .none, v => v = .none
  | .bool b, v => v = .bool b
  | .int i, v => ∃ t, v = .int i t
  | .str s, v => ∃ t, v = .str ⟨s.toArray⟩ t
  | .tup xs, v => ∃ a ws n, v = .ref a ∧ ObjAt h a (.type "tuple") (.seq ws n) ∧ RVs B h σ xs ws.toList
  | .loc n, v => ∃ a off, v = .ref a ∧ σ[n]? = some (a, off)
  | .rng a b s, v => ∃ r t u x, v = .ref r ∧ IsRange h r a b s t u x
  | .scr xs, v => ∃ a items, v = .ref a ∧ B.h₀.IsList a items ∧ RIs xs items.toList
noncomputable def RVs (B : Bs) (h : Heap) (σ : Sg) : List AV → List Value → Prop
  | [], [] => True
  | x :: xs, w :: ws => RV B h σ x w ∧ RVs B h σ xs ws
  | _, _ => False
noncomputable def RIs : List Int → List Value → Prop
  | [], [] => True
  | x :: xs, w :: ws => (∃ t, w = .int x t) ∧ RIs xs ws
  | _, _ => False
end

/-- objects that nothing turns -/
noncomputable def fixed (o : Obj) : Prop := match o.data with
  | .seq _ _ => o.cls = .type "tuple"
  | .fields _ => o.cls = .type "range"
  | _ => False

noncomputable def Near (o : Obj) (r : Option Obj) : Prop := r = some o ∨ (o.cls = .type "frame" ∧ ∃ sl, r = some { o with slots := sl })

structure Grows (σ σ' : Sg) (X : List Addr) (h h' : Heap) : Prop where
  ext : ∃ τ, σ' = σ ++ τ ∧ ∀ p ∈ τ, h.get? p.1 = none
  fix : ∀ b o, h.get? b = some o → fixed o → h'.get? b = some o
  oth : ∀ b o, h.get? b = some o → b ∉ σ.map (·.1) → b ∉ X → Near o (h'.get? b)
  ex : ∀ b o, h.get? b = some o → ∃ o', h'.get? b = some o'

theorem Near.refl {o : Obj} : Near o (some o) := .inl rfl
theorem Near.trans {o o' : Obj} {r r' : Option Obj} (h1 : Near o r) (e : r = some o') (h2 : Near o' r') : Near o r' := by
  subst e
  rcases h1 with h1 | ⟨hc, sl, h1⟩
  · cases h1; exact h2
  · cases h1
    rcases h2 with h2 | ⟨_, sl', h2⟩
    · exact .inr ⟨hc, sl, h2⟩
    · exact .inr ⟨hc, sl', h2⟩
theorem Near.get {o : Obj} {r : Option Obj} (h : Near o r) : ∃ o', r = some o' ∧ o'.cls = o.cls ∧ o'.data = o.data ∧ o'.dict = o.dict := by
  rcases h with h | ⟨_, sl, h⟩
  · exact ⟨o, h, rfl, rfl, rfl⟩
  · exact ⟨_, h, rfl, rfl, rfl⟩

theorem Grows.refl (σ : Sg) (X : List Addr) (h : Heap) : Grows σ σ X h h :=
  ⟨⟨[], by simp, fun _ hp => nomatch hp⟩, fun _ _ e _ => e, fun b o e _ _ => by rw [e]; exact .refl, fun b o e => ⟨o, e⟩⟩

theorem Grows.trans {σ₁ σ₂ σ₃ : Sg} {X : List Addr} {h₁ h₂ h₃ : Heap} (x : Grows σ₁ σ₂ X h₁ h₂) (y : Grows σ₂ σ₃ X h₂ h₃) : Grows σ₁ σ₃ X h₁ h₃ := by
  obtain ⟨τ, rfl, hτ⟩ := x.ext
  obtain ⟨τ', rfl, hτ'⟩ := y.ext
  refine ⟨⟨τ ++ τ', by simp, fun p hp => ?_⟩, fun b o e f => y.fix b o (x.fix b o e f) f, fun b o e h1 h2 => ?_, fun b o e => let ⟨o', e'⟩ := x.ex b o e; y.ex b o' e'⟩
  · rcases List.mem_append.mp hp with hp | hp
    · exact hτ p hp
    · cases hq : h₁.get? p.1 with
      | none => rfl
      | some o =>
        obtain ⟨o', e'⟩ := x.ex _ o hq
        rw [hτ' p hp] at e'; cases e'
  · have n := x.oth b o e h1 h2
    obtain ⟨o', e', _⟩ := n.get
    refine n.trans e' (y.oth b o' e' ?_ h2)
    rw [List.map_append, List.mem_append]
    rintro (hb | hb)
    · exact h1 hb
    · obtain ⟨p, hp, rfl⟩ := List.mem_map.mp hb
      rw [hτ p hp] at e; cases e

/-- what is let turn may be new, or be let turn anyway -/
theorem Grows.drop {σ σ' : Sg} {X Y : List Addr} {h h' : Heap} (x : Grows σ σ' X h h') (hs : ∀ a ∈ X, a ∈ Y ∨ h.get? a = none) : Grows σ σ' Y h h' :=
  ⟨x.ext, x.fix, fun b o e h1 h2 => x.oth b o e h1 fun hb => (hs b hb).elim h2 (fun q => by rw [q] at e; cases e), x.ex⟩
theorem Grows.more {σ σ' : Sg} {X Y : List Addr} {h h' : Heap} (x : Grows σ σ' X h h') (hs : ∀ a ∈ X, a ∈ Y) : Grows σ σ' Y h h' :=
  ⟨x.ext, x.fix, fun b o e h1 h2 => x.oth b o e h1 fun hb => h2 (hs b hb), x.ex⟩

theorem Grows.look {σ σ' : Sg} {X : List Addr} {h h' : Heap} (x : Grows σ σ' X h h') {n : Nat} {p : Addr × Nat} (e : σ[n]? = some p) : σ'[n]? = some p := by
  obtain ⟨τ, rfl, _⟩ := x.ext
  rw [List.getElem?_append_left (List.getElem?_eq_some_iff.mp e).1]; exact e

theorem objAt_fix {σ σ' : Sg} {X : List Addr} {h h' : Heap} (x : Grows σ σ' X h h') {a : Addr} {c : Value} {d : Data} (o : ObjAt h a c d) (f : ∀ o : Obj, o.cls = c → o.data = d → fixed o) : ObjAt h' a c d :=
  x.fix a _ o (f _ rfl rfl)

theorem fixed_tuple {o : Obj} {ws : Array Value} {n : Nat} (hc : o.cls = .type "tuple") (hd : o.data = .seq ws n) : fixed o := by
  unfold fixed; rw [hd]; exact hc
theorem fixed_fields {o : Obj} {ws : Array Value} (hd : o.data = .fields ws) (hc : o.cls = .type "range") : fixed o := by
  unfold fixed; rw [hd]; exact hc

abbrev Fixes (h h' : Heap) : Prop := ∀ b o, h.get? b = some o → fixed o → h'.get? b = some o
abbrev Looks' (σ σ' : Sg) : Prop := ∀ (n : Nat) p, σ[n]? = some p → σ'[n]? = some p
mutual
theorem RV.mono {B : Bs} {σ σ' : Sg} {h h' : Heap} (g : Fixes h h') (k : Looks' σ σ') : ∀ (x : AV) (v : Value), RV B h σ x v → RV B h' σ' x v
  | .none, v, r => r
  | .bool b, v, r => r
  | .int i, v, r => r
  | .str s, v, r => r
  | .tup xs, v, ⟨a, ws, n, e, o, rs⟩ => ⟨a, ws, n, e, g a _ o (fixed_tuple rfl rfl), RVs.mono g k xs ws.toList rs⟩
  | .loc n, v, ⟨a, off, e, l⟩ => ⟨a, off, e, k n _ l⟩
  | .rng a b s, v, ⟨r, t, u, x, e, ho⟩ => ⟨r, t, u, x, e, g r _ ho (fixed_fields rfl rfl)⟩
  | .scr xs, v, r => r
theorem RVs.mono {B : Bs} {σ σ' : Sg} {h h' : Heap} (g : Fixes h h') (k : Looks' σ σ') : ∀ (xs : List AV) (vs : List Value), RVs B h σ xs vs → RVs B h' σ' xs vs
  | [], [], r => r
  | x :: xs, w :: ws, r => ⟨RV.mono g k x w r.1, RVs.mono g k xs ws r.2⟩
  | [], _ :: _, r => r.elim
  | _ :: _, [], r => r.elim
end
theorem RV.grows {B : Bs} {σ σ' : Sg} {X : List Addr} {h h' : Heap} (g : Grows σ σ' X h h') (x : AV) (v : Value) (r : RV B h σ x v) : RV B h' σ' x v := RV.mono g.fix (fun _ _ => g.look) x v r
theorem RVs.grows {B : Bs} {σ σ' : Sg} {X : List Addr} {h h' : Heap} (g : Grows σ σ' X h h') (x : List AV) (v : List Value) (r : RVs B h σ x v) : RVs B h' σ' x v := RVs.mono g.fix (fun _ _ => g.look) x v r
theorem RV.fixes {B : Bs} {σ : Sg} {h h' : Heap} (g : Fixes h h') (x : AV) (v : Value) (r : RV B h σ x v) : RV B h' σ x v := RV.mono g (fun _ _ e => e) x v r
theorem RVs.fixes {B : Bs} {σ : Sg} {h h' : Heap} (g : Fixes h h') (x : List AV) (v : List Value) (r : RVs B h σ x v) : RVs B h' σ x v := RVs.mono g (fun _ _ e => e) x v r

theorem RVs.length {B : Bs} {h : Heap} {σ : Sg} : ∀ {xs : List AV} {vs : List Value}, RVs B h σ xs vs → xs.length = vs.length
  | [], [], _ => rfl
  | _ :: _, _ :: _, r => by simp [RVs.length r.2]
  | [], _ :: _, r => r.elim
  | _ :: _, [], r => r.elim
theorem RVs.nil {B : Bs} {h : Heap} {σ : Sg} {vs : List Value} (r : RVs B h σ [] vs) : vs = [] := by
  cases vs with
  | nil => rfl
  | cons w ws => exact r.elim
theorem RVs.cons {B : Bs} {h : Heap} {σ : Sg} {x : AV} {xs : List AV} {vs : List Value} (r : RVs B h σ (x :: xs) vs) : ∃ w ws, vs = w :: ws ∧ RV B h σ x w ∧ RVs B h σ xs ws := by
  cases vs with
  | nil => exact r.elim
  | cons w ws => exact ⟨w, ws, rfl, r⟩
theorem RVs.one {B : Bs} {h : Heap} {σ : Sg} {x : AV} {vs : List Value} (r : RVs B h σ [x] vs) : ∃ w, vs = [w] ∧ RV B h σ x w := by
  obtain ⟨w, ws, rfl, r1, r2⟩ := r.cons
  cases r2.nil
  exact ⟨w, rfl, r1⟩
theorem RVs.size {B : Bs} {h : Heap} {σ : Sg} {xs : List AV} {ws : Array Value} (r : RVs B h σ xs ws.toList) : xs.length = ws.size := r.length.trans Array.length_toList
theorem RVs.get {B : Bs} {h : Heap} {σ : Sg} : ∀ {xs : List AV} {vs : List Value}, RVs B h σ xs vs → ∀ {i : Nat} {x : AV}, xs[i]? = some x → ∃ v, vs[i]? = some v ∧ RV B h σ x v
  | [], [], _, i, x, e => by simp at e
  | x :: xs, w :: ws, r, 0, y, e => by
    simp at e; subst e; exact ⟨w, by simp, r.1⟩
  | x :: xs, w :: ws, r, i + 1, y, e => by
    simp at e
    obtain ⟨v, h1, h2⟩ := RVs.get r.2 e
    exact ⟨v, by simpa using h1, h2⟩
  | [], _ :: _, r, _, _, _ => r.elim
  | _ :: _, [], r, _, _, _ => r.elim
theorem RVs.append {B : Bs} {h : Heap} {σ : Sg} : ∀ {xs : List AV} {vs : List Value} {ys : List AV} {ws : List Value}, RVs B h σ xs vs → RVs B h σ ys ws → RVs B h σ (xs ++ ys) (vs ++ ws)
  | [], [], _, _, _, r => r
  | _ :: _, _ :: _, _, _, q, r => ⟨q.1, RVs.append q.2 r⟩
  | [], _ :: _, _, _, q, _ => q.elim
  | _ :: _, [], _, _, q, _ => q.elim
theorem RVs.set {B : Bs} {h : Heap} {σ : Sg} {x : AV} {v : Value} (q : RV B h σ x v) : ∀ {xs : List AV} {vs : List Value}, RVs B h σ xs vs → ∀ i, RVs B h σ (xs.set i x) (vs.set i v)
  | [], [], r, _ => r
  | _ :: _, _ :: _, r, 0 => ⟨q, r.2⟩
  | _ :: _, _ :: _, r, i + 1 => ⟨r.1, RVs.set q r.2 i⟩
  | [], _ :: _, q, _ => q.elim
  | _ :: _, [], q, _ => q.elim

/-- the hash of a key -/
noncomputable def keyHash : Key → Int
  | .int i => hashInt i
  | .pair a b => reduceHash (Builtin.Tuple.tupleHashOf [hashInt a, hashInt b])

noncomputable def REs (w : World) (B : Bs) (h : Heap) (σ : Sg) : List (Key × AV) → List DictEntry → Prop
  | [], [] => True
  | p :: ps, e :: es => (e.hash = keyHash p.1 ∧ RV B h σ p.1.av e.key ∧ RV B h σ p.2 e.val) ∧ REs w B h σ ps es
  | _, _ => False

noncomputable def RO (w : World) (B : Bs) (h : Heap) (σ : Sg) (a : Addr) (off : Nat) : AObj → Prop
  | .list xs => ∃ ws n, ObjAt h a (.type "list") (.seq ws n) ∧ RVs B h σ xs ws.toList ∧ xs.length ≤ sizeLine
  | .dict kvs ep => ∃ es, ObjAt h a (.type "dict") (.dict es (off + ep)) ∧ REs w B h σ kvs es.toList ∧ (kvs.map (·.1)).Nodup ∧ (∀ p ∈ kvs, ∀ q ∈ kvs, p.1.sort = q.1.sort) ∧ kvs.length ≤ sizeLine

structure St (w : World) (B : Bs) (σ : Sg) (hp : AHeap) (h : Heap) : Prop where
  len : σ.length = hp.length
  nd : (σ.map (·.1)).Nodup
  obj : ∀ (n : Nat) a off o, σ[n]? = some (a, off) → hp[n]? = some o → RO w B h σ a off o
  base : B.h₀.StaysIn h
  new : ∀ p ∈ σ, B.h₀.get? p.1 = none

theorem REs.mono {w : World} {B : Bs} {σ σ' : Sg} {h h' : Heap} (g : Fixes h h') (k : Looks' σ σ') : ∀ {ps : List (Key × AV)} {es : List DictEntry}, REs w B h σ ps es → REs w B h' σ' ps es
  | [], [], r => r
  | _ :: _, _ :: _, r => ⟨⟨r.1.1, RV.mono g k _ _ r.1.2.1, RV.mono g k _ _ r.1.2.2⟩, REs.mono g k r.2⟩
  | [], _ :: _, r => r.elim
  | _ :: _, [], r => r.elim
theorem REs.grows {w : World} {B : Bs} {σ σ' : Sg} {X : List Addr} {h h' : Heap} (g : Grows σ σ' X h h') {ps : List (Key × AV)} {es : List DictEntry} (r : REs w B h σ ps es) : REs w B h' σ' ps es := r.mono g.fix (fun _ _ => g.look)
theorem REs.length {w : World} {B : Bs} {h : Heap} {σ : Sg} : ∀ {ps : List (Key × AV)} {es : List DictEntry}, REs w B h σ ps es → ps.length = es.length
  | [], [], _ => rfl
  | _ :: _, _ :: _, r => by simp [REs.length r.2]
  | [], _ :: _, r => r.elim
  | _ :: _, [], r => r.elim
theorem REs.append {w : World} {B : Bs} {h : Heap} {σ : Sg} : ∀ {ps : List (Key × AV)} {es : List DictEntry} {qs : List (Key × AV)} {fs : List DictEntry}, REs w B h σ ps es → REs w B h σ qs fs → REs w B h σ (ps ++ qs) (es ++ fs)
  | [], [], _, _, _, r => r
  | _ :: _, _ :: _, _, _, q, r => ⟨q.1, REs.append q.2 r⟩
  | [], _ :: _, _, _, q, _ => q.elim
  | _ :: _, [], _, _, q, _ => q.elim
theorem REs.get {w : World} {B : Bs} {h : Heap} {σ : Sg} : ∀ {ps : List (Key × AV)} {es : List DictEntry}, REs w B h σ ps es → ∀ {i : Nat} {p : Key × AV}, ps[i]? = some p →
    ∃ e, es[i]? = some e ∧ e.hash = keyHash p.1 ∧ RV B h σ p.1.av e.key ∧ RV B h σ p.2 e.val
  | [], [], _, i, x, e => by simp at e
  | x :: xs, w :: ws, r, 0, y, e => by
    simp at e; subst e; exact ⟨w, by simp, r.1⟩
  | x :: xs, w :: ws, r, i + 1, y, e => by
    simp at e
    obtain ⟨v, h1, h2⟩ := REs.get r.2 e
    exact ⟨v, by simpa using h1, h2⟩
  | [], _ :: _, r, _, _, _ => r.elim
  | _ :: _, [], r, _, _, _ => r.elim


theorem RO.mono {w : World} {B : Bs} {σ σ' : Sg} {h h' : Heap} {a : Addr} {off : Nat} (g : Fixes h h') (k : Looks' σ σ') (e : h'.get? a = h.get? a) : ∀ {o : AObj}, RO w B h σ a off o → RO w B h' σ' a off o
  | .list xs, ⟨ws, n, o, r, q⟩ => ⟨ws, n, (e.trans o), RVs.mono g k _ _ r, q⟩
  | .dict kvs ep, ⟨es, o, r, q⟩ => ⟨es, (e.trans o), r.mono g k, q⟩
theorem RO.keep {w : World} {B : Bs} {σ σ' : Sg} {X : List Addr} {h h' : Heap} {a : Addr} {off : Nat} (g : Grows σ σ' X h h') (e : h'.get? a = h.get? a) {o : AObj} (r : RO w B h σ a off o) : RO w B h' σ' a off o := r.mono g.fix (fun _ _ => g.look) e
theorem RO.fixes {w : World} {B : Bs} {σ : Sg} {h h' : Heap} {a : Addr} {off : Nat} (g : Fixes h h') (e : h'.get? a = h.get? a) {o : AObj} (r : RO w B h σ a off o) : RO w B h' σ a off o := r.mono g (fun _ _ e => e) e

theorem RO.there {w : World} {B : Bs} {σ : Sg} {h : Heap} {a : Addr} {off : Nat} : ∀ {o : AObj}, RO w B h σ a off o → ∃ ob, h.get? a = some ob ∧ ¬ fixed ob
  | .list xs, ⟨ws, n, ho, r⟩ => ⟨_, ho, fun f => absurd (Value.type.inj f) (by decide)⟩
  | .dict kvs ep, ⟨es, ho, r⟩ => ⟨_, ho, fun f => f⟩

theorem St.there {w : World} {B : Bs} {σ : Sg} {hp : AHeap} {h : Heap} (S : St w B σ hp h) {p : Addr × Nat} (hm : p ∈ σ) : ∃ ob, h.get? p.1 = some ob ∧ ¬ fixed ob := by
  obtain ⟨n, hn, e⟩ := List.mem_iff_getElem.mp hm
  have e' : σ[n]? = some (p.1, p.2) := by rw [List.getElem?_eq_getElem hn, e]
  have hl : n < hp.length := S.len ▸ hn
  exact (S.obj n p.1 p.2 hp[n] e' (List.getElem?_eq_getElem hl)).there

theorem Grows.sameBut {σ : Sg} {X : List Addr} {h h' : Heap} {b : Addr} {ob : Obj} (hs : Heap.SameBut b h h') (hf : ∀ o, h.get? b = some o → ¬ fixed o) (hm : b ∈ σ.map (·.1) ∨ b ∈ X) (hself : h'.get? b = some ob) : Grows σ σ X h h' := by
  refine ⟨⟨[], by simp, fun _ hp => nomatch hp⟩, fun c o e f => ?_, fun c o e h1 h2 => ?_, fun c o e => ?_⟩
  · have : c ≠ b := fun q => hf o (q ▸ e) f
    exact (hs.2 c this).trans e
  · have : c ≠ b := fun q => by subst q; exact hm.elim h1 h2
    rw [hs.2 c this, e]; exact .refl
  · by_cases q : c = b
    · subst q; exact ⟨_, (hself : _)⟩
    · exact ⟨o, (hs.2 c q).trans e⟩
theorem Grows.push {σ : Sg} {X : List Addr} {h : Heap} (o : Obj) : Grows σ σ X h (h.push o) :=
  ⟨⟨[], by simp, fun _ hp => nomatch hp⟩, fun c o' e _ => Heap.get?_push_of_some o e, fun c o' e _ _ => by rw [Heap.get?_push_of_some o e]; exact .refl, fun c o' e => ⟨o', Heap.get?_push_of_some o e⟩⟩
theorem grows_keep {σ : Sg} {X : List Addr} {h h' : Heap} (hk : ∀ b o, h.get? b = some o → h'.get? b = some o) : Grows σ σ X h h' :=
  ⟨⟨[], by simp, fun _ hp => nomatch hp⟩, fun c o e _ => hk c o e, fun c o e _ _ => by rw [hk c o e]; exact .refl, fun c o e => ⟨o, hk c o e⟩⟩
theorem push_size (h : Heap) (o : Obj) : (h.push o).objs.size = h.objs.size + 1 := by cases h; simp [Heap.push]

theorem St.step {w : World} {B : Bs} {σ : Sg} {X : List Addr} {hp : AHeap} {h h' : Heap} (S : St w B σ hp h) (g : Grows σ σ X h h') (same : ∀ p ∈ σ, h'.get? p.1 = h.get? p.1) (hb : B.h₀.StaysIn h') : St w B σ hp h' :=
  ⟨S.len, S.nd, fun n a off o e e' => (S.obj n a off o e e').keep g (same (a, off) (List.mem_of_getElem? e)), hb, S.new⟩

theorem St.keep {w : World} {B : Bs} {σ : Sg} {hp : AHeap} {h h' : Heap} (S : St w B σ hp h) (hk : ∀ b o, h.get? b = some o → h'.get? b = some o) : St w B σ hp h' :=
  S.step (X := []) (grows_keep hk) (fun p hp => by obtain ⟨ob, e, _⟩ := S.there hp; rw [hk _ _ e, e]) fun b o e => hk b o (S.base b o e)
theorem St.push {w : World} {B : Bs} {σ : Sg} {hp : AHeap} {h : Heap} (S : St w B σ hp h) (o : Obj) : St w B σ hp (h.push o) :=
  S.step (X := []) (.push o) (fun p hp => by obtain ⟨ob, e, _⟩ := S.there hp; rw [Heap.get?_push_of_some o e, e]) fun b o' e => Heap.get?_push_of_some o (S.base b o' e)

/-- an object that is not followed turns -/
theorem St.sameBut {w : World} {B : Bs} {σ : Sg} {X : List Addr} {hp : AHeap} {h h' : Heap} {b : Addr} (S : St w B σ hp h) (hs : Heap.SameBut b h h') (hf : ∀ o, h.get? b = some o → ¬ fixed o) (hm : b ∉ σ.map (·.1)) (hb : B.h₀.get? b = none) (hX : b ∈ X) {ob : Obj} (hself : h'.get? b = some ob) : St w B σ hp h' ∧ Grows σ σ X h h' := by
  have g : Grows σ σ X h h' := .sameBut hs hf (.inr hX) hself
  refine ⟨S.step g (fun p hp => hs.2 p.1 fun q => hm (q ▸ List.mem_map_of_mem hp)) fun c o e => ?_, g⟩
  have : c ≠ b := fun q => by subst q; rw [hb] at e; cases e
  exact (hs.2 c this).trans (S.base c o e)

theorem St.fresh {w : World} {B : Bs} {σ : Sg} {hp : AHeap} {h : Heap} (S : St w B σ hp h) : h.objs.size ∉ σ.map (·.1) := fun hm => by
  obtain ⟨p, hp, e⟩ := List.mem_map.mp hm
  obtain ⟨ob, e', _⟩ := S.there hp
  have h1 : p.1 < h.objs.size := Heap.lt_size e'
  exact absurd e (Nat.ne_of_lt h1)

/-- an object that is there is followed from here on -/
theorem St.adopt {w : World} {B : Bs} {σ : Sg} {hp : AHeap} {h : Heap} (S : St w B σ hp h) {a : Addr} (hn : a ∉ σ.map (·.1)) (hb : B.h₀.get? a = none) {off : Nat} {ao : AObj}
    (hr : Looks' σ (σ ++ [(a, off)]) → RO w B h (σ ++ [(a, off)]) a off ao) : St w B (σ ++ [(a, off)]) (hp ++ [ao]) h := by
  have k : Looks' σ (σ ++ [(a, off)]) := fun n p e => by
    rw [List.getElem?_append_left (List.getElem?_eq_some_iff.mp e).1]; exact e
  refine ⟨by rw [List.length_append, List.length_append, S.len]; rfl, ?_, fun n b off' o' e e' => ?_, S.base, fun p hp => ?_⟩
  · rw [List.map_append, List.nodup_append]
    refine ⟨S.nd, List.pairwise_singleton _ _, fun x hx y hy e => ?_⟩
    cases List.mem_singleton.mp hy
    exact hn ((show x = a from e) ▸ hx)
  · rcases Nat.lt_trichotomy n σ.length with hl | hl | hl
    · rw [List.getElem?_append_left hl] at e
      rw [List.getElem?_append_left (S.len ▸ hl)] at e'
      exact (S.obj n b off' o' e e').mono (fun _ _ x _ => x) k rfl
    · have e1 : (σ ++ [(a, off)])[n]? = some (a, off) := by rw [hl]; exact List.getElem?_concat_length
      have e2 : (hp ++ [ao])[n]? = some ao := by rw [hl, S.len]; exact List.getElem?_concat_length
      rw [e1] at e; rw [e2] at e'
      cases e; cases e'
      exact hr k
    · exact absurd (List.getElem?_eq_some_iff.mp e).1 (by rw [List.length_append, List.length_singleton]; omega)
  · rcases List.mem_append.mp hp with hp | hp
    · exact S.new p hp
    · cases List.mem_singleton.mp hp; exact hb
theorem Grows.adopt {σ σ' : Sg} {X : List Addr} {h h' : Heap} (g : Grows σ σ' X h h') {a : Addr} (ha : h.get? a = none) {off : Nat} : Grows σ (σ' ++ [(a, off)]) X h h' := by
  obtain ⟨τ, rfl, hτ⟩ := g.ext
  refine ⟨⟨τ ++ [(a, off)], (List.append_assoc ..), fun p hp => ?_⟩, g.fix, g.oth, g.ex⟩
  rcases List.mem_append.mp hp with hp | hp
  · exact hτ p hp
  · cases List.mem_singleton.mp hp; exact ha
theorem free_size (h : Heap) : h.get? h.objs.size = none := by
  cases hq : h.get? h.objs.size with
  | none => rfl
  | some o' => exact absurd (Heap.lt_size hq) (Nat.lt_irrefl _)
/-- a followed object is made -/
theorem St.alloc {w : World} {B : Bs} {σ : Sg} {X : List Addr} {hp : AHeap} {h : Heap} (S : St w B σ hp h) (o : Obj) (off : Nat) (ao : AObj)
    (hr : Grows σ (σ ++ [(h.objs.size, off)]) X h (h.push o) → RO w B (h.push o) (σ ++ [(h.objs.size, off)]) h.objs.size off ao) :
    St w B (σ ++ [(h.objs.size, off)]) (hp ++ [ao]) (h.push o) ∧ Grows σ (σ ++ [(h.objs.size, off)]) X h (h.push o) :=
  have g := (Grows.push (σ := σ) (X := X) o).adopt (free_size h) (off := off)
  ⟨(S.push o).adopt S.fresh S.base.fresh fun _ => hr g, g⟩

/-- a followed object turns -/
theorem St.upd {w : World} {B : Bs} {σ : Sg} {X : List Addr} {hp : AHeap} {h h' : Heap} {n : Nat} {a : Addr} {off : Nat} (S : St w B σ hp h) (hn : σ[n]? = some (a, off)) (hs : Heap.SameBut a h h') (ao : AObj)
    {ob' : Obj} (hself : h'.get? a = some ob') (hr : Grows σ σ X h h' → RO w B h' σ a off ao) : St w B σ (hp.set n ao) h' ∧ Grows σ σ X h h' := by
  have hmem := List.mem_of_getElem? hn
  obtain ⟨ob, e₁, hf⟩ := S.there hmem
  have g : Grows σ σ X h h' := .sameBut hs (fun o e => by rw [e₁] at e; cases e; exact hf) (.inl (List.mem_map_of_mem (f := (·.1)) hmem)) hself
  refine ⟨⟨by simp [S.len], S.nd, fun k b off' o' e e' => ?_, fun c o e => ?_, S.new⟩, g⟩
  · by_cases hk : k = n
    · subst hk
      rw [hn] at e; cases e
      have hl : k < hp.length := S.len ▸ (List.getElem?_eq_some_iff.mp hn).1
      rw [List.getElem?_set_self hl] at e'
      cases e'
      exact hr g
    · rw [List.getElem?_set_ne (Ne.symm hk)] at e'
      have hne : b ≠ a := fun q => by
        have h1 : (σ.map (·.1))[k]? = some b := by rw [List.getElem?_map, e]; rfl
        have h2 : (σ.map (·.1))[n]? = some a := by rw [List.getElem?_map, hn]; rfl
        exact hk ((List.getElem?_inj (List.getElem?_eq_some_iff.mp h1).1 S.nd).mp (by rw [h1, h2, q]))
      exact (S.obj k b off' o' e e').keep g (hs.2 b hne)
  · have : c ≠ a := fun q => by subst q; have := S.new _ hmem; rw [this] at e; cases e
    exact (hs.2 c this).trans (S.base c o e)

end Mine

namespace Mine
open PySem PySem.Spec PyProof.Rows

structure Par where
  prog : Program
  w : World
  B : Bs
  mg : Str → Option Value
  mb : Str → Option Value

structure After (P : Par) (σ σ' : Sg) (X : List Addr) (hp' : AHeap) (s s' : Shared) : Prop where
  ctl : s' = { s with heap := s'.heap, toks := s'.toks }
  st : St P.w P.B σ' hp' s'.heap
  gr : Grows σ σ' X s.heap s'.heap

theorem After.trans {P : Par} {σ₁ σ₂ σ₃ : Sg} {X : List Addr} {hp₂ hp₃ : AHeap} {s₁ s₂ s₃ : Shared} (x : After P σ₁ σ₂ X hp₂ s₁ s₂) (y : After P σ₂ σ₃ X hp₃ s₂ s₃) : After P σ₁ σ₃ X hp₃ s₁ s₃ :=
  ⟨by rw [y.ctl, x.ctl], y.st, x.gr.trans y.gr⟩
theorem After.more {P : Par} {σ σ' : Sg} {X Y : List Addr} {hp' : AHeap} {s s' : Shared} (x : After P σ σ' X hp' s s') (hs : ∀ a ∈ X, a ∈ Y) : After P σ σ' Y hp' s s' := ⟨x.ctl, x.st, x.gr.more hs⟩
theorem After.refl {P : Par} {σ : Sg} {X : List Addr} {hp : AHeap} {s : Shared} (S : St P.w P.B σ hp s.heap) : After P σ σ X hp s s := ⟨rfl, S, .refl ..⟩
theorem After.tok {P : Par} {σ : Sg} {X : List Addr} {hp : AHeap} {s : Shared} (S : St P.w P.B σ hp s.heap) (t : Nat) : After P σ σ X hp s { s with toks := t } := ⟨rfl, S, .refl ..⟩

abbrev NE : Value → Shared → Prop := fun _ _ => False
inductive QV (P : Par) (σ : Sg) (s : Shared) (r : Res AV) (v : Value) (s' : Shared) : Prop
  | mk (av : AV) (hp' : AHeap) (σ' : Sg) (e : r = .ok av hp') (a : After P σ σ' [] hp' s s') (rv : RV P.B s'.heap σ' av v)
inductive QVs (P : Par) (σ : Sg) (s : Shared) (r : Res (List AV)) (v : List Value) (s' : Shared) : Prop
  | mk (av : List AV) (hp' : AHeap) (σ' : Sg) (e : r = .ok av hp') (a : After P σ σ' [] hp' s s') (rv : RVs P.B s'.heap σ' av v)
theorem QV.lift {P : Par} {σ σ' : Sg} {hp' : AHeap} {s s' : Shared} {r : Res AV} {v : Value} {s'' : Shared} (a : After P σ σ' [] hp' s s') (q : QV P σ' s' r v s'') : QV P σ s r v s'' := by
  obtain ⟨av, hp, σ₂, e, b, rv⟩ := q
  exact ⟨av, hp, σ₂, e, a.trans b, rv⟩
theorem QVs.lift {P : Par} {σ σ' : Sg} {hp' : AHeap} {s s' : Shared} {r : Res (List AV)} {v : List Value} {s'' : Shared} (a : After P σ σ' [] hp' s s') (q : QVs P σ' s' r v s'') : QVs P σ s r v s'' := by
  obtain ⟨av, hp, σ₂, e, b, rv⟩ := q
  exact ⟨av, hp, σ₂, e, a.trans b, rv⟩
structure Frm (P : Par) (h : Heap) (σ : Sg) (env : Env) (cx : Cx) (l : Locs) : Prop where
  kind : env.scope.kind = .function
  len : l.length = cx.n
  inj : ∀ x y i, cx.slot x = some i → cx.slot y = some i → x = y
  lt : ∀ x i, cx.slot x = some i → i < cx.n
  glob : ∀ x, cx.isGlob x = true → env.kindOf x = some .globalImplicit
  wr : ∀ x i, cx.slotW x = some i → env.kindOf x ≠ some .free
  names : ∃ m, h.Ns env.locals m ∧ ∀ x i, cx.slot x = some i →
    (env.kindOf x = some .local ∧ ∀ av, l[i]? = some (some av) → ∃ v, m x = some v ∧ RV P.B h σ av v) ∨
    ((env.kindOf x = some .cell ∨ env.kindOf x = some .free) ∧ ∃ c ov, env.cells.lookup x = some c ∧ h.IsCell c ov ∧ ∀ av, l[i]? = some (some av) → ∃ v, ov = some v ∧ RV P.B h σ av v)
  out : env.locals ∉ σ.map (·.1) ∧ ∀ p ∈ env.cells, p.2 ∉ σ.map (·.1)
  new : P.B.h₀.get? env.locals = none ∧ ∀ p ∈ env.cells, P.B.h₀.get? p.2 = none
  globals : env.globals = mainGlobals
  builtins : env.builtins = builtinsNs
  cells : ∀ p ∈ env.cells, ∃ o v, h.get? p.2 = some o ∧ o.data = .cell v
  apart : ∀ p ∈ env.cells, ∀ q ∈ env.cells, p.2 = q.2 → p.1 = q.1
  kinds : ∀ x k, cx.sc.names.lookup x = some k → k = .local ∨ k = .cell → env.kindOf x = some k

structure ArndC (n : Nat) (A : Around) : Prop where
  frames : ∃ outer, A.frames = some outer
  depth : A.depth + n + 150 < recursionLimit
  units : A.units + 100 * n + 100 < cLine
  handled : A.handled = none
structure Arnd (n : Nat) (A : Around) : Prop extends ArndC n A where
  frame : ∃ f outer, A.frames = some (f :: outer) ∧ f.scope.isGenerator = false ∧ f.scope.isCoroutine = false ∧ f.builtins = builtinsNs ∧ f.globals = mainGlobals

structure Inv (P : Par) (cx : Cx) (n : Nat) (env : Env) (A : Around) (σ : Sg) (l : Locs) (hp : AHeap) (s : Shared) : Prop where
  st : St P.w P.B σ hp s.heap
  fr : Frm P s.heap σ env cx l
  ar : Arnd n A

theorem near_ns {h h' : Heap} {a : Addr} {m : Str → Option Value} (n : h.Ns a m) (hk : ∀ o, h.get? a = some o → Near o (h'.get? a)) : h'.Ns a m := by
  obtain ⟨o, es, ep, ho, hd, r⟩ := n
  obtain ⟨o', e, _, hd', _⟩ := (hk o ho).get
  exact ⟨o', es, ep, e, hd'.trans hd, r⟩
theorem near_cell {h h' : Heap} {a : Addr} {v : Option Value} (n : h.IsCell a v) (hk : ∀ o, h.get? a = some o → Near o (h'.get? a)) : h'.IsCell a v := by
  obtain ⟨o, ho, hd⟩ := n
  obtain ⟨o', e, _, hd', _⟩ := (hk o ho).get
  exact ⟨o', e, hd'.trans hd⟩

theorem not_mem_grown {σ σ' : Sg} {X : List Addr} {h h' : Heap} (g : Grows σ σ' X h h') {a : Addr} {o : Obj} (ho : h.get? a = some o) (hn : a ∉ σ.map (·.1)) : a ∉ σ'.map (·.1) := by
  obtain ⟨τ, rfl, hτ⟩ := g.ext
  rw [List.map_append, List.mem_append]
  rintro (hb | hb)
  · exact hn hb
  · obtain ⟨p, hp, rfl⟩ := List.mem_map.mp hb
    rw [hτ p hp] at ho; cases ho

theorem mem_of_lookup' {α : Type} : ∀ {l : List (Str × α)} {n : Str} {c : α}, l.lookup n = some c → (n, c) ∈ l := PySem.mem_of_lookup

theorem Frm.after {P : Par} {σ σ' : Sg} {hp' : AHeap} {s s' : Shared} {env : Env} {cx : Cx} {l : Locs} (f : Frm P s.heap σ env cx l) (a : After P σ σ' [] hp' s s') : Frm P s'.heap σ' env cx l := by
  obtain ⟨m, hn, hm⟩ := f.names
  have hL : ∀ o, s.heap.get? env.locals = some o → Near o (s'.heap.get? env.locals) := fun o ho => a.gr.oth _ o ho f.out.1 (by simp)
  have hC : ∀ p ∈ env.cells, ∀ o, s.heap.get? p.2 = some o → Near o (s'.heap.get? p.2) := fun p hp o ho => a.gr.oth _ o ho (f.out.2 p hp) (by simp)
  refine ⟨f.kind, f.len, f.inj, f.lt, f.glob, f.wr, ⟨m, near_ns hn hL, fun x i hx => ?_⟩, ⟨?_, fun p hp => ?_⟩, f.new, f.globals, f.builtins, fun p hp => ?_, f.apart, f.kinds⟩
  · rcases hm x i hx with ⟨hk, hv⟩ | ⟨hk, c, ov, hc, hi, hv⟩
    · exact .inl ⟨hk, fun av e => let ⟨v, h1, h2⟩ := hv av e; ⟨v, h1, RV.grows a.gr _ _ h2⟩⟩
    · exact .inr ⟨hk, c, ov, hc, near_cell hi (hC (x, c) (mem_of_lookup' hc)), fun av e => let ⟨v, h1, h2⟩ := hv av e; ⟨v, h1, RV.grows a.gr _ _ h2⟩⟩
  · obtain ⟨o, _, _, ho, _⟩ := hn
    exact not_mem_grown a.gr ho f.out.1
  · obtain ⟨o, v, ho, _⟩ := f.cells p hp
    exact not_mem_grown a.gr ho (f.out.2 p hp)
  · obtain ⟨o, v, ho, hd⟩ := f.cells p hp
    obtain ⟨o', e, _, hd', _⟩ := (hC p hp o ho).get
    exact ⟨o', v, e, hd'.trans hd⟩

theorem Inv.after {P : Par} {cx : Cx} {n : Nat} {env : Env} {A : Around} {σ σ' : Sg} {l : Locs} {hp hp' : AHeap} {s s' : Shared} (I : Inv P cx n env A σ l hp s) (a : After P σ σ' [] hp' s s') : Inv P cx n env A σ' l hp' s' :=
  ⟨a.st, I.fr.after a, I.ar⟩

noncomputable def bltPairs : List (Str × Value) := [("len", .builtin "len"), ("isinstance", .builtin "isinstance"), ("range", .type "range"), ("sorted", .builtin "sorted"), ("list", .type "list"), ("set", .type "set"), ("int", .type "int"), ("bool", .type "bool"), ("tuple", .type "tuple")]
theorem blt_len : (("len" : Str), Value.builtin "len") ∈ bltPairs := .head _
theorem blt_isi : (("isinstance" : Str), Value.builtin "isinstance") ∈ bltPairs := .tail _ (.head _)
theorem blt_range : (("range" : Str), Value.type "range") ∈ bltPairs := .tail _ (.tail _ (.head _))
theorem blt_sorted : (("sorted" : Str), Value.builtin "sorted") ∈ bltPairs := .tail _ (.tail _ (.tail _ (.head _)))
theorem blt_list : (("list" : Str), Value.type "list") ∈ bltPairs := .tail _ (.tail _ (.tail _ (.tail _ (.head _))))
theorem blt_set : (("set" : Str), Value.type "set") ∈ bltPairs := .tail _ (.tail _ (.tail _ (.tail _ (.tail _ (.head _)))))
theorem blt_int : (("int" : Str), Value.type "int") ∈ bltPairs := .tail _ (.tail _ (.tail _ (.tail _ (.tail _ (.tail _ (.head _))))))
theorem blt_bool : (("bool" : Str), Value.type "bool") ∈ bltPairs := .tail _ (.tail _ (.tail _ (.tail _ (.tail _ (.tail _ (.tail _ (.head _)))))))
theorem blt_tuple : (("tuple" : Str), Value.type "tuple") ∈ bltPairs := .tail _ (.tail _ (.tail _ (.tail _ (.tail _ (.tail _ (.tail _ (.tail _ (.head _))))))))
structure Par.Ok (P : Par) : Prop where
  blt : ∀ x v, (x, v) ∈ bltPairs → P.mg x = none ∧ P.mb x = some v
  g : P.B.h₀.Ns mainGlobals P.mg
  b : P.B.h₀.Ns builtinsNs P.mb
  nolimit : P.B.h₀.NoLimit
  seer : P.B.h₀.NoSeer
  tree : P.prog.given.tree = none
  mods : ∃ o, P.B.h₀.get? sysModules = some o

/-- the calls: what the abstract functions say is what the model's calls do -/
noncomputable def FSim (P : Par) (funs : List Str) (F : Str → List AV → AHeap → Res AV) (n : Nat) : Prop :=
  ∀ f, funs.contains f = true → ∃ a o fd, P.mg f = some (.ref a) ∧ P.B.h₀.get? a = some o ∧ o.data = .func fd ∧
    ∀ avs vs σ hp s A, St P.w P.B σ hp s.heap → RVs P.B s.heap σ avs vs → ArndC n A → F f avs hp ≠ .bad →
      wpAny (model P.prog P.w) A (call (.ref a) vs) (QV P σ s (F f avs hp)) NE s

structure Sims (P : Par) (cx : Cx) (c : Ctx) (n : Nat) : Prop where
  ok : P.Ok
  f : FSim P cx.funs c.F n

noncomputable def SimE (P : Par) (cx : Cx) (e : Expr) (x : X) : Prop :=
  ∀ c n env A σ l hp s, Sims P cx c n → Inv P cx n env A σ l hp s → evalX c x l hp ≠ .bad →
    wpAny (model P.prog P.w) A (eval e env) (QV P σ s (evalX c x l hp)) NE s
noncomputable def SimEs (P : Par) (cx : Cx) (es : List Expr) (xs : Xs) : Prop :=
  ∀ c n env A σ l hp s pos, Sims P cx c n → Inv P cx n env A σ l hp s → evalXs c xs l hp ≠ .bad →
    wpAny (model P.prog P.w) A (spliced (backTo pos (starEach es env))) (QVs P σ s (evalXs c xs l hp)) NE s

theorem bind_ok {α β : Type} {r : Res α} {f : α → AHeap → Res β} (h : r.bind f ≠ .bad) : r ≠ .bad := fun e => h (by rw [e]; rfl)

theorem slot_plain {cx : Cx} {x : Str} {i : Nat} (h : cx.slot x = some i) : (x == ("__debug__" : Str)) = false ∧ (x == ("__classdict__" : Str)) = false := by
  unfold Cx.slot at h
  split at h
  · split at h
    · rename_i hk
      simp only [plainName, Bool.and_eq_true, bne_iff_ne, ne_eq] at hk
      exact ⟨beq_eq_false_iff_ne.mpr hk.2.1, beq_eq_false_iff_ne.mpr hk.2.2⟩
    · cases h
  · cases h
theorem glob_plain {cx : Cx} {x : Str} (h : cx.isGlob x = true) : (x == ("__debug__" : Str)) = false ∧ (x == ("__classdict__" : Str)) = false := by
  simp only [Cx.isGlob, plainName, Bool.and_eq_true, bne_iff_ne, ne_eq] at h
  exact ⟨beq_eq_false_iff_ne.mpr h.2.1, beq_eq_false_iff_ne.mpr h.2.2⟩

section
variable {P : Par} {cx : Cx}

theorem sim_none {k : Nat} {pos : Pos} : SimE P cx (.Constant .none k pos) .none := fun c n env A σ l hp s _ I _ =>
  wpAny_Constant_none ⟨.none, hp, σ, rfl, .refl I.st, rfl⟩
theorem sim_bool {b : Bool} {k : Nat} {pos : Pos} : SimE P cx (.Constant (.bool b) k pos) (.bool b) := fun c n env A σ l hp s _ I _ =>
  wpAny_Constant_bool ⟨.bool b, hp, σ, rfl, .refl I.st, rfl⟩
theorem sim_int {i : Int} {k : Nat} {pos : Pos} : SimE P cx (.Constant (.int i) k pos) (.int i) := fun c n env A σ l hp s _ I _ =>
  wpAny_Constant_int ⟨.int i, hp, σ, rfl, .tok I.st _, _, rfl⟩
theorem sim_str {x : Str} {k : Nat} {pos : Pos} : SimE P cx (.Constant (.str x) k pos) (.str x.cps.toList) := fun c n env A σ l hp s _ I _ =>
  wpAny_Constant_str ⟨.str x.cps.toList, hp, σ, rfl, .tok I.st _, _, rfl⟩

theorem sim_loc {x : Str} {i : Nat} {pos : Pos} (hx : cx.slot x = some i) : SimE P cx (.Name x pos) (.loc i) := by
  intro c n env A σ l hp s _ I hb
  obtain ⟨hd, hcl⟩ := slot_plain hx
  rw [x_loc] at hb ⊢
  cases hl : locAt l i with
  | none => rw [hl] at hb; exact absurd rfl hb
  | some av =>
    have hl : l[i]? = some (some av) := by
      unfold locAt at hl
      split at hl
      · rename_i o e; rw [e, hl]
      · cases hl
    obtain ⟨m, hn, hm⟩ := I.fr.names
    refine wpAny_Name ?_ hd
    rcases hm x i hx with ⟨hk, hv⟩ | ⟨hk, cc, ov, hc, hi, hv⟩
    · obtain ⟨v, e, rv⟩ := hv av hl
      exact wpAny_loadName_local I.fr.kind hk hn e ⟨av, hp, σ, rfl, .refl I.st, rv⟩
    · obtain ⟨v, e, rv⟩ := hv av hl
      subst e
      rcases hk with hk | hk
      · exact wpAny_loadName_cell I.fr.kind hk hc hi ⟨av, hp, σ, rfl, .refl I.st, rv⟩
      · exact wpAny_loadName_free I.fr.kind hk hc hi ⟨av, hp, σ, rfl, .refl I.st, rv⟩ hcl
end
end Mine

namespace Mine
open PySem PySem.Spec PyProof.Rows PySem.SeqAt

theorem isTuple_of {h : Heap} {a : Addr} {ws : Array Value} {n : Nat} (o : ObjAt h a (.type "tuple") (.seq ws n)) : h.IsTuple a ws :=
  ⟨_, o, rfl, n, rfl⟩
theorem isList_of {h : Heap} {a : Addr} {ws : Array Value} {n : Nat} (o : ObjAt h a (.type "list") (.seq ws n)) : h.IsList a ws :=
  ⟨_, o, rfl, n, rfl⟩

theorem St.isList {w : World} {B : Bs} {σ : Sg} {hp : AHeap} {h : Heap} (S : St w B σ hp h) {n : Nat} {xs : List AV} {a : Addr} {off : Nat} (e : hp[n]? = some (.list xs)) (hs : σ[n]? = some (a, off)) :
    ∃ ws, h.IsList a ws ∧ RVs B h σ xs ws.toList := by
  obtain ⟨ws, k, o, r, _⟩ := S.obj n a off _ hs e
  exact ⟨ws, (isList_of o), r⟩

theorem str_eq_iff (x y : List Nat) : ((⟨x.toArray⟩ : Str) == ⟨y.toArray⟩) = decide (x = y) := by
  by_cases h : x = y
  · subst h; simp
  · rw [decide_eq_false h]
    refine beq_eq_false_iff_ne.mpr fun e => h ?_
    have := Str.mk.inj e
    simpa using this

theorem eqAll_spec {f : AV → AV → Option Bool} : ∀ {xs ys : List AV} {r : Bool}, eqAll f xs ys = some r →
    ∃ e : Nat → Bool, (∀ j x y, xs[j]? = some x → ys[j]? = some y → f x y = some (e j)) ∧ r = ((List.range (min xs.length ys.length)).all e && xs.length == ys.length)
  | [], [], r, h => by simp [eqAll] at h; exact ⟨fun _ => true, by simp, by simp [h]⟩
  | [], _ :: _, r, h => by simp [eqAll] at h; exact ⟨fun _ => true, by simp, by simp [h]⟩
  | _ :: _, [], r, h => by simp [eqAll] at h; exact ⟨fun _ => true, by simp, by simp [h]⟩
  | x :: xs, y :: ys, r, h => by
    rw [eqAll] at h
    cases h1 : f x y with
    | none => rw [h1] at h; cases h
    | some b =>
      cases h2 : eqAll f xs ys with
      | none => rw [h1, h2] at h; cases h
      | some r' =>
        rw [h1, h2] at h
        simp only [Option.some.injEq] at h
        obtain ⟨e, he, hr⟩ := eqAll_spec h2
        refine ⟨fun j => match j with | 0 => b | j + 1 => e j, fun j x' y' hx hy => ?_, ?_⟩
        · cases j with
          | zero => simp at hx hy; subst hx hy; exact h1
          | succ j => simp at hx hy; exact he j x' y' hx hy
        · rw [← h, hr]
          simp only [List.length_cons, Nat.add_min_add_right, List.range_succ_eq_map, List.all_cons, List.all_map, Bool.and_assoc]
          have e1 : (xs.length + 1 == ys.length + 1) = (xs.length == ys.length) := by simp
          rw [e1]
          rfl

section
variable {w : World} {B : Bs} {σ : Sg} {hp : AHeap} {s : Shared}

theorem eqAt_of_rc {A : Around} {a b : Addr} {k : Bool} (h : RcAt A s (.ref a) (.ref b) k) (hs : a = b → k = true) : EqAt A s (.ref a) (.ref b) k := by
  by_cases e : a = b
  · subst e; rw [hs rfl]; exact EqAt.same _
  · exact .of_refs e h

theorem eqAll_same {f : AV → AV → Option Bool} : ∀ {xs ys : List AV} {vs : List Value} {r : Bool}, eqAll f xs ys = some r → RVs B s.heap σ xs vs → RVs B s.heap σ ys vs →
    (∀ x y v r, f x y = some r → RV B s.heap σ x v → RV B s.heap σ y v → r = true) → r = true
  | [], [], _, r, h, _, _, _ => by simp [eqAll] at h; exact h
  | x :: xs, y :: ys, v :: vs, r, h, rx, ry, H => by
    rw [eqAll] at h
    cases h1 : f x y with
    | none => rw [h1] at h; cases h
    | some b =>
      cases h2 : eqAll f xs ys with
      | none => rw [h1, h2] at h; cases h
      | some r' =>
        rw [h1, h2] at h
        simp only [Option.some.injEq] at h
        rw [H x y v b h1 rx.1 ry.1, eqAll_same h2 rx.2 ry.2 H] at h
        exact h.symm
  | [], _ :: _, [], _, _, _, ry, _ => ry.elim
  | [], _, _ :: _, _, _, rx, _, _ => rx.elim
  | _ :: _, _, [], _, _, rx, _, _ => rx.elim
  | _ :: _, [], _ :: _, _, _, _, ry, _ => ry.elim

theorem St.inj (S : St w B σ hp s.heap) {i j : Nat} {a : Addr} {o o' : Nat} (hi : σ[i]? = some (a, o)) (hj : σ[j]? = some (a, o')) : i = j := by
  have h1 : (σ.map (·.1))[i]? = some a := by rw [List.getElem?_map, hi]; rfl
  have h2 : (σ.map (·.1))[j]? = some a := by rw [List.getElem?_map, hj]; rfl
  exact (List.getElem?_inj (List.getElem?_eq_some_iff.mp h1).1 S.nd).mp (by rw [h1, h2])

theorem objAt_uniq {h : Heap} {a : Addr} {c c' : Value} {d d' : Data} (x : ObjAt h a c d) (y : ObjAt h a c' d') : c = c' ∧ d = d' := by
  have := x.symm.trans y
  cases this
  exact ⟨rfl, rfl⟩

theorem none_ne {α : Type} {r : α} {C : Prop} (h : none = some r) : C := nomatch h

theorem listAt_is {n : Nat} {xs : List AV} (h : listAt hp n = some xs) : hp[n]? = some (.list xs) := by
  unfold listAt at h
  split at h
  · rename_i o e
    split at h
    · cases h; exact e
    · cases h
  · cases h
theorem dictAt_is {n : Nat} {d : List (Key × AV) × Nat} (h : dictAt hp n = some d) : hp[n]? = some (.dict d.1 d.2) := by
  unfold dictAt at h
  split at h
  · rename_i o e
    split at h
    · cases h; exact e
    · cases h
  · cases h

theorem eqL_spec {f : AV → AV → Option Bool} {a b : Option (List AV)} {r : Bool} (h : eqL f a b = some r) : ∃ xs ys, a = some xs ∧ b = some ys ∧ ((xs.length = ys.length ∧ eqAll f xs ys = some r) ∨ (xs.length ≠ ys.length ∧ r = false)) := by
  unfold eqL at h
  split at h
  · rename_i xs ys
    refine ⟨xs, ys, rfl, rfl, ?_⟩
    split at h
    · rename_i e; exact .inl ⟨e, h⟩
    · rename_i e; cases h; exact .inr ⟨e, rfl⟩
  · cases h

/-- the kinds of like things -/
inductive EqK (hp : AHeap) (n : Nat) : AV → AV → Bool → Prop
  | int (x y : Int) : EqK hp n (.int x) (.int y) (decide (x = y))
  | str (x y : List Nat) : EqK hp n (.str x) (.str y) (decide (x = y))
  | tup (xs ys : List AV) (r : Bool) (h : eqAll (eqv hp n) xs ys = some r) : EqK hp n (.tup xs) (.tup ys) r
  | loc (i j : Nat) (r : Bool) (h : eqL (eqv hp n) (listAt hp i) (listAt hp j) = some r) : EqK hp n (.loc i) (.loc j) r
theorem eqv_or {n : Nat} {a b : AV} {r : Bool} (h : eqv hp (n + 1) a b = some r) : EqK hp n a b r := by
  cases a
  case int x =>
    cases b
    case int y => cases (show some (decide (x = y)) = some r from h); exact .int x y
    all_goals exact none_ne h
  case str x =>
    cases b
    case str y => cases (show some (decide (x = y)) = some r from h); exact .str x y
    all_goals exact none_ne h
  case tup xs =>
    cases b
    case tup ys => exact .tup xs ys r h
    all_goals exact none_ne h
  case loc i =>
    cases b
    case loc j => exact .loc i j r h
    all_goals exact none_ne h
  all_goals exact none_ne h

theorem eqv_same (S : St w B σ hp s.heap) : ∀ (n : Nat) (a b : AV) (v : Value) (r : Bool), eqv hp n a b = some r → RV B s.heap σ a v → RV B s.heap σ b v → r = true
  | 0, _, _, _, _, h, _, _ => nomatch h
  | n + 1, a, b, v, r, h, ra, rb => by
    have H : ∀ x y v r, eqv hp n x y = some r → RV B s.heap σ x v → RV B s.heap σ y v → r = true := fun x y v r => eqv_same S n x y v r
    cases eqv_or h with
    | int x y => obtain ⟨t, rfl⟩ := ra; obtain ⟨t', e⟩ := rb; exact decide_eq_true (Value.int.inj e).1
    | str x y =>
      obtain ⟨t, rfl⟩ := ra; obtain ⟨t', e⟩ := rb
      exact decide_eq_true (by simpa using (Value.str.inj e).1)
    | tup xs ys r h =>
      obtain ⟨a, ws, k, rfl, oa, rx⟩ := ra; obtain ⟨b, us, k', e, ob, ry⟩ := rb
      cases e
      have := (objAt_uniq oa ob).2
      cases this
      exact eqAll_same h rx ry H
    | loc i j r h =>
      obtain ⟨a, o, rfl, e1⟩ := ra; obtain ⟨b, o', e, e2⟩ := rb
      cases e
      obtain rfl := S.inj e1 e2
      obtain ⟨xs, ys, h1, h2, h3⟩ := eqL_spec h
      rw [h1] at h2; cases h2
      rcases h3 with ⟨_, h3⟩ | ⟨h3, _⟩
      · obtain ⟨ws, hl, rx⟩ := S.isList (listAt_is h1) e1
        exact eqAll_same h3 rx rx H
      · exact absurd rfl h3

/-- what == gives, as eqBool and as the comparison, with the fact that a thing is like itself -/
structure EqAll (A : Around) (s : Shared) (v u : Value) (r : Bool) : Prop where
  rc : RcAt A s v u r
  ne : RcNeAt A s v u (!r)
  eq : EqAt A s v u r
theorem eq_seq {n : Nat} {A : Around} {xs ys : List AV} {ws us : Array Value} {r : Bool} (H : ∀ a b r v u, eqv hp n a b = some r → RV B s.heap σ a v → RV B s.heap σ b u → EqAt A s v u r) (he : eqAll (eqv hp n) xs ys = some r) (rx : RVs B s.heap σ xs ws.toList) (ry : RVs B s.heap σ ys us.toList) :
    ∃ e : Nat → Bool, r = ((List.range (min ws.size us.size)).all e && ws.size == us.size) ∧ ∀ j (h1 : j < ws.size) (h2 : j < us.size), EqAt A s ws[j] us[j] (e j) := by
  obtain ⟨e, h1, h2⟩ := eqAll_spec he
  refine ⟨e, by rw [h2, rx.size, ry.size], fun j h3 h4 => ?_⟩
  have ex : xs[j]? = some (xs[j]'(by rw [rx.size]; exact h3)) := List.getElem?_eq_getElem _
  have ey : ys[j]? = some (ys[j]'(by rw [ry.size]; exact h4)) := List.getElem?_eq_getElem _
  obtain ⟨v', e1, q1⟩ := rx.get ex
  obtain ⟨u', e2, q2⟩ := ry.get ey
  rw [Array.getElem?_toList, Array.getElem?_eq_getElem h3] at e1
  rw [Array.getElem?_toList, Array.getElem?_eq_getElem h4] at e2
  cases e1; cases e2
  exact H _ _ _ _ _ (h1 j _ _ ex ey) q1 q2
theorem eq_tups {A : Around} {a b : Addr} {ws us : Array Value} {k k' : Nat} {r : Bool} {e : Nat → Bool} (hu : A.units < cLine) (oa : ObjAt s.heap a (.type "tuple") (.seq ws k)) (ob : ObjAt s.heap b (.type "tuple") (.seq us k')) (hr : r = ((List.range (min ws.size us.size)).all e && ws.size == us.size))
    (he : ∀ j (h1 : j < ws.size) (h2 : j < us.size), EqAt A.in1 s ws[j] us[j] (e j)) (hs : a = b → r = true) : EqAll A s (.ref a) (.ref b) r := by
  subst hr
  have hrc := RcAt.tuples (isTuple_of oa) (isTuple_of ob) hu he
  exact ⟨hrc, RcNeAt.tuples (isTuple_of oa) (isTuple_of ob) hu he, eqAt_of_rc hrc hs⟩
theorem eq_lsts {A : Around} {a b : Addr} {ws us : Array Value} {r : Bool} {e : Nat → Bool} (hu : A.units < cLine) (hl : s.heap.IsList a ws) (hl' : s.heap.IsList b us) (hsz : ws.size = us.size) (hr : r = ((List.range (min ws.size us.size)).all e && ws.size == us.size))
    (he : ∀ j (h1 : j < ws.size) (h2 : j < us.size), EqAt A.in1 s ws[j] us[j] (e j)) (hs : a = b → r = true) : EqAll A s (.ref a) (.ref b) r := by
  have er : r = (List.range ws.size).all e := by rw [hr, hsz, Nat.min_self, beq_self_eq_true, Bool.and_true]
  subst er
  have hrc := RcAt.lists hl hl' hsz hu he
  exact ⟨hrc, RcNeAt.lists hl hl' hsz hu he, eqAt_of_rc hrc hs⟩
theorem eq_locs (S : St w B σ hp s.heap) {n : Nat} {A : Around} {i j : Nat} {v u : Value} {r : Bool} (H : ∀ a b r v u, eqv hp n a b = some r → RV B s.heap σ a v → RV B s.heap σ b u → EqAt A.in1 s v u r) (hu : A.units < cLine)
    (h : eqL (eqv hp n) (listAt hp i) (listAt hp j) = some r) (ra : RV B s.heap σ (.loc i) v) (rb : RV B s.heap σ (.loc j) u) : EqAll A s v u r := by
  obtain ⟨a, o, rfl, e1⟩ := ra; obtain ⟨b, o', rfl, e2⟩ := rb
  have hs : a = b → r = true := fun q => by
    subst q
    have ij := S.inj e1 e2
    subst ij
    exact eqv_same S (n + 1) (.loc i) (.loc i) (.ref a) r h ⟨a, o, rfl, e1⟩ ⟨a, o, rfl, e1⟩
  obtain ⟨xs, ys, hi, hj, hc⟩ := eqL_spec h
  obtain ⟨ws, hl, rx⟩ := S.isList (listAt_is hi) e1
  obtain ⟨us, hl', ry⟩ := S.isList (listAt_is hj) e2
  rcases hc with ⟨hlen, h⟩ | ⟨hlen, hr⟩
  · obtain ⟨e, hr, he⟩ := eq_seq H h rx ry
    exact eq_lsts hu hl hl' (rx.size.symm.trans (hlen.trans ry.size)) hr he hs
  · subst hr
    have hsz : (ws.size != us.size) = true := bne_iff_ne.mpr fun q => hlen (rx.size.trans (q.trans ry.size.symm))
    exact ⟨RcAt.lists_lengths hl hl' hsz hu, RcNeAt.lists_lengths hl hl' hsz hu, eqAt_of_rc (RcAt.lists_lengths hl hl' hsz hu) hs⟩
theorem eqv_at (S : St w B σ hp s.heap) : ∀ (n : Nat) (a b : AV) (r : Bool) (A : Around) (v u : Value), eqv hp n a b = some r → RV B s.heap σ a v → RV B s.heap σ b u → A.units + n < cLine → EqAll A s v u r
  | 0, _, _, _, _, _, _, h, _, _, _ => nomatch h
  | n + 1, a, b, r, A, v, u, h, ra, rb, hu => by
    have hu' : A.units < cLine := by omega
    have H : ∀ a b r v u, eqv hp n a b = some r → RV B s.heap σ a v → RV B s.heap σ b u → EqAt A.in1 s v u r := fun a b r v u h ra rb => (eqv_at S n a b r A.in1 v u h ra rb (by show A.units + 1 + n < _; omega)).eq
    cases eqv_or h with
    | int x y =>
      obtain ⟨t, rfl⟩ := ra; obtain ⟨t', rfl⟩ := rb
      have e : (x == y) = decide (x = y) := by by_cases q : x = y <;> simp [q]
      rw [← e]
      exact ⟨RcAt.int_int _ _ _ _, RcNeAt.int_int _ _ _ _, EqAt.int_int _ _ _ _⟩
    | str x y =>
      obtain ⟨t, rfl⟩ := ra; obtain ⟨t', rfl⟩ := rb
      rw [← str_eq_iff]
      exact ⟨RcAt.str_str _ _ _ _, RcNeAt.str_str _ _ _ _, EqAt.str_str _ _ _ _⟩
    | tup xs ys r he =>
      have hs := eqv_same S (n + 1) (.tup xs) (.tup ys) v r h ra
      obtain ⟨a, ws, k, rfl, oa, rx⟩ := ra; obtain ⟨b, us, k', rfl, ob, ry⟩ := rb
      obtain ⟨e, hr, he⟩ := eq_seq H he rx ry
      exact eq_tups hu' oa ob hr he fun q => hs ⟨b, us, k', by rw [q], ob, ry⟩
    | loc i j r h => exact eq_locs S H hu' h ra rb
end
end Mine

namespace Mine
open PySem PySem.Spec PyProof.Rows PySem.SeqAt

theorem sizeLim_le {n : Nat} (h : n ≤ sizeLim) : n ≤ sizeLine := Nat.le_trans h (by decide +kernel)

section
variable {P : Par} {A : Around} {σ : Sg} {hp : AHeap} {s : Shared} {E : Value → Shared → Prop}

theorem Par.Ok.noLimit (ok : P.Ok) (S : St P.w P.B σ hp s.heap) : s.heap.NoLimit := ok.nolimit.keeps S.base
theorem Par.Ok.noSeer (ok : P.Ok) (S : St P.w P.B σ hp s.heap) : s.heap.NoSeer := ok.seer.keeps S.base

theorem mulOk_ok {a b : Int} (h : mulOk a b = true) : IntMulOk a b := by
  simp only [mulOk, Bool.or_eq_true, decide_eq_true_eq] at h
  rcases h with h | h
  · exact IntMulOk.of_left (intBits_le_64 (by omega) (by omega))
  · exact IntMulOk.of_right (intBits_le_64 (by omega) (by omega))

/-- a new list -/
theorem qv_newList (S : St P.w P.B σ hp s.heap) {vs : List AV} {ws : Array Value} (hr : RVs P.B s.heap σ vs ws.toList) (hb : newList vs hp ≠ .bad) :
    ws.size ≤ sizeLine ∧ QV P σ s (newList vs hp) (.ref s.heap.objs.size) { s with heap := s.heap.push { cls := .type "list", data := .seq ws } } := by
  unfold newList at hb ⊢
  split at hb
  · rename_i hsz
    have hl := hr.size
    refine ⟨sizeLim_le (hl ▸ hsz), ?_⟩
    rw [if_pos hsz]
    obtain ⟨S', g⟩ := S.alloc (X := []) { cls := .type "list", data := .seq ws } 0 (.list vs) fun g => ⟨ws, 0, Heap.get?_push_size _ rfl, RVs.grows g _ _ hr, sizeLim_le hsz⟩
    refine ⟨_, _, _, rfl, ⟨rfl, S', g⟩, s.heap.objs.size, 0, rfl, ?_⟩
    rw [← S.len]; simp
  · exact absurd rfl hb

theorem St.isL (S : St P.w P.B σ hp s.heap) {n : Nat} {xs : List AV} {a : Addr} {off : Nat} (e : hp[n]? = some (.list xs)) (hs : σ[n]? = some (a, off)) :
    ∃ ws k, IsL s.heap a ws k ∧ RVs P.B s.heap σ xs ws.toList := by
  obtain ⟨ws, k, o, r, _⟩ := S.obj n a off _ hs e
  exact ⟨ws, k, o, r⟩
theorem St.isLen (S : St P.w P.B σ hp s.heap) {n : Nat} {xs : List AV} {a : Addr} {off : Nat} (e : hp[n]? = some (.list xs)) (hs : σ[n]? = some (a, off)) : xs.length ≤ sizeLine := by
  obtain ⟨ws, k, o, r, q⟩ := S.obj n a off _ hs e
  exact q

theorem RVs.replicate {B : Bs} {h : Heap} {x : AV} {v : Value} (r : RV B h σ x v) : ∀ n, RVs B h σ (List.replicate n x) (List.replicate n v)
  | 0 => trivial
  | n + 1 => ⟨r, RVs.replicate r n⟩

/-- the kinds of things that an operator takes -/
inductive BinK : BOp → AV → AV → Prop
  | int (op : BOp) (x y : Int) : BinK op (.int x) (.int y)
  | cat (n m : Nat) : BinK .add (.loc n) (.loc m)
  | rep (n : Nat) (k : Int) : BinK .mul (.loc n) (.int k)
theorem binAV_or {op : BOp} {a b : AV} {h : AHeap} (hb : binAV op a b h ≠ .bad) : BinK op a b := by
  cases a
  case int x =>
    cases b
    case int y => exact .int op x y
    all_goals exact absurd rfl hb
  case loc n =>
    cases b
    case loc m => cases op <;> first | exact .cat n m | exact absurd rfl hb
    case int k => cases op <;> first | exact .rep n k | exact absurd rfl hb
    all_goals exact absurd rfl hb
  all_goals exact absurd rfl hb

theorem newListO_is {o : Option (List AV)} {h : AHeap} (hb : newListO o h ≠ .bad) : ∃ vs, o = some vs ∧ newList vs h ≠ .bad := by
  cases o with
  | none => exact absurd rfl hb
  | some vs => exact ⟨vs, rfl, hb⟩
theorem catL_is {a b : Option (List AV)} {vs : List AV} (h : catL a b = some vs) : ∃ xs ys, a = some xs ∧ b = some ys ∧ vs = xs ++ ys := by
  unfold catL at h
  split at h
  · cases h; exact ⟨_, _, rfl, rfl, rfl⟩
  · cases h
theorem repL_is {a : Option (List AV)} {k : Int} {vs : List AV} (h : repL a k = some vs) : ∃ x, a = some [x] ∧ 0 ≤ k ∧ k ≤ sizeLim ∧ vs = List.replicate k.toNat x := by
  unfold repL at h
  split at h
  · split at h
    · split at h
      · rename_i hk; cases h; exact ⟨_, rfl, hk.1, hk.2, rfl⟩
      · cases h
    · cases h
  · cases h

theorem rep_fold (v : Value) : ∀ (n : Nat) (acc : Array Value), List.foldl (fun x1 x2 => x1 ++ x2) acc (List.replicate n #[v]) = acc ++ (List.replicate n v).toArray
  | 0, acc => by simp
  | n + 1, acc => by
    rw [List.replicate_succ, List.foldl_cons, rep_fold v n]
    apply Array.toList_inj.mp
    rw [Array.toList_append, Array.toList_append, Array.toList_append]
    simp [List.replicate_succ]

theorem neg_if {c : Prop} [Decidable c] {α : Type} {y : Res α} (hb : (if c then Res.bad else y) ≠ .bad) : ¬ c := fun hc => hb (if_pos hc)
theorem pos_if {c : Prop} [Decidable c] {α : Type} {y : Res α} (hb : (if c then y else Res.bad) ≠ .bad) : c := Classical.byContradiction fun hc => hb (if_neg hc)
theorem bin_int (S : St P.w P.B σ hp s.heap) (hroom : PylongRoom (model P.prog P.w) A s) {op : Operator} {bop : BOp} {x y : Int} {t t' : Tok} (hop : compBOp op = some bop) (hb : binI bop x y hp ≠ .bad) : wpAny (model P.prog P.w) A (binaryOp op (.int x t) (.int y t')) (QV P σ s (binI bop x y hp)) E s := by
  cases op <;> (try exact none_ne hop) <;> cases hop
  · exact add_int ⟨_, _, _, rfl, .tok S _, _, rfl⟩
  · exact sub_int ⟨_, _, _, rfl, .tok S _, _, rfl⟩
  · have hm := pos_if (c := mulOk x y = true) hb
    exact mul_int ⟨_, _, _, if_pos hm, .tok S _, _, rfl⟩ (mulOk_ok hm)
  · have hy := neg_if (c := y = 0) hb
    exact mod_int hy ⟨_, _, _, if_neg hy, .tok S _, _, rfl⟩
  · have hy := pos_if (c := x = 2 ∧ y = 7) hb
    have e : binI .pow x y hp = .ok (.int 128) hp := if_pos hy
    obtain ⟨rfl, rfl⟩ := hy
    exact pow_int (by decide) (by decide) ⟨_, _, _, e, .tok S _, _, rfl⟩
  · have hy := neg_if (c := y = 0) hb
    exact floordiv_int hy ⟨_, _, _, if_neg hy, .tok S _, _, rfl⟩ (.inr hroom)
theorem bin_cat (S : St P.w P.B σ hp s.heap) {i j : Nat} {v u : Value} (ra : RV P.B s.heap σ (.loc i) v) (rb : RV P.B s.heap σ (.loc j) u) (hb : newListO (catL (listAt hp i) (listAt hp j)) hp ≠ .bad) : wpAny (model P.prog P.w) A (binaryOp .Add v u) (QV P σ s (newListO (catL (listAt hp i) (listAt hp j)) hp)) E s := by
  obtain ⟨a, o, rfl, e1⟩ := ra; obtain ⟨b, o', rfl, e2⟩ := rb
  obtain ⟨vs, hv, hb⟩ := newListO_is hb
  rw [hv]
  obtain ⟨xs, ys, hi, hj, rfl⟩ := catL_is hv
  obtain ⟨ws, k, hl, rx⟩ := S.isL (listAt_is hi) e1
  obtain ⟨us, k', hl', ry⟩ := S.isL (listAt_is hj) e2
  have hr : RVs P.B s.heap σ (xs ++ ys) (ws ++ us).toList := by rw [Array.toList_append]; exact rx.append ry
  obtain ⟨hsz, hq⟩ := qv_newList S hr hb
  exact PySem.P.add_list hl hl' hq (by rw [Array.size_append] at hsz; exact hsz)
theorem bin_rep (S : St P.w P.B σ hp s.heap) {i : Nat} {k : Int} {v : Value} {t' : Tok} (ra : RV P.B s.heap σ (.loc i) v) (hb : newListO (repL (listAt hp i) k) hp ≠ .bad) : wpAny (model P.prog P.w) A (binaryOp .Mult v (.int k t')) (QV P σ s (newListO (repL (listAt hp i) k) hp)) E s := by
  obtain ⟨a, o, rfl, e1⟩ := ra
  obtain ⟨vs, hv, hb⟩ := newListO_is hb
  rw [hv]
  obtain ⟨x, hi, hk0, hk, rfl⟩ := repL_is hv
  obtain ⟨ws, m, hl, rx⟩ := S.isL (listAt_is hi) e1
  have hlim : ((sizeLim : Nat) : Int) = 1048576 := rfl
  obtain ⟨wl⟩ := ws
  obtain ⟨v, rfl, rx1⟩ := RVs.one (vs := wl) rx
  have hr : RVs P.B s.heap σ (List.replicate k.toNat x) (List.replicate k.toNat v).toArray.toList := RVs.replicate rx1 _
  obtain ⟨hsz, hq⟩ := qv_newList S hr hb
  have hfold : (List.foldl (fun x1 x2 => x1 ++ x2) #[] (List.replicate (if (#[v] : Array Value).isEmpty = true then 0 else k.toNat) #[v])) = (List.replicate k.toNat v).toArray := (rep_fold v k.toNat #[]).trans (by simp)
  refine wpAny_binaryOp_repeat_ref (T := "list") (U := "int") (by decide) ⟨_, hl, rfl⟩ (fun s' => typeIs_int s' k t') noFill_list_mul F.fills_int_mul F.slot_int_rmul repeat_list F.slot_int_index.lookup
    (call_meets F.slot_int_rmul (typeIs_int s k t') F.entry_int_rmul (F.args_int_rmul_2 _ _) (int___rmul___int_list k t' a #[v] m)
      ⟨hl, rfl, ⟨_, hl, rfl⟩, call_meets F.slot_list_mul ⟨_, hl, rfl⟩ F.entry_list_mul (F.args_list_mul_2 _ _)
        (AutoListH.list___mul___list_int_3 a #[v] m k t' (by simp [Builtin.List.listFitsIndex]; omega) (by simp; omega) (by simp [Builtin.List.listTooLong, sizeLine]; omega))
        ⟨hl, ?_⟩⟩)
  rw [hfold]
  exact hq
theorem bin_prim (ok : P.Ok) (S : St P.w P.B σ hp s.heap) {n : Nat} (ar : Arnd n A) {op : Operator} {bop : BOp} {a b : AV} {v u : Value} (hop : compBOp op = some bop)
    (ra : RV P.B s.heap σ a v) (rb : RV P.B s.heap σ b u) (hb : binAV bop a b hp ≠ .bad) : wpAny (model P.prog P.w) A (binaryOp op v u) (QV P σ s (binAV bop a b hp)) E s := by
  cases binAV_or hb with
  | int bop x y =>
    obtain ⟨f, outer, hf1, hf2, hf3, hf4, hf5⟩ := ar.frame
    obtain ⟨t, rfl⟩ := ra; obtain ⟨t', rfl⟩ := rb
    exact bin_int S (PylongRoom.of (ok.noLimit S) (by have := ar.depth; show A.depth + 100 < recursionLimit; omega) (SeerAt.of (ok.noSeer S) ok.tree hf1 hf2 hf3 hf4 hf5)) hop hb
  | cat i j =>
    cases op <;> (try exact none_ne hop) <;> cases hop
    exact bin_cat S ra rb hb
  | rep i k =>
    cases op <;> (try exact none_ne hop) <;> cases hop
    obtain ⟨t', rfl⟩ := rb
    exact bin_rep S ra hb
end
end Mine

namespace Mine
open PySem PySem.Spec PyProof.Rows PySem.SeqAt

section
variable {w : World} {B : Bs} {σ : Sg} {hp : AHeap} {s : Shared}

theorem eqAll_fun {f : AV → AV → Option Bool} : ∀ {xs ys vs : List AV} {us : List Value} {r r' : Bool}, eqAll f xs vs = some r → eqAll f ys vs = some r' → RVs B s.heap σ xs us → RVs B s.heap σ ys us →
    (∀ x y v u b b', f x v = some b → f y v = some b' → RV B s.heap σ x u → RV B s.heap σ y u → b = b') → r = r'
  | [], [], vs, us, r, r', h, h', _, _, _ => by rw [h] at h'; exact Option.some.inj h'
  | x :: xs, y :: ys, [], u :: us, r, r', h, h', _, _, _ => by simp [eqAll] at h h'; rw [h, h']
  | x :: xs, y :: ys, v :: vs, u :: us, r, r', h, h', rx, ry, H => by
    rw [eqAll] at h h'
    cases h1 : f x v with
    | none => rw [h1] at h; cases h
    | some b =>
      cases h2 : eqAll f xs vs with
      | none => rw [h1, h2] at h; cases h
      | some c =>
        cases h3 : f y v with
        | none => rw [h3] at h'; cases h'
        | some b' =>
          cases h4 : eqAll f ys vs with
          | none => rw [h3, h4] at h'; cases h'
          | some c' =>
            rw [h1, h2] at h
            rw [h3, h4] at h'
            simp only [Option.some.injEq] at h h'
            rw [← h, ← h', H x y v u b b' h1 h3 rx.1 ry.1, eqAll_fun h2 h4 rx.2 ry.2 H]
  | [], _ :: _, _, [], _, _, _, _, _, ry, _ => ry.elim
  | [], _ :: _, _, _ :: _, _, _, _, _, rx, _, _ => rx.elim
  | _ :: _, [], _, [], _, _, _, _, rx, _, _ => rx.elim
  | _ :: _, [], _, _ :: _, _, _, _, _, _, ry, _ => ry.elim
  | _ :: _, _ :: _, _, [], _, _, _, _, rx, _, _ => rx.elim

theorem eqv_fun (S : St w B σ hp s.heap) : ∀ (n : Nat) (x y v : AV) (u : Value) (b b' : Bool), eqv hp n x v = some b → eqv hp n y v = some b' → RV B s.heap σ x u → RV B s.heap σ y u → b = b'
  | 0, _, _, _, _, _, _, h, _, _, _ => nomatch h
  | n + 1, x, y, v, u, b, b', h, h', rx, ry => by
    have H : ∀ x y v u b b', eqv hp n x v = some b → eqv hp n y v = some b' → RV B s.heap σ x u → RV B s.heap σ y u → b = b' := fun x y v u b b' => eqv_fun S n x y v u b b'
    cases eqv_or h with
    | int x z =>
      cases eqv_or h' with
      | int y z => obtain ⟨t, rfl⟩ := rx; obtain ⟨t', q⟩ := ry; rw [(Value.int.inj q).1]
    | str x z =>
      cases eqv_or h' with
      | str y z =>
        obtain ⟨t, rfl⟩ := rx; obtain ⟨t', q⟩ := ry
        have : x = y := by simpa using (Value.str.inj q).1
        rw [this]
    | tup xs zs b e =>
      cases eqv_or h' with
      | tup ys zs b' e' =>
        obtain ⟨a, ws, k, rfl, oa, rx⟩ := rx; obtain ⟨c, us, k', q, ob, ry⟩ := ry
        cases q
        have := (objAt_uniq oa ob).2
        cases this
        exact eqAll_fun e e' rx ry H
    | loc i k b e =>
      cases eqv_or h' with
      | loc j k b' e' =>
        obtain ⟨a, o, rfl, e1⟩ := rx; obtain ⟨c, o', q, e2⟩ := ry
        cases q
        obtain rfl := S.inj e1 e2
        rw [e] at e'; exact Option.some.inj e'

theorem findEq_spec {v : AV} : ∀ {xs : List AV} {r : Bool}, findEq hp v xs = some r → (∀ (j : Nat) x, xs[j]? = some x → ∃ b, eqv hp eqFuel x v = some b) ∧ (r = true ↔ ∃ (j : Nat) (x : AV), xs[j]? = some x ∧ eqv hp eqFuel x v = some true)
  | [], r, h => by simp [findEq] at h; subst h; simp
  | x :: xs, r, h => by
    rw [findEq] at h
    cases h1 : eqv hp eqFuel x v with
    | none => rw [h1] at h; cases h
    | some b =>
      cases h2 : findEq hp v xs with
      | none => rw [h1, h2] at h; cases h
      | some c =>
        rw [h1, h2] at h
        simp only [Option.some.injEq] at h
        obtain ⟨ih1, ih2⟩ := findEq_spec h2
        refine ⟨fun j y hy => ?_, ?_⟩
        · cases j with
          | zero => simp at hy; subst hy; exact ⟨b, h1⟩
          | succ j => simp at hy; exact ih1 j y hy
        · rw [← h, Bool.or_eq_true, ih2]
          constructor
          · rintro (rfl | ⟨j, y, e1, e2⟩)
            · exact ⟨0, x, by simp, h1⟩
            · exact ⟨j + 1, y, by simpa using e1, e2⟩
          · rintro ⟨j, y, e1, e2⟩
            cases j with
            | zero => simp at e1; subst e1; rw [h1] at e2; left; exact Option.some.inj e2
            | succ j => right; exact ⟨j, y, by simpa using e1, e2⟩

open Classical in
/-- the items of a walked thing, held against a value -/
theorem eq_items (S : St w B σ hp s.heap) {A : Around} {xs : List AV} {v : AV} {u : Value} {ws : Array Value} (hd : ∀ (j : Nat) x, xs[j]? = some x → ∃ b, eqv hp eqFuel x v = some b) (rx : RVs B s.heap σ xs ws.toList) (rv : RV B s.heap σ v u) (hu : A.units + eqFuel < cLine) :
    ∃ e : Value → Bool, (∀ y, y ∈ ws → EqAt A s y u (e y)) ∧ ∀ (j : Nat) y x, ws[j]? = some y → xs[j]? = some x → eqv hp eqFuel x v = some (e y) := by
  have key : ∀ (j : Nat) (y : Value) (x : AV), ws[j]? = some y → xs[j]? = some x → eqv hp eqFuel x v = some (decide (∃ (j : Nat) (x : AV), ws[j]? = some y ∧ xs[j]? = some x ∧ eqv hp eqFuel x v = some true)) := by
    intro j y x hy hx
    obtain ⟨b, hb⟩ := hd j x hx
    rw [hb]
    congr 1
    cases b with
    | true => exact (decide_eq_true ⟨j, x, hy, hx, hb⟩).symm
    | false =>
      refine (decide_eq_false ?_).symm
      rintro ⟨k, z, hy', hz, ht⟩
      obtain ⟨v1, e1, q1⟩ := rx.get hx
      obtain ⟨v2, e2, q2⟩ := rx.get hz
      rw [Array.getElem?_toList, hy] at e1
      rw [Array.getElem?_toList, hy'] at e2
      cases e1; cases e2
      exact absurd (eqv_fun S _ _ _ _ _ _ _ hb ht q1 q2) (by simp)
  refine ⟨fun y => decide (∃ (j : Nat) (x : AV), ws[j]? = some y ∧ xs[j]? = some x ∧ eqv hp eqFuel x v = some true), ?_, key⟩
  · intro y hy
    obtain ⟨j, hj, e⟩ := Array.mem_iff_getElem.mp hy
    have ey : ws[j]? = some y := by rw [Array.getElem?_eq_getElem hj, e]
    have hl := rx.size
    have ex : xs[j]? = some xs[j] := List.getElem?_eq_getElem (by omega)
    obtain ⟨v1, e1, q1⟩ := rx.get ex
    rw [Array.getElem?_toList, ey] at e1
    cases e1
    exact (eqv_at S _ _ _ _ A _ _ (key j y _ ey ex) q1 rv hu).eq

theorem any_items {xs : List AV} {v : AV} {ws : Array Value} {e : Value → Bool} {r : Bool} (h : findEq hp v xs = some r) (rx : RVs B s.heap σ xs ws.toList) (he : ∀ (j : Nat) y x, ws[j]? = some y → xs[j]? = some x → eqv hp eqFuel x v = some (e y)) : ws.any e = r := by
  obtain ⟨hd, hr⟩ := findEq_spec h
  have hl := rx.size
  have : ws.any e = true ↔ r = true := by
    rw [hr, Array.any_eq_true]
    constructor
    · rintro ⟨j, hj, ht⟩
      have ex : xs[j]? = some xs[j] := List.getElem?_eq_getElem (by omega)
      exact ⟨j, _, ex, by rw [he j _ _ (Array.getElem?_eq_getElem hj) ex, ht]⟩
    · rintro ⟨j, x, hx, ht⟩
      have hj : j < ws.size := by have := (List.getElem?_eq_some_iff.mp hx).1; omega
      have := he j _ x (Array.getElem?_eq_getElem hj) hx
      rw [ht] at this
      exact ⟨j, hj, (Option.some.inj this).symm⟩
  cases h1 : ws.any e <;> cases h2 : r <;> simp_all
end

end Mine

namespace Mine
open PySem PySem.Spec PyProof.Rows PySem.SeqAt

section
variable {P : Par} {A : Around} {σ : Sg} {hp : AHeap} {s : Shared} {E : Value → Shared → Prop}

theorem key_tuple {B : Bs} {h : Heap} {a b : Int} {v : Value} (r : RV B h σ (Key.pair a b).av v) : ∃ c, v = .ref c ∧ IsTupleKey (intKind P.prog P.w) h [a, b] c := by
  obtain ⟨c, ws, n, rfl, o, rs⟩ := r
  refine ⟨c, rfl, _, ws, n, o, rfl, rfl, ?_⟩
  obtain ⟨wl⟩ := ws
  replace rs : RVs B h σ [.int a, .int b] wl := rs
  obtain ⟨x, r1, rfl, ⟨t, rfl⟩, rs2⟩ := rs.cons
  obtain ⟨y, rfl, u, rfl⟩ := rs2.one
  exact .cons (by simp [intKind, Value.isInt]) (.cons (by simp [intKind, Value.isInt]) .nil)

theorem pyHash_prim {k : Key} {v : Value} (r : RV P.B s.heap σ k.av v) (hu : A.units < cLine) :
    ∃ d, ∀ (E : Value → Shared → Prop) (Q : Int → Shared → Prop), Q (keyHash k) { s with toks := s.toks + d } → wpAny (model P.prog P.w) A (pyHash v) Q E s := by
  cases k with
  | int i =>
    obtain ⟨t, rfl⟩ := r
    exact ⟨1, fun E Q h => wpAny_pyHash_int h⟩
  | pair a b =>
    obtain ⟨c, rfl, ht⟩ := key_tuple (P := P) r
    exact ⟨3, fun E Q h => wpAny_pyHash_tuple hu ht h⟩

theorem REs.idx {w : World} {B : Bs} {h : Heap} {f : DictEntry → Bool} {k : Key} : ∀ {ps : List (Key × AV)} {es : List DictEntry}, REs w B h σ ps es →
    (∀ p e, p ∈ ps → e.hash = keyHash p.1 → RV B h σ p.1.av e.key → f e = (p.1 == k)) → es.findIdx? f = ps.findIdx? (fun p => p.1 == k)
  | [], [], _, _ => rfl
  | p :: ps, e :: es, r, H => by
    rw [List.findIdx?_cons, List.findIdx?_cons, H p e (.head _) r.1.1 r.1.2.1, REs.idx r.2 fun p e hp => H p e (.tail _ hp)]
  | [], _ :: _, r, _ => r.elim
  | _ :: _, [], r, _ => r.elim

theorem REs.mem {w : World} {B : Bs} {h : Heap} : ∀ {ps : List (Key × AV)} {es : List DictEntry}, REs w B h σ ps es → ∀ e ∈ es, ∃ p ∈ ps, e.hash = keyHash p.1 ∧ RV B h σ p.1.av e.key ∧ RV B h σ p.2 e.val
  | [], [], _, e, he => nomatch he
  | p :: ps, e' :: es, r, e, he => by
    rcases List.mem_cons.mp he with rfl | he
    · exact ⟨p, .head _, r.1⟩
    · obtain ⟨q, hq, x⟩ := REs.mem r.2 e he
      exact ⟨q, .tail _ hq, x⟩
  | [], _ :: _, r, _, _ => r.elim
  | _ :: _, [], r, _, _ => r.elim

noncomputable def pairOf : Key → List Int
  | .pair a b => [a, b]
  | _ => []

theorem REs.pairs {B : Bs} {h : Heap} : ∀ {ps : List (Key × AV)} {es : List DictEntry}, REs P.w B h σ ps es → (∀ p ∈ ps, p.1.sort = true) →
    ∃ xs : List (List Int × Addr × Value), es = xs.map (entryOfKey (tupleKind (intKind P.prog P.w))) ∧ (∀ x ∈ xs, IsTupleKey (intKind P.prog P.w) h x.1 x.2.1) ∧ xs.map (·.1) = ps.map (fun p => pairOf p.1)
  | [], [], _, _ => ⟨[], rfl, fun _ hx => (nomatch hx), rfl⟩
  | p :: ps, e :: es, r, H => by
    obtain ⟨xs, h1, h2, h3⟩ := REs.pairs r.2 fun q hq => H q (.tail _ hq)
    obtain ⟨k, v⟩ := p
    cases k with
    | int i => exact absurd (H _ (.head _)) (by simp [Key.sort])
    | pair a b =>
      obtain ⟨c, hc, ht⟩ := key_tuple (P := P) r.1.2.1
      refine ⟨([a, b], c, e.val) :: xs, ?_, ?_, ?_⟩
      · rw [List.map_cons, h1]
        congr 1
        obtain ⟨hh, hk, hv⟩ := e
        simp only [entryOfKey]
        have e1 := r.1.1
        simp only at e1 hc
        rw [e1, hc]
        rfl
      · intro x hx
        rcases List.mem_cons.mp hx with rfl | hx
        · exact ht
        · exact h2 x hx
      · simp [h3, pairOf]
  | [], _ :: _, r, _ => r.elim
  | _ :: _, [], r, _ => r.elim

theorem sortOk_iff {kvs : List (Key × AV)} {k : Key} : sortOk kvs k = true ↔ ∀ p ∈ kvs, p.1.sort = k.sort := by
  simp [sortOk, List.all_eq_true]

theorem pairOf_inj {a b : Int} {k : Key} (hk : k.sort = true) : pairOf k = [a, b] ↔ k = .pair a b := by
  cases k <;> simp [Key.sort, pairOf] at hk ⊢

theorem findIdx_of_nodup {ps : List (Key × AV)} {k : Key} {j : Nat} {v : AV} (hn : (ps.map (·.1)).Nodup) (h : ps[j]? = some (k, v)) : ps.findIdx? (fun p => p.1 == k) = some j := by
  obtain ⟨hj, e⟩ := List.getElem?_eq_some_iff.mp h
  rw [List.findIdx?_eq_some_iff_getElem]
  refine ⟨hj, by rw [e]; simp, fun i hi => ?_⟩
  have hi' : i < ps.length := by omega
  intro q
  have q := eq_of_beq q
  have h1 : (ps.map (·.1))[i]? = some k := by rw [List.getElem?_map, List.getElem?_eq_getElem hi']; simp [q]
  have h2 : (ps.map (·.1))[j]? = some k := by rw [List.getElem?_map, h]; rfl
  have := (List.getElem?_inj (by simpa using hi') hn).mp (h1.trans h2.symm)
  omega

theorem dictFind_prim {kvs : List (Key × AV)} {es : Array DictEntry} {ep : Nat} {a : Addr} {o : Obj} (ho : s.heap.get? a = some o) (hd : o.data = .dict es ep) (re : REs P.w P.B s.heap σ kvs es.toList) (hn : (kvs.map (·.1)).Nodup)
    {k : Key} {v : Value} (r : RV P.B s.heap σ k.av v) (hs : sortOk kvs k = true) (hu : A.units < cLine) {Q : Option Nat → Shared → Prop} (h : Q (kvs.findIdx? fun p => p.1 == k) s) :
    wpAny (model P.prog P.w) A (dictFind a v (keyHash k)) Q E s := by
  have hsort := sortOk_iff.mp hs
  cases k with
  | int i =>
    obtain ⟨t, rfl⟩ := r
    refine wpAny_dictFind_of (knd := intKind P.prog P.w) (k := i) (by simp [intKind, Value.isInt]) ho hd (fun e he => ?_) ?_
    · obtain ⟨p, hp, h1, h2, h3⟩ := re.mem e (Array.mem_toList_iff.mpr he)
      have := hsort p hp
      obtain ⟨kk, vv⟩ := p
      cases kk <;> simp [Key.sort] at this
      obtain ⟨t', h2⟩ := h2
      exact ⟨_, by rw [h2]; simp [intKind, Value.isInt], h1⟩
    · have : es.findIdx? (fun e => (intKind P.prog P.w).is i e.key) = kvs.findIdx? (fun p => p.1 == Key.int i) := by
        obtain ⟨el⟩ := es
        rw [List.findIdx?_toArray]
        refine re.idx fun p e hp h1 h2 => ?_
        have := hsort p hp
        obtain ⟨kk, vv⟩ := p
        cases kk <;> simp [Key.sort] at this
        obtain ⟨t', h2⟩ := h2
        rw [h2]
        rename_i j
        by_cases q : j = i
        · subst q; simp [intKind, Value.isInt]
        · have q1 : (j == i) = false := beq_eq_false_iff_ne.mpr q
          have q2 : (Key.int j == Key.int i) = false := beq_eq_false_iff_ne.mpr fun e => q (Key.int.inj e)
          simp [intKind, Value.isInt, q1, q2]
      rw [this]; exact h
  | pair p q =>
    obtain ⟨c, rfl, ht⟩ := key_tuple (P := P) r
    obtain ⟨xs, h1, h2, h3⟩ := re.pairs (P := P) fun p hp => (hsort p hp).trans rfl
    have hlen : xs.length = kvs.length := by have := congrArg List.length h3; simpa using this
    have hnx : (xs.map (·.1)).Nodup := by
      rw [h3]
      have : kvs.map (fun p => pairOf p.1) = (kvs.map (·.1)).map pairOf := by simp
      rw [this]
      refine List.pairwise_map.mpr (List.Pairwise.imp_of_mem ?_ hn)
      intro x y hx hy hne e
      refine hne ?_
      obtain ⟨p1, hp1, rfl⟩ := List.mem_map.mp hx
      obtain ⟨p2, hp2, rfl⟩ := List.mem_map.mp hy
      have s1 := hsort p1 hp1
      have s2 := hsort p2 hp2
      obtain ⟨k1, _⟩ := p1
      obtain ⟨k2, _⟩ := p2
      cases k1 <;> simp [Key.sort] at s1
      cases k2 <;> simp [Key.sort] at s2
      simpa [pairOf] using e
    have hat : ∀ j : Nat, (∃ w, xs[j]? = some ([p, q], w)) ↔ ∃ w, kvs[j]? = some (Key.pair p q, w) := by
      intro j
      have e := congrArg (·[j]?) h3
      simp only [List.getElem?_map] at e
      constructor
      · rintro ⟨w, hw⟩
        rw [hw] at e
        cases hk : kvs[j]? with
        | none => rw [hk] at e; cases e
        | some y =>
          rw [hk] at e
          simp only [Option.map_some, Option.some.injEq] at e
          obtain ⟨k, w'⟩ := y
          have hs' := hsort _ (List.mem_of_getElem? hk)
          have := (pairOf_inj (a := p) (b := q) (hs'.trans rfl)).mp e.symm
          exact ⟨w', by simp at this; rw [this]⟩
      · rintro ⟨w, hw⟩
        rw [hw] at e
        cases hk : xs[j]? with
        | none => rw [hk] at e; cases e
        | some y =>
          rw [hk] at e
          simp only [Option.map_some, Option.some.injEq, pairOf] at e
          obtain ⟨k, w'⟩ := y
          simp at e
          exact ⟨w', by rw [e]⟩
    refine wpAny_dictFind_heap (knd := tupleKind (intKind P.prog P.w)) (k := [p, q]) hu ht ho hd h1 h2 hnx (fun hno => ?_) (fun j w hj => ?_)
    · have : kvs.findIdx? (fun y => y.1 == Key.pair p q) = none := by
        rw [List.findIdx?_eq_none_iff]
        intro y hy
        obtain ⟨j, hj, e⟩ := List.mem_iff_getElem.mp hy
        obtain ⟨k, w⟩ := y
        simp only [beq_eq_false_iff_ne, ne_eq]
        rintro rfl
        obtain ⟨w', hw'⟩ := (hat j).mpr ⟨w, by rw [List.getElem?_eq_getElem hj, e]⟩
        exact hno j w' hw'
      rw [this] at h; exact h
    · obtain ⟨w', hw'⟩ := (hat j).mp ⟨w, hj⟩
      rw [findIdx_of_nodup hn hw'] at h
      exact h
end
end Mine

namespace Mine
open PySem PySem.Spec PyProof.Rows PySem.SeqAt

section
variable {P : Par} {A : Around} {σ : Sg} {hp : AHeap} {s : Shared} {E : Value → Shared → Prop}

theorem find_lookup {k : Key} : ∀ (kvs : List (Key × AV)), (kvs.findIdx? (fun p => p.1 == k) = none ∧ kvs.lookup k = none) ∨ ∃ i v, kvs.findIdx? (fun p => p.1 == k) = some i ∧ kvs[i]? = some (k, v) ∧ kvs.lookup k = some v
  | [] => .inl ⟨rfl, rfl⟩
  | (k', v) :: r => by
    rw [List.findIdx?_cons, List.lookup_cons]
    by_cases h : k' = k
    · subst h
      exact .inr ⟨0, v, by simp, by simp, by simp⟩
    · have h1 : (k' == k) = false := beq_eq_false_iff_ne.mpr h
      have h2 : (k == k') = false := beq_eq_false_iff_ne.mpr fun e => h e.symm
      simp only [h1, h2, Bool.false_eq_true, if_false]
      rcases find_lookup r with ⟨e1, e2⟩ | ⟨i, w, e1, e2, e3⟩
      · exact .inl ⟨by rw [e1]; rfl, e2⟩
      · exact .inr ⟨i + 1, w, by rw [e1]; rfl, by simpa using e2, e3⟩

theorem St.isDict (S : St P.w P.B σ hp s.heap) {n : Nat} {kvs : List (Key × AV)} {ep : Nat} {a : Addr} {off : Nat} (e : hp[n]? = some (.dict kvs ep)) (hs : σ[n]? = some (a, off)) :
    ∃ es, ObjAt s.heap a (.type "dict") (.dict es (off + ep)) ∧ REs P.w P.B s.heap σ kvs es.toList ∧ (kvs.map (·.1)).Nodup ∧ (∀ p ∈ kvs, ∀ q ∈ kvs, p.1.sort = q.1.sort) ∧ kvs.length ≤ sizeLine :=
  S.obj n a off _ hs e

theorem St.notMods (S : St P.w P.B σ hp s.heap) (ok : P.Ok) {n : Nat} {a : Addr} {off : Nat} (hs : σ[n]? = some (a, off)) : (a == sysModules) = false := by
  refine beq_eq_false_iff_ne.mpr fun e => ?_
  obtain ⟨o, ho⟩ := ok.mods
  have := S.new _ (List.mem_of_getElem? hs)
  simp only at this
  rw [e, ho] at this
  cases this

theorem dictGet_prim (S : St P.w P.B σ hp s.heap) {j : Nat} {kvs : List (Key × AV)} {ep : Nat} {a : Addr} {off : Nat} (hj : hp[j]? = some (.dict kvs ep)) (hs : σ[j]? = some (a, off))
    {k : Key} {v : Value} (r : RV P.B s.heap σ k.av v) (hso : sortOk kvs k = true) (hu : A.units < cLine) :
    ∃ d, ∀ (E : Value → Shared → Prop) (Q : Option Value → Shared → Prop), (kvs.lookup k = none → Q none { s with toks := s.toks + d }) → (∀ x u, kvs.lookup k = some x → RV P.B s.heap σ x u → Q (some u) { s with toks := s.toks + d }) →
      wpAny (model P.prog P.w) A (dictGet a v) Q E s := by
  obtain ⟨es, ho, re, hn, _⟩ := S.isDict hj hs
  obtain ⟨d, hh⟩ := pyHash_prim (A := A) r hu
  refine ⟨d, fun E Q h1 h2 => ?_⟩
  unfold dictGet
  refine wpAny_holding (wpAny_bind (hh _ _ (wpAny_bind (dictFind_prim (s := { s with toks := s.toks + d }) ho rfl re hn r hso hu ?_))))
  rcases find_lookup (k := k) kvs with ⟨e1, e2⟩ | ⟨i, x, e1, e2, e3⟩
  · rw [e1]
    exact wpAny_pure (h1 e2)
  · rw [e1]
    refine wpAny_bind (wpAny_dictEntries (s := { s with toks := s.toks + d }) ho rfl ?_)
    obtain ⟨en, f1, f2, f3, f4⟩ := re.get e2
    rw [Array.getElem?_toList] at f1
    rw [f1]
    exact wpAny_pure (h2 x _ e3 f4)

theorem in_dict (ok : P.Ok) (S : St P.w P.B σ hp s.heap) {j : Nat} {kvs : List (Key × AV)} {ep : Nat} {a : Addr} {off : Nat} (hj : hp[j]? = some (.dict kvs ep)) (hs : σ[j]? = some (a, off))
    {k : Key} {v : Value} (r : RV P.B s.heap σ k.av v) (hso : sortOk kvs k = true) (hu : A.units + 1 < cLine) {Q : Bool → Shared → Prop} (h : ∀ d, Q (kvs.lookup k).isSome { s with toks := s.toks + d }) :
    wpAny (model P.prog P.w) A (contains (.ref a) v) Q E s := by
  obtain ⟨es, ho, re, hn, _⟩ := S.isDict hj hs
  have hT : s.TypeIs (.ref a) "dict" := ⟨_, ho, rfl⟩
  obtain ⟨d, hh⟩ := dictGet_prim (A := A.in1) S hj hs r hso (by simpa using hu)
  unfold contains
  try with_reducible refine wpAny_holding ?_
  refine wpAny_bind (wpAny_specialOf hT slot_dict_contains.lookup ?_)
  show wpAny _ _ (if (some (Value.builtin "dict.__contains__") == some Value.none) = true then _ else _) _ E s
  rw [if_neg (by rw [beq_builtin_none]; exact Bool.false_ne_true)]
  refine wpAny_bind (wpAny_callSpecialUnlessNone?_slot (name := Str.ofString "__contains__") hT slot_dict_contains
    (wpAny_call_entry slot_dict_contains hT entry_dict_contains ?_ (args_dict_contains _ _)))
  show wpAny _ _ (dictGet a v >>= _) _ _ s
  refine wpAny_bind (hh _ _ (fun e => ?_) (fun x u e rx => ?_))
  · show wpAny _ _ (Builtin.Dict.pendingKey? a v >>= _) _ _ _
    refine wpAny_bind (wpAny_pendingKey_other (S.notMods ok hs) (wpAny_pure ⟨_, rfl, wpAny_truthy_bool ?_⟩))
    have := h d
    rw [e] at this
    exact this
  · show wpAny _ _ (ret (.bool true)) _ _ _
    refine wpAny_pure ⟨_, rfl, wpAny_truthy_bool ?_⟩
    have := h d
    rw [e] at this
    exact this

theorem key_av {a : AV} {k : Key} (h : a.key? = some k) : a = k.av := by
  unfold AV.key? at h
  split at h
  · cases h; rfl
  · split at h
    · cases h; rfl
    · cases h
  · cases h

theorem getItem_dict (ok : P.Ok) (S : St P.w P.B σ hp s.heap) {j : Nat} {kvs : List (Key × AV)} {ep : Nat} {a : Addr} {off : Nat} (hj : hp[j]? = some (.dict kvs ep)) (hs : σ[j]? = some (a, off))
    {k : Key} {v : Value} (r : RV P.B s.heap σ k.av v) (hso : sortOk kvs k = true) (hu : A.units + 1 < cLine) {x : AV} (hx : kvs.lookup k = some x) {Q : Value → Shared → Prop} (h : ∀ d u, RV P.B s.heap σ x u → Q u { s with toks := s.toks + d }) :
    wpAny (model P.prog P.w) A (getItem (.ref a) v) Q E s := by
  obtain ⟨es, ho, re, hn, _⟩ := S.isDict hj hs
  have hT : s.TypeIs (.ref a) "dict" := ⟨_, ho, rfl⟩
  obtain ⟨d, hh⟩ := dictGet_prim (A := A.in1) S hj hs r hso (by simpa using hu)
  unfold getItem
  try with_reducible refine wpAny_holding ?_
  refine wpAny_bind (wpAny_sequenceKey hT (by decide) ?_)
  refine wpAny_bind (wpAny_callSpecial?_slot (name := Str.ofString "__getitem__") hT slot_dict_getitem
    (wpAny_call_entry slot_dict_getitem hT entry_dict_getitem ?_ (args_dict_getitem _ _)))
  show wpAny _ _ (dictGet a v >>= _) _ _ s
  refine wpAny_bind (hh _ _ (fun e => ?_) (fun x' u e rx => ?_))
  · rw [hx] at e; cases e
  · rw [hx] at e; cases e
    exact wpAny_pure ⟨u, rfl, wpAny_pure (h d u rx)⟩

theorem REs.setAt {w : World} {B : Bs} {h : Heap} {k : Key} {x : AV} {v : Value} (rv : RV B h σ x v) : ∀ {ps : List (Key × AV)} {es : List DictEntry}, REs w B h σ ps es → ∀ {i : Nat}, ps.findIdx? (fun p => p.1 == k) = some i → (ps.map (·.1)).Nodup →
    REs w B h σ (ps.map (fun p => if p.1 == k then (p.1, x) else p)) (es.modify i fun e => { e with val := v })
  | p :: ps, e :: es, r, i, hi, hn => by
    rw [List.findIdx?_cons] at hi
    rw [List.map_cons, List.nodup_cons] at hn
    by_cases h : p.1 == k
    · rw [if_pos h] at hi
      cases hi
      have hrest : ps.map (fun p => if p.1 == k then (p.1, x) else p) = ps := by
        conv => rhs; rw [← List.map_id ps]
        refine List.map_congr_left fun q hq => ?_
        have : (q.1 == k) = false := beq_eq_false_iff_ne.mpr fun e => hn.1 (by rw [eq_of_beq h, ← e]; exact List.mem_map_of_mem (f := (·.1)) hq)
        rw [if_neg (by rw [this]; simp)]; rfl
      rw [List.map_cons, if_pos h, hrest]
      exact ⟨⟨r.1.1, r.1.2.1, rv⟩, r.2⟩
    · rw [if_neg h] at hi
      cases hj : ps.findIdx? (fun p => p.1 == k) with
      | none => rw [hj] at hi; cases hi
      | some j =>
        rw [hj] at hi
        cases hi
        rw [List.map_cons, if_neg h]
        exact ⟨r.1, REs.setAt rv r.2 hj hn.2⟩
  | [], [], _, _, hi, _ => by cases hi
  | [], _ :: _, r, _, _, _ => r.elim
  | _ :: _, [], r, _, _, _ => r.elim

theorem map_put_keys {k : Key} {x : AV} (ps : List (Key × AV)) : (ps.map (fun p => if p.1 == k then (p.1, x) else p)).map (·.1) = ps.map (·.1) := by
  rw [List.map_map]
  refine List.map_congr_left fun q _ => ?_
  simp only [Function.comp]
  split <;> rfl

theorem any_eq_lookup {k : Key} (kvs : List (Key × AV)) : kvs.any (fun p => p.1 == k) = (kvs.lookup k).isSome := by
  induction kvs with
  | nil => rfl
  | cons p r ih =>
    obtain ⟨k', v⟩ := p
    rw [List.any_cons, List.lookup_cons, ih]
    by_cases h : k' = k
    · subst h; simp
    · have h1 : (k' == k) = false := beq_eq_false_iff_ne.mpr h
      have h2 : (k == k') = false := beq_eq_false_iff_ne.mpr fun e => h e.symm
      simp [h1, h2]

/-- a key is set: the object turns, and nothing else -/
theorem dictSet_prim (S : St P.w P.B σ hp s.heap) {j : Nat} {kvs : List (Key × AV)} {ep : Nat} {a : Addr} {off : Nat} (hj : hp[j]? = some (.dict kvs ep)) (hs : σ[j]? = some (a, off))
    {k : Key} {v : Value} (r : RV P.B s.heap σ k.av v) (hso : sortOk kvs k = true) (hu : A.units < cLine) (hsz : kvs.length < sizeLim) {x : AV} {u : Value} (rx : RV P.B s.heap σ x u) {Q : Unit → Shared → Prop}
    (h : ∀ s', After P σ σ [] (hp.set j (.dict (dictPut kvs k x) (if (kvs.lookup k).isSome then ep else ep + 1))) s s' → Q () s') :
    wpAny (model P.prog P.w) A (dictSet a v u) Q E s := by
  obtain ⟨es, ho, re, hn, hone, hle⟩ := S.isDict hj hs
  obtain ⟨d, hh⟩ := pyHash_prim (A := A) r hu
  have hlen := re.length.trans Array.length_toList
  unfold dictSet
  refine wpAny_holding (wpAny_bind (hh _ _ ?_))
  unfold dictSetHashed
  refine wpAny_holding (wpAny_bind (dictFind_prim (s := { s with toks := s.toks + d }) ho rfl re hn r hso hu ?_))
  rcases find_lookup (k := k) kvs with ⟨e1, e2⟩ | ⟨i, x', e1, e2, e3⟩
  · rw [e1]
    have hs' : Heap.SameBut a s.heap (s.heap.update a (Obj.mapDictKeys fun es => es.push ⟨keyHash k, v, u⟩)) := .update ..
    have hput : dictPut kvs k x = kvs ++ [(k, x)] := by unfold dictPut; rw [any_eq_lookup, e2]; rfl
    refine wpAny_bind (wpAny_rule (wpAny_updateDictKeys (s := { s with toks := s.toks + d }) ho rfl ?_ (hz := by have := sizeLim_le (Nat.le_of_lt hsz); omega)))
    obtain ⟨S', g⟩ := S.upd (X := []) hs hs' (.dict (dictPut kvs k x) (if (kvs.lookup k).isSome then ep else ep + 1)) (Heap.get?_update_self _ ho rfl) fun g => by
      refine ⟨es.push ⟨keyHash k, v, u⟩, ?_, ?_, ?_, ?_, ?_⟩
      · rw [e2]
        exact Heap.get?_update_self _ ho rfl
      · rw [hput, Array.toList_push]
        exact (re.grows g).append ⟨⟨rfl, RV.grows g _ _ r, RV.grows g _ _ rx⟩, trivial⟩
      · rw [hput, List.map_append, List.nodup_append]
        refine ⟨hn, by simp, fun y hy z hz e => ?_⟩
        simp at hz; subst hz; subst e
        obtain ⟨p, hp', rfl⟩ := List.mem_map.mp hy
        have := (List.findIdx?_eq_none_iff.mp e1) p hp'
        simp at this
      · rw [hput]
        have hk := sortOk_iff.mp hso
        have : ∀ p ∈ kvs ++ [(k, x)], p.1.sort = k.sort := fun p hp' => by
          rcases List.mem_append.mp hp' with hp' | hp'
          · exact hk p hp'
          · simp at hp'; subst hp'; rfl
        exact fun p hp' q hq => (this p hp').trans (this q hq).symm
      · rw [hput, List.length_append]
        have := sizeLim_le hsz
        simpa using this
    exact h _ ⟨rfl, S', g⟩
  · rw [e1]
    have hs' : Heap.SameBut a s.heap (s.heap.update a (Obj.mapDict fun es => es.modify i fun e => { e with val := u })) := .update ..
    have hput : dictPut kvs k x = kvs.map (fun p => if p.1 == k then (p.1, x) else p) := by unfold dictPut; rw [any_eq_lookup, e3]; rfl
    refine wpAny_bind (wpAny_rule (wpAny_bind (wpAny_updateDict (s := { s with toks := s.toks + d }) ho rfl (wpAny_point ?_) (hz := by simp))))
    obtain ⟨S', g⟩ := S.upd (X := []) hs hs' (.dict (dictPut kvs k x) (if (kvs.lookup k).isSome then ep else ep + 1)) (Heap.get?_update_self _ ho rfl) fun g => by
      refine ⟨es.modify i fun e => { e with val := u }, ?_, ?_, ?_, ?_, ?_⟩
      · rw [e3]
        exact Heap.get?_update_self _ ho rfl
      · rw [hput]
        have := REs.setAt (RV.grows g _ _ rx) (re.grows g) e1 hn
        obtain ⟨el⟩ := es
        simpa using this
      · rw [hput, map_put_keys]; exact hn
      · rw [hput]
        have hk := sortOk_iff.mp hso
        have : ∀ p ∈ kvs.map (fun p => if p.1 == k then (p.1, x) else p), p.1.sort = k.sort := fun p hp' => by
          obtain ⟨q, hq, rfl⟩ := List.mem_map.mp hp'
          split <;> exact hk q hq
        exact fun p hp' q hq => (this p hp').trans (this q hq).symm
      · rw [hput, List.length_map]; exact hle
    exact h _ ⟨rfl, S', g⟩

theorem setItem_dict (S : St P.w P.B σ hp s.heap) {j : Nat} {kvs : List (Key × AV)} {ep : Nat} {a : Addr} {off : Nat} (hj : hp[j]? = some (.dict kvs ep)) (hs : σ[j]? = some (a, off))
    {k : Key} {v : Value} (r : RV P.B s.heap σ k.av v) (hso : sortOk kvs k = true) (hu : A.units + 1 < cLine) (hsz : kvs.length < sizeLim) {x : AV} {u : Value} (rx : RV P.B s.heap σ x u) {Q : Unit → Shared → Prop}
    (h : ∀ s', After P σ σ [] (hp.set j (.dict (dictPut kvs k x) (if (kvs.lookup k).isSome then ep else ep + 1))) s s' → Q () s') :
    wpAny (model P.prog P.w) A (setItem (.ref a) v u) Q E s := by
  obtain ⟨es, ho, re, hn, _⟩ := S.isDict hj hs
  have hT : s.TypeIs (.ref a) "dict" := ⟨_, ho, rfl⟩
  unfold setItem
  try with_reducible refine wpAny_holding ?_
  refine wpAny_bind (wpAny_sequenceKey hT (by decide) ?_)
  refine wpAny_bind (wpAny_callSpecial?_slot (name := Str.ofString "__setitem__") hT slot_dict_setitem
    (wpAny_call_entry slot_dict_setitem hT entry_dict_setitem ?_ (args_dict_setitem _ _ _)))
  show wpAny _ _ (Builtin.Dict.notOrdered "__setitem__" ⟨[.ref a, v, u], []⟩ >>= _) _ _ s
  refine wpAny_bind (wpAny_notOrdered_dict hT ?_)
  show wpAny _ _ (dictSet a v u >>= _) _ _ s
  exact wpAny_bind (dictSet_prim (A := A.in1) S hj hs r hso (by simpa using hu) hsz rx fun s' a => wpAny_pure ⟨.none, rfl, wpAny_pure (h s' a)⟩)
end
end Mine

namespace Mine
open PySem PySem.Spec PyProof.Rows PySem.SeqAt

inductive QB (P : Par) (σ : Sg) (hp : AHeap) (s : Shared) (r : Option Bool) (c : Value) (s' : Shared) : Prop
  | mk (b : Bool) (e : c = .bool b) (er : r = some b) (a : After P σ σ [] hp s s')

section
variable {P : Par} {A : Around} {σ : Sg} {hp : AHeap} {s : Shared} {E : Value → Shared → Prop}

theorem inDict_is {kvs : List (Key × AV)} {o : Option Key} {r : Bool} (h : inDict kvs o = some r) : ∃ k, o = some k ∧ sortOk kvs k = true ∧ r = (kvs.lookup k).isSome := by
  unfold inDict at h
  split at h
  · split at h
    · rename_i hs; cases h; exact ⟨_, rfl, hs, rfl⟩
    · cases h
  · cases h
theorem isIn_or {a b : AV} {r : Bool} (h : isIn hp a b = some r) : (∃ xs, b = .tup xs ∧ findEq hp a xs = some r) ∨ (∃ j xs, b = .loc j ∧ hp[j]? = some (.list xs) ∧ findEq hp a xs = some r) ∨ ∃ j kvs ep, b = .loc j ∧ hp[j]? = some (.dict kvs ep) ∧ inDict kvs a.key? = some r := by
  unfold isIn at h
  split at h
  · exact .inl ⟨_, rfl, h⟩
  · split at h
    · rename_i o e
      split at h
      · exact .inr (.inl ⟨_, _, rfl, e, h⟩)
      · exact .inr (.inr ⟨_, _, _, rfl, e, h⟩)
    · cases h
  · cases h

theorem in_prim (ok : P.Ok) (S : St P.w P.B σ hp s.heap) {n : Nat} (ar : Arnd n A) {a b : AV} {v u : Value} {r : Bool} (ra : RV P.B s.heap σ a v) (rb : RV P.B s.heap σ b u) (h : isIn hp a b = some r) :
    wpAny (model P.prog P.w) A (compareOp .In v u) (QB P σ hp s (some r)) E s ∧ wpAny (model P.prog P.w) A (compareOp .NotIn v u) (QB P σ hp s (some (!r))) E s := by
  have hu : A.in1.units + eqFuel < cLine := by have := ar.units; show A.units + 1 + 6 < _; omega
  rcases isIn_or h with ⟨xs, rfl, h⟩ | ⟨j, xs, rfl, hj, h⟩ | ⟨j, kvs, ep, rfl, hj, h⟩
  · obtain ⟨c, ws, k, rfl, ob, rx⟩ := rb
    obtain ⟨e, h1, h2⟩ := eq_items S (A := A.in1) (findEq_spec h).1 rx ra hu
    have h3 := any_items h rx h2
    exact ⟨in_tupleAt e (isTuple_of ob) h1 ⟨r, by rw [h3], rfl, .refl S⟩, notIn_tupleAt e (isTuple_of ob) h1 ⟨!r, by rw [h3], rfl, .refl S⟩⟩
  · obtain ⟨c, o, rfl, e1⟩ := rb
    obtain ⟨ws, hl, rx⟩ := S.isList hj e1
    obtain ⟨e, h1, h2⟩ := eq_items S (A := A.in1) (findEq_spec h).1 rx ra hu
    have h3 := any_items h rx h2
    exact ⟨in_listAt e hl h1 ⟨r, by rw [h3], rfl, .refl S⟩, notIn_listAt e hl h1 ⟨!r, by rw [h3], rfl, .refl S⟩⟩
  · obtain ⟨c, o, rfl, e1⟩ := rb
    obtain ⟨k, hk, hso, rfl⟩ := inDict_is h
    have hu' : A.units + 1 < cLine := by have := ar.units; omega
    rw [key_av hk] at ra
    constructor
    · show wpAny _ _ (contains (Value.ref c) v >>= fun b => pure (Value.bool b)) _ _ _
      exact wpAny_bind (in_dict ok S hj e1 ra hso hu' fun d => wpAny_pure ⟨_, rfl, rfl, .tok S _⟩)
    · show wpAny _ _ (contains (Value.ref c) v >>= fun b => pure (Value.bool (!b))) _ _ _
      exact wpAny_bind (in_dict ok S hj e1 ra hso hu' fun d => wpAny_pure ⟨_, rfl, rfl, .tok S _⟩)

theorem ordAV_is {op : COp} {a b : AV} {r : Bool} (h : ordAV op a b = some r) : ∃ x y, a = .int x ∧ b = .int y ∧ cmpOrd op x y = some r := by
  unfold ordAV at h
  split at h
  · split at h
    · exact ⟨_, _, rfl, rfl, h⟩
    · cases h
  · cases h

theorem cmp_prim (ok : P.Ok) (S : St P.w P.B σ hp s.heap) {n : Nat} (ar : Arnd n A) {op : CmpOp} {cop : COp} {a b : AV} {v u : Value} {r : Bool} (hop : compCOp op = some cop) (ra : RV P.B s.heap σ a v) (rb : RV P.B s.heap σ b u) (h : cmpAV hp cop a b = some r) :
    wpAny (model P.prog P.w) A (compareOp op v u) (QB P σ hp s (some r)) E s := by
  have hu : A.units + eqFuel < cLine := by have := ar.units; show A.units + 6 < _; omega
  have ord : ∀ {o : COp}, ordAV o a b = some r → ∃ x y t t', v = .int x t ∧ u = .int y t' ∧ cmpOrd o x y = some r := fun h => by
    obtain ⟨x, y, rfl, rfl, h⟩ := ordAV_is h
    obtain ⟨t, rfl⟩ := ra; obtain ⟨t', rfl⟩ := rb
    exact ⟨x, y, t, t', rfl, rfl, h⟩
  cases op <;> (try exact none_ne hop) <;> cases hop
  · exact (eqv_at S _ _ _ _ A _ _ h ra rb hu).rc _ _ _ _ ⟨r, rfl, rfl, .refl S⟩
  · obtain ⟨k, he, rfl⟩ := Option.map_eq_some_iff.mp (show (eqv hp eqFuel a b).map not = some r from h)
    exact (eqv_at S _ _ _ _ A _ _ he ra rb hu).ne _ _ _ _ ⟨!k, rfl, rfl, .refl S⟩
  · obtain ⟨x, y, t, t', rfl, rfl, h⟩ := ord (o := .lt) h; cases h; exact PySem.P.lt_int ⟨_, rfl, rfl, .refl S⟩
  · obtain ⟨x, y, t, t', rfl, rfl, h⟩ := ord (o := .le) h; cases h; exact PySem.P.le_int ⟨_, rfl, rfl, .refl S⟩
  · obtain ⟨x, y, t, t', rfl, rfl, h⟩ := ord (o := .gt) h; cases h; exact PySem.P.gt_int ⟨_, rfl, rfl, .refl S⟩
  · obtain ⟨x, y, t, t', rfl, rfl, h⟩ := ord (o := .ge) h; cases h; exact PySem.P.ge_int ⟨_, rfl, rfl, .refl S⟩
  · exact (in_prim ok S ar ra rb h).1
  · obtain ⟨k, he, rfl⟩ := Option.map_eq_some_iff.mp (show (isIn hp a b).map not = some r from h)
    exact (in_prim ok S ar ra rb he).2
end
end Mine

namespace Mine
open PySem PySem.Spec PyProof.Rows PySem.SeqAt

section
variable {P : Par} {A : Around} {σ : Sg} {hp : AHeap} {s : Shared} {E : Value → Shared → Prop}

theorem lim_int {n : Nat} (h : n ≤ sizeLim) : (n : Int) < 2 ^ 63 := by have : sizeLim = 1048576 := rfl; omega
theorem line_int {n : Nat} (h : n ≤ sizeLine) : (n : Int) < 2 ^ 63 := by have : sizeLine = 16777216 := rfl; omega

theorem RIs.length : ∀ {xs : List Int} {vs : List Value}, RIs xs vs → xs.length = vs.length
  | [], [], _ => rfl
  | _ :: _, _ :: _, r => by simp [RIs.length r.2]
  | [], _ :: _, r => r.elim
  | _ :: _, [], r => r.elim
theorem RIs.rvs {B : Bs} {h : Heap} : ∀ {xs : List Int} {vs : List Value}, RIs xs vs → RVs B h σ (xs.map .int) vs
  | [], [], r => trivial
  | _ :: _, _ :: _, r => ⟨r.1, RIs.rvs r.2⟩
  | [], _ :: _, r => r.elim
  | _ :: _, [], r => r.elim

theorem len_dict_prim (ok : P.Ok) (S : St P.w P.B σ hp s.heap) {j : Nat} {kvs : List (Key × AV)} {ep : Nat} {a : Addr} {off : Nat} (hj : hp[j]? = some (.dict kvs ep)) (hs : σ[j]? = some (a, off)) {Q : Value → Shared → Prop}
    (h : ∀ t k, Q (.int kvs.length t) { s with toks := k }) : wpAny (model P.prog P.w) A (call (.builtin "len") [.ref a]) Q E s := by
  obtain ⟨es, ho, re, hn, hone, hle⟩ := S.isDict hj hs
  have hT : s.TypeIs (.ref a) "dict" := ⟨_, ho, rfl⟩
  have hlen := re.length.trans Array.length_toList
  have hfit := line_int hle
  refine Calls.call_function_entry kind_len plain_len entry_len (args_len1 _) ?_
  unfold Builtin.«len»
  refine wpAny_bind (m := oneArg "len" _) (wpAny_pure ?_)
  refine wpAny_bind (m := callSpecial? (.ref a) (Str.ofString "__len__")) (wpAny_callSpecial?_slot (name := Str.ofString "__len__") hT F.slot_dict_len
    (wpAny_call_entry F.slot_dict_len hT F.entry_dict_len ?_ (F.args_dict_len_1 _)))
  show wpAny _ _ (dictSize a >>= _) _ _ s
  unfold dictSize
  refine wpAny_bind (wpAny_bind (wpAny_dictEntries ho rfl (wpAny_pure ?_)))
  show wpAny _ _ (Builtin.Dict.pendingCount a >>= _) _ _ s
  refine wpAny_bind (wpAny_pendingCount_other (S.notMods ok hs) ?_)
  refine wpAny_ret_mkInt ?_
  rw [Nat.add_zero, ← hlen]
  refine wpAny_bind (wpAny_holding (wpAny_pure ?_))
  refine wpAny_bind (wpAny_letGo ?_)
  show wpAny _ _ (if ((kvs.length : Nat) : Int) < 0 then _ else _) _ _ _
  rw [if_neg (by omega)]
  show wpAny _ _ (if ((kvs.length : Nat) : Int) ≥ 2 ^ 63 then _ else _) _ _ _
  rw [if_neg (by omega)]
  exact wpAny_bind (wpAny_mkInt (wpAny_pure ⟨_, rfl, h _ _⟩))

theorem scr_list (S : St P.w P.B σ hp s.heap) {a : Addr} {items : Array Value} (h : P.B.h₀.IsList a items) : s.heap.IsList a items := by
  obtain ⟨o, ho, r⟩ := h
  exact ⟨o, S.base a o ho, r⟩

theorem lim_if {p : Prop} [Decidable p] {r : Res AV} (h : (if p then r else .bad) ≠ .bad) : p := Classical.byContradiction fun n => h (if_neg n)

theorem len_prim (ok : P.Ok) (S : St P.w P.B σ hp s.heap) {a : AV} {v : Value} (ra : RV P.B s.heap σ a v) (hb : lenAV a hp ≠ .bad) : wpAny (model P.prog P.w) A (call (.builtin "len") [v]) (QV P σ s (lenAV a hp)) E s := by
  unfold lenAV at hb ⊢
  split at hb
  · obtain ⟨a, ws, n, rfl, o, rx⟩ := ra
    have hsz := lim_if hb
    rw [if_pos hsz]
    have hl := rx.size
    have := lim_int hsz
    exact PySem.P.len_tuple o (by omega) ⟨_, _, _, rfl, .tok S _, s.toks + 1, by rw [hl]⟩
  · obtain ⟨a, items, rfl, hl, rx⟩ := ra
    have hsz := lim_if hb
    rw [if_pos hsz]
    have hx := rx.length.trans Array.length_toList
    have := lim_int hsz
    exact len_list (scr_list S hl) (by omega) ⟨_, _, _, rfl, .tok S _, s.toks + 1, by rw [hx]⟩
  · obtain ⟨a, o, rfl, e1⟩ := ra
    split at hb
    · rename_i oj hj
      skip
      split at hb
      · rename_i xs
        obtain ⟨ws, k, hl, rx⟩ := S.isL hj e1
        have hx := rx.size
        have := line_int (S.isLen hj e1)
        exact len_list (isList_of hl) (by omega) ⟨_, _, _, rfl, .tok S _, s.toks + 1, by rw [hx]⟩
      · exact len_dict_prim ok S hj e1 fun t k => ⟨_, _, _, rfl, .tok S _, _, rfl⟩
    · exact absurd rfl hb
  · exact absurd rfl hb

theorem idx_seq {α : Type} {xs : List α} {k : Int} {x : α} (h : idx? xs k = some x) : ∃ j, seqIndex? k xs.length = some j ∧ xs[j]? = some x ∧ -(xs.length : Int) ≤ k ∧ k < xs.length ∧ (0 ≤ k → j = k.toNat) ∧ (k < 0 → j = (k + xs.length).toNat) := by
  unfold idx? at h
  split at h
  · rename_i h0
    have hlt := (List.getElem?_eq_some_iff.mp h).1
    refine ⟨k.toNat, ?_, h, by omega, by omega, fun _ => rfl, fun h => by omega⟩
    unfold seqIndex?
    have h1 : ¬ k < 0 := by omega
    have h2 : k < (xs.length : Int) := by omega
    simp [h1, h0, h2]
  · split at h
    · rename_i h0 h1
      have hlt := (List.getElem?_eq_some_iff.mp h).1
      refine ⟨(k + xs.length).toNat, ?_, h, by omega, by omega, fun h => by omega, fun _ => rfl⟩
      unfold seqIndex?
      have h2 : k < 0 := by omega
      have h3 : k + (xs.length : Int) < (xs.length : Int) := by omega
      simp [h2, h1, h3]
    · cases h

theorem subI_is {xs : List AV} {i : AV} {x : AV} (h : subI xs (intOf i) = some x) : ∃ k, i = .int k ∧ xs.length ≤ sizeLim ∧ idx? xs k = some x := by
  unfold subI intOf at h
  split at h
  · rename_i k e
    split at e
    · cases e
      split at h
      · rename_i hs; exact ⟨_, rfl, hs, h⟩
      · cases h
    · cases e
  · cases h
theorem subD_is {kvs : List (Key × AV)} {o : Option Key} {x : AV} (h : subD kvs o = some x) : ∃ k, o = some k ∧ sortOk kvs k = true ∧ kvs.lookup k = some x := by
  unfold subD at h
  split at h
  · split at h
    · rename_i hs; exact ⟨_, rfl, hs, h⟩
    · cases h
  · cases h
theorem okO_is {o : Option AV} {h : AHeap} (hb : okO o h ≠ .bad) : ∃ v, o = some v := by
  cases o with
  | none => exact absurd rfl hb
  | some v => exact ⟨v, rfl⟩
/-- the kinds of things that are asked for an item -/
inductive SubK (hp : AHeap) (i : AV) : AV → AV → Prop
  | tup (xs : List AV) (x : AV) (h : subI xs (intOf i) = some x) : SubK hp i (.tup xs) x
  | scr (xs : List Int) (x : AV) (h : subI (xs.map .int) (intOf i) = some x) : SubK hp i (.scr xs) x
  | lst (j : Nat) (xs : List AV) (x : AV) (hj : hp[j]? = some (.list xs)) (h : subI xs (intOf i) = some x) : SubK hp i (.loc j) x
  | dct (j : Nat) (kvs : List (Key × AV)) (ep : Nat) (x : AV) (hj : hp[j]? = some (.dict kvs ep)) (h : subD kvs i.key? = some x) : SubK hp i (.loc j) x
theorem okO_eq {o : Option AV} {h : AHeap} (hb : okO o h ≠ .bad) : ∃ v, o = some v ∧ okO o h = .ok v h := by
  cases o with
  | none => exact absurd rfl hb
  | some v => exact ⟨v, rfl, rfl⟩
theorem sub_kind {a i : AV} {hp : AHeap} (hb : subAV a i hp ≠ .bad) : ∃ x, subAV a i hp = .ok x hp ∧ SubK hp i a x := by
  cases a
  case tup xs => obtain ⟨x, hx, e⟩ := okO_eq hb; exact ⟨x, e, .tup xs x hx⟩
  case scr xs => obtain ⟨x, hx, e⟩ := okO_eq hb; exact ⟨x, e, .scr xs x hx⟩
  case loc j =>
    delta subAV at hb ⊢
    dsimp only at hb ⊢
    cases hj : hp[j]? with
    | none => rw [hj] at hb; exact absurd rfl hb
    | some ob =>
      rw [hj] at hb
      cases ob with
      | list xs => obtain ⟨x, hx, e⟩ := okO_eq hb; exact ⟨x, e, .lst j xs x hj hx⟩
      | dict kvs ep => obtain ⟨x, hx, e⟩ := okO_eq hb; exact ⟨x, e, .dct j kvs ep x hj hx⟩
  all_goals exact absurd rfl hb

theorem getItem_listAt {xs : List AV} {k : Int} {t : Tok} {x : AV} {a : Addr} {ws : Array Value} (hl : s.heap.IsList a ws) (rx : RVs P.B s.heap σ xs ws.toList) (hsz : xs.length ≤ sizeLim) (hi : idx? xs k = some x) {Q : Value → Shared → Prop} (h : ∀ w, RV P.B s.heap σ x w → Q w s) :
    wpAny (model P.prog P.w) A (getItem (.ref a) (.int k t)) Q E s := by
  obtain ⟨i, h1, h2, h3, h4, h5, h6⟩ := idx_seq hi
  have hlen := rx.size
  obtain ⟨w, e, rw'⟩ := rx.get h2
  rw [Array.getElem?_toList] at e
  have := lim_int hsz
  by_cases h0 : 0 ≤ k
  · exact wpAny_getItem_list hl h0 (by omega) (by rw [← h5 h0]; exact e) (h w rw')
  · exact wpAny_getItem_list_neg hl (by omega) (by omega) (by omega) (by rw [← hlen, ← h6 (by omega)]; exact e) (h w rw')

theorem sub_prim (ok : P.Ok) (S : St P.w P.B σ hp s.heap) {n : Nat} (ar : Arnd n A) {a b : AV} {v u : Value} (ra : RV P.B s.heap σ a v) (rb : RV P.B s.heap σ b u) (hb : subAV a b hp ≠ .bad) : wpAny (model P.prog P.w) A (getItem v u) (QV P σ s (subAV a b hp)) E s := by
  obtain ⟨x, e, K⟩ := sub_kind hb
  rw [e]
  cases K with
  | tup xs x h =>
    obtain ⟨k, rfl, hsz, hi⟩ := subI_is h
    obtain ⟨a, ws, m, rfl, o, rx⟩ := ra
    obtain ⟨t, rfl⟩ := rb
    obtain ⟨j, h1, h2, h3, h4, _⟩ := idx_seq hi
    have hl := rx.size
    obtain ⟨w, e, rw'⟩ := rx.get h2
    rw [Array.getElem?_toList] at e
    have := lim_int hsz
    exact getItem_tuple (isTuple_of o) (by omega) (by omega) (by rw [← hl]; exact h1) e ⟨_, _, _, rfl, .refl S, rw'⟩
  | scr xs x h =>
    obtain ⟨k, rfl, hsz, hi⟩ := subI_is h
    obtain ⟨a, items, rfl, hl, rx⟩ := ra
    obtain ⟨t', rfl⟩ := rb
    exact getItem_listAt (scr_list S hl) rx.rvs hsz hi fun w rw' => ⟨_, _, _, rfl, .refl S, rw'⟩
  | lst j xs x hj h =>
    obtain ⟨k, rfl, hsz, hi⟩ := subI_is h
    obtain ⟨a, o, rfl, e1⟩ := ra
    obtain ⟨t', rfl⟩ := rb
    obtain ⟨ws, hl, rx⟩ := S.isList hj e1
    exact getItem_listAt hl rx hsz hi fun w rw' => ⟨_, _, _, rfl, .refl S, rw'⟩
  | dct j kvs ep x hj h =>
    obtain ⟨k, hk, hso, hx⟩ := subD_is h
    obtain ⟨a, o, rfl, e1⟩ := ra
    rw [key_av hk] at rb
    exact getItem_dict ok S hj e1 rb hso (by have := ar.units; omega) hx fun d w rw' => ⟨_, _, _, rfl, .tok S _, rw'⟩
end
end Mine

namespace Mine
open PySem PySem.Spec PyProof.Rows PySem.SeqAt

noncomputable def tyName : Ty → String
  | .int => "int" | .bool => "bool" | .tuple => "tuple" | .list => "list"

section
variable {P : Par} {A : Around} {σ : Sg} {hp : AHeap} {s : Shared} {E : Value → Shared → Prop}

theorem isi_prim (S : St P.w P.B σ hp s.heap) {a : AV} {v : Value} {t : Ty} {r : Bool} (ra : RV P.B s.heap σ a v) (h : isTy hp a t = some r) :
    wpAny (model P.prog P.w) A (call (.builtin "isinstance") [v, .type (tyName t)]) (QB P σ hp s (some r)) E s := by
  unfold isTy at h
  split at h
  · obtain ⟨_, rfl⟩ := ra
    split at h
    · cases h; exact IsiPair.int_int ⟨_, rfl, rfl, .refl S⟩
    · cases h; exact IsiPair.int_bool ⟨_, rfl, rfl, .tok S _⟩
    · cases h
  · obtain ⟨_, _, _, rfl, o, _⟩ := ra
    split at h
    · cases h; exact IsiPair.tuple_tuple o rfl ⟨_, rfl, rfl, .refl S⟩
    · cases h
  · obtain ⟨c, o, rfl, e1⟩ := ra
    split at h
    · obtain ⟨xs, hx, rfl⟩ := Option.map_eq_some_iff.mp h
      obtain ⟨ws, k, hl, _⟩ := S.isL (listAt_is hx) e1
      exact IsiPair.list_list hl rfl ⟨_, rfl, rfl, .refl S⟩
    · cases h
  · cases h

theorem range_or {as : List AV} {r : AV} (h : rangeOf as = some r) : (∃ b, as = [.int b] ∧ r = .rng 0 b 1) ∨ ∃ a b, as = [.int a, .int b, .int (-1)] ∧ r = .rng a b (-1) := by
  unfold rangeOf at h
  split at h
  · split at h
    · split at h
      · cases h; exact .inl ⟨_, rfl, rfl⟩
      · cases h
    · cases h
  · split at h
    · split at h
      · rename_i hs; obtain ⟨rfl, _⟩ := hs; cases h; exact .inr ⟨_, _, rfl, rfl⟩
      · cases h
    · cases h
  · cases h
theorem range_prim (S : St P.w P.B σ hp s.heap) {n : Nat} (ok : P.Ok) (ar : Arnd n A) {as : List AV} {vs : List Value} {r : AV} (ra : RVs P.B s.heap σ as vs) (h : rangeOf as = some r) :
    wpAny (model P.prog P.w) A (call (.type "range") vs) (QV P σ s (.ok r hp)) E s := by
  have push : ∀ (o : Obj) (k : Nat), After P σ σ [] hp s { s with heap := s.heap.push o, toks := k } := fun o k => ⟨rfl, S.push o, .push o⟩
  obtain ⟨f, outer, hf1, hf2, hf3, hf4, hf5⟩ := ar.frame
  have hroom : PylongRoom (model P.prog P.w) A s := PylongRoom.of (ok.noLimit S) (by have := ar.depth; show A.depth + 100 < recursionLimit; omega) (SeerAt.of (ok.noSeer S) ok.tree hf1 hf2 hf3 hf4 hf5)
  rcases range_or h with ⟨b, rfl, rfl⟩ | ⟨a, b, rfl, rfl⟩
  · obtain ⟨v, rfl, t, rfl⟩ := ra.one
    exact call_range_1 ⟨_, _, _, rfl, push _ _, _, _, _, _, rfl, IsRange.new ..⟩
  · obtain ⟨_, _, rfl, ⟨t, rfl⟩, ra2⟩ := ra.cons
    obtain ⟨_, _, rfl, ⟨t', rfl⟩, ra3⟩ := ra2.cons
    obtain ⟨_, rfl, t'', rfl⟩ := ra3.one
    exact call_range_3 (by decide) ⟨_, _, _, rfl, push _ _, _, _, _, _, rfl, IsRange.new ..⟩ (.inr hroom)

theorem append_prim (S : St P.w P.B σ hp s.heap) {j : Nat} {xs : List AV} {a : Addr} {off : Nat} (hj : hp[j]? = some (.list xs)) (e1 : σ[j]? = some (a, off)) (hsz : xs.length < sizeLim) {x : AV} {v : Value} (rx : RV P.B s.heap σ x v) :
    ∃ ws n, ws.size ≤ sizeLine ∧ IsL s.heap a ws n ∧ After P σ σ [] (hp.set j (.list (xs ++ [x]))) s { s with heap := s.heap.update a (Obj.mapSeq fun xs => xs.push v) } := by
  obtain ⟨ws, n, hl, r⟩ := S.isL hj e1
  have hlen := r.size
  have hs' : Heap.SameBut a s.heap (s.heap.update a (Obj.mapSeq fun xs => xs.push v)) := .update ..
  obtain ⟨S', g⟩ := S.upd (X := []) e1 hs' (.list (xs ++ [x])) (IsL.update hl _) fun g =>
    ⟨ws.push v, _, IsL.update hl _, by rw [Array.toList_push]; exact (RVs.grows g _ _ r).append ⟨RV.grows g _ _ rx, trivial⟩, by rw [List.length_append]; exact sizeLim_le hsz⟩
  exact ⟨ws, n, by have := sizeLim_le (Nat.le_of_lt hsz); omega, hl, rfl, S', g⟩


theorem After.setL (S : St P.w P.B σ hp s.heap) {j : Nat} {xs : List AV} {a : Addr} {off : Nat} (hj : hp[j]? = some (.list xs)) (e1 : σ[j]? = some (a, off)) {x : AV} {v : Value} (rx : RV P.B s.heap σ x v) {ws : Array Value} {h' : Heap} {i : Nat}
    (hw : s.heap.IsList a ws) (hl' : ∃ n, IsL h' a (ws.setIfInBounds i v) n) (hs : Heap.SameBut a s.heap h') : After P σ σ [] (hp.set j (.list (xs.set i x))) s { s with heap := h' } := by
  obtain ⟨us, n, hl, r⟩ := S.isL hj e1
  obtain ⟨o, ho, _, _, hd⟩ := hw
  have : us = ws := by have e := ho.symm.trans hl; cases e; cases hd; rfl
  subst this
  obtain ⟨n', hl'⟩ := hl'
  obtain ⟨S', g⟩ := S.upd (X := []) e1 hs (.list (xs.set i x)) hl' fun g =>
    ⟨us.setIfInBounds i v, n', hl', by
      rw [Array.toList_setIfInBounds]
      exact RVs.set (RV.grows g _ _ rx) (RVs.grows g _ _ r) i, by rw [List.length_set]; exact S.isLen hj e1⟩
  exact ⟨rfl, S', g⟩

theorem setL_is {n : Nat} {xs : List AV} {v : AV} {k : AV} {h' : AHeap} (h : setL hp n xs v (intOf k) = some h') : ∃ i j, k = .int i ∧ j < xs.length ∧ h' = hp.set n (.list (xs.set j v)) ∧ ((0 ≤ i ∧ j = i.toNat) ∨ (i < 0 ∧ j = (i + xs.length).toNat ∧ 0 ≤ i + xs.length)) := by
  unfold setL intOf at h
  split at h
  · rename_i i e
    split at e
    · cases e
      split at h
      · rename_i hi; cases h; exact ⟨_, _, rfl, by omega, rfl, .inl ⟨hi.1, rfl⟩⟩
      · split at h
        · rename_i hi; cases h; exact ⟨_, _, rfl, by omega, rfl, .inr ⟨hi.1, rfl, hi.2⟩⟩
        · cases h
    · cases e
  · cases h

theorem setItem_list_prim (S : St P.w P.B σ hp s.heap) {j : Nat} {xs : List AV} {a : Addr} {off : Nat} (hj : hp[j]? = some (.list xs)) (e1 : σ[j]? = some (a, off)) {k x : AV} {u v : Value} (ru : RV P.B s.heap σ k u) (rx : RV P.B s.heap σ x v) {h' : AHeap} (hset : setL hp j xs x (intOf k) = some h') {Q : Unit → Shared → Prop}
    (h : ∀ s', After P σ σ [] h' s s' → Q () s') : wpAny (model P.prog P.w) A (setItem (.ref a) u v) Q E s := by
  obtain ⟨z, i, rfl, hi, rfl, hz⟩ := setL_is hset
  obtain ⟨t, rfl⟩ := ru
  obtain ⟨ws, n, hl, r⟩ := S.isL hj e1
  have hlen := r.size
  have hfit := line_int (S.isLen hj e1)
  have hT : s.TypeIs (.ref a) "list" := ⟨_, hl, rfl⟩
  have hfi : Builtin.List.listFitsIndex z = true := by
    rcases hz with ⟨h0, rfl⟩ | ⟨h0, _, h1⟩
    · exact fitsIndex_of h0 (by omega)
    · exact fitsIndex_neg h0 (by omega)
  unfold setItem
  try with_reducible refine wpAny_holding ?_
  refine wpAny_bind (wpAny_sequenceKey hT (by decide) ?_)
  refine wpAny_bind (wpAny_callSpecial?_slot (name := Str.ofString "__setitem__") hT slot_list_setitem
    (wpAny_call_entry slot_list_setitem hT entry_list_setitem ?_ (args_list_setitem _ _ _)))
  show wpAny _ _ (Builtin.List.listSubscript? (.int z t) >>= _) _ _ s
  refine wpAny_bind (wpAny_listSubscript_int hfi ?_)
  have hiw : i < ws.size := hlen ▸ hi
  have hq : wpAny (model P.prog P.w) A.in1 (setSeqItemAt a i v >>= fun _ => ret .none) (fun fin s' => ∃ w, fin = .done (.ret w) ∧ wpAny (model P.prog P.w) A (pure ()) Q E s') E s :=
    wpAny_bind (wpAny_setSeqItemAt hl rfl (wpAny_pure ⟨.none, rfl, wpAny_pure (h _ (After.setL S hj e1 rx (isList_of hl) ⟨_, IsL.update hl _⟩ (.update ..)))⟩))
  clear hfi
  rcases hz with ⟨h0, rfl⟩ | ⟨h0, hi', h1⟩
  · obtain ⟨i, rfl⟩ := Int.eq_ofNat_of_zero_le h0
    show wpAny _ _ ((seqItemAt a i >>= fun r => pure (r.map (i, ·))) >>= _) _ _ s
    refine wpAny_bind (wpAny_bind (wpAny_seqItemAt hl rfl (wpAny_pure ?_)))
    have e : ws[i]? = some ws[i] := Array.getElem?_eq_getElem hiw
    rw [e]
    exact hq
  · have hidx := seqIndex_neg (n := ws.size) h0 (by omega)
    obtain ⟨q, rfl⟩ : ∃ q : Nat, z = Int.negSucc q := by
      cases z with
      | ofNat n => exact absurd h0 (Int.not_lt.mpr (Int.natCast_nonneg n))
      | negSucc n => exact ⟨n, rfl⟩
    show wpAny _ _ ((Builtin.List.listItems (.ref a) >>= fun xs => pure ((seqIndex? (Int.negSucc q) xs.size).bind fun i => xs[i]?.map (i, ·))) >>= _) _ _ s
    refine wpAny_bind (wpAny_bind ?_)
    show wpAny _ _ (seqItems? (.ref a) >>= _) _ _ s
    refine wpAny_bind (wpAny_seqItems hl rfl (wpAny_pure (wpAny_pure ?_)))
    rw [hlen] at hi'
    rw [hidx, ← hi', Option.bind_some, Array.getElem?_eq_getElem hiw, Option.map_some]
    exact hq
end
end Mine

namespace Mine
open PySem PySem.Spec PyProof.Rows PySem.SeqAt

section
variable {P : Par} {A : Around} {σ : Sg} {hp : AHeap} {s : Shared} {E : Value → Shared → Prop}

/-- a list that was made at a free place -/
theorem After.made (S : St P.w P.B σ hp s.heap) {h' : Heap} {t : Nat} {a : Addr} (hk : ∀ b o, s.heap.get? b = some o → h'.get? b = some o) (ha : s.heap.get? a = none) {ws : Array Value} {n : Nat} (ho : ObjAt h' a (.type "list") (.seq ws n))
    {vs : List AV} (hr : RVs P.B h' σ vs ws.toList) (hb : newList vs hp ≠ .bad) : QV P σ s (newList vs hp) (.ref a) { s with heap := h', toks := t } := by
  unfold newList at hb ⊢
  split at hb
  · rename_i hsz
    rw [if_pos hsz]
    have hn : a ∉ σ.map (·.1) := fun hm => by
      obtain ⟨p, hp, rfl⟩ := List.mem_map.mp hm
      obtain ⟨ob, e, _⟩ := S.there hp
      rw [ha] at e; cases e
    have hb0 : P.B.h₀.get? a = none := by
      cases e : P.B.h₀.get? a with
      | none => rfl
      | some o => rw [S.base a o e] at ha; cases ha
    have S' := (S.keep hk).adopt (off := 0) (ao := .list vs) hn hb0 fun k => ⟨ws, n, ho, RVs.mono (fun _ _ x _ => x) k _ _ hr, sizeLim_le hsz⟩
    refine ⟨_, _, _, rfl, ⟨rfl, S', (grows_keep hk).adopt ha⟩, a, 0, rfl, ?_⟩
    rw [← S.len]; exact List.getElem?_concat_length
  · exact absurd rfl hb

theorem list_prim (S : St P.w P.B σ hp s.heap) {j : Nat} {xs : List AV} {a : Addr} {off : Nat} (hj : hp[j]? = some (.list xs)) (e1 : σ[j]? = some (a, off)) (hb : newList xs hp ≠ .bad) :
    wpAny (model P.prog P.w) A (call (.type "list") [.ref a]) (QV P σ s (newList xs hp)) E s := by
  obtain ⟨ws, n, hl, r⟩ := S.isL hj e1
  have hlen := r.size
  have hle := S.isLen hj e1
  exact call_list_seq a (.inl rfl) hl rfl rfl (fun h' c' hk ho => After.made (t := s.toks) S hk (free_size _) ho (RVs.fixes (fun b o e _ => hk b o e) _ _ r) hb) (by omega)

theorem REs.ints {w : World} {B : Bs} {h : Heap} : ∀ {ps : List (Key × AV)} {es : List DictEntry} {is : List Int}, REs w B h σ ps es → intKeys ps = some is →
    ∃ kvs : List (Int × Value), Pairs (intKind P.prog P.w) es kvs ∧ kvs.map (·.1) = is ∧ ps.map (·.1) = is.map Key.int ∧ ∀ e ∈ es, ∃ k, (intKind P.prog P.w).is k e.key = true ∧ e.hash = (intKind P.prog P.w).hash k
  | [], [], is, _, h => by cases h; exact ⟨[], .nil, rfl, rfl, fun e he => nomatch he⟩
  | (k, v) :: ps, e :: es, is, r, h => by
    cases k with
    | pair a b => cases h
    | int i =>
      obtain ⟨js, hj, rfl⟩ := Option.map_eq_some_iff.mp (show (intKeys ps).map (i :: ·) = some is from h)
      obtain ⟨kvs, h1, h2, h3, h4⟩ := REs.ints r.2 hj
      obtain ⟨t, hk⟩ := r.1.2.1
      have hi : (intKind P.prog P.w).is i e.key = true := by rw [hk]; simp [intKind, Value.isInt]
      refine ⟨(i, e.val) :: kvs, .cons hi rfl h1, by rw [List.map_cons, h2], by rw [List.map_cons, h3]; rfl, fun e' he => ?_⟩
      rcases List.mem_cons.mp he with rfl | he
      · exact ⟨i, hi, r.1.1⟩
      · exact h4 e' he
  | [], _ :: _, _, r, _ => r.elim
  | _ :: _, [], _, r, _ => r.elim

theorem ints_of : ∀ {vs : List Value} {is : List Int}, vs.length = is.length → (∀ (j : Nat) v, vs[j]? = some v → ∃ i t, is[j]? = some i ∧ v = .int i t) → IntsAre vs is
  | [], [], _, _ => .nil
  | v :: vs, i :: is, hl, h => by
    obtain ⟨k, t, h1, rfl⟩ := h 0 v rfl
    cases h1
    exact .cons _ t (ints_of (Nat.succ.inj hl) fun j v hv => h (j + 1) v hv)
  | [], _ :: _, hl, _ => nomatch hl
  | _ :: _, [], hl, _ => nomatch hl
theorem ris_of : ∀ {vs : List Value} {xs : List Int}, IntsAre vs xs → RIs xs vs
  | _, _, .nil => trivial
  | _, _, .cons n t r => ⟨⟨t, rfl⟩, ris_of r⟩

theorem sorted_prim (ok : P.Ok) (S : St P.w P.B σ hp s.heap) (hh : A.handled = none) {j : Nat} {kvs : List (Key × AV)} {ep : Nat} {a : Addr} {off : Nat} (hj : hp[j]? = some (.dict kvs ep)) (e1 : σ[j]? = some (a, off)) {is : List Int} (hi : intKeys kvs = some is) (h64 : is.length < 64)
    (hb : newList ((is.mergeSort fun a b => decide (a ≤ b)).map .int) hp ≠ .bad) :
    wpAny (model P.prog P.w) A (call (.builtin "sorted") [.ref a]) (QV P σ s (newList ((is.mergeSort fun a b => decide (a ≤ b)).map .int) hp)) E s := by
  obtain ⟨es, ho, re, hnd, hone, hle⟩ := S.isDict hj e1
  obtain ⟨kv, h1, h2, h3, h4⟩ := REs.ints (P := P) re hi
  have hndi : (kv.map (·.1)).Nodup := by
    rw [h2]
    rw [h3] at hnd
    exact List.Pairwise.of_map Key.int (fun x y hne e => hne (congrArg Key.int e)) hnd
  have hD : s.heap.DictAt (intKind P.prog P.w) a kv (off + ep) := ⟨_, es, ho, ⟨rfl, rfl, rfl⟩, rfl, fun e he => h4 e (Array.mem_toList_iff.mpr he), h1, hndi⟩
  have hkl : kv.length = is.length := by rw [← h2, List.length_map]
  refine Calls.call_function_entry kind_sorted plain_sorted entry_sorted (args_sorted1 _) ?_
  unfold Builtin.«sorted»
  refine wpAny_bind (m := checkCount "sorted" 1 1 _) (wpAny_pure ?_)
  refine wpAny_bind (W.kdu_collect (A := A.in1) (W.kdl_dict (knd := intKind P.prog P.w) (kvs := kv) (ep := off + ep) (S.notMods ok e1)) hh hD (by rw [hkl]; show _ ≤ 16777216; omega) fun h' tk acc hk hacc => ?_)
  have hI : IntsAre acc.toList is := ints_of (by rw [Array.length_toList, hacc.1, hkl]) fun i v hv => by
    rw [Array.getElem?_toList] at hv
    obtain ⟨k, x, hx, hv'⟩ := hacc.2 i v hv
    obtain ⟨t, rfl⟩ := Value.isInt_shape hv'
    exact ⟨k, t, by rw [← h2, List.getElem?_map, hx]; rfl, rfl⟩
  have hal : acc.toList.length < 64 := by rw [Array.length_toList, hacc.1, hkl]; exact h64
  refine wpAny_bind (wpAny_newList ?_ (by show _ ≤ 16777216; omega))
  have hoL : (h'.push (seqObj "list" acc.toList.toArray 0)).get? h'.objs.size = some (seqObj "list" acc.toList.toArray 0) := Heap.get?_push_size _ rfl
  refine wpAny_bind (wpAny_holding (wpAny_call_entry slot_list_sort ⟨_, hoL, rfl⟩ entry_list_sort (list_sort_tree hoL hI hal fun out ns' a1 a2 a3 => ⟨_, rfl, ?_⟩) (args_list_sort _)))
  refine wpAny_pure ⟨_, rfl, ?_⟩
  have hns : ns' = is.mergeSort fun a b => decide (a ≤ b) := by
    refine List.Perm.eq_of_pairwise (le := (· ≤ ·)) (fun x y _ _ h1 h2 => Int.le_antisymm h1 h2) a3 ?_ (a2.trans (List.mergeSort_perm _ _).symm)
    have hs : (is.mergeSort fun a b => decide (a ≤ b)).Pairwise (fun a b => decide (a ≤ b) = true) := List.pairwise_mergeSort (le := fun a b : Int => decide (a ≤ b)) (fun a b c h1 h2 => decide_eq_true (Int.le_trans (of_decide_eq_true h1) (of_decide_eq_true h2))) (fun a b => by simp only [Bool.or_eq_true, decide_eq_true_eq]; omega) is
    exact hs.imp fun h => of_decide_eq_true h
  subst hns
  have hnew : s.heap.get? h'.objs.size = none := by
    cases e : s.heap.get? h'.objs.size with
    | none => rfl
    | some o => have := hk _ o e; rw [free_size] at this; cases this
  have hkeep : ∀ b o, s.heap.get? b = some o → (sortedHeap (h'.push (seqObj "list" acc.toList.toArray 0)) h'.objs.size acc.toList out).get? b = some o := fun b o e => by
    have hlt := Heap.lt_size (hk b o e)
    rw [sortedHeap_old (Nat.ne_of_lt hlt) (by rw [push_size]; exact Nat.lt_succ_of_lt hlt)]
    exact Heap.get?_push_of_some _ (hk b o e)
  obtain ⟨e, he⟩ := sortedHeap_at (out := out) hoL
  exact After.made (t := tk) S hkeep hnew he ((ris_of a1).rvs) hb
end
end Mine

namespace Mine
open PySem PySem.Spec PyProof.Rows PySem.SeqAt

section
variable {P : Par}

theorem seqV {γ : Type} {A : Around} {σ₀ σ : Sg} {s₀ s : Shared} {hp : AHeap} {m : Sem Value} {r : Res AV} {f : AV → AHeap → Res γ} {G : Res γ → Value → Shared → Prop} (a₀ : After P σ₀ σ [] hp s₀ s)
    (h : wpAny (model P.prog P.w) A m (QV P σ s r) NE s) (hb : r.bind f ≠ .bad)
    (hk : ∀ av hp' σ' v s', After P σ₀ σ' [] hp' s₀ s' → After P σ σ' [] hp' s s' → RV P.B s'.heap σ' av v → f av hp' ≠ .bad → G (f av hp') v s') :
    wpAny (model P.prog P.w) A m (G (r.bind f)) NE s :=
  wpAny_mono h (fun v s' ⟨av, hp', σ', e, a, rv⟩ => by subst e; exact hk av hp' σ' v s' (a₀.trans a) a rv hb) (fun _ _ q => q)

theorem seqVs {γ : Type} {A : Around} {σ₀ σ : Sg} {s₀ s : Shared} {hp : AHeap} {m : Sem (List Value)} {r : Res (List AV)} {f : List AV → AHeap → Res γ} {G : Res γ → List Value → Shared → Prop} (a₀ : After P σ₀ σ [] hp s₀ s)
    (h : wpAny (model P.prog P.w) A m (QVs P σ s r) NE s) (hb : r.bind f ≠ .bad)
    (hk : ∀ av hp' σ' v s', After P σ₀ σ' [] hp' s₀ s' → After P σ σ' [] hp' s s' → RVs P.B s'.heap σ' av v → f av hp' ≠ .bad → G (f av hp') v s') :
    wpAny (model P.prog P.w) A m (G (r.bind f)) NE s :=
  wpAny_mono h (fun v s' ⟨av, hp', σ', e, a, rv⟩ => by subst e; exact hk av hp' σ' v s' (a₀.trans a) a rv hb) (fun _ _ q => q)

theorem boolO_is {o : Option Bool} {h : AHeap} (hb : boolO o h ≠ .bad) : ∃ b, o = some b := by
  cases o with
  | none => exact absurd rfl hb
  | some b => exact ⟨b, rfl⟩
theorem condV_is {v : AV} {x y : Res AV} (hb : condV v x y ≠ .bad) : ∃ b, v = .bool b := by
  unfold condV at hb
  split at hb
  · exact ⟨_, rfl⟩
  · exact absurd rfl hb

variable {cx : Cx}

theorem sim_bin {l r : Expr} {op : Operator} {bop : BOp} {xl xr : X} {pos : Pos} (hop : compBOp op = some bop) (hl : SimE P cx l xl) (hr : SimE P cx r xr) : SimE P cx (.BinOp l op r pos) (.bin bop xl xr) := by
  intro c n env A σ loc hp s C I hb
  rw [x_bin] at hb ⊢
  refine wpAny_BinOp (seqV (G := fun R a s₁ => wpAny (model P.prog P.w) A (eval r env) (fun b s₂ => wpAny (model P.prog P.w) A (binaryOp op a b) (QV P σ s R) NE s₂) NE s₁) (.refl I.st) (hl c n env A σ loc hp s C I (bind_ok hb)) hb ?_)
  intro av hp₁ σ₁ v s₁ a₁ _ rv hb
  have I₁ := I.after a₁
  refine seqV (G := fun R b s₂ => wpAny (model P.prog P.w) A (binaryOp op v b) (QV P σ s R) NE s₂) a₁ (hr c n env A σ₁ loc hp₁ s₁ C I₁ (bind_ok hb)) hb ?_
  intro bv hp₂ σ₂ u s₂ a₂ a₁₂ ru hb
  exact wpAny_mono (bin_prim C.ok a₂.st I.ar hop (RV.grows a₁₂.gr _ _ rv) ru hb) (fun _ _ q => q.lift a₂) (fun _ _ q => q)

theorem sim_neg {x : Expr} {xx : X} {pos : Pos} (hx : SimE P cx x xx) : SimE P cx (.UnaryOp .USub x pos) (.neg xx) := by
  intro c n env A σ loc hp s C I hb
  rw [x_neg] at hb ⊢
  refine wpAny_UnaryOp (seqV (G := fun R a s₁ => wpAny (model P.prog P.w) A (unaryOp .USub a) (QV P σ s R) NE s₁) (.refl I.st) (hx c n env A σ loc hp s C I (bind_ok hb)) hb ?_)
  intro av hp₁ σ₁ v s₁ a₁ _ rv hb
  obtain ⟨i, rfl⟩ : ∃ i, av = .int i := by
    unfold negAV at hb
    split at hb
    · exact ⟨_, rfl⟩
    · exact absurd rfl hb
  obtain ⟨t, rfl⟩ := rv
  exact PySem.P.neg_int (QV.lift a₁ ⟨_, _, _, rfl, .tok a₁.st _, _, rfl⟩)

theorem sim_not {x : Expr} {xx : X} {pos : Pos} (hx : SimE P cx x xx) : SimE P cx (.UnaryOp .Not x pos) (.not xx) := by
  intro c n env A σ loc hp s C I hb
  rw [x_not] at hb ⊢
  refine wpAny_UnaryOp (seqV (G := fun R a s₁ => wpAny (model P.prog P.w) A (unaryOp .Not a) (QV P σ s R) NE s₁) (.refl I.st) (hx c n env A σ loc hp s C I (bind_ok hb)) hb ?_)
  intro av hp₁ σ₁ v s₁ a₁ _ rv hb
  obtain ⟨b, rfl⟩ : ∃ b, av = .bool b := by
    unfold notAV at hb
    split at hb
    · exact ⟨_, rfl⟩
    · exact absurd rfl hb
  cases (show v = .bool b from rv)
  exact not_value (wpAny_truthy_bool (QV.lift a₁ ⟨_, _, _, rfl, .refl a₁.st, rfl⟩))

noncomputable def SimB (P : Par) (cx : Cx) (op : BoolOp) (es : List Expr) (x : X) : Prop :=
  ∀ c n env A σ l hp s pos, Sims P cx c n → Inv P cx n env A σ l hp s → evalX c x l hp ≠ .bad →
    wpAny (model P.prog P.w) A (boolOp pos op (evalEach es env)) (QV P σ s (evalX c x l hp)) NE s

theorem sim_boolop {op : BoolOp} {es : List Expr} {x : X} {pos : Pos} (h : SimB P cx op es x) : SimE P cx (.BoolOp op es pos) x := by
  intro c n env A σ loc hp s C I hb
  rw [arm_eval_BoolOp]
  exact h c n env A σ loc hp s pos C I hb
theorem simB_one {op : BoolOp} {e : Expr} {x : X} (h : SimE P cx e x) : SimB P cx op [e] x := by
  intro c n env A σ loc hp s pos C I hb
  exact h c n env A σ loc hp s C I hb
theorem simB_and {e e' : Expr} {es : List Expr} {x y : X} (h : SimE P cx e x) (hr : SimB P cx .And (e' :: es) y) : SimB P cx .And (e :: e' :: es) (.and x y) := by
  intro c n env A σ loc hp s pos C I hb
  rw [x_and] at hb ⊢
  show wpAny _ _ (eval e env >>= fun v => standAt pos >>= fun _ => holding [v] (truthy v) >>= fun t => match BoolOp.And, t with | .And, false | .Or, true => pure v | _, _ => boolOp pos .And (evalEach (e' :: es) env)) _ _ _
  refine wpAny_bind (seqV (G := fun R v s₁ => wpAny (model P.prog P.w) A (standAt pos >>= fun _ => holding [v] (truthy v) >>= fun t => match BoolOp.And, t with | .And, false | .Or, true => pure v | _, _ => boolOp pos .And (evalEach (e' :: es) env)) (QV P σ s R) NE s₁) (.refl I.st) (h c n env A σ loc hp s C I (bind_ok hb)) hb ?_)
  intro av hp₁ σ₁ v s₁ a₁ _ rv hb
  obtain ⟨b, rfl⟩ := condV_is hb
  cases (show v = .bool b from rv)
  refine wpAny_bind (wpAny_standAt (wpAny_bind (wpAny_holding (wpAny_truthy_bool ?_))))
  cases b with
  | false => exact wpAny_pure (QV.lift a₁ ⟨_, _, _, rfl, .refl a₁.st, rfl⟩)
  | true => exact wpAny_mono (hr c n env A σ₁ loc hp₁ s₁ pos C (I.after a₁) hb) (fun _ _ q => q.lift a₁) (fun _ _ q => q)
theorem simB_or {e e' : Expr} {es : List Expr} {x y : X} (h : SimE P cx e x) (hr : SimB P cx .Or (e' :: es) y) : SimB P cx .Or (e :: e' :: es) (.or x y) := by
  intro c n env A σ loc hp s pos C I hb
  rw [x_or] at hb ⊢
  show wpAny _ _ (eval e env >>= fun v => standAt pos >>= fun _ => holding [v] (truthy v) >>= fun t => match BoolOp.Or, t with | .And, false | .Or, true => pure v | _, _ => boolOp pos .Or (evalEach (e' :: es) env)) _ _ _
  refine wpAny_bind (seqV (G := fun R v s₁ => wpAny (model P.prog P.w) A (standAt pos >>= fun _ => holding [v] (truthy v) >>= fun t => match BoolOp.Or, t with | .And, false | .Or, true => pure v | _, _ => boolOp pos .Or (evalEach (e' :: es) env)) (QV P σ s R) NE s₁) (.refl I.st) (h c n env A σ loc hp s C I (bind_ok hb)) hb ?_)
  intro av hp₁ σ₁ v s₁ a₁ _ rv hb
  obtain ⟨b, rfl⟩ := condV_is hb
  cases (show v = .bool b from rv)
  refine wpAny_bind (wpAny_standAt (wpAny_bind (wpAny_holding (wpAny_truthy_bool ?_))))
  cases b with
  | true => exact wpAny_pure (QV.lift a₁ ⟨_, _, _, rfl, .refl a₁.st, rfl⟩)
  | false => exact wpAny_mono (hr c n env A σ₁ loc hp₁ s₁ pos C (I.after a₁) hb) (fun _ _ q => q.lift a₁) (fun _ _ q => q)

theorem notMarks {op : CmpOp} {r : Expr} {x : X} {k : Nat} (h : compE k cx r = some x) : behindInMarks op r = false := by
  unfold behindInMarks
  split
  · cases k <;> cases h
  · rfl

theorem sim_cmp {l r : Expr} {op : CmpOp} {cop : COp} {xl xr : X} {pos : Pos} (hop : compCOp op = some cop) (hm : behindInMarks op r = false) (hl : SimE P cx l xl) (hr : SimE P cx r xr) : SimE P cx (.Compare l [op] [r] pos) (.cmp cop xl xr) := by
  intro c n env A σ loc hp s C I hb
  rw [x_cmp] at hb ⊢
  refine wpAny_Compare1 (seqV (G := fun R a s₁ => wpAny (model P.prog P.w) A (eval r env) (fun b s₂ => wpAny (model P.prog P.w) A (compareOp op a b) (QV P σ s R) NE s₂) NE s₁) (.refl I.st) (hl c n env A σ loc hp s C I (bind_ok hb)) hb ?_) hm
  intro av hp₁ σ₁ v s₁ a₁ _ rv hb
  have I₁ := I.after a₁
  refine seqV (G := fun R b s₂ => wpAny (model P.prog P.w) A (compareOp op v b) (QV P σ s R) NE s₂) a₁ (hr c n env A σ₁ loc hp₁ s₁ C I₁ (bind_ok hb)) hb ?_
  intro bv hp₂ σ₂ u s₂ a₂ a₁₂ ru hb
  obtain ⟨k, hc⟩ := boolO_is hb
  rw [hc]
  refine wpAny_mono (cmp_prim C.ok a₂.st I.ar hop (RV.grows a₁₂.gr _ _ rv) ru hc) (fun w s₃ q => ?_) (fun _ _ q => q)
  obtain ⟨b, rfl, e, a₃⟩ := q
  cases e
  exact ⟨_, _, _, rfl, a₂.trans a₃, rfl⟩
end
end Mine

namespace Mine
open PySem PySem.Spec PyProof.Rows PySem.SeqAt

theorem not_starred {cx : Cx} {e : Expr} {x : X} {k : Nat} (h : compE k cx e = some x) : ∀ env rest, starEach (e :: rest) env = (false, eval e env) :: starEach rest env := by
  intro env rest
  cases k with
  | zero => cases h
  | succ k => cases e <;> first | rfl | (cases h)

section
variable {P : Par} {cx : Cx}

theorem simEs_nil : SimEs P cx [] .nil := by
  intro c n env A σ loc hp s pos C I hb
  exact wpAny_items_nil ⟨[], hp, σ, rfl, .refl I.st, trivial⟩
theorem simEs_cons {e : Expr} {es : List Expr} {x : X} {xs : Xs} (hs : ∀ env rest, starEach (e :: rest) env = (false, eval e env) :: starEach rest env) (h : SimE P cx e x) (hr : SimEs P cx es xs) : SimEs P cx (e :: es) (.cons x xs) := by
  intro c n env A σ loc hp s pos C I hb
  rw [xs_cons] at hb ⊢
  refine wpAny_items_cons (seqV (G := fun R v s₁ => wpAny (model P.prog P.w) A (spliced (backTo pos (starEach es env))) (fun vs s₂ => QVs P σ s R (v :: vs) s₂) NE s₁) (.refl I.st) (h c n env A σ loc hp s C I (bind_ok hb)) hb ?_) (hs env es)
  intro av hp₁ σ₁ v s₁ a₁ _ rv hb
  refine seqVs (G := fun R vs s₂ => QVs P σ s R (v :: vs) s₂) a₁ (hr c n env A σ₁ loc hp₁ s₁ pos C (I.after a₁) (bind_ok hb)) hb ?_
  intro avs hp₂ σ₂ vs s₂ a₂ a₁₂ rvs hb
  exact ⟨_, _, _, rfl, a₂, RV.grows a₁₂.gr _ _ rv, rvs⟩

theorem sim_tup {es : List Expr} {xs : Xs} {k : Nat} {pos : Pos} (h : SimEs P cx es xs) : SimE P cx (.Tuple es k pos) (.tup xs) := by
  intro c n env A σ loc hp s C I hb
  rw [x_tup] at hb ⊢
  refine wpAny_Tuple (seqVs (G := fun R vs s₁ => vs.length ≤ sizeLine ∧ QV P σ s R (.ref s₁.heap.objs.size) { s₁ with heap := s₁.heap.push { cls := .type "tuple", data := .seq vs.toArray } }) (.refl I.st) (h c n env A σ loc hp s pos C I (bind_ok hb)) hb ?_)
  intro avs hp₁ σ₁ vs s₁ a₁ _ rv hb
  have hl := rv.length
  split at hb
  · rename_i hsz
    rw [if_pos hsz]
    have S₂ := a₁.st.push { cls := .type "tuple", data := .seq vs.toArray }
    have g₂ : Grows σ₁ σ₁ [] s₁.heap (s₁.heap.push { cls := .type "tuple", data := .seq vs.toArray }) := .push _
    exact ⟨hl ▸ sizeLim_le hsz, _, _, _, rfl, a₁.trans ⟨rfl, S₂, g₂⟩, s₁.heap.objs.size, vs.toArray, 0, rfl, Heap.get?_push_size _ rfl, RVs.grows g₂ _ _ rv⟩
  · exact absurd rfl hb

theorem sim_list {es : List Expr} {xs : Xs} {pos : Pos} (h : SimEs P cx es xs) : SimE P cx (.List es pos) (.list xs) := by
  intro c n env A σ loc hp s C I hb
  rw [x_list] at hb ⊢
  refine wpAny_List (seqVs (G := fun R vs s₁ => vs.length ≤ sizeLine ∧ QV P σ s R (.ref s₁.heap.objs.size) { s₁ with heap := s₁.heap.push { cls := .type "list", data := .seq vs.toArray } }) (.refl I.st) (h c n env A σ loc hp s pos C I (bind_ok hb)) hb ?_)
  intro avs hp₁ σ₁ vs s₁ a₁ _ rv hb
  obtain ⟨h1, h2⟩ := qv_newList (ws := vs.toArray) a₁.st rv hb
  exact ⟨by simpa using h1, h2.lift a₁⟩

theorem list_type {σ : Sg} {hp : AHeap} {s : Shared} (S : St P.w P.B σ hp s.heap) {j : Nat} {xs : List AV} {v : Value} (ra : RV P.B s.heap σ (.loc j) v) (hj : hp[j]? = some (.list xs)) : s.TypeIs v "list" := by
  obtain ⟨b, o, rfl, e1⟩ := ra
  obtain ⟨ws, hl, _⟩ := S.isList hj e1
  exact hl.typeIs
/-- the types whose items are looked at -/
theorem rv_type {σ : Sg} {hp : AHeap} {s : Shared} (S : St P.w P.B σ hp s.heap) {a i : AV} {v : Value} (ra : RV P.B s.heap σ a v) (hb : subAV a i hp ≠ .bad) :
    ∃ T id, s.TypeIs v T ∧ typeLookup (.type T) "__getitem__" = pure (some (.builtin id)) := by
  obtain ⟨x, _, K⟩ := sub_kind hb
  cases K with
  | tup => obtain ⟨b, ws, k, rfl, o, _⟩ := ra; exact ⟨"tuple", _, ⟨_, o, rfl⟩, F.slot_tuple_getitem.lookup⟩
  | scr => obtain ⟨b, items, rfl, hl, _⟩ := ra; exact ⟨"list", _, (scr_list S hl).typeIs, slot_list_getitem.lookup⟩
  | lst j xs x hj => exact ⟨"list", _, list_type S ra hj, slot_list_getitem.lookup⟩
  | dct j kvs ep x hj =>
    obtain ⟨b, o, rfl, e1⟩ := ra
    obtain ⟨es, hl, _⟩ := S.isDict hj e1
    exact ⟨"dict", _, ⟨_, hl, rfl⟩, slot_dict_getitem.lookup⟩

theorem subs_is (slice : Expr) (o i : Value) : ∃ l, subscripted slice false o i = operate l (getItem o i) := by
  cases slice
  case Slice lo hi st p => cases st <;> exact ⟨_, rfl⟩
  all_goals exact ⟨_, rfl⟩
theorem sub_tail {A : Around} {E : Value → Shared → Prop} {s : Shared} {value slice : Expr} {o i : Value} {T id : String} {Q : Value → Shared → Prop} (hT : s.TypeIs o T)
    (hl : typeLookup (.type T) "__getitem__" = pure (some (.builtin id))) (h : wpAny (model P.prog P.w) A (getItem o i) Q E s) :
    wpAny (model P.prog P.w) A (subscriptTail value slice o i) Q E s := by
  unfold subscriptTail
  refine wpAny_bind ?_
  rw [getitemInPython_of_ne hT.not_modules]
  refine wpAny_bind (wpAny_specialOf hT hl ?_)
  have tail : ∀ l : List Value, wpAny (model P.prog P.w) A (operate l (getItem o i)) (fun r s₃ => wpAny (model P.prog P.w) A (letTemporaryGo value o r >>= fun _ => pure r) Q E s₃) E s := fun l =>
    wpAny_operating (wpAny_mono h (fun r s₃ hr => wpAny_bind (wpAny_letTemporaryGo (wpAny_pure hr))) fun _ _ x => x)
  refine wpAny_pure ?_
  refine wpAny_bind ?_
  obtain ⟨l, e⟩ := subs_is slice o i
  rw [e]
  exact tail l

theorem sim_sub {o i : Expr} {xo xi : X} {pos : Pos} (ho : SimE P cx o xo) (hi : SimE P cx i xi) : SimE P cx (.Subscript o i pos) (.sub xo xi) := by
  intro c n env A σ loc hp s C I hb
  rw [x_sub] at hb ⊢
  refine Subscript_ (seqV (G := fun R v s₁ => wpAny (model P.prog P.w) A (eval i env) (fun u s₂ => wpAny (model P.prog P.w) A (subscriptTail o i v u) (QV P σ s R) NE s₂) NE s₁) (.refl I.st) (ho c n env A σ loc hp s C I (bind_ok hb)) hb ?_)
  intro av hp₁ σ₁ v s₁ a₁ _ rv hb
  refine seqV (G := fun R u s₂ => wpAny (model P.prog P.w) A (subscriptTail o i v u) (QV P σ s R) NE s₂) a₁ (hi c n env A σ₁ loc hp₁ s₁ C (I.after a₁) (bind_ok hb)) hb ?_
  intro bv hp₂ σ₂ u s₂ a₂ a₁₂ ru hb
  have rv' := RV.grows a₁₂.gr _ _ rv
  obtain ⟨T, id, hT, hl⟩ := rv_type a₂.st rv' hb
  exact sub_tail hT hl (wpAny_mono (sub_prim C.ok a₂.st I.ar rv' ru hb) (fun _ _ q => q.lift a₂) (fun _ _ q => q))
end
end Mine

namespace Mine
open PySem PySem.Spec PyProof.Rows PySem.SeqAt

theorem opt_bind {α β : Type} {a : Option α} {f : α → Option β} {b : β} (h : (a >>= f) = some b) : ∃ x, a = some x ∧ f x = some b := Option.bind_eq_some_iff.mp h
theorem opt_pure {α : Type} {a b : α} (h : (pure a : Option α) = some b) : a = b := Option.some.inj h

theorem plain_es {cx : Cx} {k : Nat} : ∀ {es : List Expr} {xs : Xs}, compEs (compE k cx) es = some xs → ∀ env pos, (backTo pos (starEach es env)).any (·.1) = false
  | [], _, _, _, _ => rfl
  | e :: es, xs, h, env, pos => by
    obtain ⟨x, hx, h⟩ := opt_bind h
    obtain ⟨ys, hy, _⟩ := opt_bind h
    rw [not_starred hx env es]
    exact plain_es hy env pos

section
variable {P : Par} {cx : Cx}

theorem evalArgs_es {A : Around} {E : Value → Shared → Prop} {s : Shared} {env : Env} {f : Value} {es : List Expr} {pos : Pos} {Q : Args → Shared → Prop} (hp : (backTo pos (starEach es env)).any (·.1) = false)
    (h : wpAny (model P.prog P.w) A (spliced (backTo pos (starEach es env))) (fun vs s' => Q ⟨vs, []⟩ s') E s) : wpAny (model P.prog P.w) A (evalArgs f true (backTo pos (starEach es env)) []) Q E s := by
  cases hb : backTo pos (starEach es env) with
  | nil =>
    rw [hb] at h
    unfold evalArgs
    show wpAny _ _ (spliced [] >>= _) Q E s
    refine wpAny_bind (wpAny_mono h (fun vs s' h' => ?_) fun _ _ x => x)
    refine wpAny_holding ?_
    exact wpAny_bind (wpAny_pure (wpAny_bind (wpAny_pure (wpAny_pure h'))))
  | cons p r =>
    obtain ⟨b, t⟩ := p
    rw [hb] at hp h
    simp only [List.any_cons, Bool.or_eq_false_iff] at hp
    have : b = false := hp.1
    subst this
    exact Calls.evalArgs_plain h

theorem load_glob {A : Around} {E : Value → Shared → Prop} {c : Ctx} {n : Nat} {env : Env} {σ : Sg} {l : Locs} {hp : AHeap} {s : Shared} (C : Sims P cx c n) (I : Inv P cx n env A σ l hp s) {x : Str} {pos : Pos} (hg : cx.isGlob x = true) {v : Value} (hv : P.mg x = some v) {Q : Value → Shared → Prop} (h : Q v s) :
    wpAny (model P.prog P.w) A (eval (.Name x pos) env) Q E s := by
  obtain ⟨hd, _⟩ := glob_plain hg
  refine wpAny_Name ?_ hd
  rw [loadName_read I.fr.kind (I.fr.glob x hg)]
  have hn : s.heap.Ns env.globals P.mg := by rw [I.fr.globals]; exact C.ok.g.keeps I.st.base
  exact Calls.loadGlobal_global hn hv h
theorem load_blt {A : Around} {E : Value → Shared → Prop} {c : Ctx} {n : Nat} {env : Env} {σ : Sg} {l : Locs} {hp : AHeap} {s : Shared} (C : Sims P cx c n) (I : Inv P cx n env A σ l hp s) {x : Str} {pos : Pos} (hg : cx.isGlob x = true) {v : Value} (hv : (x, v) ∈ bltPairs) {Q : Value → Shared → Prop} (h : Q v s) :
    wpAny (model P.prog P.w) A (eval (.Name x pos) env) Q E s := by
  obtain ⟨hd, _⟩ := glob_plain hg
  refine wpAny_Name ?_ hd
  rw [loadName_read I.fr.kind (I.fr.glob x hg)]
  have hn : s.heap.Ns env.globals P.mg := by rw [I.fr.globals]; exact C.ok.g.keeps I.st.base
  have hb : s.heap.Ns env.builtins P.mb := by rw [I.fr.builtins]; exact C.ok.b.keeps I.st.base
  obtain ⟨h1, h2⟩ := C.ok.blt x v hv
  exact Calls.loadGlobal_builtin hn h1 hb h2 h

theorem call_eq {f : Str} {p pos : Pos} {es : List Expr} {env : Env} : eval (.Call (.Name f p) es [] pos) env = (eval (.Name f p) env >>= fun fv => callWith pos fv [] (backTo pos (starEach es env)) []) := rfl

theorem sim_call {f : Str} {es : List Expr} {xs : Xs} {p pos : Pos} {k : Nat} (hg : cx.isGlob f = true) (hf : cx.funs.contains f = true) (hc : compEs (compE k cx) es = some xs) (h : SimEs P cx es xs) : SimE P cx (.Call (.Name f p) es [] pos) (.call f xs) := by
  intro c n env A σ loc hp s C I hb
  rw [x_call] at hb ⊢
  rw [call_eq]
  obtain ⟨a, o, fd, hm, ho, hd, hcall⟩ := C.f f hf
  refine wpAny_bind (load_glob C I hg hm (Calls.callWith_function (o := o) (fd := fd) (evalArgs_es (plain_es hc env pos) (seqVs (G := fun R vs s₁ => (s₁.heap.get? a = some o ∧ o.data = .func fd) ∧ wpAny (model P.prog P.w) A (call (.ref a) ([] ++ vs) []) (QV P σ s R) NE s₁) (.refl I.st) (h c n env A σ loc hp s pos C I (bind_ok hb)) hb ?_))))
  intro avs hp₁ σ₁ vs s₁ a₁ _ rv hb
  refine ⟨⟨a₁.st.base a o ho, hd⟩, ?_⟩
  exact wpAny_mono (hcall avs vs σ₁ hp₁ s₁ A a₁.st rv I.ar.toArndC hb) (fun _ _ q => q.lift a₁) (fun _ _ q => q)

/-- a built-in function or class -/
noncomputable def Prim (P : Par) (v : Value) (r : List AV → AHeap → Res AV) : Prop :=
  ∀ n A σ hp s avs vs, P.Ok → Arnd n A → St P.w P.B σ hp s.heap → RVs P.B s.heap σ avs vs → r avs hp ≠ .bad → wpAny (model P.prog P.w) A (call v vs) (QV P σ s (r avs hp)) NE s
theorem sim_fn {f : Str} {id : String} {r : List AV → AHeap → Res AV} {es : List Expr} {xs : Xs} {x : X} {p pos : Pos} {k : Nat} (hx : ∀ c l h, evalX c x l h = (evalXs c xs l h).bind r) (hv : (f, Value.builtin id) ∈ bltPairs) (H : Prim P (.builtin id) r)
    (hg : cx.isGlob f = true) (hc : compEs (compE k cx) es = some xs) (h : SimEs P cx es xs) : SimE P cx (.Call (.Name f p) es [] pos) x := by
  intro c n env A σ loc hp s C I hb
  rw [hx] at hb ⊢
  rw [call_eq]
  refine wpAny_bind (load_blt C I hg hv (Calls.callWith_builtin (plain_es hc env pos) (evalArgs_es (plain_es hc env pos) (seqVs (G := fun R vs s₁ => wpAny (model P.prog P.w) A (call (.builtin id) ([] ++ vs) []) (QV P σ s R) NE s₁) (.refl I.st) (h c n env A σ loc hp s pos C I (bind_ok hb)) hb ?_))))
  intro avs hp₁ σ₁ vs s₁ a₁ _ rv hb
  exact wpAny_mono (H n A σ₁ hp₁ s₁ avs vs C.ok I.ar a₁.st rv hb) (fun _ _ q => q.lift a₁) (fun _ _ q => q)
theorem sim_ty {f : Str} {id : String} {r : List AV → AHeap → Res AV} {es : List Expr} {xs : Xs} {x : X} {p pos : Pos} {k : Nat} (hx : ∀ c l h, evalX c x l h = (evalXs c xs l h).bind r) (hv : (f, Value.type id) ∈ bltPairs) (H : Prim P (.type id) r)
    (hg : cx.isGlob f = true) (hc : compEs (compE k cx) es = some xs) (h : SimEs P cx es xs) : SimE P cx (.Call (.Name f p) es [] pos) x := by
  intro c n env A σ loc hp s C I hb
  rw [hx] at hb ⊢
  rw [call_eq]
  refine wpAny_bind (load_blt C I hg hv (PySem.callWith_type (plain_es hc env pos) (evalArgs_es (plain_es hc env pos) (seqVs (G := fun R vs s₁ => wpAny (model P.prog P.w) A (call (.type id) ([] ++ vs) []) (QV P σ s R) NE s₁) (.refl I.st) (h c n env A σ loc hp s pos C I (bind_ok hb)) hb ?_))))
  intro avs hp₁ σ₁ vs s₁ a₁ _ rv hb
  exact wpAny_mono (H n A σ₁ hp₁ s₁ avs vs C.ok I.ar a₁.st rv hb) (fun _ _ q => q.lift a₁) (fun _ _ q => q)

theorem bi_one {b : BI} {as : List AV} {h : AHeap} (hb : biAV b as h ≠ .bad) : ∃ a, as = [a] := by
  unfold biAV at hb
  split at hb
  · exact ⟨_, rfl⟩
  · exact absurd rfl hb
theorem prim_len : Prim P (.builtin "len") (biAV .len) := fun n A σ hp s avs vs ok ar S rv hb => by
  obtain ⟨a, rfl⟩ := bi_one hb
  obtain ⟨v, rfl, rv1⟩ := rv.one
  exact len_prim ok S rv1 hb
theorem loc_of {b : BI} {a : AV} {h : AHeap} (hne : b = .list ∨ b = .sorted) (hb : biAV b [a] h ≠ .bad) : ∃ n, a = .loc n := by
  rcases hne with rfl | rfl <;> cases a <;> first | exact ⟨_, rfl⟩ | exact absurd rfl hb
theorem prim_list : Prim P (.type "list") (biAV .list) := fun n A σ hp s avs vs ok ar S rv hb => by
  obtain ⟨a, rfl⟩ := bi_one hb
  obtain ⟨j, rfl⟩ := loc_of (.inl rfl) hb
  obtain ⟨v, rfl, a, off, rfl, e1⟩ := rv.one
  have hb : newListO (listAt hp j) hp ≠ .bad := hb
  show wpAny _ _ _ (QV P σ s (newListO (listAt hp j) hp)) _ _
  obtain ⟨xs, hx, hb⟩ := newListO_is hb
  rw [hx]
  exact list_prim S (listAt_is hx) e1 hb
theorem prim_sorted : Prim P (.builtin "sorted") (biAV .sorted) := fun n A σ hp s avs vs ok ar S rv hb => by
  obtain ⟨a, rfl⟩ := bi_one hb
  obtain ⟨j, rfl⟩ := loc_of (.inr rfl) hb
  obtain ⟨v, rfl, a, off, rfl, e1⟩ := rv.one
  have hb : newListO (sortedAV hp j) hp ≠ .bad := hb
  show wpAny _ _ _ (QV P σ s (newListO (sortedAV hp j) hp)) _ _
  obtain ⟨xs, hx, hb⟩ := newListO_is hb
  rw [hx]
  unfold sortedAV at hx
  split at hx
  · rename_i d hd
    obtain ⟨is, hi, hx⟩ := Option.bind_eq_some_iff.mp hx
    unfold sortZ at hx
    split at hx
    · rename_i h64
      cases hx
      exact sorted_prim ok S ar.handled (dictAt_is hd) e1 hi h64 hb
    · cases hx
  · cases hx
theorem prim_range : Prim P (.type "range") (fun vs h => okO (rangeOf vs) h) := fun n A σ hp s avs vs ok ar S rv hb => by
  obtain ⟨r, hr⟩ := okO_is hb
  show wpAny _ _ _ (QV P σ s (okO (rangeOf avs) hp)) _ _
  rw [hr]
  exact range_prim S ok ar rv hr

/-- isinstance against a built-in class -/
theorem sim_isi {e : Expr} {x : X} {t : Ty} {T : Str} {p q pos : Pos} (hg : cx.isGlob "isinstance" = true) (hgT : cx.isGlob T = true) (hT : (T, Value.type (tyName t)) ∈ bltPairs) (hs : ∀ env rest, starEach (e :: rest) env = (false, eval e env) :: starEach rest env) (h : SimE P cx e x) :
    SimE P cx (.Call (.Name "isinstance" p) [e, .Name T q] [] pos) (.isi x t) := by
  intro c n env A σ loc hp s C I hb
  rw [x_isi] at hb ⊢
  rw [call_eq]
  have hplain : (backTo pos (starEach [e, .Name T q] env)).any (·.1) = false := by
    rw [hs]; rfl
  refine wpAny_bind (load_blt C I hg blt_isi (Calls.callWith_builtin hplain (evalArgs_es hplain ?_)))
  refine wpAny_items_cons (seqV (G := fun R v s₁ => wpAny (model P.prog P.w) A (spliced (backTo pos (starEach [.Name T q] env))) (fun vs s₂ => wpAny (model P.prog P.w) A (call (.builtin "isinstance") ([] ++ (v :: vs)) []) (QV P σ s R) NE s₂) NE s₁) (.refl I.st) (h c n env A σ loc hp s C I (bind_ok hb)) hb ?_) (hs env _)
  intro av hp₁ σ₁ v s₁ a₁ _ rv hb
  refine wpAny_items_cons (load_blt C (I.after a₁) hgT hT (wpAny_items_nil ?_))
  obtain ⟨r, hr⟩ := boolO_is hb
  rw [hr]
  refine wpAny_mono (isi_prim a₁.st rv hr) (fun w s₂ qb => ?_) (fun _ _ q => q)
  obtain ⟨b, rfl, e2, a₂⟩ := qb
  cases e2
  exact ⟨_, _, _, rfl, a₁.trans a₂, rfl⟩
end
end Mine

namespace Mine
open PySem PySem.Spec PyProof.Rows PySem.SeqAt

theorem base_plain {o : Expr} (h : notSuper o = true) (attr : Str) (env : Env) (whole : Sem Value) : attributeBase o attr env whole = whole := by
  cases o
  case Name => rfl
  case Subscript => rfl
  all_goals exact absurd h Bool.false_ne_true

section
variable {P : Par} {cx : Cx}

theorem few_es {es : List Expr} {xs : Xs} {k : Nat} (hc : compEs (compE k cx) es = some xs) (hl : es.length < 20) (env : Env) (pos : Pos) : ((backTo pos (starEach es env)).all (fun x => !x.1) && (backToKw pos (keywordEach [] env)).all (fun x => x.1.isSome)
      && decide (es.length + ([] : List Keyword).length + (if ([] : List Keyword).isEmpty then 0 else 1) < 30)) = true := by
  have h1 := plain_es hc env pos
  have h2 : (backTo pos (starEach es env)).all (fun x => !x.1) = true := by
    rw [List.all_eq_true]
    intro x hx
    have := List.any_eq_false.mp h1 x hx
    simpa using this
  rw [h2]
  exact decide_eq_true (show es.length + 0 + 0 < 30 from Nat.lt_trans hl (by decide))

theorem meth_gen {n : Nat} {env : Env} {A : Around} {σ : Sg} {loc : Locs} {hp : AHeap} {s : Shared} (I : Inv P cx n env A σ loc hp s) {o : Expr} {es : List Expr} {xs : Xs} {k : Nat} {name : Str} {ap pos : Pos} {T id : String}
    (pa : PlainAttrs T) (slot : Slot T name id) (hty : typeOf (.builtin id) = pure (.type "method_descriptor")) (hns : notSuper o = true) (hc : compEs (compE k cx) es = some xs) (hl : es.length < 20) (hline : (ap.endLine == pos.line) = true)
    {r : Res AV} {f : AV → AHeap → Res AV} (ho : wpAny (model P.prog P.w) A (eval o env) (QV P σ s r) NE s) (hb : r.bind f ≠ .bad)
    (hk : ∀ av hp' σ' v s', r = .ok av hp' → After P σ σ' [] hp' s s' → RV P.B s'.heap σ' av v → f av hp' ≠ .bad →
      s'.TypeIs v T ∧ (∀ a, v = .ref a → ∃ ob, s'.heap.get? a = some ob ∧ ob.dict = none) ∧
      wpAny (model P.prog P.w) A (evalArgs (.builtin id) true (backTo pos (starEach es env)) []) (fun a s₁ => wpAny (model P.prog P.w) A (call (.builtin id) ([v] ++ a.pos) a.kw) (QV P σ s (f av hp')) NE s₁) NE s') :
    wpAny (model P.prog P.w) A (eval (.Call (.Attribute o name ap) es [] pos) env) (QV P σ s (r.bind f)) NE s := by
  refine wpAny_Call_method (base_plain hns _ _ _) (few_es hc hl env pos) hline pa slot hty (wpAny_mono ho (fun v s' ⟨av, hp', σ', e, a, rv⟩ => ?_) fun _ _ q => q)
  subst e
  obtain ⟨h1, h2, h3⟩ := hk av hp' σ' v s' rfl a rv hb
  exact ⟨h1, h2, Calls.callWith_builtin (plain_es hc env pos) h3⟩

theorem isListAV_is {v : AV} {h : AHeap} (hb : isListAV v h = true) : ∃ j xs, v = .loc j ∧ h[j]? = some (.list xs) := by
  unfold isListAV at hb
  split at hb
  · obtain ⟨xs, hx⟩ := Option.isSome_iff_exists.mp hb
    exact ⟨_, xs, rfl, listAt_is hx⟩
  · cases hb
theorem append_is {j : Nat} {as : List AV} {h : AHeap} (hb : appendAV (.loc j) as h ≠ .bad) : ∃ x xs, as = [x] ∧ h[j]? = some (.list xs) ∧ xs.length < sizeLim ∧ appendAV (.loc j) as h = .ok .none (h.set j (.list (xs ++ [x]))) := by
  unfold appendAV at hb ⊢
  dsimp only at hb ⊢
  split at hb
  · split at hb
    · rename_i x xs hx
      have hsz := lim_if hb
      exact ⟨_, _, rfl, listAt_is hx, hsz, if_pos hsz⟩
    · exact absurd rfl hb
  · exact absurd rfl hb

theorem sim_append {o : Expr} {es : List Expr} {xo : X} {xs : Xs} {ap pos : Pos} {k : Nat} (hns : notSuper o = true) (hc : compEs (compE k cx) es = some xs) (hl : es.length < 20) (hline : (ap.endLine == pos.line) = true) (ho : SimE P cx o xo) (hes : SimEs P cx es xs) :
    SimE P cx (.Call (.Attribute o "append" ap) es [] pos) (.append xo xs) := by
  intro c n env A σ loc hp s C I hb
  rw [x_append] at hb ⊢
  refine meth_gen I F.plainAttrs_list F.slot_list_append F.type_list_append hns hc hl hline (ho c n env A σ loc hp s C I (bind_ok hb)) hb ?_
  intro av hp₁ σ₁ v s₁ hr a₁ rv hb
  have I₁ := I.after a₁
  have hk := lim_if hb
  rw [if_pos hk] at hb ⊢
  obtain ⟨j, ys, rfl, hj⟩ := isListAV_is hk
  obtain ⟨a, off, rfl, e1⟩ := rv
  obtain ⟨ws, m, hL, _⟩ := a₁.st.isL hj e1
  refine ⟨⟨_, hL, rfl⟩, fun b e => ?_, ?_⟩
  · cases e; exact ⟨_, hL, rfl⟩
  refine evalArgs_es (plain_es hc env pos) (seqVs (G := fun R vs s₂ => wpAny (model P.prog P.w) A (call (.builtin "list.append") ([Value.ref a] ++ vs) []) (QV P σ s R) NE s₂) a₁ (hes c n env A σ₁ loc hp₁ s₁ pos C I₁ (bind_ok hb)) hb ?_)
  intro avs hp₂ σ₂ vs s₂ a₂ a₁₂ rvs hb
  have e2 := a₁₂.gr.look e1
  obtain ⟨x, zs, rfl, hj2, hsz, er⟩ := append_is hb
  rw [er]
  obtain ⟨u, rfl, ru⟩ := rvs.one
  obtain ⟨us, m', h1, h2, h3⟩ := append_prim a₂.st hj2 e2 hsz ru
  exact call_meets F.slot_list_append ⟨_, h2, rfl⟩ F.entry_list_append (F.args_list_append_2 _ _) (list_append a us m' u h1) ⟨h2, _, _, _, rfl, a₂.trans h3, rfl⟩
end
end Mine

namespace Mine
open PySem PySem.Spec PyProof.Rows PySem.SeqAt

section
variable {P : Par} {cx : Cx}

theorem sim_dict0 {pos : Pos} : SimE P cx (.Dict [] [] pos) .dict0 := by
  intro c n env A σ loc hp s C I hb
  rw [x_dict0]
  refine wpAny_Dict_empty ?_
  obtain ⟨S', g⟩ := I.st.alloc (X := []) { cls := .type "dict", data := .dict #[] } 0 (.dict [] 0) fun g => ⟨#[], Heap.get?_push_size _ rfl, trivial, List.Pairwise.nil, (fun p hp => nomatch hp), Nat.zero_le _⟩
  refine ⟨_, _, _, rfl, ⟨rfl, S', g⟩, _, 0, rfl, ?_⟩
  rw [← I.st.len]; exact List.getElem?_concat_length

theorem set_concat {α : Type} (l : List α) (a b : α) : (l ++ [a]).set l.length b = l ++ [b] := by simp
theorem dict1_is {o : Option Key} {v : AV} {h : AHeap} (hb : dict1 o v h ≠ .bad) : ∃ k, o = some k := by
  cases o with
  | none => exact absurd rfl hb
  | some k => exact ⟨k, rfl⟩

theorem sim_dict1 {k v : Expr} {xk xv : X} {pos : Pos} (hk : SimE P cx k xk) (hv : SimE P cx v xv) : SimE P cx (.Dict [some k] [v] pos) (.dict1 xk xv) := by
  intro c n env A σ loc hp s C I hb
  rw [x_dict1] at hb ⊢
  have hk' := fun s' => hk c n env A σ loc hp s' C
  cases hr : evalX c xk loc hp with
  | bad => rw [hr] at hb; exact absurd rfl hb
  | ok kv hp₁ =>
  rw [hr, bok] at hb
  rw [hr] at hk'
  rw [bok]
  cases hr2 : evalX c xv loc hp₁ with
  | bad => rw [hr2] at hb; exact absurd rfl hb
  | ok vv hp₂ =>
  rw [hr2, bok] at hb
  rw [bok]
  obtain ⟨key, hkey⟩ := dict1_is hb
  have hv' := fun σ s' => hv c n env A σ loc hp₁ s' C
  rw [hr2] at hv'
  rw [hkey]
  generalize hQ : QV P σ s (dict1 (some key) vv hp₂) = Q
  rw [arm_eval_Dict]
  have hshape : (evalEachOpt [some k] env).zip ((evalEach [v] env).map fun v => do let x ← v; standAt pos; pure x) = ([(eval k env, do let x ← eval v env; standAt pos; pure x)] : List (Sem Value × Sem Value)).map fun p => (some p.1, p.2) := rfl
  rw [hshape, dictDisplay_pairs _ (List.cons_ne_nil _ _) (by show 1 < 17; decide)]
  refine wpAny_bind (wpAny_standAt (wpAny_bind ?_))
  unfold subDict
  refine wpAny_bind (wpAny_alloc ?_)
  refine wpAny_bind (wpAny_holding ?_)
  rw [if_pos (by show 1 ≤ 15; decide)]
  have a₀ : After P σ σ [] hp s { s with heap := s.heap.push { cls := .type "dict", data := .dict #[] } } := ⟨rfl, I.st.push _, .push _⟩
  have hD : s.heap.get? s.heap.objs.size = none := free_size _
  have hD0 : (s.heap.push { cls := .type "dict", data := .dict #[] }).get? s.heap.objs.size = some { cls := .type "dict", data := .dict #[] } := Heap.get?_push_size _ rfl
  have hDσ : s.heap.objs.size ∉ σ.map (·.1) := I.st.fresh
  have hDb : P.B.h₀.get? s.heap.objs.size = none := I.st.base.fresh
  generalize s.heap.objs.size = D at hD hD0 hDσ hDb ⊢
  have I₀ := I.after a₀
  refine wpAny_bind (wpAny_bind (wpAny_mono (hk' _ I₀ (fun e => nomatch e)) (fun u s₁ q => ?_) (fun _ _ q => q)))
  obtain ⟨_, _, σ₁, e, a₀₁, ru⟩ := q
  cases e
  have a₁ := a₀.trans a₀₁
  refine wpAny_bind (wpAny_holding (wpAny_bind (wpAny_mono (hv' σ₁ s₁ (I.after a₁) (fun e => nomatch e)) (fun w s₂ q => ?_) (fun _ _ q => q))))
  obtain ⟨_, _, σ₂, e, a₁₂, rw'⟩ := q
  cases e
  have a₂ := a₁.trans a₁₂
  refine wpAny_bind (wpAny_standAt (wpAny_pure (wpAny_bind (wpAny_holding (wpAny_pure (wpAny_pure ?_))))))
  refine wpAny_holding ?_
  rw [List.forIn_cons]
  have gr := a₀₁.gr.trans a₁₂.gr
  have hD2 : ObjAt s₂.heap D (.type "dict") (.dict #[] (0 + 0)) := by
    rcases gr.oth D _ hD0 hDσ (fun h => nomatch h) with q | ⟨q, _⟩
    · exact q
    · exact absurd (Value.type.inj q) (by decide)
  have S₂ := a₂.st.adopt (off := 0) (ao := .dict [] 0) (not_mem_grown gr hD0 hDσ) hDb fun _ => ⟨#[], hD2, trivial, List.Pairwise.nil, (fun p hp => nomatch hp), Nat.zero_le _⟩
  have hlk : Looks' σ₂ (σ₂ ++ [(D, 0)]) := fun i p e => by
    rw [List.getElem?_append_left (List.getElem?_eq_some_iff.mp e).1]; exact e
  have hj : (hp₂ ++ [AObj.dict [] 0])[hp₂.length]? = some (.dict [] 0) := List.getElem?_concat_length
  have hsj : (σ₂ ++ [(D, 0)])[hp₂.length]? = some (D, 0) := by rw [← a₂.st.len]; exact List.getElem?_concat_length
  have ru2 : RV P.B s₂.heap (σ₂ ++ [(D, 0)]) key.av u := by rw [← key_av hkey]; exact RV.mono (fun _ _ x _ => x) hlk _ _ (RV.grows a₁₂.gr _ _ ru)
  refine wpAny_bind (wpAny_bind (wpAny_bind (dictSet_prim (A := A) S₂ hj hsj ru2 rfl (by have := I.ar.units; omega) (by decide) (RV.mono (fun _ _ x _ => x) hlk _ _ rw') fun s₃ a₃ => ?_)))
  refine wpAny_pure ?_
  dsimp only
  rw [List.forIn_nil]
  refine wpAny_pure (wpAny_pure (wpAny_pure (wpAny_pure ?_)))
  have e : (hp₂ ++ [AObj.dict [] 0]).set hp₂.length (.dict (dictPut [] key vv) (if (([] : List (Key × AV)).lookup key).isSome then 0 else 0 + 1)) = hp₂ ++ [.dict [(key, vv)] 1] := set_concat hp₂ _ _
  rw [e] at a₃
  have a₂' : After P σ (σ₂ ++ [(D, 0)]) [] (hp₂ ++ [AObj.dict [] 0]) s s₂ := ⟨a₂.ctl, S₂, a₂.gr.adopt hD⟩
  rw [← hQ]
  exact ⟨_, _, _, rfl, a₂'.trans a₃, D, 0, rfl, hsj⟩
end
end Mine

namespace Mine
open PySem PySem.Spec PyProof.Rows PySem.SetTable

section
variable {prog : Program} {w : World} {A : Around} {E : Value → Shared → Prop} {s : Shared}

abbrev TK (prog : Program) (w : World) (h : Heap) (k : List Int) (b : Addr) : Prop := IsTupleKey (intKind prog w) h k b

theorem int_items {ks : List Int} {vs : List Value} (h : ItemsAre (intKind prog w) ks vs) : ∀ v ∈ vs, ∃ i t, v = .int i t := by
  induction h with
  | nil => exact fun v hv => nomatch hv
  | @cons k v ks vs h1 _ ih =>
    intro v' hv'
    rcases List.mem_cons.mp hv' with rfl | hv'
    · cases v' with
      | int i t => exact ⟨i, t, rfl⟩
      | _ => cases h1
    · exact ih v' hv'
theorem ofClass_tuple {ks : List Int} {a : Addr} {Q : Bool → Shared → Prop} (hk : TK prog w s.heap ks a) (h : Q false s) : wpAny (model prog w) A (ofAClassStatement 8 (.ref a)) Q E s := by
  have hT := hk.typeIs
  obtain ⟨o, items, n, ho, _, hd, hi⟩ := hk
  unfold ofAClassStatement
  refine wpAny_bind (wpAny_typeOf hT ?_)
  show wpAny _ _ (pure true >>= _) _ _ s
  refine wpAny_bind (wpAny_pure ?_)
  show wpAny _ _ (seqItems? (.ref a) >>= _) _ _ s
  refine wpAny_bind (wpAny_seqItems ho hd ?_)
  show wpAny _ _ (forIn items _ _ >>= _) _ _ s
  refine wpAny_bind ?_
  rw [← Array.forIn_toList]
  refine wpAny_forIn_list _ (fun rest r s' => r.1 = none ∧ s' = s ∧ ∀ v ∈ rest, ∃ i t, v = .int i t) _ ?_ ?_ _ _ ⟨rfl, rfl, int_items hi⟩
  · rintro v rest r s' ⟨hr, rfl, hall⟩
    obtain ⟨i, t, rfl⟩ := hall v List.mem_cons_self
    show wpAny _ _ (pure false >>= _) _ _ _
    refine wpAny_bind (wpAny_pure ?_)
    rw [if_neg Bool.false_ne_true]
    exact wpAny_pure ⟨rfl, rfl, fun u hu' => hall u (List.mem_cons_of_mem _ hu')⟩
  · rintro ⟨r1, r2⟩ s' ⟨hr, rfl, _⟩
    cases hr
    exact wpAny_pure h
theorem hashBy_tuple {ks : List Int} {a : Addr} {Q : Bool → Shared → Prop} (hk : TK prog w s.heap ks a) (h : Q true s) : wpAny (model prog w) A (hashByValue 8 (.ref a)) Q E s := by
  have hT := hk.typeIs
  obtain ⟨o, items, n, ho, _, hd, hi⟩ := hk
  show wpAny _ _ (specialOf (.ref a) "__hash__" >>= _) _ _ s
  refine wpAny_bind (wpAny_specialOf hT F.slot_tuple_hash.lookup ?_)
  show wpAny _ _ (seqItems? (.ref a) >>= _) _ _ s
  refine wpAny_bind (wpAny_seqItems ho hd ?_)
  show wpAny _ _ (forIn items _ _ >>= _) _ _ s
  refine wpAny_bind ?_
  rw [← Array.forIn_toList]
  refine wpAny_forIn_list _ (fun rest r s' => r.1 = none ∧ s' = s ∧ ∀ v ∈ rest, ∃ i t, v = .int i t) _ ?_ ?_ _ _ ⟨rfl, rfl, int_items hi⟩
  · rintro v rest r s' ⟨hr, rfl, hall⟩
    obtain ⟨i, t, rfl⟩ := hall v List.mem_cons_self
    show wpAny _ _ (pure true >>= _) _ _ _
    refine wpAny_bind (wpAny_pure ?_)
    rw [if_neg (by decide)]
    exact wpAny_pure ⟨rfl, rfl, fun u hu' => hall u (List.mem_cons_of_mem _ hu')⟩
  · rintro ⟨r1, r2⟩ s' ⟨hr, rfl, _⟩
    cases hr
    exact wpAny_pure h
theorem notSeen {ks : List Int} {a : Addr} {stored : List Value} {Q : Bool → Shared → Prop} (hk : TK prog w s.heap ks a) (hs : ∀ v ∈ stored, ∃ k b, v = .ref b ∧ TK prog w s.heap k b) (h : Q false s) :
    wpAny (model prog w) A (searchCouldBeSeen (.ref a) stored) Q E s := by
  unfold searchCouldBeSeen
  refine wpAny_bind ?_
  refine wpAny_forIn_list _ (fun rest r s' => r.1 = none ∧ s' = s ∧ ∀ v ∈ rest, ∃ k b, v = .ref b ∧ TK prog w s.heap k b) _ ?_ ?_ _ _ ⟨rfl, rfl, hs⟩
  · rintro v rest r s' ⟨hr, rfl, hall⟩
    obtain ⟨k, b, rfl, hb⟩ := hall v List.mem_cons_self
    have hrest := fun u hu' => hall u (List.mem_cons_of_mem _ hu')
    dsimp only
    split
    · exact wpAny_pure ⟨rfl, rfl, hrest⟩
    · refine wpAny_bind (wpAny_eqIsQuiet_tuple hk ?_)
      rw [if_neg (by decide)]
      refine wpAny_bind (wpAny_eqIsQuiet_tuple hb ?_)
      rw [if_neg (by decide)]
      refine wpAny_bind (ofClass_tuple hk ?_)
      rw [if_neg (by decide)]
      refine wpAny_bind (ofClass_tuple hb ?_)
      rw [if_neg (by decide)]
      exact wpAny_pure ⟨rfl, rfl, hrest⟩
  · rintro ⟨r1, r2⟩ s' ⟨hr, rfl, _⟩
    cases hr
    exact wpAny_pure h
end
end Mine

namespace Mine
open PySem PySem.Spec PyProof.Rows PySem.SetTable

section
variable {prog : Program} {w : World} {A : Around} {E : Value → Shared → Prop} {s : Shared}

noncomputable def hashP (prog : Program) (w : World) (k : List Int) : Int := tupleKeyHash (intKind prog w) k
/-- what lies in a set: pairs with their hashes -/
noncomputable def Elems (prog : Program) (w : World) (h : Heap) (es : Array (Int × Value)) : Prop := ∀ e ∈ es.toList, ∃ k b, e = (hashP prog w k, .ref b) ∧ TK prog w h k b
/-- a pair lies in it -/
noncomputable def Lies (prog : Program) (w : World) (h : Heap) (es : Array (Int × Value)) (k : List Int) : Prop := ∃ e ∈ es.toList, ∃ b, e = (hashP prog w k, .ref b) ∧ TK prog w h k b

theorem Tab.fits' {t : SetTable} {es : Array (Int × Value)} (T : Tab t es) : t.fits es.size = true := by
  unfold SetTable.fits SetTable.fill
  rw [T.dum, T.size, beq_self_eq_true, Bool.true_and, decide_eq_true_eq]
  exact T.room

theorem first_before {t : SetTable} {es : Array (Int × Value)} (T : Tab t es) {h : Int} {n₀ : Nat} (F : First t.mask t.place.toList h n₀) {i j : Nat} {e : Int × Value} (hp : t.place[i]? = some j) (he : es[i]? = some e) (hh : e.1 = h) :
    ∃ m, m < n₀ ∧ at_ t.mask h m = j := by
  obtain ⟨m, e1, e2⟩ := T.reach i j e hp he
  rw [hh] at e1 e2
  refine ⟨m, Nat.lt_of_not_le fun hle => F.1 ?_, e1⟩
  rcases Nat.lt_or_eq_of_le hle with q | q
  · exact e2 n₀ q
  · rw [q, e1]; exact List.mem_of_getElem? ((Array.getElem?_toList ..).trans hp)
theorem place_of {t : SetTable} {es : Array (Int × Value)} (T : Tab t es) {i : Nat} {e : Int × Value} (he : es[i]? = some e) : ∃ j, t.place[i]? = some j := by
  have hi := (Array.getElem?_eq_some_iff.mp he).1
  exact ⟨_, Array.getElem?_eq_getElem (by rw [T.size]; exact hi)⟩
theorem entry_of {t : SetTable} {es : Array (Int × Value)} (T : Tab t es) {i j : Nat} (he : t.place[i]? = some j) : ∃ e, es[i]? = some e := by
  have hi := (Array.getElem?_eq_some_iff.mp he).1
  exact ⟨_, Array.getElem?_eq_getElem (by rw [← T.size]; exact hi)⟩

theorem led_skip {α : Type} {M : Model} {b : Bool} {m : Sem Bool} {bad k : Sem α} {Q : α → Shared → Prop} (hm : ∀ Q : Bool → Shared → Prop, Q false s → wpAny M A m Q E s) (hk : wpAny M A k Q E s) :
    wpAny M A (if b = true then (m >>= fun x => if x = true then bad else k) else k) Q E s := by
  cases b with
  | true => exact wpAny_bind (hm _ hk)
  | false => exact hk
/-- what the search keeps -/
structure SearchAt (prog : Program) (w : World) (h : Heap) (S a : Addr) (k : List Int) (es : Array (Int × Value)) (ep : Nat) (t : SetTable) (n₀ : Nat) : Prop where
  ho : h.get? S = some { cls := .type "set", dict := none, data := .set es ep t }
  T : Tab t es
  el : Elems prog w h es
  hk : TK prog w h k a
  F : First t.mask t.place.toList (hashP prog w k) n₀
  hn : n₀ ≤ 10 * (t.mask + 13)
section
variable {S a : Addr} {k : List Int} {es : Array (Int × Value)} {ep : Nat} {t : SetTable} {n₀ : Nat}
/-- none of those met so far is it -/
noncomputable def Past (prog : Program) (w : World) (h : Heap) (k : List Int) (es : Array (Int × Value)) (t : SetTable) (n : Nat) : Prop :=
  ∀ m, m < n → ∀ (i : Nat) (e : Int × Value), t.place[i]? = some (at_ t.mask (hashP prog w k) m) → es[i]? = some e → ¬ ∃ b, e = (hashP prog w k, .ref b) ∧ TK prog w h k b
theorem hash_at {i : Nat} {e : Int × Value} (he : es[i]? = some e) : (es[i]?.map (·.1)).getD 0 = e.1 := by rw [he]; rfl
theorem SearchAt.no {h : Heap} (X : SearchAt prog w h S a k es ep t n₀) {n : Nat} (past : Past prog w h k es t n) (hd : ∀ j i : Nat, n ≤ j → j < n₀ → t.place[i]? = some (at_ t.mask (hashP prog w k) j) → (es[i]?.map (·.1)).getD 0 ≠ hashP prog w k) : ¬ Lies prog w h es k := by
  rintro ⟨e, hm, b, q1, q2⟩
  obtain ⟨i, hi, ei⟩ := Array.mem_iff_getElem.mp (Array.mem_toList_iff.mp hm)
  have he : es[i]? = some e := by rw [Array.getElem?_eq_getElem hi, ei]
  obtain ⟨j, hj⟩ := place_of X.T he
  obtain ⟨m, hm1, hm2⟩ := first_before X.T X.F hj he (by rw [q1])
  rw [← hm2] at hj
  rcases Nat.lt_or_ge m n with c | c
  · exact past m c i e hj he ⟨b, q1, q2⟩
  · exact hd m i c hm1 hj ((hash_at he).trans (by rw [q1]))
theorem SearchAt.next {h : Heap} (X : SearchAt prog w h S a k es ep t n₀) {n m i : Nat} {k' : List Int} {b : Addr} (past : Past prog w h k es t n) (hd : ∀ j i : Nat, n ≤ j → j < m → t.place[i]? = some (at_ t.mask (hashP prog w k) j) → (es[i]?.map (·.1)).getD 0 ≠ hashP prog w k)
    (hpl : t.place[i]? = some (at_ t.mask (hashP prog w k) m)) (he : es[i]? = some (hashP prog w k', .ref b)) (hb : TK prog w h k' b) (hkk : ¬ k' = k) : Past prog w h k es t (m + 1) := by
  rintro m' hm' i' e' hp' he' ⟨b', q1, q2⟩
  rcases Nat.lt_or_ge m' n with c | c
  · exact past m' c i' e' hp' he' ⟨b', q1, q2⟩
  · rcases Nat.lt_or_eq_of_le (Nat.le_of_lt_succ hm') with d | d
    · exact hd m' i' c d hp' ((hash_at he').trans (by rw [q1]))
    · subst d
      have hii := (below_at X.T.up hp').symm.trans (below_at X.T.up hpl)
      subst hii
      rw [he] at he'; cases he'
      have hbb : b = b' := Value.ref.inj (Prod.mk.inj q1).2
      subst hbb
      exact hkk (hb.inj q2)
theorem Elems.seen {h : Heap} {x : Int} (el : Elems prog w h es) : ∀ v ∈ ((es.filter (·.1 == x)).toList.map (·.2)), ∃ k b, v = .ref b ∧ TK prog w h k b := fun v hv => by
  obtain ⟨e, he, rfl⟩ := List.mem_map.mp hv
  rw [Array.mem_toList_iff, Array.mem_filter] at he
  obtain ⟨k2, b2, rfl, h2⟩ := el e (Array.mem_toList_iff.mpr he.1)
  exact ⟨k2, b2, rfl, h2⟩

theorem search_from (X : SearchAt prog w s.heap S a k es ep t n₀) (hu : A.units < cLine) {Q : SetFound → Shared → Prop}
    (hthere : Lies prog w s.heap es k → Q (.there none) s) (hfree : ¬ Lies prog w s.heap es k → Q (.free (at_ t.mask (hashP prog w k) n₀) false) s) :
    ∀ (f n : Nat) (stand : Option Probe), n ≤ n₀ → n₀ < n + f → stand.getD (t.probeStart (hashP prog w k)) = seqP t.mask (hashP prog w k) n → Past prog w s.heap k es t n →
      wpAny (model prog w) A (setSearchFrom S (.ref a) (hashP prog w k) true f stand) Q E s
  | 0, n, _, h1, h2, _, _ => absurd h2 (Nat.not_lt.mpr h1)
  | f + 1, n, stand, h1, h2, hst, past => by
    have T := X.T
    have hgo := probe_go T X.F (hashAt := fun i => (es[i]?.map (·.1)).getD 0) (10 * turns t.mask) n h1 (by have := X.hn; unfold turns; omega)
    have hg : ¬ (t.gaveWay = true) := by unfold SetTable.gaveWay; rw [T.notGave]; decide
    show wpAny _ _ (setState S >>= _) _ _ _
    refine wpAny_bind (wpAny_setState_of X.ho rfl T.fits' ?_)
    dsimp only
    rw [if_neg hg, hst]
    generalize hp : t.probe _ _ _ = r
    rcases hgo with ⟨m, i, hm1, hm2, hpl, hh, hr, hdiff⟩ | ⟨hr, hdiff⟩
    · have er : r = _ := hp.symm.trans hr
      subst er
      dsimp only
      obtain ⟨e, he⟩ := entry_of T hpl
      obtain ⟨k', b, rfl, hb⟩ := X.el e (List.mem_of_getElem? ((Array.getElem?_toList ..).trans he))
      refine led_skip (fun Q hq => notSeen X.hk X.el.seen hq) ?_
      rw [he]
      dsimp only
      refine wpAny_bind (wpAny_holding (wpAny_eqBool_tuple hu hb X.hk ?_))
      refine wpAny_bind (wpAny_setState_of X.ho rfl T.fits' ?_)
      dsimp only
      by_cases hkk : k' = k
      · rw [decide_eq_true hkk]
        subst hkk
        exact wpAny_pure (hthere ⟨_, List.mem_of_getElem? ((Array.getElem?_toList ..).trans he), b, rfl, hb⟩)
      · have hsm : t.sameMemory t.moves t.mask = some true := if_pos (beq_self_eq_true _)
        rw [decide_eq_false hkk, if_neg (by decide), hsm]
        dsimp only
        rw [if_pos rfl, slot_live T.up hpl]
        dsimp only
        rw [he]
        refine wpAny_bind (wpAny_isSame_ref_self (wpAny_bind (wpAny_pure ?_)))
        rw [if_pos rfl]
        dsimp only
        rw [if_neg Bool.false_ne_true]
        exact search_from X hu hthere hfree f (m + 1) _ hm2 (by omega) rfl (X.next past hdiff hpl he hb hkk)
    · have er : r = _ := hp.symm.trans hr
      subst er
      exact wpAny_pure (hfree (X.no past hdiff))
end
end
end Mine

namespace Mine
open PySem PySem.Spec PyProof.Rows PySem.SetTable

section
variable {prog : Program} {w : World} {A : Around} {E : Value → Shared → Prop} {s : Shared}

noncomputable def setObj (es : Array (Int × Value)) (ep : Nat) (t : SetTable) : Obj := { cls := .type "set", dict := none, data := .set es ep t }
/-- the set of these pairs -/
structure SetI (prog : Program) (w : World) (h : Heap) (S : Addr) (seen : List (List Int)) : Prop where
  is : ∃ es ep t, h.get? S = some (setObj es ep t) ∧ Tab t es ∧ es.size = seen.length ∧ Elems prog w h es ∧ (∀ k, Lies prog w h es k ↔ k ∈ seen) ∧ (t.mask = 7 → es.size ≤ 4)

theorem TK.but {h h' : Heap} {S b : Addr} {k : List Int} {es : Array (Int × Value)} {ep : Nat} {t : SetTable} (hS : h.get? S = some (setObj es ep t)) (sb : Heap.SameBut S h h') (x : TK prog w h k b) : TK prog w h' k b := by
  obtain ⟨o, items, n, ho, hc, hd, hi⟩ := x
  refine ⟨o, items, n, (sb.2 b fun q => ?_).trans ho, hc, hd, hi⟩
  subst q; rw [hS] at ho; cases ho; cases hd
theorem Elems.but {h h' : Heap} {S : Addr} {es es' : Array (Int × Value)} {ep : Nat} {t : SetTable} (hS : h.get? S = some (setObj es ep t)) (sb : Heap.SameBut S h h') (x : Elems prog w h es') : Elems prog w h' es' := fun e he => by
  obtain ⟨k, b, q, hb⟩ := x e he
  exact ⟨k, b, q, hb.but hS sb⟩
theorem TK.back {h h' : Heap} {S b : Addr} {k : List Int} {es : Array (Int × Value)} {ep : Nat} {t : SetTable} (hS : h'.get? S = some (setObj es ep t)) (sb : Heap.SameBut S h h') (x : TK prog w h' k b) : TK prog w h k b := by
  obtain ⟨o, items, n, ho, hc, hd, hi⟩ := x
  refine ⟨o, items, n, (sb.2 b fun q => ?_).symm.trans ho, hc, hd, hi⟩
  subst q; rw [hS] at ho; cases ho; cases hd

theorem put_store {h : Heap} {S : Addr} {es : Array (Int × Value)} {ep : Nat} {t : SetTable} (ho : h.get? S = some (setObj es ep t)) (es' : Array (Int × Value)) (t' : SetTable) :
    (h.update S (Obj.putSet es' t')).get? S = some (setObj es' (ep + 1) t') ∧ Heap.SameBut S h (h.update S (Obj.putSet es' t')) :=
  ⟨Heap.get?_update_self (Obj.putSet es' t') ho rfl, Heap.SameBut.update h S _⟩

theorem relay_wp {S : Addr} {es : Array (Int × Value)} {ep : Nat} {t : SetTable} (ho : s.heap.get? S = some (setObj es ep t)) (T : Tab t es) (h5 : es.size = 5) {Q : Unit → Shared → Prop}
    (h : ∀ es' t', Tab t' es' → es'.size = es.size → (∀ e, e ∈ es'.toList ↔ e ∈ es.toList) → t'.mask = 31 → Q () { s with heap := s.heap.update S (Obj.putSet es' t') }) :
    wpAny (model prog w) A (setRelay S 20) Q E s := by
  obtain ⟨t', order, e, hsz, T', hm, hmask⟩ := laid_is (M := 31) (.inr rfl) (es := es) (by omega) t.finger (t.movedTo 31) t.led t.plain
  have e' : t.relaid (es.map (·.1)) 20 = some (t', order) := e
  unfold setRelay
  refine wpAny_bind (wpAny_setState_of ho rfl T.fits' ?_)
  dsimp only
  have h32 : SetTable.sizeAbove 20 = 32 := by decide
  rw [h32, if_neg (by rw [sizeLine_eq]; decide), e']
  refine wpAny_bind ?_
  show wpAny _ _ (if ((order.filterMap (es[·]?)).size != es.size) = true then _ else _) _ _ _
  rw [hsz, if_neg (by rw [bne_self_eq_false]; exact Bool.false_ne_true)]
  refine wpAny_pure ?_
  exact wpAny_storeSet_of ho rfl (h _ _ T' hsz hm hmask) (by rw [hsz, h5, sizeLine_eq]; decide)
end
end Mine

namespace Mine
open PySem PySem.Spec PyProof.Rows PySem.SetTable

section
variable {prog : Program} {w : World} {A : Around} {E : Value → Shared → Prop} {s : Shared}

theorem lies_put {h h' : Heap} {S a : Addr} {k : List Int} {seen : List (List Int)} {es es' es2 : Array (Int × Value)} {ep ep' : Nat} {t t' : SetTable} (hS : h.get? S = some (setObj es ep t)) (hS' : h'.get? S = some (setObj es' ep' t')) (sb : Heap.SameBut S h h') (hk : TK prog w h k a)
    (hl : ∀ k, Lies prog w h es k ↔ k ∈ seen) (hm : ∀ e, e ∈ es2.toList ↔ e = (hashP prog w k, Value.ref a) ∨ e ∈ es.toList) (k' : List Int) : Lies prog w h' es2 k' ↔ k' ∈ seen ++ [k] := by
  rw [List.mem_append, List.mem_singleton, ← hl k']
  constructor
  · rintro ⟨e, he, b, q, hb⟩
    rcases (hm e).mp he with r | r
    · rw [q] at r
      have := Value.ref.inj (Prod.mk.inj r).2
      subst this
      exact .inr ((hb.back hS' sb).inj hk)
    · exact .inl ⟨e, r, b, q, hb.back hS' sb⟩
  · rintro (⟨e, he, b, q, hb⟩ | rfl)
    · exact ⟨e, (hm e).mpr (.inr he), b, q, hb.but hS sb⟩
    · exact ⟨_, (hm _).mpr (.inl rfl), a, rfl, hk.but hS sb⟩
theorem elems_put {h : Heap} {a : Addr} {k : List Int} {es es2 : Array (Int × Value)} (hk : TK prog w h k a) (el : Elems prog w h es) (hm : ∀ e, e ∈ es2.toList ↔ e = (hashP prog w k, Value.ref a) ∨ e ∈ es.toList) : Elems prog w h es2 := fun e he => by
  rcases (hm e).mp he with r | r
  · exact ⟨k, a, r, hk⟩
  · exact el e r

theorem store_tail {S a : Addr} {k : List Int} {seen : List (List Int)} {es : Array (Int × Value)} {ep : Nat} {t : SetTable} (ho : s.heap.get? S = some (setObj es ep t)) (T : Tab t es) (hn : es.size = seen.length) (el : Elems prog w s.heap es)
    (hl : ∀ k, Lies prog w s.heap es k ↔ k ∈ seen) (hk : TK prog w s.heap k a) (hlen : seen.length ≤ 17) (h4 : t.mask = 7 → es.size ≤ 4) {es1 : Array (Int × Value)} {t1 : SetTable} (T1 : Tab t1 es1) (h1 : es1.size = es.size + 1) (hmk : t1.mask = t.mask)
    (hm : ∀ e, e ∈ es1.toList ↔ e = (hashP prog w k, Value.ref a) ∨ e ∈ es.toList) {Q : Bool → Shared → Prop}
    (h : ∀ h', Heap.SameBut S s.heap h' → SetI prog w h' S (seen ++ [k]) → Q true { s with heap := h' }) :
    wpAny (model prog w) A (do
      storeSet S es1 t1
      if (!false && t1.tooFull) = true then setRelay S (SetTable.grown (es.size + 1))
      return true) Q E s := by
  refine wpAny_bind (wpAny_storeSet_of ho rfl ?_ (by rw [h1, hn, sizeLine_eq]; omega))
  obtain ⟨ho1, sb1⟩ := put_store ho es1 t1
  have hfull : t1.tooFull = decide ((es.size + 1) * 5 ≥ t.mask * 3) := by
    unfold SetTable.tooFull SetTable.fill
    rw [T1.dum, T1.size, h1, hmk]; rfl
  have hsz : es1.size = (seen ++ [k]).length := by rw [h1, hn, List.length_append]; rfl
  rw [hfull]
  by_cases hc : (es.size + 1) * 5 ≥ t.mask * 3
  · rw [decide_eq_true hc]
    have h5 : es.size = 4 := by
      rcases T.good with g | g
      · have := h4 g; omega
      · omega
    show wpAny _ _ (setRelay S (SetTable.grown (es.size + 1)) >>= fun _ => pure true) _ _ _
    have hgr : SetTable.grown (es.size + 1) = 20 := by rw [h5]; rfl
    rw [hgr]
    refine wpAny_bind (relay_wp (s := { s with heap := s.heap.update S (Obj.putSet es1 t1) }) ho1 T1 (by omega) fun es' t' T' hs' hm' hmask => wpAny_pure (h _ ?_ ?_))
    · exact sb1.trans (put_store ho1 es' t').2
    · obtain ⟨ho2, sb2⟩ := put_store ho1 es' t'
      have hm2 : ∀ e, e ∈ es'.toList ↔ e = (hashP prog w k, Value.ref a) ∨ e ∈ es.toList := fun e => (hm' e).trans (hm e)
      refine ⟨es', ep + 1 + 1, t', ho2, T', hs'.trans hsz, ?_, lies_put ho ho2 (sb1.trans sb2) hk hl hm2, fun q => by rw [hmask] at q; cases q⟩
      exact (elems_put hk el hm2).but ho (sb1.trans sb2)
  · rw [decide_eq_false hc]
    refine wpAny_pure (h _ sb1 ⟨es1, ep + 1, t1, ho1, T1, hsz, (elems_put hk el hm).but ho sb1, lies_put ho ho1 sb1 hk hl hm, fun q => ?_⟩)
    rw [hmk] at q; rw [h1]; rw [q] at hc; omega

theorem add_wp {S a : Addr} {k : List Int} {seen : List (List Int)} (I : SetI prog w s.heap S seen) (hk : TK prog w s.heap k a) (hu : A.units < cLine) (hlen : seen.length ≤ 17) {Q : Bool → Shared → Prop}
    (h : ∀ h' b, Heap.SameBut S s.heap h' → SetI prog w h' S (if k ∈ seen then seen else seen ++ [k]) → Q b { s with heap := h' }) :
    wpAny (model prog w) A (setAddHashed S (.ref a) (hashP prog w k)) Q E s := by
  obtain ⟨es, ep, t, ho, T, hn, el, hl, h4⟩ := I.is
  have hp : t.place.toList.length ≤ t.mask := by rw [Array.length_toList, T.size]; exact T.room
  obtain ⟨n₀, hn₀, F⟩ := first_is T.good hp (hashP prog w k)
  have hM : t.mask ≤ 31 := by rcases T.good with g | g <;> rw [g] <;> decide
  unfold setAddHashed setAddHashedIn
  refine wpAny_holding (wpAny_bind (wpAny_setState_of ho rfl T.fits' ?_))
  dsimp only
  rw [show byScan (.ref a) es = false from rfl, if_neg Bool.false_ne_true]
  refine wpAny_bind (search_from ⟨ho, T, el, hk, F, hn₀⟩ hu (fun hy => ?_) (fun hno => ?_) 100000 0 none (Nat.zero_le _) (by omega) rfl fun m hm => absurd hm (Nat.not_lt_zero m))
  · have := h s.heap false (Heap.SameBut.refl _ _) (by rw [if_pos ((hl k).mp hy)]; exact I)
    exact wpAny_pure this
  · dsimp only
    have hnew : k ∉ seen := fun q => hno ((hl k).mpr q)
    rw [if_neg hnew] at h
    refine wpAny_bind (wpAny_setState_of ho rfl T.fits' ?_)
    dsimp only
    have hroom : es.size + 1 ≤ t.mask := by
      rcases T.good with g | g
      · have := h4 g; omega
      · omega
    have hb := below_is (j := at_ t.mask (hashP prog w k) n₀) T.up
    have hps : below t.place (at_ t.mask (hashP prog w k) n₀) ≤ es.size := by rw [← T.size]; exact hb.1
    have T1 := T.put F hroom (x := .ref a) (t.put (at_ t.mask (hashP prog w k) n₀)).1.plain
    have tail := store_tail (A := A) (E := E) ho T hn el hl hk hlen h4 T1 (ins_size hps) rfl (fun e => ins_mem) (Q := Q) fun h' sb I' => h h' true sb I'
    split
    · exact wpAny_bind (hashBy_tuple hk tail)
    · exact wpAny_bind (wpAny_pure tail)
end
end Mine

namespace Mine
open PySem PySem.Spec PyProof.Rows PySem.SetTable

theorem addNew_len {seen : List (List Int)} {k : List Int} : (addNew seen k).length ≤ seen.length + 1 := by
  unfold addNew
  split
  · omega
  · rw [List.length_append]; exact Nat.le_refl _

section
variable {prog : Program} {w : World} {A : Around} {E : Value → Shared → Prop} {s : Shared} {R : Result → Shared → Prop}

theorem TK.ext {h h' : Heap} {I b : Addr} {k : List Int} {l : Addr} {i : Nat} (hI : h.IsListIter I l i) (hx : Heap.ExtBut I h h') (x : TK prog w h k b) : TK prog w h' k b := by
  obtain ⟨o, items, n, ho, hc, hd, hi⟩ := x
  refine ⟨o, items, n, hx b o (fun q => ?_) ho, hc, hd, hi⟩
  subst q
  obtain ⟨o', h1, _, h3⟩ := hI
  rw [ho] at h1; cases h1; rw [hd] at h3; cases h3
theorem SetI.ext {h h' : Heap} {I S : Addr} {seen : List (List Int)} {l : Addr} {i : Nat} (hI : h.IsListIter I l i) (hx : Heap.ExtBut I h h') (hS : S ≠ I) (x : SetI prog w h S seen) : SetI prog w h' S seen := by
  obtain ⟨es, ep, t, ho, T, hn, el, hl, h4⟩ := x.is
  have el' : Elems prog w h' es := fun e he => by
    obtain ⟨k, b, q, hb⟩ := el e he
    exact ⟨k, b, q, hb.ext hI hx⟩
  refine ⟨es, ep, t, hx S _ hS ho, T, hn, el', fun k => ?_, h4⟩
  rw [← hl k]
  constructor
  · rintro ⟨e, he, b, q, hb⟩
    obtain ⟨k0, b0, q0, hb0⟩ := el e he
    rw [q] at q0
    have := Value.ref.inj (Prod.mk.inj q0).2
    subst this
    have := hb.inj (hb0.ext hI hx)
    subst this
    exact ⟨e, he, b, q, hb0⟩
  · rintro ⟨e, he, b, q, hb⟩
    exact ⟨e, he, b, q, hb.ext hI hx⟩

theorem set_loop {S I l : Addr} {items : Array Value} {ks : List (List Int)} (hh : A.in1.handled = none) (hu : A.in1.units < cLine) (hSI : S ≠ I) (hlI : l ≠ I) (hlS : l ≠ S) (hk : ks.length = items.size) (hlen : items.size ≤ 18) :
    ∀ (d i : Nat) (s : Shared) (seen : List (List Int)), items.size - i = d → i ≤ items.size → s.heap.IsListIter I l i → s.heap.IsList l items → (∀ (j : Nat) (v : Value) (k : List Int), items[j]? = some v → ks[j]? = some k → ∃ b, v = .ref b ∧ TK prog w s.heap k b) →
      SetI prog w s.heap S seen → seen.length ≤ i →
      (∀ h' tk, SetI prog w h' S ((ks.drop i).foldl addNew seen) → (∀ b o, b ≠ S → b ≠ I → s.heap.get? b = some o → h'.get? b = some o) → R (.ok (.ret .none)) { s with heap := h', toks := tk }) →
      codeAny (model prog w) A (.builtin "set.update.loop" ⟨[.ref S, .ref I], []⟩) R s := by
  intro d
  induction d with
  | zero =>
    intro i s seen hd hi hit hl hks hS hle hR
    refine codeAny_builtin F.entry_set_update_loop ?_
    rw [Around.under_plainId F.plain_set_update_loop _]
    show wpAny _ A.in1 (pyNext (.ref I) >>= _) _ _ s
    refine wpAny_bind (wpAny_pyNext_list_end hh hit hl (Array.getElem?_eq_none (by omega)) fun h' hx => ?_)
    show wpAny _ A.in1 (ret Value.none) _ _ _
    refine wpAny_pure (hR h' s.toks ?_ fun b o _ hb e => hx b o hb e)
    rw [List.drop_eq_nil_of_le (by omega)]
    exact hS.ext hit hx hSI
  | succ d ih =>
    intro i s seen hd hi hit hl hks hS hle hR
    have hlt : i < items.size := by omega
    have hki : ks[i]? = some (ks[i]'(by omega)) := List.getElem?_eq_getElem (by omega)
    obtain ⟨b, hb1, hb2⟩ := hks i _ _ (Array.getElem?_eq_getElem hlt) hki
    refine codeAny_builtin F.entry_set_update_loop ?_
    rw [Around.under_plainId F.plain_set_update_loop _]
    show wpAny _ A.in1 (pyNext (.ref I) >>= _) _ _ s
    refine wpAny_bind (wpAny_pyNext_list_item hit hl (Array.getElem?_eq_getElem hlt) fun h₁ hit₁ sb₁ => ?_)
    rw [hb1]
    have hx₁ := sb₁.extBut
    have hb3 := hb2.ext hit hx₁
    show wpAny _ A.in1 (holding [Value.ref b] (setAdd S (.ref b)) >>= _) _ _ _
    refine wpAny_bind (wpAny_holding ?_)
    unfold setAdd
    refine wpAny_holding (wpAny_bind (wpAny_pyHash_tuple (s := { s with heap := h₁ }) hu hb3 ?_))
    refine add_wp (s := { s with heap := h₁, toks := _ }) (hS.ext hit hx₁ hSI) hb3 hu (by omega) fun h₂ _ sb₂ hS₂ => ?_
    obtain ⟨es, ep, t, ho, _⟩ := (hS.ext hit hx₁ hSI).is
    have hl₁ := hl.extBut hx₁ hlI
    refine wpAny_pure ⟨plainId_quiet F.plain_set_update_loop _, ih (i + 1) _ _ (by omega) hlt ?_ ?_ (fun j v k hj hk' => ?_) hS₂ ?_ fun h' tk hS' hk' => ?_⟩
    · obtain ⟨o, h1, h2⟩ := hit₁
      exact ⟨o, (sb₂.2 I (Ne.symm hSI)).trans h1, h2⟩
    · obtain ⟨o, h1, h2⟩ := hl₁
      exact ⟨o, (sb₂.2 l hlS).trans h1, h2⟩
    · obtain ⟨b', q, hb'⟩ := hks j v k hj hk'
      exact ⟨b', q, (hb'.ext hit hx₁).but ho sb₂⟩
    · have := @addNew_len seen (ks[i]'(by omega))
      exact Nat.le_trans this (by omega)
    · refine hR h' tk ?_ fun b o hbS hbI e => hk' b o hbS hbI ((sb₂.2 b hbS).trans (hx₁ b o hbI e))
      rw [List.drop_eq_getElem_cons (by omega)]
      exact hS'
end
end Mine

namespace Mine
open PySem PySem.Spec PyProof.Rows PySem.SetTable

section
variable {prog : Program} {w : World} {A : Around} {E : Value → Shared → Prop} {s : Shared}

noncomputable def newSet0 (led : Bool) : Obj := setObj #[] 0 (.fresh 0 0 led)
theorem SetI.new {h : Heap} {S : Addr} {led : Bool} (hS : h.get? S = some (newSet0 led)) : SetI prog w h S [] :=
  ⟨#[], 0, .fresh 0 0 led, hS, Tab.fresh 0 0 led, rfl, fun e he => (nomatch he), fun k => ⟨fun ⟨e, he, _⟩ => (nomatch he), fun hk => (nomatch hk)⟩, fun _ => Nat.zero_le _⟩

theorem TK.push {h : Heap} {k : List Int} {b : Addr} (o : Obj) (x : TK prog w h k b) : TK prog w (h.push o) k b := by
  obtain ⟨o', items, n, ho, hc, hd, hi⟩ := x
  exact ⟨o', items, n, Heap.get?_push_of_some _ ho, hc, hd, hi⟩

noncomputable def Made (prog : Program) (w : World) (s : Shared) (seen : List (List Int)) (s' : Shared) : Prop :=
  ∃ h' tk, s' = { s with heap := h', toks := tk } ∧ SetI prog w h' s.heap.objs.size seen ∧ ∀ b o, s.heap.get? b = some o → h'.get? b = some o

theorem set_init {l : Addr} {items : Array Value} {ks : List (List Int)} {led : Bool} (hh : A.handled = none) (hu : A.units + 5 < cLine) (hl : s.heap.IsList l items) (hk : ks.length = items.size) (hlen : items.size ≤ 18)
    (hks : ∀ (j : Nat) (v : Value) (k : List Int), items[j]? = some v → ks[j]? = some k → ∃ b, v = .ref b ∧ TK prog w s.heap k b) :
    codeAny (model prog w) A (.call (.builtin "set.__init__") ⟨[.ref s.heap.objs.size, .ref l], []⟩) (wants (fun r s₂ => r = .none ∧ Made prog w s (ks.foldl addNew []) s₂) E) { s with heap := s.heap.push (newSet0 led) } := by
  have hS : (s.heap.push (newSet0 led)).get? s.heap.objs.size = some (newSet0 led) := Heap.get?_push_size _ rfl
  have hT : Shared.TypeIs { s with heap := s.heap.push (newSet0 led) } (.ref s.heap.objs.size) "set" := ⟨_, hS, rfl⟩
  refine codeAny_call_builtin F.called_set.init.plain F.entry_set_init (check_set_init_1 hT ?_)
  obtain ⟨ol, hol, hcl, nl, hdl⟩ := id hl
  have hol' : (s.heap.push (newSet0 led)).get? l = some ol := Heap.get?_push_of_some _ hol
  have hTl : Shared.TypeIs { s with heap := s.heap.push (newSet0 led) } (.ref l) "list" := ⟨_, hol', hcl⟩
  have hsls := F.sub_list_set
  have hslf := F.sub_list_frozenset
  have hne : (Value.type "list" == Value.type "dict") = false := by decide
  have hl1 : (s.heap.push (newSet0 led)).IsList l items := hl.push _
  unfold Builtin.«set.__init__» noKeywords Builtin.Frozenset.updateFrom
  generalize hPI : pyIter = PI
  wp_walk
  subst hPI
  refine wpAny_pyIter_list hl1 ?_
  refine wpAny_bind (wpAny_runValue ?_)
  have hlS : l < s.heap.objs.size := Heap.lt_size hol
  have hsz : (s.heap.push (newSet0 led)).objs.size = s.heap.objs.size + 1 := Heap.size_push ..
  refine set_loop (ks := ks) (l := l) (items := items) (by simp [hh]) (by simp; omega) (by rw [hsz]; exact Nat.ne_of_lt (Nat.lt_succ_self _)) (by rw [hsz]; exact Nat.ne_of_lt (Nat.lt_succ_of_lt hlS)) (Nat.ne_of_lt hlS) hk hlen (items.size - 0) 0 _ [] rfl (Nat.zero_le _)
    ⟨_, Heap.get?_push_size _ rfl, rfl, rfl⟩ (hl1.push _) (fun j v k hj hk' => ?_) (SetI.new (led := led) (Heap.get?_push_of_some _ hS)) (Nat.zero_le _) fun h' tk hS' hk' => ?_
  · obtain ⟨b, q, hb⟩ := hks j v k hj hk'
    exact ⟨b, q, (hb.push _).push _⟩
  · refine wpAny_pure ?_
    refine wpAny_pure ⟨rfl, h', tk, rfl, hS', fun b o e => ?_⟩
    have hb := Heap.lt_size e
    exact hk' b o (Nat.ne_of_lt hb) (by rw [hsz]; exact Nat.ne_of_lt (Nat.lt_succ_of_lt hb)) (Heap.get?_push_of_some _ (Heap.get?_push_of_some _ e))

set_option maxRecDepth 100000 in
set_option maxHeartbeats 3200000 in
theorem call_set_pairs {l : Addr} {items : Array Value} {ks : List (List Int)} {Q : Value → Shared → Prop} (hh : A.handled = none) (hu : A.units + 7 < cLine) (hl : s.heap.IsList l items) (hk : ks.length = items.size) (hlen : items.size ≤ 18)
    (hks : ∀ (j : Nat) (v : Value) (k : List Int), items[j]? = some v → ks[j]? = some k → ∃ b, v = .ref b ∧ TK prog w s.heap k b) (h : ∀ s', Made prog w s (ks.foldl addNew []) s' → Q (.ref s.heap.objs.size) s') :
    wpAny (model prog w) A (call (.type "set") [.ref l]) Q E s := by
  obtain ⟨c, tl, hmro⟩ := F.called_set.mro
  have hmade := F.called_set.made
  have hsub := F.called_set.sub
  refine wpAny_call (codeAny_of_tree ?_)
  show wpAny _ _ (callAny (.type "set") _) _ _ _
  refine wpAny_pure ⟨Code.quiet_builtin _ (by decide +kernel), codeAny_builtin F.entry_type_call ?_⟩
  rw [Around.under_plain (weight_type_call_type "set" [.ref l] []) rfl]
  have h1 := F.called_set.notType
  have h2 := F.called_set.canCreate
  have hct := F.typeCall_set_1 (.ref l)
  repeat (any_goals (first | assumption | wp_step))
  refine codeAny_mono (code_set_new_1 (.ref l) (E := E) (Q₁ := fun obj s₁ => ∃ led : Bool, obj = .ref s.heap.objs.size ∧ s₁ = { s with heap := s.heap.push (newSet0 led) }) fun led => ⟨led, rfl, rfl⟩) fun r s₁ hr => ?_
  cases r with
  | error e => exact hr
  | ok fl =>
    cases fl with
    | ret obj =>
      obtain ⟨led, rfl, rfl⟩ := hr
      have hS : (s.heap.push (newSet0 led)).get? s.heap.objs.size = some (newSet0 led) := Heap.get?_push_size _ rfl
      have hT : Shared.TypeIs { s with heap := s.heap.push (newSet0 led) } (.ref s.heap.objs.size) "set" := ⟨_, hS, rfl⟩
      have hli := F.called_set.init.lookup
      have hbi := F.called_set.init.bind (.ref s.heap.objs.size)
      repeat (any_goals (first | assumption | wp_step))
      refine codeAny_mono (set_init (E := E) (by simp [hh]) (by simp; omega) hl hk hlen hks) fun r₂ s₂ hr₂ => ?_
      cases r₂ with
      | error e => exact hr₂
      | ok fl₂ =>
        cases fl₂ with
        | ret r =>
          obtain ⟨rfl, hm⟩ := hr₂
          have hd := h s₂ hm
          repeat (any_goals (first | assumption | wp_step))
        | _ => exact hr₂.elim
    | _ => exact hr.elim
theorem len_set {S : Addr} {seen : List (List Int)} {Q : Value → Shared → Prop} (I : SetI prog w s.heap S seen) (hn : seen.length ≤ 100) (h : ∀ t tk, Q (.int seen.length t) { s with toks := tk }) : wpAny (model prog w) A (call (.builtin "len") [.ref S]) Q E s := by
  obtain ⟨es, ep, t, ho, T, hsz, _⟩ := I.is
  refine call_len_set ho ⟨rfl, rfl, rfl⟩ rfl T.fits' (by rw [hsz]; omega) ?_
  rw [hsz]
  exact h _ _
end
end Mine

namespace Mine
open PySem PySem.Spec PyProof.Rows PySem.SeqAt

section
variable {P : Par} {cx : Cx} {σ : Sg} {hp : AHeap} {s : Shared} {A : Around}

theorem pairKey_is {v : AV} {k : List Int} (h : pairKey v = some k) : ∃ a b, v = (Key.pair a b).av ∧ k = [a, b] := by
  unfold pairKey at h
  split at h
  · split at h
    · cases h; exact ⟨_, _, rfl, rfl⟩
    · cases h
  · cases h
theorem pairKeys_at {h : Heap} : ∀ {xs : List AV} {ks : List (List Int)} {vs : List Value}, pairKeys xs = some ks → RVs P.B h σ xs vs → ks.length = vs.length ∧ ∀ (j : Nat) (v : Value) (k : List Int), vs[j]? = some v → ks[j]? = some k → ∃ b, v = .ref b ∧ TK P.prog P.w h k b
  | [], _, [], e, _ => by cases e; exact ⟨rfl, fun j v k h => by cases h⟩
  | x :: xs, ks, v :: vs, e, r => by
    unfold pairKeys at e
    split at e
    · rename_i k ks' h1 h2
      cases e
      obtain ⟨a, b, rfl, rfl⟩ := pairKey_is h1
      obtain ⟨c, rfl, ht⟩ := key_tuple (P := P) r.1
      obtain ⟨hl, hr⟩ := pairKeys_at h2 r.2
      refine ⟨congrArg (· + 1) hl, fun j v k hv hk => ?_⟩
      cases j with
      | zero => cases hv; cases hk; exact ⟨c, rfl, ht⟩
      | succ j => exact hr j v k hv hk
    · cases e
  | [], _, _ :: _, _, r => r.elim
  | _ :: _, _, [], _, r => r.elim

theorem lenSet_is {v : AV} (hb : lenSetAV v hp ≠ .bad) : ∃ (n : Nat) (xs : List AV) (ks : List (List Int)), v = .loc n ∧ hp[n]? = some (.list xs) ∧ pairKeys xs = some ks ∧ ks.length ≤ 18 ∧ lenSetAV v hp = .ok (.int (ks.foldl addNew []).length) hp := by
  unfold lenSetAV at hb ⊢
  split at hb
  · rename_i n
    unfold lenSetO at hb ⊢
    split at hb
    · rename_i ks hk
      have hl := lim_if hb
      obtain ⟨xs, h1, h2⟩ := Option.bind_eq_some_iff.mp hk
      exact ⟨n, xs, ks, rfl, listAt_is h1, h2, hl, if_pos hl⟩
    · exact absurd rfl hb
  · exact absurd rfl hb
theorem addNew_all : ∀ {ks seen : List (List Int)}, (ks.foldl addNew seen).length ≤ seen.length + ks.length
  | [], _ => Nat.le_refl _
  | k :: r, seen => by
    have h1 := @addNew_all r (addNew seen k)
    have h2 := @addNew_len seen k
    rw [List.foldl_cons, List.length_cons]
    omega

theorem set_prim {n : Nat} (S : St P.w P.B σ hp s.heap) (ar : Arnd n A) {v : AV} {u : Value} (rv : RV P.B s.heap σ v u) (hb : lenSetAV v hp ≠ .bad) {Q : Value → Shared → Prop}
    (hq : ∀ b s' seen, lenSetAV v hp = .ok (.int (List.length seen)) hp → SetI P.prog P.w s'.heap b seen → seen.length ≤ 18 → After P σ σ [] hp s s' → Q (.ref b) s') : wpAny (model P.prog P.w) A (call (.type "set") [u]) Q NE s := by
  obtain ⟨j, xs, ks, rfl, hj, hks, hlen, er⟩ := lenSet_is hb
  obtain ⟨a, off, rfl, e1⟩ := rv
  obtain ⟨ws, m, hL, rx⟩ := S.isL hj e1
  obtain ⟨h1, h2⟩ := pairKeys_at (P := P) hks rx
  have h1 : ks.length = ws.size := h1.trans Array.length_toList
  refine call_set_pairs ar.handled (by have := ar.units; omega) (isList_of hL) h1 (by omega) (fun j v k hv hk => h2 j v k (by rw [Array.getElem?_toList]; exact hv) hk) fun s' hm => ?_
  obtain ⟨h', tk, rfl, hS, old⟩ := hm
  have hl := @addNew_all ks []
  exact hq _ _ _ er hS (by rw [List.length_nil] at hl; omega) ⟨rfl, S.keep old, grows_keep old⟩

theorem sim_lenset {e : Expr} {x : X} {p q pos pos2 : Pos} (hg : cx.isGlob "len" = true) (hgS : cx.isGlob "set" = true) (hs : ∀ env rest, starEach (e :: rest) env = (false, eval e env) :: starEach rest env) (h : SimE P cx e x) :
    SimE P cx (.Call (.Name "len" p) [.Call (.Name "set" q) [e] [] pos2] [] pos) (.lenset x) := by
  intro c n env A σ loc hp s C I hb
  rw [x_lenset] at hb ⊢
  rw [call_eq]
  have hpl : (backTo pos (starEach [.Call (.Name "set" q) [e] [] pos2] env)).any (·.1) = false := rfl
  have hpl2 : (backTo pos2 (starEach [e] env)).any (·.1) = false := by rw [hs]; rfl
  refine wpAny_bind (load_blt C I hg blt_len (Calls.callWith_builtin hpl (evalArgs_es hpl (wpAny_items_cons ?_ rfl))))
  rw [call_eq]
  refine wpAny_bind (load_blt C I hgS blt_set (PySem.callWith_type hpl2 (evalArgs_es hpl2 (wpAny_items_cons ?_ (hs env _)))))
  refine seqV (G := fun R v s₁ => wpAny (model P.prog P.w) A (spliced (backTo pos2 (starEach [] env))) (fun vs s₂ => wpAny (model P.prog P.w) A (call (.type "set") ([] ++ (v :: vs)) [])
    (fun u s₃ => wpAny (model P.prog P.w) A (spliced (backTo pos (starEach [] env))) (fun us s₄ => wpAny (model P.prog P.w) A (call (.builtin "len") ([] ++ (u :: us)) []) (QV P σ s R) NE s₄) NE s₃) NE s₂) NE s₁) (.refl I.st) (h c n env A σ loc hp s C I (bind_ok hb)) hb ?_
  intro av hp₁ σ₁ v s₁ a₁ _ rv hb
  refine wpAny_items_nil (set_prim a₁.st I.ar rv hb fun b s₂ seen er hS hl a₂ => wpAny_items_nil (len_set hS (by omega) fun t tk => ?_))
  rw [er]
  exact ⟨_, _, _, rfl, a₁.trans (a₂.trans (.tok a₂.st tk)), t, rfl⟩
end
end Mine

namespace Mine
open PySem PySem.Spec PyProof.Rows PySem.SeqAt

noncomputable def FX (env : Env) : List Addr := env.locals :: env.cells.map (·.2)

noncomputable def RF (B : Bs) (h : Heap) (σ : Sg) : Flow → PySem.Flow → Prop
  | .next, f => f = .next
  | .ret av, f => ∃ v, f = .ret v ∧ RV B h σ av v

inductive QS (P : Par) (env : Env) (cx : Cx) (σ : Sg) (s : Shared) (r : SR) (f : PySem.Flow) (s' : Shared) : Prop
  | mk (fl : Flow) (l' : Locs) (hp' : AHeap) (σ' : Sg) (e : r = .ok fl l' hp') (a : After P σ σ' (FX env) hp' s s') (rf : RF P.B s'.heap σ' fl f) (fr : Frm P s'.heap σ' env cx l')

section
variable {P : Par} {cx : Cx} {env : Env} {A : Around} {E : Value → Shared → Prop} {σ : Sg} {l : Locs} {hp : AHeap} {s : Shared}

theorem Frm.nsObj (f : Frm P s.heap σ env cx l) : ∃ o es ep, s.heap.get? env.locals = some o ∧ o.data = .dict es ep := by
  obtain ⟨m, ⟨o, es, ep, ho, hd, _⟩, _⟩ := f.names
  exact ⟨o, es, ep, ho, hd⟩
theorem Frm.cell_ne (f : Frm P s.heap σ env cx l) {p : Str × Addr} (hp : p ∈ env.cells) : p.2 ≠ env.locals := fun e => by
  obtain ⟨o, v, ho, hd⟩ := f.cells p hp
  obtain ⟨o', es, ep, ho', hd'⟩ := f.nsObj
  rw [e, ho'] at ho
  cases ho
  rw [hd'] at hd
  cases hd

theorem slot_len (f : Frm P s.heap σ env cx l) {x : Str} {i : Nat} (hx : cx.slot x = some i) : i < l.length := by rw [f.len]; exact f.lt x i hx

theorem slotW_slot {cx : Cx} {x : Str} {i : Nat} (h : cx.slotW x = some i) : cx.slot x = some i := by
  unfold Cx.slotW at h
  split at h
  · exact h
  · exact h
  · cases h

/-- a local name is bound -/
theorem store_in {X : List Addr} (S : St P.w P.B σ hp s.heap) (f : Frm P s.heap σ env cx l) {x : Str} {i : Nat} {av : AV} {v : Value} (hw : cx.slotW x = some i) (rv : RV P.B s.heap σ av v) (hL : env.kindOf x = some .local → env.locals ∈ X) (hC : env.kindOf x ≠ some .local → ∀ p ∈ env.cells, p.2 ∈ X) {Q : Unit → Shared → Prop}
    (h : ∀ s', After P σ σ X hp s s' → Frm P s'.heap σ env cx (l.set i (some av)) → RV P.B s'.heap σ av v → Q () s') : wpAny (model P.prog P.w) A (storeName env x v) Q E s := by
  obtain ⟨m, hn, hm⟩ := f.names
  have hx := slotW_slot hw
  have hfree := f.wr x i hw
  have hil := slot_len f hx
  have hget : ∀ y j, cx.slot y = some j → y ≠ x → (l.set i (some av))[j]? = l[j]? := fun y j hy hne => by
    rw [List.getElem?_set_ne]
    intro e; subst e; exact hne (f.inj y x i hy hx)
  rcases hm x i hx with ⟨hk, _⟩ | ⟨hk, c, ov, hc, hi, _⟩
  · refine wpAny_storeName_local hk hn (fun h' hn' hs => ?_) (by rw [f.kind]; rfl)
    obtain ⟨o, es, ep, ho, hd⟩ := f.nsObj
    obtain ⟨o₁, _, _, ho₁, _⟩ := id hn'
    obtain ⟨S', g⟩ := S.sameBut (X := X) hs (fun o' ho' => by rw [ho] at ho'; cases ho'; unfold fixed; rw [hd]; simp) f.out.1 f.new.1 (hL hk) ho₁
    have hcell : ∀ p ∈ env.cells, h'.get? p.2 = s.heap.get? p.2 := fun p hp => hs.2 p.2 (f.cell_ne hp)
    refine h { s with heap := h', toks := s.toks + 1 } ⟨rfl, S', g⟩ ⟨f.kind, by rw [List.length_set]; exact f.len, f.inj, f.lt, f.glob, f.wr, ⟨_, hn', fun y j hy => ?_⟩, f.out, f.new, f.globals, f.builtins, fun p hp => ?_, f.apart, f.kinds⟩ (RV.grows g _ _ rv)
    · by_cases hyx : y = x
      · subst hyx
        rw [hx] at hy; cases hy
        refine .inl ⟨hk, fun av' e => ?_⟩
        rw [List.getElem?_set_self hil] at e
        cases e
        exact ⟨v, by simp, RV.grows g _ _ rv⟩
      · rw [hget y j hy hyx]
        rcases hm y j hy with ⟨hk', hv⟩ | ⟨hk', c, ov, hc, hi, hv⟩
        · exact .inl ⟨hk', fun av' e => let ⟨u, h1, h2⟩ := hv av' e; ⟨u, by rw [if_neg hyx]; exact h1, RV.grows g _ _ h2⟩⟩
        · obtain ⟨oc, hoc, hdc⟩ := hi
          exact .inr ⟨hk', c, ov, hc, ⟨oc, (hcell (y, c) (mem_of_lookup' hc)).trans hoc, hdc⟩, fun av' e => let ⟨u, h1, h2⟩ := hv av' e; ⟨u, h1, RV.grows g _ _ h2⟩⟩
    · obtain ⟨oc, vc, hoc, hdc⟩ := f.cells p hp
      exact ⟨oc, vc, (hcell p hp).trans hoc, hdc⟩
  · rcases hk with hk | hk
    · refine wpAny_storeName_cell f.kind hk hc hi fun h' hi' hs => ?_
      have hmem := mem_of_lookup' hc
      obtain ⟨oc, hoc, hdc⟩ := hi
      obtain ⟨o₁, ho₁, _⟩ := id hi'
      obtain ⟨S', g⟩ := S.sameBut (X := X) hs (fun o' ho' => by rw [hoc] at ho'; cases ho'; unfold fixed; rw [hdc]; simp) (f.out.2 _ hmem) (f.new.2 _ hmem) (hC (fun q => by rw [hk] at q; cases q) _ hmem) ho₁
      have hloc : h'.get? env.locals = s.heap.get? env.locals := hs.2 _ (Ne.symm (f.cell_ne hmem))
      obtain ⟨o, es, ep, ho, hd, hrest⟩ := hn
      refine h { s with heap := h' } ⟨rfl, S', g⟩ ⟨f.kind, by rw [List.length_set]; exact f.len, f.inj, f.lt, f.glob, f.wr, ⟨m, ⟨o, es, ep, hloc.trans ho, hd, hrest⟩, fun y j hy => ?_⟩, f.out, f.new, f.globals, f.builtins, fun p hp => ?_, f.apart, f.kinds⟩ (RV.grows g _ _ rv)
      · by_cases hyx : y = x
        · subst hyx
          rw [hx] at hy; cases hy
          refine .inr ⟨.inl hk, c, some v, hc, hi', fun av' e => ?_⟩
          rw [List.getElem?_set_self hil] at e
          cases e
          exact ⟨v, rfl, RV.grows g _ _ rv⟩
        · rw [hget y j hy hyx]
          rcases hm y j hy with ⟨hk', hv⟩ | ⟨hk', c', ov', hc', hi₂, hv⟩
          · exact .inl ⟨hk', fun av' e => let ⟨u, h1, h2⟩ := hv av' e; ⟨u, h1, RV.grows g _ _ h2⟩⟩
          · have hne : c' ≠ c := fun e => hyx (f.apart (y, c') (mem_of_lookup' hc') (x, c) hmem e)
            obtain ⟨oc', hoc', hdc'⟩ := hi₂
            exact .inr ⟨hk', c', ov', hc', ⟨oc', (hs.2 c' hne).trans hoc', hdc'⟩, fun av' e => let ⟨u, h1, h2⟩ := hv av' e; ⟨u, h1, RV.grows g _ _ h2⟩⟩
      · by_cases e : p.2 = c
        · obtain ⟨o', ho', hd'⟩ := hi'
          exact ⟨o', _, e ▸ ho', hd'⟩
        · obtain ⟨oc', vc, hoc', hdc'⟩ := f.cells p hp
          exact ⟨oc', vc, (hs.2 p.2 e).trans hoc', hdc'⟩
    · exact absurd hk hfree

theorem store_prim (S : St P.w P.B σ hp s.heap) (f : Frm P s.heap σ env cx l) {x : Str} {i : Nat} {av : AV} {v : Value} (hw : cx.slotW x = some i) (rv : RV P.B s.heap σ av v) {Q : Unit → Shared → Prop}
    (h : ∀ s', After P σ σ (FX env) hp s s' → Frm P s'.heap σ env cx (l.set i (some av)) → RV P.B s'.heap σ av v → Q () s') : wpAny (model P.prog P.w) A (storeName env x v) Q E s :=
  store_in S f hw rv (fun _ => List.mem_cons_self) (fun _ p hp => List.mem_cons_of_mem _ (List.mem_map_of_mem hp)) h
end
end Mine

namespace Mine
open PySem PySem.Spec PyProof.Rows PySem.SeqAt

inductive QT (P : Par) (σ : Sg) (s : Shared) (r : Res AV) (b : Bool) (s' : Shared) : Prop
  | mk (hp' : AHeap) (σ' : Sg) (e : r = .ok (.bool b) hp') (a : After P σ σ' [] hp' s s')
noncomputable def BoolR (r : Res AV) : Prop := ∀ av h, r = .ok av h → ∃ b, av = .bool b

noncomputable def SimT (P : Par) (cx : Cx) (e : Expr) (x : X) : Prop :=
  ∀ c n env A σ l hp s, Sims P cx c n → Inv P cx n env A σ l hp s → evalX c x l hp ≠ .bad → BoolR (evalX c x l hp) →
    wpAny (model P.prog P.w) A (isTrue e env (eval e env)) (QT P σ s (evalX c x l hp)) NE s
noncomputable def SimTs (P : Par) (cx : Cx) (op : BoolOp) (es : List Expr) (x : X) : Prop :=
  ∀ c n env A σ l hp s, Sims P cx c n → Inv P cx n env A σ l hp s → evalX c x l hp ≠ .bad → BoolR (evalX c x l hp) →
    wpAny (model P.prog P.w) A (allTrue op es env) (QT P σ s (evalX c x l hp)) NE s

section
variable {P : Par} {cx : Cx}

theorem QT.lift {σ σ' : Sg} {hp' : AHeap} {s s' : Shared} {r : Res AV} {v : Bool} {s'' : Shared} (a : After P σ σ' [] hp' s s') (q : QT P σ' s' r v s'') : QT P σ s r v s'' := by
  obtain ⟨hp, σ₂, e, b⟩ := q
  exact ⟨hp, σ₂, e, a.trans b⟩

theorem simT_val {e : Expr} {x : X} (hv : ∀ env whole, isTrue e env whole = (do let v ← whole; standAt e.pos; holding [v] (truthy v))) (h : SimE P cx e x) : SimT P cx e x := by
  intro c n env A σ l hp s C I hb hr
  refine wpAny_isTrue_value (wpAny_mono (h c n env A σ l hp s C I hb) (fun v s' ⟨av, hp', σ', e, a, rv⟩ => ?_) fun _ _ q => q) (hv env _)
  obtain ⟨b, rfl⟩ := hr av hp' e
  cases (show v = .bool b from rv)
  exact wpAny_truthy_bool ⟨hp', σ', e, a⟩

theorem boolR_bind {r : Res AV} {f : AV → AHeap → Res AV} (h : BoolR (r.bind f)) {av : AV} {hp : AHeap} (e : r = .ok av hp) : BoolR (f av hp) := by
  subst e; exact h

theorem simT_not {x : Expr} {xx : X} {pos : Pos} (hx : SimT P cx x xx) : SimT P cx (.UnaryOp .Not x pos) (.not xx) := by
  intro c n env A σ loc hp s C I hb hr
  rw [x_not] at hb hr ⊢
  have hbr : BoolR (evalX c xx loc hp) := fun av h e => by
    rw [e, bok] at hb
    unfold notAV at hb
    split at hb
    · exact ⟨_, rfl⟩
    · exact absurd rfl hb
  refine wpAny_isTrue_Not (wpAny_mono (hx c n env A σ loc hp s C I (bind_ok hb) hbr) (fun b s' ⟨hp', σ', e, a⟩ => ?_) fun _ _ q => q)
  rw [e]
  exact ⟨hp', σ', rfl, a⟩

theorem simT_boolop {op : BoolOp} {es : List Expr} {x : X} {pos : Pos} (h : SimTs P cx op es x) : SimT P cx (.BoolOp op es pos) x := by
  intro c n env A σ loc hp s C I hb hr
  exact wpAny_isTrue_BoolOp (h c n env A σ loc hp s C I hb hr)
theorem simTs_one {op : BoolOp} {e : Expr} {x : X} (h : SimT P cx e x) : SimTs P cx op [e] x := by
  intro c n env A σ loc hp s C I hb hr
  have hh := h c n env A σ loc hp s C I hb hr
  cases op with
  | And =>
    refine wpAny_allTrue_And_cons (wpAny_mono hh (fun b s' q => ?_) fun _ _ q => q)
    cases b with
    | true => rw [if_pos rfl]; exact wpAny_allTrue_And_nil q
    | false => exact q
  | Or =>
    refine wpAny_allTrue_Or_cons (wpAny_mono hh (fun b s' q => ?_) fun _ _ q => q)
    cases b with
    | true => exact q
    | false => exact wpAny_allTrue_Or_nil q
theorem simTs_and {e : Expr} {es : List Expr} {x y : X} (h : SimT P cx e x) (hr : SimTs P cx .And es y) : SimTs P cx .And (e :: es) (.and x y) := by
  intro c n env A σ loc hp s C I hb hbr
  rw [x_and] at hb hbr ⊢
  have hb1 : BoolR (evalX c x loc hp) := fun av h e => by
    rw [e, bok] at hb
    exact condV_is hb
  refine wpAny_allTrue_And_cons (wpAny_mono (h c n env A σ loc hp s C I (bind_ok hb) hb1) (fun b s' ⟨hp', σ', e, a⟩ => ?_) fun _ _ q => q)
  rw [e] at hb hbr ⊢
  cases b with
  | true =>
    rw [if_pos rfl]
    exact wpAny_mono (hr c n env A σ' loc hp' s' C (I.after a) hb hbr) (fun _ _ q => q.lift a) (fun _ _ q => q)
  | false => exact ⟨hp', σ', rfl, a⟩
theorem simTs_or {e : Expr} {es : List Expr} {x y : X} (h : SimT P cx e x) (hr : SimTs P cx .Or es y) : SimTs P cx .Or (e :: es) (.or x y) := by
  intro c n env A σ loc hp s C I hb hbr
  rw [x_or] at hb hbr ⊢
  have hb1 : BoolR (evalX c x loc hp) := fun av h e => by
    rw [e, bok] at hb
    exact condV_is hb
  refine wpAny_allTrue_Or_cons (wpAny_mono (h c n env A σ loc hp s C I (bind_ok hb) hb1) (fun b s' ⟨hp', σ', e, a⟩ => ?_) fun _ _ q => q)
  rw [e] at hb hbr ⊢
  cases b with
  | false =>
    exact wpAny_mono (hr c n env A σ' loc hp' s' C (I.after a) hb hbr) (fun _ _ q => q.lift a) (fun _ _ q => q)
  | true => exact ⟨hp', σ', rfl, a⟩

theorem simT_cmp {l r : Expr} {op : CmpOp} {cop : COp} {xl xr : X} {pos : Pos} (hop : compCOp op = some cop) (hm : behindInMarks op r = false) (hl : SimE P cx l xl) (hr : SimE P cx r xr) : SimT P cx (.Compare l [op] [r] pos) (.cmp cop xl xr) := by
  intro c n env A σ loc hp s C I hb hbr
  rw [x_cmp] at hb hbr ⊢
  refine wpAny_isTrue_Compare1 (seqV (G := fun R a s₁ => wpAny (model P.prog P.w) A (eval r env) (fun b s₂ => wpAny (model P.prog P.w) A (compareOp op a b) (fun c s₃ => wpAny (model P.prog P.w) A (truthy c) (QT P σ s R) NE s₃) NE s₂) NE s₁) (.refl I.st) (hl c n env A σ loc hp s C I (bind_ok hb)) hb ?_) hm
  intro av hp₁ σ₁ v s₁ a₁ _ rv hb
  refine seqV (G := fun R b s₂ => wpAny (model P.prog P.w) A (compareOp op v b) (fun c s₃ => wpAny (model P.prog P.w) A (truthy c) (QT P σ s R) NE s₃) NE s₂) a₁ (hr c n env A σ₁ loc hp₁ s₁ C (I.after a₁) (bind_ok hb)) hb ?_
  intro bv hp₂ σ₂ u s₂ a₂ a₁₂ ru hb
  obtain ⟨k, hc⟩ := boolO_is hb
  rw [hc]
  refine wpAny_mono (cmp_prim C.ok a₂.st I.ar hop (RV.grows a₁₂.gr _ _ rv) ru hc) (fun w s₃ q => ?_) (fun _ _ q => q)
  obtain ⟨b, rfl, e, a₃⟩ := q
  cases e
  exact wpAny_truthy_bool ⟨_, _, rfl, a₂.trans a₃⟩

end
end Mine

namespace Mine
open PySem PySem.Spec PyProof.Rows PySem.SeqAt

/-- a walk of a dict's keys -/
abbrev KeyIter (h : Heap) (it d : Addr) (i n ep : Nat) : Prop := h.IsKeyIter it d i n ep
/-- the walk of a list or of a dict's keys -/
noncomputable def IterAt (P : Par) (h : Heap) (σ : Sg) (it : Addr) (src : AV) (i : Nat) (e : Option (Nat × Nat)) : Prop := match src with
  | .rng a b s => IsRangeIter h it (a + s * i) ((rngLen a b s : Int) - i) s
  | .tup xs => ∃ a ws n, ObjAt h a (.type "tuple") (.seq ws n) ∧ RVs P.B h σ xs ws.toList ∧ h.IsTupleIter it a i
  | .loc j => ∃ a off, σ[j]? = some (a, off) ∧ ((e = none ∧ h.IsListIter it a i) ∨ ∃ ep n, e = some (ep, n) ∧ KeyIter h it a i n (off + ep))
  | _ => False

noncomputable def iterClass (T : String) : Prop := T ≠ "range" ∧ T ≠ "frame"
noncomputable def IterObj (h : Heap) (it : Addr) : Prop := ∃ o T fs, h.get? it = some o ∧ o.cls = .type T ∧ iterClass T ∧ o.data = .fields fs
theorem IterObj.notFixed {h : Heap} {it : Addr} (x : IterObj h it) : ∃ o, h.get? it = some o ∧ ¬ fixed o := by
  obtain ⟨o, T, fs, ho, hc, ht, hd⟩ := x
  refine ⟨o, ho, ?_⟩
  unfold fixed
  rw [hd]
  dsimp only
  rw [hc]
  exact fun e => ht.1 (Value.type.inj e)

section
variable {P : Par} {cx : Cx} {A : Around} {E : Value → Shared → Prop} {σ : Sg} {hp : AHeap} {s : Shared}

theorem IterAt.obj {h : Heap} {it : Addr} {src : AV} {i : Nat} {e : Option (Nat × Nat)} (x : IterAt P h σ it src i e) : IterObj h it := by
  have ne : ∀ T : String, T ≠ "range" → T ≠ "frame" → iterClass T := fun T a b => ⟨a, b⟩
  cases src
  case rng => exact ⟨_, _, _, x, rfl, ne _ (by decide) (by decide), rfl⟩
  case tup => obtain ⟨_, _, _, _, _, o, h1, h2, h3⟩ := x; exact ⟨o, _, _, h1, h2, ne _ (by decide) (by decide), h3⟩
  case loc =>
    obtain ⟨_, _, _, ⟨_, o, h1, h2, h3⟩ | ⟨_, _, _, o, h1, h2, h3⟩⟩ := x
    · exact ⟨o, _, _, h1, h2, ne _ (by decide) (by decide), h3⟩
    · exact ⟨o, _, _, h1, h2, ne _ (by decide) (by decide), h3⟩
  all_goals exact x.elim

/-- the iterator stands where it stood -/
theorem IterAt.keep {h h' : Heap} {σ' : Sg} {X : List Addr} {it : Addr} {src : AV} {i : Nat} {e : Option (Nat × Nat)} (g : Grows σ σ' X h h') (hq : h'.get? it = h.get? it) (x : IterAt P h σ it src i e) : IterAt P h' σ' it src i e := by
  cases src
  case rng => exact hq.trans x
  case tup => obtain ⟨a, ws, n, h1, h2, o, h3, h4⟩ := x; exact ⟨a, ws, n, objAt_fix g h1 (fun _ hc hd => fixed_tuple hc hd), RVs.grows g _ _ h2, o, hq.trans h3, h4⟩
  case loc =>
    obtain ⟨a, off, h1, ⟨h2, o, h3, h4⟩ | ⟨ep, n, h2, o, h3, h4⟩⟩ := x
    · exact ⟨a, off, g.look h1, .inl ⟨h2, o, hq.trans h3, h4⟩⟩
    · exact ⟨a, off, g.look h1, .inr ⟨ep, n, h2, o, hq.trans h3, h4⟩⟩
  all_goals exact x.elim

/-- one new object that is not followed turns, and other new things come -/
theorem After.extBut {σ' : Sg} {X : List Addr} {s₀ : Shared} {h' : Heap} {t : Nat} {it : Addr} (a : After P σ σ' X hp s₀ s) (hs : Heap.ExtBut it s.heap h') (h0 : s₀.heap.get? it = none) (hσ : it ∉ σ'.map (·.1)) (hb : P.B.h₀.get? it = none) (ho : ∃ o, s.heap.get? it = some o ∧ ¬ fixed o) :
    After P σ σ' X hp s₀ { s with heap := h', toks := t } ∧ (∀ x v, RV P.B s.heap σ' x v → RV P.B h' σ' x v) ∧ (∀ b o, b ≠ it → s.heap.get? b = some o → h'.get? b = some o) := by
  obtain ⟨o, e, hf⟩ := ho
  have hne : ∀ b ob, s.heap.get? b = some ob → fixed ob → b ≠ it := fun b ob e' f q => by subst q; rw [e] at e'; cases e'; exact hf f
  -- as if the iterator might turn
  have hx : ∀ x v, RV P.B s.heap σ' x v → RV P.B h' σ' x v := by
    have hfix : ∀ b ob, s.heap.get? b = some ob → fixed ob → h'.get? b = some ob := fun b ob e' f => hs b ob (hne b ob e' f) e'
    intro x v r
    exact RV.fixes (fun b ob e' f => hfix b ob e' f) x v r
  refine ⟨⟨by rw [a.ctl], ?_, ?_⟩, hx, fun b o hb' e' => hs b o hb' e'⟩
  · refine ⟨a.st.len, a.st.nd, fun n b off ob e1 e2 => ?_, fun b ob e' => ?_, a.st.new⟩
    · have hbi : b ≠ it := fun q => by subst q; exact hσ (List.mem_map_of_mem (f := (·.1)) (List.mem_of_getElem? e1))
      obtain ⟨o', e3, _⟩ := a.st.there (List.mem_of_getElem? e1)
      exact RO.fixes (fun b ob e' f => hs b ob (hne b ob e' f) e') ((hs b o' hbi e3).trans e3.symm) (a.st.obj n b off ob e1 e2)
    · have hbi : b ≠ it := fun q => by subst q; rw [hb] at e'; cases e'
      exact hs b ob hbi (a.st.base b ob e')
  · refine ⟨a.gr.ext, fun b ob e' f => ?_, fun b ob e' h1 h2 => ?_, fun b ob e' => ?_⟩
    · have hbi : b ≠ it := fun q => by subst q; rw [h0] at e'; cases e'
      exact hs b ob hbi (a.gr.fix b ob e' f)
    · have hbi : b ≠ it := fun q => by subst q; rw [h0] at e'; cases e'
      have nn := a.gr.oth b ob e' h1 h2
      obtain ⟨o', e1, _⟩ := nn.get
      rw [e1] at nn
      show Near ob (h'.get? b)
      rw [hs b o' hbi e1]; exact nn
    · have hbi : b ≠ it := fun q => by subst q; rw [h0] at e'; cases e'
      obtain ⟨o', e1⟩ := a.gr.ex b ob e'
      exact ⟨o', hs b o' hbi e1⟩

theorem rng_len {a b c : Int} (hc : c = 1 ∨ c = -1) : Builtin.Range.rangeSize a b c = (rngLen a b c : Int) := by
  unfold Builtin.Range.rangeSize rngLen
  rcases hc with rfl | rfl
  · simp
    split <;> omega
  · simp
    split <;> omega

theorem rng_small {a b c : Int} (hc : c = 1 ∨ c = -1) (ha : a.natAbs ≤ sizeLim) (hb : b.natAbs ≤ sizeLim) : Builtin.Range.small a b c = true := by
  have hl : sizeLim = 1048576 := rfl
  have hr := rng_len (a := a) (b := b) hc
  have hlen : rngLen a b c ≤ 3000000 := by unfold rngLen; rcases hc with rfl | rfl <;> simp <;> omega
  unfold Builtin.Range.small
  rw [hr]
  have f : ∀ x : Int, -(2 ^ 40) ≤ x → x ≤ 2 ^ 40 → Builtin.Range.rangeFitsLong x = true := fun x h1 h2 => by
    unfold Builtin.Range.rangeFitsLong
    rw [Bool.and_eq_true]
    exact ⟨decide_eq_true (by omega), decide_eq_true (by omega)⟩
  rw [f a (by omega) (by omega), f b (by omega) (by omega), f c (by rcases hc with rfl | rfl <;> omega) (by rcases hc with rfl | rfl <;> omega), f _ (by omega) (by omega)]
  simp only [Bool.true_and, Bool.or_eq_true]
  right
  rcases hc with rfl | rfl
  · simp [f b (by omega) (by omega)]
  · simp [f b (by omega) (by omega)]

theorem iterD {d : Addr} {es : Array DictEntry} {ep : Nat} (hm : (d == sysModules) = false) (ho : ObjAt s.heap d (.type "dict") (.dict es ep)) {Q : Value → Shared → Prop}
    (hQ : Q (.ref s.heap.objs.size) { s with heap := s.heap.push { cls := .type "dict_keyiterator", data := .fields #[.ref d, .int 0 0, .int es.size 0, .int ep 0] } }) : wpAny (model P.prog P.w) A (pyIter (.ref d)) Q E s := by
  have hT : s.TypeIs (.ref d) "dict" := ⟨_, ho, rfl⟩
  refine wpAny_pyIter_slot hT F.slot_dict_iter (wpAny_call_entry F.slot_dict_iter hT F.entry_dict_iter ?_ (F.args_dict_iter_1 _))
  unfold Builtin.«dict.__iter__» Builtin.Dict.dictSlotNone
  refine wpAny_bind (wpAny_bind (wpAny_notOrdered_dict hT (wpAny_pure ?_)))
  show wpAny _ _ (Builtin.Dict.showsAll d >>= _) _ _ s
  unfold Builtin.Dict.showsAll
  rw [if_neg (by rw [hm]; exact Bool.false_ne_true)]
  refine wpAny_bind (wpAny_pure (wpAny_bind (wpAny_dictEntries ho rfl (wpAny_bind (wpAny_dictEpoch ho rfl ?_)))))
  exact wpAny_bind (wpAny_newObj_type (wpAny_pure ⟨_, rfl, "dict_keyiterator", _, ⟨_, Heap.get?_push_size _ rfl, rfl⟩, F.slot_dict_keyiterator_next.lookup, hQ⟩))

/-- up to the look at the entry -/
theorem nextD {it d : Addr} {i ep : Nat} {es : Array DictEntry} (hit : KeyIter s.heap it d i es.size ep) (ho : ObjAt s.heap d (.type "dict") (.dict es ep)) (hh : A.handled = none) {Q : Option Value → Shared → Prop}
    (hitem : ∀ e h', es[i]? = some e → KeyIter h' it d (i + 1) es.size ep → Heap.SameBut it s.heap h' → Q (some e.key) { s with heap := h' }) (hend : es[i]? = none → ∀ h', Heap.ExtBut it s.heap h' → Q none { s with heap := h' }) :
    wpAny (model P.prog P.w) A (pyNext (.ref it)) Q E s := by
  obtain ⟨oi, hoi, hci, hdi⟩ := id hit
  have hown : Builtin.Dict_items.ownsTuple "dict_keyiterator" = false := by decide
  unfold pyNext
  refine wpAny_bind (wpAny_attempt (wpAny_callSpecial?_slot (name := Str.ofString "__next__") hit.typeIs F.slot_dict_keyiterator_next
    (wpAny_call_entry F.slot_dict_keyiterator_next hit.typeIs F.entry_dict_keyiterator_next ?_ (F.args_dict_keyiterator_next_1 _))))
  refine wpAny_bind (wpAny_pure ?_)
  refine wpAny_bind (wpAny_bind (wpAny_bind (wpAny_typeNameOfWhole_keyiter hit.typeIs (wpAny_pure ?_))))
  refine wpAny_bind (wpAny_fieldsOf hoi hdi ?_)
  rw [hown]
  show wpAny _ _ (if (Value.ref d == Value.none) = true then _ else _) _ _ s
  rw [if_neg (show ¬ ((Value.ref d == Value.none) = true) from Bool.false_ne_true)]
  refine wpAny_bind (wpAny_pure (wpAny_bind (wpAny_dictEntries ho rfl ?_)))
  rw [if_neg (by simp)]
  refine wpAny_bind (wpAny_pure (wpAny_bind (wpAny_dictEpoch ho rfl ?_)))
  rw [if_neg (by simp)]
  refine wpAny_pure ?_
  dsimp only
  rw [if_neg (Int.not_lt.mpr (Int.natCast_nonneg i)), Int.toNat_natCast]
  cases he : es[i]? with
  | some e =>
    refine wpAny_bind (wpAny_bind (wpAny_typeNameOfWhole_keyiter hit.typeIs (wpAny_pure ?_)))
    refine wpAny_bind (wpAny_isOneOf_keyiter hit.typeIs ?_)
    show wpAny _ _ (setField (.ref it) 1 (rawInt ((i : Int) + 1)) >>= _) _ _ s
    refine wpAny_bind (wpAny_setField hoi hdi (by simp) ?_)
    have hit' : KeyIter (s.heap.update it (Obj.mapFields (·.setIfInBounds 1 (rawInt ((i : Int) + 1))))) it d (i + 1) es.size ep :=
      ⟨_, Heap.get?_update_self _ hoi (Obj.isFreed_of_fields (Obj.data_mapFields hdi _)), (Obj.cls_mapFields ..).trans hci, by rw [Obj.data_mapFields hdi]; simp [rawInt]⟩
    refine wpAny_bind (wpAny_holding ?_)
    refine wpAny_bind (wpAny_isOneOf_keyiter (s := { s with heap := s.heap.update it (Obj.mapFields (·.setIfInBounds 1 (rawInt ((i : Int) + 1)))) }) hit'.typeIs ?_)
    show wpAny _ _ (pure e.key) _ _ _
    exact wpAny_pure (wpAny_pure ⟨_, rfl, wpAny_pure (hitem e _ he hit' (Heap.SameBut.update ..))⟩)
  | none =>
    refine wpAny_bind (wpAny_bind (wpAny_typeNameOfWhole_keyiter hit.typeIs (wpAny_pure ?_)))
    show wpAny _ _ (setField (.ref it) 0 .none >>= _) _ _ s
    refine wpAny_bind (wpAny_setField hoi hdi (by simp) ?_)
    show wpAny _ _ (newExc (.type "StopIteration") [] >>= _) _ _ _
    refine wpAny_bind ?_
    delta newExc newTuple
    refine wpAny_bind (wpAny_newObj_type ?_ (by size_fits))
    refine wpAny_bind (m := firstArgMember _ _) (wpAny_of_eq (a := Value.none) (by first | rfl | (simp only [firstArgMember]; rfl)) ?_)
    refine wpAny_newObj_type ?_ (by size_fits)
    show wpAny _ _ (handled >>= _) _ _ _
    refine wpAny_bind (wpAny_handled ?_)
    rw [show A.in1.handled = none from hh]
    refine wpAny_bind (wpAny_pure (wpAny_throw ?_))
    refine wpAny_bind (wpAny_isInstance (T := "StopIteration") (b := true) ⟨_, Heap.get?_push_size _ rfl, rfl⟩ isSubtype_stop ?_)
    exact wpAny_pure (hend he _ (((Heap.SameBut.update ..).extBut.push _).push _))


/-- the kinds of walked things -/
inductive Items (hp : AHeap) : AV → List AV → Prop
  | tup (xs : List AV) : Items hp (.tup xs) xs
  | lst (j : Nat) (xs : List AV) (hj : hp[j]? = some (.list xs)) : Items hp (.loc j) xs
  | dct (j : Nat) (kvs : List (Key × AV)) (ep : Nat) (hj : hp[j]? = some (.dict kvs ep)) : Items hp (.loc j) (kvs.map fun p => p.1.av)
  | rng (a b c : Int) (hc : c = 1 ∨ c = -1) (h1 : a.natAbs ≤ sizeLim) (h2 : b.natAbs ≤ sizeLim) : Items hp (.rng a b c) (rngItems a b c)
theorem items_or {src : AV} {xs : List AV} (hi : itemsAV src hp = some xs) : Items hp src xs := by
  cases src
  case tup ys => cases (show some ys = some xs from hi); exact .tup _
  case loc j =>
    delta itemsAV at hi
    dsimp only at hi
    cases hj : hp[j]? with
    | none => rw [hj] at hi; exact none_ne hi
    | some o =>
      rw [hj] at hi
      cases o with
      | list ys => cases (show some ys = some xs from hi); exact .lst j _ hj
      | dict kvs ep => cases (show some (kvs.map fun p => p.1.av) = some xs from hi); exact .dct j kvs ep hj
  case rng a b c =>
    by_cases hc : (c = 1 ∨ c = -1) ∧ a.natAbs ≤ sizeLim ∧ b.natAbs ≤ sizeLim
    · cases (show some (rngItems a b c) = some xs from (if_pos hc).symm.trans hi); exact .rng a b c hc.1 hc.2.1 hc.2.2
    · exact none_ne ((if_neg hc).symm.trans hi)
  all_goals exact none_ne hi
theorem epoch_l {j : Nat} {xs : List AV} (hj : hp[j]? = some (.list xs)) : epochOf (.loc j) hp = none := by
  show (dictAt hp j).map _ = _
  delta dictAt
  rw [hj]; rfl
theorem epoch_d {j : Nat} {kvs : List (Key × AV)} {ep : Nat} (hj : hp[j]? = some (.dict kvs ep)) : epochOf (.loc j) hp = some (ep, kvs.length) := by
  show (dictAt hp j).map _ = _
  delta dictAt
  rw [hj]; rfl

theorem iter_prim (ok : P.Ok) (S : St P.w P.B σ hp s.heap) {src : AV} {v : Value} {xs : List AV} (ra : RV P.B s.heap σ src v) (hi : itemsAV src hp = some xs) {Q : Value → Shared → Prop}
    (h : ∀ it s', s.heap.get? it = none → it ∉ σ.map (·.1) → P.B.h₀.get? it = none → After P σ σ [] hp s s' → IterAt P s'.heap σ it src 0 (epochOf src hp) → Q (.ref it) s') : wpAny (model P.prog P.w) A (pyIter v) Q E s := by
  have push : ∀ (o : Obj), After P σ σ [] hp s { s with heap := s.heap.push o } := fun o => ⟨rfl, S.push o, .push o⟩
  have fin : ∀ (o : Obj), IterAt P (s.heap.push o) σ s.heap.objs.size src 0 (epochOf src hp) → Q (.ref s.heap.objs.size) { s with heap := s.heap.push o } := fun o hit =>
    h s.heap.objs.size _ (free_size _) S.fresh S.base.fresh (push o) hit
  cases items_or hi with
  | tup xs =>
    obtain ⟨a, ws, n, rfl, o, rx⟩ := ra
    have g := (push { cls := .type "tuple_iterator", data := .fields #[.ref a, .int 0 0] }).gr
    exact wpAny_pyIter_tuple (isTuple_of o) (fin _ ⟨a, ws, n, Heap.get?_push_of_some _ o, RVs.grows g _ _ rx, _, Heap.get?_push_size _ rfl, rfl, rfl⟩)
  | lst j xs hj =>
    obtain ⟨a, off, rfl, e1⟩ := ra
    obtain ⟨ws, k, hl, _⟩ := S.isL hj e1
    exact wpAny_pyIter_list (isList_of hl) (fin _ ⟨a, off, e1, .inl ⟨epoch_l hj, _, Heap.get?_push_size _ rfl, rfl, rfl⟩⟩)
  | dct j kvs ep hj =>
    obtain ⟨a, off, rfl, e1⟩ := ra
    obtain ⟨es, ho, re, _⟩ := S.isDict hj e1
    have hlen := re.length.trans Array.length_toList
    exact iterD (S.notMods ok e1) ho (fin _ ⟨a, off, e1, .inr ⟨ep, kvs.length, epoch_d hj, _, Heap.get?_push_size _ rfl, rfl, by rw [hlen]; rfl⟩⟩)
  | rng a b c hc h1 h2 =>
    obtain ⟨r, t, u, x, rfl, hr⟩ := ra
    refine wpAny_pyIter_range hr (rng_small hc h1 h2) (fin _ ?_)
    rw [rng_len hc]
    show IsRangeIter _ _ (a + c * ((0 : Nat) : Int)) ((rngLen a b c : Int) - ((0 : Nat) : Int)) c
    rw [show c * ((0 : Nat) : Int) = 0 from Int.mul_zero c, Int.add_zero, show (rngLen a b c : Int) - ((0 : Nat) : Int) = rngLen a b c from Int.sub_zero _]
    exact Heap.get?_push_size _ rfl

theorem next_is {src : AV} {i : Nat} {e : Option (Nat × Nat)} {r : Option AV} (hn : nextAt src e i hp = some r) : ∃ xs, itemsAV src hp = some xs ∧ epochOf src hp = e ∧ xs[i]? = r := by
  delta nextAt at hn
  cases hx : itemsAV src hp with
  | none => rw [hx] at hn; cases hn
  | some xs =>
    rw [hx] at hn
    by_cases he : epochOf src hp = e
    · exact ⟨xs, rfl, he, Option.some.inj ((if_pos he).symm.trans hn)⟩
    · exact absurd ((if_neg he).symm.trans hn) (fun q => nomatch q)
/-- what the next step asks for -/
structure NextQ (P : Par) (σ : Sg) (s : Shared) (it : Addr) (src : AV) (i : Nat) (e : Option (Nat × Nat)) (r : Option AV) (Q : Option Value → Shared → Prop) : Prop where
  fin : r = none → ∀ h', Heap.ExtBut it s.heap h' → Q none { s with heap := h' }
  item : ∀ av v h' t, r = some av → RV P.B s.heap σ av v → Heap.ExtBut it s.heap h' → (∀ (g : Fixes s.heap h'), IterAt P h' σ it src (i + 1) e) → Q (some v) { s with heap := h', toks := t }
section
variable {it a : Addr} {i n : Nat} {e : Option (Nat × Nat)} {Q : Option Value → Shared → Prop} {xs : List AV} {ws : Array Value}
theorem none_at (rx : RVs P.B s.heap σ xs ws.toList) (h : xs[i]? = none) : ws[i]? = none :=
  Array.getElem?_eq_none (Nat.le_trans (Nat.le_of_eq rx.size.symm) (List.getElem?_eq_none_iff.mp h))
theorem next_tupP (hh : A.handled = none) (o : ObjAt s.heap a (.type "tuple") (.seq ws n)) (rx : RVs P.B s.heap σ xs ws.toList) (hI : s.heap.IsTupleIter it a i) (N : NextQ P σ s it (.tup xs) i e xs[i]? Q) : wpAny (model P.prog P.w) A (pyNext (.ref it)) Q E s := by
  cases hc : xs[i]? with
  | none => exact wpAny_pyNext_tuple_end hh hI (isTuple_of o) (none_at rx hc) (N.fin hc)
  | some av =>
    obtain ⟨v, e1, rv⟩ := rx.get hc
    rw [Array.getElem?_toList] at e1
    exact wpAny_pyNext_tuple_item hI (isTuple_of o) e1 fun h' hI' hs => N.item av v h' s.toks hc rv hs.extBut fun g => ⟨a, ws, n, g a _ o (fixed_tuple rfl rfl), RVs.fixes g _ _ rx, hI'⟩
theorem next_lstP {j off : Nat} (hh : A.handled = none) (e1 : σ[j]? = some (a, off)) (hl : IsL s.heap a ws n) (rx : RVs P.B s.heap σ xs ws.toList) (he : e = none) (hI : s.heap.IsListIter it a i) (N : NextQ P σ s it (.loc j) i e xs[i]? Q) : wpAny (model P.prog P.w) A (pyNext (.ref it)) Q E s := by
  cases hc : xs[i]? with
  | none => exact wpAny_pyNext_list_end hh hI (isList_of hl) (none_at rx hc) (N.fin hc)
  | some av =>
    obtain ⟨v, e2, rv⟩ := rx.get hc
    rw [Array.getElem?_toList] at e2
    exact wpAny_pyNext_list_item hI (isList_of hl) e2 fun h' hI' hs => N.item av v h' s.toks hc rv hs.extBut fun g => ⟨a, off, e1, .inl ⟨he, hI'⟩⟩
theorem next_dctP {j off ep : Nat} {kvs : List (Key × AV)} (S : St P.w P.B σ hp s.heap) (hj : hp[j]? = some (.dict kvs ep)) (hh : A.handled = none) (e1 : σ[j]? = some (a, off)) (he : e = some (ep, kvs.length)) (hI : KeyIter s.heap it a i kvs.length (off + ep)) (N : NextQ P σ s it (.loc j) i e (kvs.map fun p => p.1.av)[i]? Q) :
    wpAny (model P.prog P.w) A (pyNext (.ref it)) Q E s := by
  obtain ⟨es, ho, re, _⟩ := S.isDict hj e1
  have hlen := re.length.trans Array.length_toList
  rw [hlen] at hI
  refine nextD hI ho hh (fun en h' hen hI' hs => ?_) (fun hen h' hs => ?_)
  · have hk : kvs[i]? = some (kvs[i]'(by rw [hlen]; exact (Array.getElem?_eq_some_iff.mp hen).1)) := List.getElem?_eq_getElem _
    obtain ⟨en', f1, f2, f3, f4⟩ := re.get hk
    rw [Array.getElem?_toList, hen] at f1
    cases f1
    exact N.item _ _ h' s.toks (by rw [List.getElem?_map, hk]; rfl) f3 hs.extBut fun _ => ⟨a, off, e1, .inr ⟨ep, kvs.length, he, by rw [hlen]; exact hI'⟩⟩
  · exact N.fin (by rw [List.getElem?_map, List.getElem?_eq_none (l := kvs) (Nat.le_trans (Nat.le_of_eq hlen) (Array.getElem?_eq_none_iff.mp hen))]; rfl) h' hs
theorem next_rngP {x y c : Int} (hh : A.handled = none) (hit : IsRangeIter s.heap it (x + c * i) ((rngLen x y c : Int) - i) c) (N : NextQ P σ s it (.rng x y c) i e (rngItems x y c)[i]? Q) : wpAny (model P.prog P.w) A (pyNext (.ref it)) Q E s := by
  have hget : (rngItems x y c)[i]? = ((List.range (rngLen x y c))[i]?).map fun (k : Nat) => AV.int (x + c * k) := List.getElem?_map ..
  rcases Nat.lt_or_ge i (rngLen x y c) with hlt | hge
  · rw [List.getElem?_range hlt] at hget
    refine wpAny_pyNext_range_item hit (by omega) fun h' hI' hs => N.item _ _ h' _ hget ⟨_, rfl⟩ hs.extBut fun g => ?_
    show IsRangeIter h' it (x + c * ((i + 1 : Nat) : Int)) ((rngLen x y c : Int) - ((i + 1 : Nat) : Int)) c
    rw [Int.natCast_add, Int.mul_add, ← Int.add_assoc, ← Int.sub_sub]
    have e1 : c * ((1 : Nat) : Int) = c := Int.mul_one c
    rw [e1]
    exact hI'
  · rw [List.getElem?_eq_none (l := List.range (rngLen x y c)) (by rw [List.length_range]; exact hge)] at hget
    exact wpAny_pyNext_range_end hh hit (by omega) (N.fin hget)
end
theorem next_prim (S : St P.w P.B σ hp s.heap) {src : AV} {it : Addr} {i : Nat} {e : Option (Nat × Nat)} {r : Option AV} (hh : A.handled = none) (hit : IterAt P s.heap σ it src i e) (hn : nextAt src e i hp = some r) {Q : Option Value → Shared → Prop}
    (hend : r = none → ∀ h', Heap.ExtBut it s.heap h' → Q none { s with heap := h' })
    (hitem : ∀ av v h' t, r = some av → RV P.B s.heap σ av v → Heap.ExtBut it s.heap h' → (∀ (g : Fixes s.heap h'), IterAt P h' σ it src (i + 1) e) → Q (some v) { s with heap := h', toks := t }) :
    wpAny (model P.prog P.w) A (pyNext (.ref it)) Q E s := by
  have N : NextQ P σ s it src i e r Q := ⟨hend, hitem⟩
  obtain ⟨xs, hx, hep, rfl⟩ := next_is hn
  cases items_or hx with
  | tup xs =>
    obtain ⟨a, ws, n, o, rx, hI⟩ := hit
    exact next_tupP hh o rx hI N
  | lst j xs hj =>
    obtain ⟨a, off, e1, ⟨he, hI⟩ | ⟨ep, n, he, hI⟩⟩ := hit
    · obtain ⟨ws, k, hl, rx⟩ := S.isL hj e1
      exact next_lstP hh e1 hl rx he hI N
    · rw [epoch_l hj, he] at hep; cases hep
  | dct j kvs ep hj =>
    obtain ⟨a, off, e1, ⟨he, hI⟩ | ⟨ep', n, he, hI⟩⟩ := hit
    · rw [epoch_d hj, he] at hep; cases hep
    · rw [epoch_d hj, he] at hep
      cases hep
      exact next_dctP S hj hh e1 he hI N
  | rng a b c hc h1 h2 => exact next_rngP hh hit N
end
end Mine

namespace Mine
open PySem PySem.Spec PyProof.Rows PySem.SeqAt

noncomputable def SimSt (P : Par) (cx : Cx) (st : Stmt) (x : S) : Prop :=
  ∀ c n env A σ l hp s, Sims P cx c n → Inv P cx n env A σ l hp s → execS c x l hp ≠ .bad →
    wpAny (model P.prog P.w) A (exec st env) (QS P env cx σ s (execS c x l hp)) NE s
noncomputable def SimSs (P : Par) (cx : Cx) (st : List Stmt) (x : Ss) : Prop :=
  ∀ c n env A σ l hp s, Sims P cx c n → Inv P cx n env A σ l hp s → execSs c x l hp ≠ .bad →
    wpAny (model P.prog P.w) A (execs st env) (QS P env cx σ s (execSs c x l hp)) NE s

section
variable {P : Par} {cx : Cx} {env : Env} {A : Around} {σ σ' : Sg} {l l' : Locs} {hp hp' : AHeap} {s s' : Shared} {n : Nat}

theorem Inv.afterX (I : Inv P cx n env A σ l hp s) (a : After P σ σ' (FX env) hp' s s') (f : Frm P s'.heap σ' env cx l') : Inv P cx n env A σ' l' hp' s' := ⟨a.st, f, I.ar⟩
theorem QS.lift {r : SR} {f : PySem.Flow} {s'' : Shared} (a : After P σ σ' (FX env) hp' s s') (q : QS P env cx σ' s' r f s'') : QS P env cx σ s r f s'' := by
  obtain ⟨fl, l', h2, σ₂, e, b, rf, fr⟩ := q
  exact ⟨fl, l', h2, σ₂, e, a.trans b, rf, fr⟩
theorem After.toX {X : List Addr} (a : After P σ σ' [] hp' s s') : After P σ σ' X hp' s s' := a.more fun _ h => nomatch h

theorem st_ok {α : Type} {r : Res α} {f : α → AHeap → SR} (h : r.st f ≠ .bad) : r ≠ .bad := fun e => h (by rw [e]; rfl)
theorem turn_ok {r : SR} {f : Locs → AHeap → SR} (h : r.turn f ≠ .bad) : r ≠ .bad := fun e => h (by rw [e]; rfl)
theorem condS_is {v : AV} {x y : SR} (hb : condS v x y ≠ .bad) : ∃ b, v = .bool b := by
  unfold condS at hb
  split at hb
  · exact ⟨_, rfl⟩
  · exact absurd rfl hb
theorem boolR_of {r : Res AV} {x y : AV → AHeap → SR} (hb : (r.st fun v h => condS v (x v h) (y v h)) ≠ .bad) : BoolR r := fun av h e => by
  rw [e] at hb
  exact condS_is hb

theorem seqS {A : Around} {m : Sem Value} {r : Res AV} {f : AV → AHeap → SR} {G : SR → Value → Shared → Prop}
    (h : wpAny (model P.prog P.w) A m (QV P σ s r) NE s) (hb : r.st f ≠ .bad)
    (hk : ∀ av hp' σ' v s', After P σ σ' [] hp' s s' → RV P.B s'.heap σ' av v → f av hp' ≠ .bad → G (f av hp') v s') :
    wpAny (model P.prog P.w) A m (G (r.st f)) NE s :=
  wpAny_mono h (fun v s' ⟨av, hp', σ', e, a, rv⟩ => by subst e; exact hk av hp' σ' v s' a rv hb) (fun _ _ q => q)

theorem not_inter (I : Inv P cx n env A σ l hp s) : interactive env = false := by
  unfold interactive; rw [I.fr.kind]; rfl

theorem swaps_no {e : Expr} {t : Option Expr} {k : Nat} (h : isComp e = false) : swapsWith e t k env = pure false := by
  unfold swapsWith
  cases e <;> first | rfl | (cases h; done)

theorem simSt_expr {e : Expr} {x : X} {pos : Pos} (hc : isComp e = false) (h : SimE P cx e x) : SimSt P cx (.Expr e pos) (.expr x) := by
  intro c n env A σ l hp s C I hb
  rw [s_expr] at hb ⊢
  refine wpAny_Expr_any (seqS (G := fun R v s' => QS P env cx σ s R .next s') (h c n env A σ l hp s C I (st_ok hb)) hb ?_) (not_inter I) (swaps_no hc)
  intro av hp' σ' v s' a rv hb
  exact ⟨_, _, _, _, rfl, a.toX, rfl, I.fr.after a⟩

theorem simSt_ret {e : Expr} {x : X} {pos : Pos} (h : SimE P cx e x) : SimSt P cx (.Return (some e) pos) (.ret x) := by
  intro c n env A σ l hp s C I hb
  rw [s_ret] at hb ⊢
  refine wpAny_Return_some (seqS (G := fun R v s' => QS P env cx σ s R (.ret v) s') (h c n env A σ l hp s C I (st_ok hb)) hb ?_)
  intro av hp' σ' v s' a rv hb
  exact ⟨_, _, _, _, rfl, a.toX, ⟨v, rfl, rv⟩, I.fr.after a⟩

theorem simSt_asg {y : Str} {i : Nat} {e : Expr} {x : X} {p pos : Pos} (hw : cx.slotW y = some i) (hc : isComp e = false) (h : SimE P cx e x) : SimSt P cx (.Assign [.Name y p] e pos) (.asg i x) := by
  intro c n env A σ l hp s C I hb
  rw [s_asg] at hb ⊢
  refine wpAny_Assign_Name (seqS (G := fun R v s' => wpAny (model P.prog P.w) A (storeName env y v) (fun _ => QS P env cx σ s R .next) NE s') (h c n env A σ l hp s C I (st_ok hb)) hb ?_) (swaps_no hc)
  intro av hp' σ' v s' a rv hb
  refine store_prim a.st (I.fr.after a) hw rv fun s'' a2 fr _ => ?_
  exact ⟨_, _, _, _, rfl, a.toX.trans a2, rfl, fr⟩

theorem setD_is {j : Nat} {kvs : List (Key × AV)} {ep : Nat} {v : AV} {o : Option Key} {h' : AHeap} (h : setD hp j kvs ep v o = some h') : ∃ k, o = some k ∧ sortOk kvs k = true ∧ kvs.length < sizeLim ∧ h' = hp.set j (.dict (dictPut kvs k v) (if (kvs.lookup k).isSome then ep else ep + 1)) := by
  unfold setD at h
  split at h
  · split at h
    · rename_i hs
      rw [Bool.and_eq_true, decide_eq_true_eq] at hs
      cases h; exact ⟨_, rfl, hs.1, hs.2, rfl⟩
    · cases h
  · cases h
theorem setItem_prim (S : St P.w P.B σ hp s.heap) {n : Nat} (ar : Arnd n A) {o k x : AV} {v u w : Value} (ro : RV P.B s.heap σ o v) (rk : RV P.B s.heap σ k u) (rx : RV P.B s.heap σ x w) (h : setItemAV o k x hp = some hp') {E : Value → Shared → Prop} {Q : Unit → Shared → Prop}
    (hq : ∀ s', After P σ σ [] hp' s s' → Q () s') : wpAny (model P.prog P.w) A (setItem v u w) Q E s := by
  unfold setItemAV at h
  split at h
  · obtain ⟨a, off, rfl, e1⟩ := ro
    split at h
    · rename_i ob hj
      split at h
      · obtain ⟨key, hkey, hso, hsz, rfl⟩ := setD_is h
        rw [key_av hkey] at rk
        exact setItem_dict S hj e1 rk hso (by have := ar.units; omega) hsz rx hq
      · exact setItem_list_prim S hj e1 rk rx h hq
    · cases h
  · cases h

theorem simSt_set {o k e : Expr} {xo xk x : X} {p pos : Pos} (hc : isComp e = false) (ho : SimE P cx o xo) (hk : SimE P cx k xk) (h : SimE P cx e x) : SimSt P cx (.Assign [.Subscript o k p] e pos) (.setitem xo xk x) := by
  intro c n env A σ l hp s C I hb
  rw [s_set] at hb ⊢
  refine wpAny_Assign_Subscript (seqS (G := fun R v s₁ => wpAny (model P.prog P.w) A (eval o env) (fun ov s₂ => wpAny (model P.prog P.w) A (eval k env) (fun iv s₃ => wpAny (model P.prog P.w) A (setItem ov iv v) (fun _ => QS P env cx σ s R .next) NE s₃) NE s₂) NE s₁) (h c n env A σ l hp s C I (st_ok hb)) hb ?_) (swaps_no hc)
  intro av hp₁ σ₁ v s₁ a₁ rv hb
  have I₁ := I.after a₁
  refine seqS (G := fun R ov s₂ => wpAny (model P.prog P.w) A (eval k env) (fun iv s₃ => wpAny (model P.prog P.w) A (setItem ov iv v) (fun _ => QS P env cx σ s R .next) NE s₃) NE s₂) (ho c n env A σ₁ l hp₁ s₁ C I₁ (st_ok hb)) hb ?_
  intro ov hp₂ σ₂ u s₂ a₂ ru hb
  have I₂ := I₁.after a₂
  refine seqS (G := fun R iv s₃ => wpAny (model P.prog P.w) A (setItem u iv v) (fun _ => QS P env cx σ s R .next) NE s₃) (hk c n env A σ₂ l hp₂ s₂ C I₂ (st_ok hb)) hb ?_
  intro kv hp₃ σ₃ w s₃ a₃ rw' hb
  cases hset : setItemAV ov kv av hp₃ with
  | none => rw [hset] at hb; exact absurd rfl hb
  | some hp₄ =>
    refine setItem_prim a₃.st I.ar (RV.grows a₃.gr _ _ ru) rw' (RV.grows a₃.gr _ _ (RV.grows a₂.gr _ _ rv)) hset fun s₄ a₄ => ?_
    have a := ((a₁.trans a₂).trans a₃).trans a₄
    exact ⟨_, _, _, _, rfl, a.toX, rfl, I.fr.after a⟩

theorem simSt_if {t : Expr} {x : X} {b o : List Stmt} {xb xo : Ss} {pos : Pos} (ht : SimT P cx t x) (hb : SimSs P cx b xb) (ho : SimSs P cx o xo) : SimSt P cx (.If t b o pos) (.iff x xb xo) := by
  intro c n env A σ l hp s C I hbad
  rw [s_iff] at hbad ⊢
  refine wpAny_If (wpAny_mono (ht c n env A σ l hp s C I (st_ok hbad) (boolR_of hbad)) (fun k s' ⟨hp', σ', e, a⟩ => ?_) fun _ _ q => q)
  rw [e] at hbad ⊢
  have I' := I.after a
  cases k with
  | true =>
    rw [if_pos rfl]
    exact wpAny_mono (hb c n env A σ' l hp' s' C I' hbad) (fun _ _ q => q.lift a.toX) (fun _ _ q => q)
  | false =>
    exact wpAny_mono (ho c n env A σ' l hp' s' C I' hbad) (fun _ _ q => q.lift a.toX) (fun _ _ q => q)

theorem simSs_nil : SimSs P cx [] .nil := by
  intro c n env A σ l hp s C I hb
  exact wpAny_execs_nil ⟨_, _, _, _, rfl, .refl I.st, rfl, I.fr⟩
theorem simSs_cons {st : Stmt} {sts : List Stmt} {x : S} {xs : Ss} (h : SimSt P cx st x) (hr : SimSs P cx sts xs) : SimSs P cx (st :: sts) (.cons x xs) := by
  intro c n env A σ l hp s C I hb
  rw [ss_cons] at hb ⊢
  refine wpAny_execs_cons (wpAny_mono (h c n env A σ l hp s C I (turn_ok hb)) (fun f s' q => ?_) (fun _ _ q => q))
  obtain ⟨fl, l', hp', σ', e, a, rf, fr⟩ := q
  rw [e] at hb ⊢
  cases fl with
  | next =>
    cases (show f = .next from rf)
    exact wpAny_mono (hr c n env A σ' l' hp' s' C (I.afterX a fr) hb) (fun _ _ q => q.lift a) (fun _ _ q => q)
  | ret av =>
    obtain ⟨v, rfl, rv⟩ := rf
    exact ⟨_, _, _, _, rfl, a, ⟨v, rfl, rv⟩, fr⟩

theorem simSt_while {t : Expr} {x : X} {b : List Stmt} {xb : Ss} {pos : Pos} (ht : SimT P cx t x) (hbody : SimSs P cx b xb) : SimSt P cx (.While t b [] pos) (.whil x xb) := by
  intro c n env A σ l hp s C I hb
  rw [s_whil] at hb ⊢
  generalize hR : whileLoop (fun l h => evalX c x l h) (fun l h => execSs c xb l h) c.fuel l hp = R at hb ⊢
  refine wpAny_While (codeAny_whileLoop (fun f s' => ∃ l' hp' σ', whileLoop (fun l h => evalX c x l h) (fun l h => execSs c xb l h) f l' hp' = R ∧ After P σ σ' (FX env) hp' s s' ∧ Frm P s'.heap σ' env cx l') ?_ c.fuel ⟨l, hp, σ, hR, .refl I.st, I.fr⟩)
  rintro f s' ⟨l', hp', σ', hR', a, fr⟩
  cases f with
  | zero => exact absurd hR'.symm hb
  | succ f =>
    have hR' : ((evalX c x l' hp').st fun v h => condS v ((execSs c xb l' h).turn (whileLoop (fun l h => evalX c x l h) (fun l h => execSs c xb l h) f)) (.ok .next l' h)) = R := hR'
    have hb' := hR'.symm ▸ hb
    refine wpAny_mono (ht c n env A σ' l' hp' s' C (I.afterX a fr) (st_ok hb') (boolR_of hb')) (fun k s₂ ⟨hp₂, σ₂, e, a₂⟩ => ?_) fun _ _ q => q.elim
    rw [e] at hR' hb'
    have fr₂ := fr.after a₂
    have a₂ := a.trans a₂.toX
    cases k with
    | false =>
      refine wpAny_execs_nil ?_
      rw [← hR']
      exact ⟨_, _, _, _, rfl, a₂, rfl, fr₂⟩
    | true =>
      have hR' : (execSs c xb l' hp₂).turn (whileLoop (fun l h => evalX c x l h) (fun l h => execSs c xb l h) f) = R := hR'
      rw [if_pos rfl]
      refine wpAny_mono (hbody c n env A σ₂ l' hp₂ s₂ C (I.afterX a₂ fr₂) (turn_ok (hR'.symm ▸ hb))) (fun fl s₃ q => ?_) fun _ _ q => q.elim
      obtain ⟨fl', l₃, hp₃, σ₃, e₃, a₃, rf, fr₃⟩ := q
      rw [e₃] at hR'
      have a₃ := a₂.trans a₃
      cases fl' with
      | next => cases (show fl = .next from rf); exact ⟨f, Nat.lt_succ_self f, l₃, hp₃, σ₃, hR', a₃, fr₃⟩
      | ret av =>
        obtain ⟨v, rfl, rv⟩ := rf
        show QS P env cx σ s R (.ret v) s₃
        rw [← hR']
        exact ⟨_, _, _, _, rfl, a₃, ⟨v, rfl, rv⟩, fr₃⟩

theorem folded_ok {e : Expr} {x : X} {k : Nat} (h : compE k cx e = some x) (v : Value) : foldedSetIterable e env v = pure v := by
  cases k with
  | zero => exact none_ne h
  | succ k => cases e <;> first | rfl | exact none_ne h

theorem frm_iter (f : Frm P s.heap σ env cx l) {it : Addr} (h : IterObj s.heap it) : it ∉ FX env := by
  obtain ⟨o, T, fs, ho, hc, _, hd⟩ := h
  intro hm
  simp only [FX, List.mem_cons, List.mem_map] at hm
  rcases hm with rfl | ⟨p, hp, rfl⟩
  · obtain ⟨o', es, ep, ho', hd'⟩ := f.nsObj
    rw [ho] at ho'; cases ho'; rw [hd] at hd'; cases hd'
  · obtain ⟨o', v, ho', hd'⟩ := f.cells p hp
    rw [ho] at ho'; cases ho'; rw [hd] at hd'; cases hd'

theorem Frm.extBut {h' : Heap} {it : Addr} (f : Frm P s.heap σ env cx l) (hn : it ∉ FX env) (hx : ∀ x v, RV P.B s.heap σ x v → RV P.B h' σ x v) (hk : ∀ b o, b ≠ it → s.heap.get? b = some o → h'.get? b = some o) : Frm P h' σ env cx l := by
  simp only [FX, List.mem_cons, List.mem_map, not_or, not_exists, not_and] at hn
  obtain ⟨m, ⟨o, es, ep, ho, hd, hr⟩, hm⟩ := f.names
  refine ⟨f.kind, f.len, f.inj, f.lt, f.glob, f.wr, ⟨m, ⟨o, es, ep, hk _ o (fun e => hn.1 e.symm) ho, hd, hr⟩, fun x i hxs => ?_⟩, f.out, f.new, f.globals, f.builtins, fun p hp => ?_, f.apart, f.kinds⟩
  · rcases hm x i hxs with ⟨hk', hv⟩ | ⟨hk', c, ov, hc, ⟨oc, hoc, hdc⟩, hv⟩
    · exact .inl ⟨hk', fun av e => let ⟨u, h1, h2⟩ := hv av e; ⟨u, h1, hx _ _ h2⟩⟩
    · exact .inr ⟨hk', c, ov, hc, ⟨oc, hk _ oc (fun e => hn.2 _ (mem_of_lookup' hc) e) hoc, hdc⟩, fun av e => let ⟨u, h1, h2⟩ := hv av e; ⟨u, h1, hx _ _ h2⟩⟩
  · obtain ⟨o', v, ho', hd'⟩ := f.cells p hp
    exact ⟨o', v, hk _ o' (fun e => hn.2 p hp e) ho', hd'⟩

theorem not_bad_items {src : AV} {e : Option (Nat × Nat)} {i k : Nat} {f : Locs → AHeap → SR} {fuel : Nat} (hb : forLoop i f src e fuel k l hp ≠ .bad) : ∃ xs, itemsAV src hp = some xs := by
  cases hi : itemsAV src hp with
  | some xs => exact ⟨xs, rfl⟩
  | none =>
    exfalso; apply hb
    cases fuel with
    | zero => rfl
    | succ f => unfold forLoop nextAt; rw [hi]

/-- an untouched iterator -/
theorem iter_same {X : List Addr} {it : Addr} {src : AV} {k : Nat} {e : Option (Nat × Nat)} (g : Grows σ σ' X s.heap s'.heap) (hn : it ∉ σ.map (·.1)) (hX : it ∉ X) (x : IterAt P s.heap σ it src k e) : IterAt P s'.heap σ' it src k e ∧ it ∉ σ'.map (·.1) := by
  obtain ⟨o, T, fs, ho, hc, ht, hd⟩ := x.obj
  have : s'.heap.get? it = some o := by
    rcases g.oth it o ho hn hX with q | ⟨hcf, _⟩
    · exact q
    · rw [hc] at hcf; exact absurd (Value.type.inj hcf) ht.2
  exact ⟨x.keep g (this.trans ho.symm), not_mem_grown g ho hn⟩

theorem simSt_for {y : Str} {i : Nat} {e : Expr} {x : X} {p pos : Pos} {b : List Stmt} {xb : Ss} {kk : Nat} (hw : cx.slotW y = some i) (hce : compE kk cx e = some x) (h : SimE P cx e x) (hbody : SimSs P cx b xb) : SimSt P cx (.For (.Name y p) e b [] pos) (.forr i x xb) := by
  intro c n env A σ l hp s C I hb
  rw [s_for] at hb ⊢
  have hh := I.ar.handled
  refine wpAny_For (seqS (G := fun R v s₁ => wpAny (model P.prog P.w) A (pyIter v) (fun it s₂ => codeAny (model P.prog P.w) A (.forLoop (.Name y p) it b [] env) (fun r s' => match r with | .ok f => QS P env cx σ s R f s' | .error e => cameBackBy (model P.prog P.w) A env NE e s') s₂) NE s₁) (h c n env A σ l hp s C I (st_ok hb)) hb ?_) (fun v => folded_ok hce v)
  intro src hp₁ σ₁ v s₁ a₁ rv hb
  obtain ⟨xs, hi⟩ := not_bad_items hb
  refine iter_prim C.ok a₁.st rv hi fun it s₂ hn0 hnσ hnb a₂ hit => ?_
  generalize epochOf src hp₁ = ee at hb hit ⊢
  generalize hR : forLoop i (fun l h => execSs c xb l h) src ee c.fuel 0 l hp₁ = R at hb ⊢
  have hn₀ : s.heap.get? it = none := by
    cases hq : s.heap.get? it with
    | none => rfl
    | some o => obtain ⟨o', e'⟩ := a₁.gr.ex _ o hq; rw [hn0] at e'; cases e'
  refine codeAny_forLoop (fun f s' => ∃ k l' hp' σ', forLoop i (fun l h => execSs c xb l h) src ee f k l' hp' = R ∧ After P σ σ' (FX env) hp' s s' ∧ Frm P s'.heap σ' env cx l' ∧ IterAt P s'.heap σ' it src k ee ∧ it ∉ σ'.map (·.1)) ?_ c.fuel
    ⟨0, l, hp₁, σ₁, hR, (a₁.trans a₂).toX, (I.fr.after (a₁.trans a₂)), hit, hnσ⟩
  rintro f s' ⟨k, l', hp', σ', hR', a, fr, hit, hnσ'⟩
  have ho := hit.obj
  cases f with
  | zero => exact absurd hR'.symm hb
  | succ f =>
    rw [forLoop] at hR'
    cases hnx : nextAt src ee k hp' with
    | none => rw [hnx] at hR'; exact absurd hR'.symm hb
    | some r =>
      rw [hnx] at hR'
      refine next_prim a.st hh hit hnx (fun er h' hs => ?_) (fun av u h' t er ru hs hit' => ?_)
      · subst er
        obtain ⟨a', hx', hk'⟩ := a.extBut (t := s'.toks) hs hn₀ hnσ' hnb ho.notFixed
        refine wpAny_execs_nil ?_
        rw [← hR']
        exact ⟨_, _, _, _, rfl, a', rfl, fr.extBut (frm_iter fr ho) hx' hk'⟩
      · subst er
        have hR' : (execSs c xb (l'.set i (some av)) hp').turn (forLoop i (fun l h => execSs c xb l h) src ee f (k + 1)) = R := hR'
        obtain ⟨a', hx', hk'⟩ := a.extBut (t := t) hs hn₀ hnσ' hnb ho.notFixed
        have hit2 := hit' fun b o e f => hk' b o (fun q => by
          subst q
          obtain ⟨o2, e2, hf2⟩ := ho.notFixed
          rw [e2] at e; cases e; exact hf2 f) e
        have fr' := fr.extBut (frm_iter fr ho) hx' hk'
        refine wpAny_assign_Name (store_prim (s := { s' with heap := h', toks := t }) a'.st fr' hw (hx' _ _ ru) fun s₃ a₃ fr₃ _ => ?_)
        obtain ⟨hit3, hn3⟩ := iter_same (s := { s' with heap := h', toks := t }) a₃.gr hnσ' (frm_iter (s := { s' with heap := h', toks := t }) fr' hit2.obj) hit2
        have a4 := a'.trans a₃
        refine wpAny_mono (hbody c n env A σ' (l'.set i (some av)) hp' s₃ C ⟨a4.st, fr₃, I.ar⟩ (turn_ok (hR'.symm ▸ hb))) (fun fl s₄ q => ?_) (fun _ _ q => q.elim)
        obtain ⟨fl', l₄, hp₄, σ₄, e4, a₄, rf, fr₄⟩ := q
        rw [e4] at hR'
        have a5 := a4.trans a₄
        cases fl' with
        | next =>
          cases (show fl = .next from rf)
          obtain ⟨hit4, hn4⟩ := iter_same a₄.gr hn3 (frm_iter fr₃ hit3.obj) hit3
          exact ⟨f, Nat.lt_succ_self f, k + 1, l₄, hp₄, σ₄, hR', a5, fr₄, hit4, hn4⟩
        | ret av =>
          obtain ⟨v, rfl, rv⟩ := rf
          show QS P env cx σ s R (.ret v) s₄
          rw [← hR']
          exact ⟨_, _, _, _, rfl, a5, ⟨v, rfl, rv⟩, fr₄⟩
end
end Mine

namespace Mine
open PySem PySem.Spec PyProof.Rows PySem.SeqAt

theorem lookup_of_mem' {α : Type} : ∀ {l : List (Str × α)}, (l.map (·.1)).Nodup → ∀ {x : Str} {v : α}, (x, v) ∈ l → l.lookup x = some v
  | [], _, _, _, h => nomatch h
  | (k, w) :: r, nd, x, v, h => by
    rw [List.map_cons, List.nodup_cons] at nd
    rw [List.lookup_cons]
    rcases List.mem_cons.mp h with e | h2
    · cases e; rw [BEq.rfl]
    · have hne : (x == k) = false := beq_eq_false_iff_ne.mpr fun e => nd.1 (List.mem_map.mpr ⟨(x, v), h2, e⟩)
      rw [hne]
      exact lookup_of_mem' nd.2 h2

section
variable {env : Env}
noncomputable def relK (env : Env) (x : Str) (k : NameKind) : NameKind := if (k == .free && env.scope.kind == .function && env.kindOf x == some .cell) then .cell else k
theorem relabel_lookup : ∀ {names : List (Str × NameKind)} {x : Str} {k : NameKind}, names.lookup x = some k →
    (names.map fun (n, k) => if (k == NameKind.free && env.scope.kind == .function && env.kindOf n == some .cell) then (n, NameKind.cell) else (n, k)).lookup x = some (relK env x k)
  | [], _, _, h => by cases h
  | (n, k) :: r, x, k', h => by
    have ih := @relabel_lookup r x k'
    rw [List.lookup_cons] at h
    show List.lookup x ((if (k == NameKind.free && env.scope.kind == .function && env.kindOf n == some .cell) = true then (n, NameKind.cell) else (n, k)) :: _) = _
    have e : (if (k == NameKind.free && env.scope.kind == .function && env.kindOf n == some .cell) = true then (n, NameKind.cell) else (n, k)) = (n, relK env n k) := by
      unfold relK; split <;> rfl
    rw [e, List.lookup_cons]
    cases hx : x == n with
    | true => rw [hx] at h; cases h; rw [beq_iff_eq.mp hx]
    | false => rw [hx] at h; exact ih h

theorem lookup_first {α : Type} {x : Str} {c : α} : ∀ {l : List (Str × α)}, (x, c) ∈ l → ∃ c', l.lookup x = some c' ∧ (x, c') ∈ l
  | [], h => nomatch h
  | (k, w) :: r, h => by
    rw [List.lookup_cons]
    cases hx : x == k with
    | true => exact ⟨w, rfl, by rw [beq_iff_eq.mp hx]; exact List.mem_cons_self⟩
    | false =>
      rcases List.mem_cons.mp h with e | h
      · cases e; simp at hx
      · obtain ⟨c', h1, h2⟩ := lookup_first h
        exact ⟨c', h1, List.mem_cons_of_mem _ h2⟩

theorem closure_from : ∀ (names : List (Str × NameKind)) (acc : List (Str × Addr)), (∀ p ∈ names, p.2 = .free → ∃ c, env.cells.lookup p.1 = some c) →
    ∃ cl, (forIn names acc fun (x : Str × NameKind) (cs : List (Str × Addr)) => match x with
        | (name, kind) => if (kind == NameKind.free) = true then do let a ← cellOf env name; pure (ForInStep.yield ((name, a) :: cs)) else pure (ForInStep.yield cs)) = (pure cl : Sem _) ∧
      (∀ q ∈ cl, q ∈ acc ∨ env.cells.lookup q.1 = some q.2) ∧ (∀ q ∈ acc, q ∈ cl) ∧ ∀ p ∈ names, p.2 = .free → ∃ c, (p.1, c) ∈ cl
  | [], acc, _ => ⟨acc, by rw [List.forIn_nil], fun q h => .inl h, fun q h => h, fun p hp => nomatch hp⟩
  | (n, k) :: r, acc, H => by
    have Hr : ∀ p ∈ r, p.2 = .free → ∃ c, env.cells.lookup p.1 = some c := fun p hp => H p (List.mem_cons_of_mem _ hp)
    by_cases hk : k = .free
    · subst hk
      obtain ⟨c, hc⟩ := H (n, .free) List.mem_cons_self rfl
      obtain ⟨cl, h1, h2, h3, h4⟩ := closure_from r ((n, c) :: acc) Hr
      refine ⟨cl, ?_, fun q hq => ?_, fun q hq => h3 q (List.mem_cons_of_mem _ hq), fun p hp hpk => ?_⟩
      · rw [List.forIn_cons, ← h1]
        have e : cellOf env n = pure c := by unfold cellOf; rw [hc]
        show (if (NameKind.free == NameKind.free) = true then (cellOf env n >>= fun a => pure (ForInStep.yield ((n, a) :: acc))) else _) >>= _ = _
        rw [if_pos (show (NameKind.free == NameKind.free) = true from rfl), e]
        rfl
      · rcases h2 q hq with h | h
        · rcases List.mem_cons.mp h with e | h
          · cases e; exact .inr hc
          · exact .inl h
        · exact .inr h
      · rcases List.mem_cons.mp hp with e | hp
        · cases e; exact ⟨c, h3 _ List.mem_cons_self⟩
        · exact h4 p hp hpk
    · obtain ⟨cl, h1, h2, h3, h4⟩ := closure_from r acc Hr
      refine ⟨cl, ?_, h2, h3, fun p hp hpk => ?_⟩
      · rw [List.forIn_cons, ← h1]
        have : (k == NameKind.free) = false := beq_eq_false_iff_ne.mpr hk
        show (if (k == NameKind.free) = true then _ else pure (ForInStep.yield acc)) >>= _ = _
        rw [if_neg (by rw [this]; exact Bool.false_ne_true)]
        rfl
      · rcases List.mem_cons.mp hp with e | hp
        · cases e; exact absurd hpk hk
        · exact h4 p hp hpk
theorem closure_is {scope : Scope} (H : ∀ p ∈ scope.names, p.2 = .free → ∃ c, env.cells.lookup p.1 = some c) :
    ∃ cl, closureFor scope env = pure cl ∧ (∀ q ∈ cl, env.cells.lookup q.1 = some q.2) ∧ ∀ p ∈ scope.names, p.2 = .free → ∃ c, cl.lookup p.1 = some c := by
  obtain ⟨cl, h1, h2, h3, h4⟩ := closure_from (env := env) scope.names [] H
  refine ⟨cl, ?_, fun q hq => (h2 q hq).elim (fun h => nomatch h) id, fun p hp hpk => ?_⟩
  · unfold closureFor
    exact (congrArg (· >>= fun r => pure r) h1).trans rfl
  · obtain ⟨c, hc⟩ := h4 p hp hpk
    obtain ⟨c', h, _⟩ := lookup_first hc
    exact ⟨c', h⟩
end

theorem zipIdx_lookup : ∀ {ns : List Str} {k : Nat} {x : Str} {i : Nat}, (ns.zipIdx k).lookup x = some i → k ≤ i ∧ ns[i - k]? = some x
  | [], _, _, _, h => by simp at h
  | n :: ns, k, x, i, h => by
    rw [List.zipIdx_cons, List.lookup_cons] at h
    split at h
    · rename_i hb
      cases h
      rw [beq_iff_eq.mp hb]
      exact ⟨Nat.le_refl _, by simp⟩
    · obtain ⟨h1, h2⟩ := zipIdx_lookup h
      refine ⟨by omega, ?_⟩
      rw [show i - k = (i - (k + 1)) + 1 by omega]
      exact h2
theorem zipIdx_has : ∀ {ns : List Str} {k : Nat} {x : Str}, x ∈ ns → ∃ i, (ns.zipIdx k).lookup x = some i
  | n :: ns, k, x, h => by
    rw [List.zipIdx_cons, List.lookup_cons]
    cases hb : x == n with
    | true => exact ⟨_, rfl⟩
    | false =>
      rcases List.mem_cons.mp h with e | h
      · subst e; simp at hb
      · exact zipIdx_has h

section
variable {P : Par} {cx : Cx} {env : Env} {A : Around} {E : Value → Shared → Prop} {σ σ' : Sg} {l l' : Locs} {hp hp' : AHeap} {s s' : Shared} {n : Nat} {scope : Scope}

/-- a name of the block: its own, or the function's -/
theorem inner_slot (hok : innerOk cx scope = true) {x : Str} {i : Nat} (h : (innerCx cx scope).slot x = some i) :
    (scope.names.lookup x = some .local ∧ cx.n ≤ i ∧ (ownNames scope)[i - cx.n]? = some x) ∨ (scope.names.lookup x = some .free ∧ cx.sc.names.lookup x = some .cell ∧ cx.slot x = some i) := by
  simp only [innerOk, Bool.and_eq_true, decide_eq_true_eq] at hok
  obtain ⟨⟨_, hnd⟩, hall⟩ := hok
  unfold Cx.slot at h
  split at h
  · rename_i k hk
    split at h
    · rename_i hkk
      have hk : scope.names.lookup x = some k := hk
      have h : ((ownNames scope).zipIdx cx.n ++ cx.loc).lookup x = some i := h
      have hmem := mem_of_lookup' hk
      have hx := List.all_eq_true.mp hall _ hmem
      rw [List.lookup_append] at h
      unfold innerName at hx
      cases k <;> first | (cases hx; done) | (cases hkk; done) | skip
      · left
        refine ⟨hk, ?_⟩
        dsimp only at hx
        by_cases h0 : x = (".0" : Str)
        · have hno : x ∉ ownNames scope := fun hm => by
            obtain ⟨q, hq, e⟩ := List.mem_filterMap.mp hm
            split at e
            · rename_i hc; cases e; rw [Bool.and_eq_true, bne_iff_ne] at hc; exact hc.2 h0
            · cases e
          rw [Bool.or_eq_true, bne_iff_ne] at hx
          rcases hx with hx | hx
          · exact absurd h0 hx
          · cases hz : ((ownNames scope).zipIdx cx.n).lookup x with
            | some j =>
              obtain ⟨_, h2⟩ := zipIdx_lookup hz
              exact absurd (List.mem_of_getElem? h2) hno
            | none =>
              rw [hz, Option.isNone_iff_eq_none.mp hx] at h
              cases h
        · have hin : x ∈ ownNames scope := List.mem_filterMap.mpr ⟨(x, .local), hmem, by
            rw [if_pos]
            rw [Bool.and_eq_true, bne_iff_ne]
            exact ⟨rfl, h0⟩⟩
          obtain ⟨j, hj⟩ := zipIdx_has (k := cx.n) hin
          rw [hj] at h
          cases h
          exact zipIdx_lookup hj
      · right
        dsimp only at hx
        rw [Bool.and_eq_true, beq_iff_eq] at hx
        obtain ⟨i', hi'⟩ := Option.isSome_iff_exists.mp hx.2
        refine ⟨hk, hx.1, ?_⟩
        have hno : x ∉ ownNames scope := fun hm => by
          obtain ⟨⟨y, ky⟩, hq, e⟩ := List.mem_filterMap.mp hm
          split at e
          · rename_i hc
            cases e
            rw [Bool.and_eq_true, beq_iff_eq] at hc
            have := Mine.lookup_of_mem' hnd hq
            rw [hk] at this
            cases this
            cases hc.1
          · cases e
        cases hz : ((ownNames scope).zipIdx cx.n).lookup x with
        | some j =>
          obtain ⟨_, h2⟩ := zipIdx_lookup hz
          exact absurd (List.mem_of_getElem? h2) hno
        | none =>
          rw [hz] at h
          unfold Cx.slot at hi' ⊢
          split at hi'
          · split at hi'
            · rename_i k2 hk2 hkk2
              rw [if_pos hkk2]
              exact h
            · cases hi'
          · cases hi'
    · cases h
  · cases h

/-- the frame of a comprehension's block -/
theorem frm_inner {h h' : Heap} (f : Frm P h σ env cx l) (hok : innerOk cx scope = true) {cl : List (Str × Addr)} (sub : ∀ q ∈ cl, env.cells.lookup q.1 = some q.2) (has : ∀ p ∈ scope.names, p.2 = .free → ∃ c, cl.lookup p.1 = some c) {C : Addr}
    (hns : h'.Ns C (fun _ => none)) (hk : ∀ b o, h.get? b = some o → h'.get? b = some o) (hC : C ∉ σ.map (·.1)) (hCb : P.B.h₀.get? C = none) :
    Frm P h' σ (compEnvC scope cl C env) (innerCx cx scope) (l ++ List.replicate (ownNames scope).length none) := by
  have hsl := fun x i => inner_slot (x := x) (i := i) hok
  have hok' := hok
  simp only [innerOk, Bool.and_eq_true, decide_eq_true_eq, beq_iff_eq] at hok'
  obtain ⟨⟨hkind, hnd⟩, hall⟩ := hok'
  have memc : ∀ p ∈ cl, p ∈ env.cells := fun p hp => mem_of_lookup' (sub p hp)
  have hrel : ∀ x k, scope.names.lookup x = some k → (compEnvC scope cl C env).kindOf x = some (relK env x k) := fun x k h => relabel_lookup h
  have hold : ∀ av v, RV P.B h σ av v → RV P.B h' σ av v := fun av v r => RV.fixes (fun b o e _ => hk b o e) av v r
  refine ⟨hkind, ?_, fun x y i h1 h2 => ?_, fun x i hx => ?_, fun x hx => ?_, fun x i hx => ?_, ⟨_, hns, fun x i hx => ?_⟩, ⟨hC, fun p hp => f.out.2 p (memc p hp)⟩, ⟨hCb, fun p hp => f.new.2 p (memc p hp)⟩, f.globals, f.builtins, fun p hp => ?_,
    fun p hp q hq e => f.apart p (memc p hp) q (memc q hq) e, fun x k hx hlk => ?_⟩
  · rw [List.length_append, List.length_replicate, f.len]; rfl
  · rcases hsl x i h1 with ⟨_, a1, a2⟩ | ⟨_, _, a3⟩ <;> rcases hsl y i h2 with ⟨_, b1, b2⟩ | ⟨_, _, b3⟩
    · rw [a2] at b2; exact Option.some.inj b2
    · exact absurd (f.lt y i b3) (by omega)
    · exact absurd (f.lt x i a3) (by omega)
    · exact f.inj x y i a3 b3
  · rcases hsl x i hx with ⟨_, a1, a2⟩ | ⟨_, _, a3⟩
    · have := (List.getElem?_eq_some_iff.mp a2).1
      show i < cx.n + (ownNames scope).length
      omega
    · exact Nat.lt_of_lt_of_le (f.lt x i a3) (Nat.le_add_right _ _)
  · have h1 : scope.names.lookup x = some .globalImplicit := by
      have := (Bool.and_eq_true_iff.mp hx).1
      exact beq_iff_eq.mp this
    rw [hrel x _ h1]; rfl
  · unfold Cx.slotW at hx
    have hne : ∀ k, scope.names.lookup x = some k → k ≠ .free → (compEnvC scope cl C env).kindOf x ≠ some .free := fun k h1 h2 => by
      rw [hrel x k h1]
      unfold relK
      intro e
      split at e
      · cases e
      · exact h2 (Option.some.inj e)
    split at hx
    · rename_i h1; exact hne _ h1 (fun e => nomatch e)
    · rename_i h1; exact hne _ h1 (fun e => nomatch e)
    · cases hx
  · rcases hsl x i hx with ⟨a0, a1, a2⟩ | ⟨a0, a1, a3⟩
    · refine .inl ⟨by rw [hrel x _ a0]; rfl, fun av e => ?_⟩
      rw [List.getElem?_append_right (by rw [f.len]; exact a1), List.getElem?_replicate] at e
      split at e <;> cases e
    · have hcell := f.kinds x .cell a1 (.inr rfl)
      obtain ⟨m, _, hm⟩ := f.names
      rcases hm x i a3 with ⟨hk', _⟩ | ⟨_, c, ov, hc, ⟨o, ho, hd⟩, hv⟩
      · rw [hcell] at hk'; cases hk'
      · obtain ⟨c', hc'⟩ := has (x, .free) (mem_of_lookup' a0) rfl
        have hcc := sub _ (mem_of_lookup' hc')
        obtain rfl : c' = c := by
          rw [hc] at hcc
          exact (Option.some.inj hcc).symm
        refine .inr ⟨.inl ?_, c', ov, hc', ⟨o, hk c' o ho, hd⟩, fun av e => ?_⟩
        · rw [hrel x _ a0]
          unfold relK
          rw [hcell, f.kind]
          rfl
        · rw [List.getElem?_append_left (by rw [f.len]; exact f.lt x i a3)] at e
          obtain ⟨v, h1, h2⟩ := hv av e
          exact ⟨v, h1, hold _ _ h2⟩
  · obtain ⟨o, v, ho, hd⟩ := f.cells p (memc p hp)
    exact ⟨o, v, hk _ o ho, hd⟩
  · rw [hrel x k hx]
    rcases hlk with rfl | rfl <;> rfl
end
end Mine

namespace Mine
open PySem PySem.Spec PyProof.Rows PySem.SeqAt

section
variable {P : Par} {cx : Cx} {env : Env} {A : Around} {E : Value → Shared → Prop} {σ σ' : Sg} {l l' : Locs} {hp hp' : AHeap} {s s' : Shared} {n : Nat} {scope : Scope}

theorem conds_prim {c : Ctx} {ifs : List Expr} {cs : Xs} (hifs : (ifs = [] ∧ cs = .nil) ∨ ∃ q xq, ifs = [q] ∧ cs = .cons xq .nil ∧ SimT P cx q xq) (C : Sims P cx c n) (I : Inv P cx n env A σ l hp s) (hb : evalConds c cs l hp ≠ .bad) :
    wpAny (model P.prog P.w) A (forIn ifs true fun c r => if r = true then do let ok ← isTrue c env (eval c env); pure (ForInStep.yield ok) else pure (ForInStep.yield r))
      (fun ok s' => ∃ hp' σ', evalConds c cs l hp = .ok ok hp' ∧ After P σ σ' [] hp' s s') NE s := by
  rcases hifs with ⟨rfl, rfl⟩ | ⟨q, xq, rfl, rfl, h⟩
  · exact wpAny_tests_nil ⟨hp, σ, rfl, .refl I.st⟩
  · have e : evalConds c (.cons xq .nil) l hp = (evalX c xq l hp).bind fun v h => match v with | .bool b => if b then .ok true h else .ok false h | _ => .bad := rfl
    rw [e] at hb
    have hbr : BoolR (evalX c xq l hp) := fun av h er => by
      rw [er, bok] at hb
      split at hb
      · exact ⟨_, rfl⟩
      · exact absurd rfl hb
    refine wpAny_tests_one (wpAny_mono (h c n env A σ l hp s C I (bind_ok hb) hbr) (fun b s' ⟨hp', σ', er, a⟩ => ⟨hp', σ', ?_, a⟩) fun _ _ q => q)
    rw [e, er]
    cases b <;> rfl

theorem comp_items {body : AV → AHeap → Res (Option AV)} {src : AV} {e : Option (Nat × Nat)} {fuel : Nat} {acc : List AV} {k : Nat} (hb : compLoop body src e fuel k acc hp ≠ .bad) : ∃ xs, itemsAV src hp = some xs := by
  cases hi : itemsAV src hp with
  | some xs => exact ⟨xs, rfl⟩
  | none =>
    exfalso; apply hb
    cases fuel with
    | zero => rfl
    | succ f => unfold compLoop nextAt; rw [hi]

theorem iter_self {it : Addr} {src : AV} {k : Nat} {e : Option (Nat × Nat)} (x : IterAt P s.heap σ it src k e) {Q : Value → Shared → Prop} (h : Q (.ref it) s) : wpAny (model P.prog P.w) A (pyIter (.ref it)) Q E s := by
  unfold IterAt at x
  split at x
  · exact wpAny_pyIter_rangeiter x h
  · obtain ⟨_, _, _, _, _, x⟩ := x; exact wpAny_pyIter_tupleiter x h
  · obtain ⟨_, _, _, ⟨_, x⟩ | ⟨_, _, _, x⟩⟩ := x
    · exact wpAny_pyIter_listiter x h
    · exact wpAny_pyIter_keyiter x h
  · exact x.elim

theorem same_obj {X : List Addr} {b : Addr} {o : Obj} {h h' : Heap} {T : String} (g : Grows σ σ' X h h') (ho : h.get? b = some o) (hc : o.cls = .type T) (hT : T ≠ "frame") (hn : b ∉ σ.map (·.1)) (hX : b ∉ X) : h'.get? b = some o := by
  rcases g.oth b o ho hn hX with q | ⟨hcf, _⟩
  · exact q
  · rw [hc] at hcf; exact absurd (Value.type.inj hcf) hT

theorem set_inner {l : Locs} {k j : Nat} {a b : AV} : (inner l k j a).set j (some b) = inner l k j b := by unfold inner; rw [List.set_set]

/-- what the loop of a comprehension keeps -/
structure CompInv (P : Par) (cx : Cx) (env : Env) (l : Locs) (K j : Nat) (src : AV) (ee : Option (Nat × Nat)) (it D : Addr) (σ : Sg) (s : Shared) (k : Nat) (acc : List AV) (hp' : AHeap) (σ' : Sg) (s' : Shared) : Prop where
  af : After P σ σ' [] hp' s s'
  fr : ∃ lv, Frm P s'.heap σ' env cx lv ∧ ∀ av, lv.set j (some av) = inner l K j av
  walk : IterAt P s'.heap σ' it src k ee
  itn : it ∉ σ'.map (·.1)
  have_ : ∃ ws m, ObjAt s'.heap D (.type "list") (.seq ws m) ∧ RVs P.B s'.heap σ' acc ws.toList
  accn : D ∉ σ'.map (·.1)
  len : acc.length ≤ sizeLim

theorem FX_ne {b : Addr} {o : Obj} (f : Frm P s.heap σ env cx l) (ho : s.heap.get? b = some o) (h1 : ∀ es ep, o.data ≠ .dict es ep) (h2 : ∀ v, o.data ≠ .cell v) : b ∉ FX env := by
  intro hm
  simp only [FX, List.mem_cons, List.mem_map] at hm
  rcases hm with rfl | ⟨p, hp, rfl⟩
  · obtain ⟨o', es, ep, ho', hd'⟩ := f.nsObj
    rw [ho] at ho'; cases ho'; exact h1 _ _ hd'
  · obtain ⟨o', v, ho', hd'⟩ := f.cells p hp
    rw [ho] at ho'; cases ho'; exact h2 _ hd'

/-- three places made for a comprehension: what walks, what is gathered, the names -/
structure Aside (P : Par) (s : Shared) (it D K : Addr) : Prop where
  i0 : s.heap.get? it = none
  ib : P.B.h₀.get? it = none
  d0 : s.heap.get? D = none
  db : P.B.h₀.get? D = none
  k0 : s.heap.get? K = none
  kb : P.B.h₀.get? K = none
  dk : D ≠ K
  di : D ≠ it
  ik : it ≠ K
/-- what its parts are -/
structure CompS (P : Par) (cx : Cx) (c : Ctx) (n : Nat) (env : Env) (A : Around) (K : Addr) (elt : Expr) (x : Str) (ifs : List Expr) (p : CP) : Prop where
  sims : Sims P cx c n
  ar : Arnd n A
  wx : cx.slotW x = some p.j
  el : SimE P cx elt p.e
  ifs : (ifs = [] ∧ p.cs = .nil) ∨ ∃ q xq, ifs = [q] ∧ p.cs = .cons xq .nil ∧ SimT P cx q xq
  loc : env.kindOf x = some .local
  k : env.locals = K

noncomputable def bodyOf (c : Ctx) (p : CP) (l : Locs) (v : AV) (h : AHeap) : Res (Option AV) := compBody c p.e p.cs (inner l p.k p.j v) h
/-- the run that is left -/
noncomputable def CompRest (P : Par) (cx : Cx) (env : Env) (c : Ctx) (p : CP) (l : Locs) (src : AV) (ee : Option (Nat × Nat)) (it D : Addr) (σ : Sg) (s : Shared) (vs : List AV) (hp₂ : AHeap) (f : Nat) (s' : Shared) : Prop :=
  ∃ k acc hp' σ', compLoop (bodyOf c p l) src ee f k acc hp' = .ok vs hp₂ ∧ CompInv P cx env l p.k p.j src ee it D σ s k acc hp' σ' s'

theorem fix_of {b : Addr} {h h' : Heap} (hk : ∀ x o, x ≠ b → h.get? x = some o → h'.get? x = some o) (hf : ∃ o, h.get? b = some o ∧ ¬ fixed o) : Fixes h h' := fun x o e f => hk x o (fun q => by
  subst q; obtain ⟨o2, e2, hf2⟩ := hf; rw [e2] at e; cases e; exact hf2 f) e

section
variable {c : Ctx} {K it D : Addr} {elt : Expr} {x : Str} {ifs : List Expr} {p : CP} {src : AV} {ee : Option (Nat × Nat)} {vs acc : List AV} {hp₂ : AHeap} {f k : Nat}

/-- what is gathered, put behind -/
theorem comp_put (ap : Aside P s it D K) {hp₄ hp₅ : AHeap} {σ₄ σ₅ : Sg} {s₄ s₅ : Shared} {lv : Locs} {xv : AV} {w : Value} {ws : Array Value} {m : Nat} (hset : ∀ av, lv.set p.j (some av) = inner l p.k p.j av)
    (a4 : After P σ σ₄ [] hp₄ s s₄) (a₅ : After P σ₄ σ₅ [] hp₅ s₄ s₅) (fr : Frm P s₅.heap σ₅ env cx lv) (hit : IterAt P s₄.heap σ₄ it src (k + 1) ee) (hin : it ∉ σ₄.map (·.1)) (hD : ObjAt s₄.heap D (.type "list") (.seq ws m)) (hacc : RVs P.B s₄.heap σ₄ acc ws.toList) (hDn : D ∉ σ₄.map (·.1))
    (rw' : RV P.B s₅.heap σ₅ xv w) (hR : (if acc.length < sizeLim then compLoop (bodyOf c p l) src ee f (k + 1) (acc ++ [xv]) hp₅ else .bad) = .ok vs hp₂) :
    wpAny (model P.prog P.w) A (call (.builtin "list.append") [.ref D, w]) (fun _ s' => ∃ m, m < f + 1 ∧ CompRest P cx env c p l src ee it D σ s vs hp₂ m s') E s₅ := by
  have gr := a₅.gr
  have hD5 : ObjAt s₅.heap D (.type "list") (.seq ws m) := same_obj gr hD rfl (by decide) hDn (fun h => nomatch h)
  have hacc5 := RVs.grows gr _ _ hacc
  have hlen := hacc5.size
  have hDn5 : D ∉ σ₅.map (·.1) := not_mem_grown gr hD hDn
  have hDf : ¬ fixed ({ cls := .type "list", data := .seq ws m } : Obj) := fun q => absurd (Value.type.inj q) (by decide)
  obtain ⟨hit5, hin5⟩ := iter_same gr hin (fun h => nomatch h) hit
  split at hR
  · rename_i hlt
    refine append_at hD5 (fun h₆ hs₆ hD₆ => ?_) (by have := sizeLim_le (Nat.le_of_lt hlt); omega)
    obtain ⟨a7, hx7, hk7⟩ := (a4.trans a₅).extBut (t := s₅.toks) hs₆.extBut ap.d0 hDn5 ap.db ⟨_, hD5, hDf⟩
    have g7 : Grows σ₅ σ₅ [D] s₅.heap h₆ := .sameBut hs₆ (fun o e => by rw [hD5] at e; cases e; exact hDf) (.inr List.mem_cons_self) hD₆
    exact ⟨f, Nat.lt_succ_self f, k + 1, acc ++ [xv], hp₅, σ₅, hR, a7, ⟨_, fr.extBut (FX_ne fr hD5 (fun _ _ e => nomatch e) (fun _ e => nomatch e)) hx7 hk7, hset⟩, hit5.keep g7 (hs₆.2 it (Ne.symm ap.di)), hin5,
      ⟨ws.push w, m + 1, hD₆, by rw [Array.toList_push]; exact (RVs.fixes (fix_of hk7 ⟨_, hD5, hDf⟩) _ _ hacc5).append ⟨hx7 _ _ rw', trivial⟩⟩, hDn5, by rw [List.length_append, List.length_singleton]; omega⟩
  · cases hR

/-- one turn, the item drawn -/
theorem comp_turn (cs : CompS P cx c n env A K elt x ifs p) (ap : Aside P s it D K) {hp₁ : AHeap} {σ₁ : Sg} {s₁ : Shared} {lv : Locs} {av : AV} {u : Value} {px : Pos} {ws : Array Value} {m : Nat} (hset : ∀ av, lv.set p.j (some av) = inner l p.k p.j av)
    (a₁ : After P σ σ₁ [] hp₁ s s₁) (fr : Frm P s₁.heap σ₁ env cx lv) (ru : RV P.B s₁.heap σ₁ av u) (hit : IterAt P s₁.heap σ₁ it src (k + 1) ee) (hin : it ∉ σ₁.map (·.1)) (hD : ObjAt s₁.heap D (.type "list") (.seq ws m)) (hacc : RVs P.B s₁.heap σ₁ acc ws.toList) (hDn : D ∉ σ₁.map (·.1)) (hlen : acc.length ≤ sizeLim)
    (hR : (bodyOf c p l av hp₁).bind (fun r h => match r with
      | some x => if acc.length < sizeLim then compLoop (bodyOf c p l) src ee f (k + 1) (acc ++ [x]) h else .bad
      | none => compLoop (bodyOf c p l) src ee f (k + 1) acc h) = .ok vs hp₂) :
    wpAny (model P.prog P.w) A (assign (.Name x px) env u) (fun _ s₂ =>
      wpAny (model P.prog P.w) A (forIn ifs true fun c r => if r = true then do let ok ← isTrue c env (eval c env); pure (ForInStep.yield ok) else pure (ForInStep.yield r)) (fun ok s₃ =>
        if ok = true then wpAny (model P.prog P.w) A (eval elt env) (fun x s₄ =>
          wpAny (model P.prog P.w) A (call (.builtin "list.append") [.ref D, x]) (fun _ s₅ => ∃ m, m < f + 1 ∧ CompRest P cx env c p l src ee it D σ s vs hp₂ m s₅) E s₄) E s₃
        else ∃ m, m < f + 1 ∧ CompRest P cx env c p l src ee it D σ s vs hp₂ m s₃) E s₂) E s₁ := by
  have hlk := cs.k
  refine wpAny_assign_Name (store_in (X := [K]) a₁.st fr cs.wx ru (fun _ => by rw [hlk]; exact List.mem_cons_self) (fun hne => absurd cs.loc hne) fun s₃ a₃ fr₃ _ => ?_)
  rw [hset av] at fr₃
  have a4 : After P σ σ₁ [] hp₁ s s₃ := by
    have z := (a₁.more (Y := [K]) (fun _ h => nomatch h)).trans a₃
    exact ⟨z.ctl, z.st, z.gr.drop fun b hb => .inr (by rw [List.mem_singleton.mp hb]; exact ap.k0)⟩
  have hD3 : ObjAt s₃.heap D (.type "list") (.seq ws m) := same_obj a₃.gr hD rfl (by decide) hDn (fun q => ap.dk (List.mem_singleton.mp q))
  have hacc3 := RVs.grows a₃.gr _ _ hacc
  obtain ⟨hit3, hin3⟩ := iter_same a₃.gr hin (fun q => ap.ik (List.mem_singleton.mp q)) hit
  have hcb : evalConds c p.cs (inner l p.k p.j av) hp₁ ≠ .bad := fun e => by
    unfold bodyOf compBody at hR; rw [e] at hR; cases hR
  refine wpAny_mono (conds_prim cs.ifs cs.sims ⟨a4.st, fr₃, cs.ar⟩ hcb) (fun b s₄ q => ?_) (fun _ _ q => q.elim)
  obtain ⟨hp₄, σ₄, e4, a₄⟩ := q
  have hR : ((if b then (evalX c p.e (inner l p.k p.j av) hp₄).bind fun x h => .ok (some x) h else .ok none hp₄ : Res (Option AV)).bind (fun r h => match r with
      | some x => if acc.length < sizeLim then compLoop (bodyOf c p l) src ee f (k + 1) (acc ++ [x]) h else .bad
      | none => compLoop (bodyOf c p l) src ee f (k + 1) acc h)) = .ok vs hp₂ := by
    unfold bodyOf compBody at hR
    rw [e4, bok] at hR
    exact hR
  have fr₄ := fr₃.after a₄
  have a5 := a4.trans a₄
  obtain ⟨hit4, hin4⟩ := iter_same a₄.gr hin3 (fun h => nomatch h) hit3
  have hD4 : ObjAt s₄.heap D (.type "list") (.seq ws m) := same_obj a₄.gr hD3 rfl (by decide) hDn (fun h => nomatch h)
  have hacc4 := RVs.grows a₄.gr _ _ hacc3
  have hDn4 : D ∉ σ₄.map (·.1) := not_mem_grown a₄.gr hD3 hDn
  cases b with
  | false => exact ⟨f, Nat.lt_succ_self f, k + 1, acc, hp₄, σ₄, hR, a5, ⟨_, fr₄, fun _ => set_inner⟩, hit4, hin4, ⟨ws, m, hD4, hacc4⟩, hDn4, hlen⟩
  | true =>
    rw [if_pos rfl] at hR ⊢
    have hel' := cs.el c n env A σ₄ (inner l p.k p.j av) hp₄ s₄ cs.sims ⟨a5.st, fr₄, cs.ar⟩
    cases hrx : evalX c p.e (inner l p.k p.j av) hp₄ with
    | bad => rw [hrx] at hR; cases hR
    | ok xv hp₅ =>
      rw [hrx] at hR hel'
      refine wpAny_mono (hel' (fun e => nomatch e)) (fun w s₅ q => ?_) (fun _ _ q => q.elim)
      obtain ⟨_, _, σ₅, e, a₅, rw'⟩ := q
      cases e
      exact comp_put ap (fun _ => set_inner) a5 a₅ (fr₄.after a₅) hit4 hin4 hD4 hacc4 hDn4 rw' hR

/-- the walk of its loop -/
theorem comp_loop (cs : CompS P cx c n env A K elt x ifs p) (ap : Aside P s it D K) {iter : Expr} {scope : Scope} {px pos : Pos} {R : Result → Shared → Prop} {s₀ : Shared} (h₀ : CompRest P cx env c p l src ee it D σ s vs hp₂ c.fuel s₀)
    (hend : ∀ σ' lv s₅, After P σ (σ' ++ [(D, 0)]) [] (hp₂ ++ [.list vs]) s s₅ → σ'.length = hp₂.length → Frm P s₅.heap σ' env cx lv → R (.ok .next) s₅) (hsz : vs.length ≤ sizeLim) :
    codeAny (model P.prog P.w) A (.compLoop (.ListComp elt [⟨.Name x px, iter, ifs, 0⟩] scope pos) 0 (.ref it) (.ref D) env) R s₀ := by
  refine codeAny_compLoop_tests (CompRest P cx env c p l src ee it D σ s vs hp₂) ?_ c.fuel h₀
  rintro f s' ⟨k, acc, hp', σ', hR', J⟩
  obtain ⟨lv, fr, hlv⟩ := J.fr
  have ho := J.walk.obj
  cases f with
  | zero => cases hR'
  | succ f =>
    rw [compLoop] at hR'
    cases hnx : nextAt src ee k hp' with
    | none => rw [hnx] at hR'; cases hR'
    | some r =>
      rw [hnx] at hR'
      obtain ⟨ws, m, hD, hacc⟩ := J.have_
      have hitF := frm_iter fr ho
      refine next_prim J.af.st cs.ar.handled J.walk hnx (fun er h' hs => ?_) (fun av u h' t er ru hs hit' => ?_)
      · subst er
        cases hR'
        obtain ⟨a', hx', hk'⟩ := J.af.extBut (t := s'.toks) hs ap.i0 J.itn ap.ib ho.notFixed
        have S₅ := a'.st.adopt (off := 0) (ao := .list vs) J.accn ap.db fun kl => ⟨ws, m, hk' D _ ap.di hD, RVs.mono (fun _ _ x _ => x) kl _ _ (RVs.fixes (fix_of hk' ho.notFixed) _ _ hacc), sizeLim_le hsz⟩
        exact hend σ' lv _ ⟨a'.ctl, S₅, a'.gr.adopt ap.d0⟩ a'.st.len (fr.extBut hitF hx' hk')
      · subst er
        obtain ⟨a', hx', hk'⟩ := J.af.extBut (t := t) hs ap.i0 J.itn ap.ib ho.notFixed
        have hfix := fix_of hk' ho.notFixed
        exact comp_turn (s₁ := { s' with heap := h', toks := t }) cs ap hlv a' (fr.extBut hitF hx' hk') (hx' _ _ ru) (hit' hfix) J.itn (hk' D _ ap.di hD) (RVs.fixes hfix _ _ hacc) J.accn J.len hR'
end
end
end Mine

namespace Mine
open PySem PySem.Spec PyProof.Rows PySem.SeqAt

section
variable {P : Par} {cx : Cx} {env : Env} {A : Around} {σ σ' : Sg} {l : Locs} {hp hp' : AHeap} {s s' : Shared} {n : Nat} {scope : Scope} {c : Ctx}

theorem inner_scope (hok : innerOk cx scope = true) (f : Frm P s.heap σ env cx l) : scope.kind = .function ∧ (∀ q ∈ scope.names, q.2 = .local → scope.names.lookup q.1 = some .local) ∧ (∀ q ∈ scope.names, q.2 ≠ .cell) ∧
    ∀ q ∈ scope.names, q.2 = .free → ∃ c', env.cells.lookup q.1 = some c' := by
  unfold innerOk at hok
  rw [Bool.and_eq_true, Bool.and_eq_true, decide_eq_true_eq, beq_iff_eq] at hok
  obtain ⟨⟨hkind, hnd⟩, hall⟩ := hok
  refine ⟨hkind, fun q hq e => ?_, fun q hq e => ?_, fun q hq e => ?_⟩
  · obtain ⟨a, b⟩ := q
    cases (show b = .local from e)
    exact lookup_of_mem' hnd hq
  · have := List.all_eq_true.mp hall q hq
    unfold innerName at this
    rw [e] at this
    cases this
  · have hin := List.all_eq_true.mp hall q hq
    unfold innerName at hin
    rw [e] at hin
    dsimp only at hin
    rw [Bool.and_eq_true, beq_iff_eq] at hin
    obtain ⟨i', hi'⟩ := Option.isSome_iff_exists.mp hin.2
    have hk := f.kinds _ _ hin.1 (.inr rfl)
    obtain ⟨m, _, hm⟩ := f.names
    rcases hm q.1 i' hi' with ⟨h1, _⟩ | ⟨_, c', _, h1, _⟩
    · rw [hk] at h1; cases h1
    · exact ⟨c', h1⟩

/-- what it walks, and what it gathers -/
theorem cp_is {p : CP} (hb : evalCP c p l hp ≠ .bad) : ∃ src hp₁ vs hp₂ xs, evalX c p.it l hp = .ok src hp₁ ∧ itemsAV src hp₁ = some xs ∧ compLoop (bodyOf c p l) src (epochOf src hp₁) c.fuel 0 [] hp₁ = .ok vs hp₂ ∧ vs.length ≤ sizeLim ∧ evalCP c p l hp = .ok (.loc hp₂.length) (hp₂ ++ [.list vs]) := by
  rw [x_cp] at hb ⊢
  cases hr : evalX c p.it l hp with
  | bad => rw [hr] at hb; exact absurd rfl hb
  | ok src hp₁ =>
    rw [hr, bok] at hb
    rw [bok]
    cases hr2 : compLoop (bodyOf c p l) src (epochOf src hp₁) c.fuel 0 [] hp₁ with
    | bad =>
      have e2 : compLoop (fun v h => compBody c p.e p.cs (inner l p.k p.j v) h) src (epochOf src hp₁) c.fuel 0 [] hp₁ = .bad := hr2
      rw [e2] at hb; exact absurd rfl hb
    | ok vs hp₂ =>
      have e2 : compLoop (fun v h => compBody c p.e p.cs (inner l p.k p.j v) h) src (epochOf src hp₁) c.fuel 0 [] hp₁ = .ok vs hp₂ := hr2
      rw [e2, bok] at hb
      rw [e2, bok]
      have hsz : vs.length ≤ sizeLim := Classical.byContradiction fun hn => hb (if_neg hn)
      obtain ⟨xs, hi⟩ := comp_items (by rw [hr2]; exact fun e => nomatch e)
      exact ⟨src, hp₁, vs, hp₂, xs, rfl, hi, hr2, hsz, if_pos hsz⟩

theorem gone {σ₁ : Sg} {hp₁ : AHeap} {X : List Addr} (a : After P σ σ₁ X hp₁ s s') {b : Addr} (hb : s'.heap.objs.size ≤ b) : s'.heap.get? b = none ∧ s.heap.get? b = none ∧ b ∉ σ₁.map (·.1) ∧ P.B.h₀.get? b = none := by
  have h1 : s'.heap.get? b = none := Heap.get?_none_of_le hb
  refine ⟨h1, ?_, fun hm => ?_, ?_⟩
  · cases hq : s.heap.get? b with
    | none => rfl
    | some o => obtain ⟨o', e'⟩ := a.gr.ex _ o hq; rw [h1] at e'; cases e'
  · obtain ⟨p, hp, rfl⟩ := List.mem_map.mp hm
    obtain ⟨ob, e, _⟩ := a.st.there hp
    rw [h1] at e; cases e
  · cases hq : P.B.h₀.get? b with
    | none => rfl
    | some o => rw [a.st.base b o hq] at h1; cases h1

noncomputable def nilObj : Obj := { cls := .type "list", dict := none, data := .seq ([] : List Value).toArray }
theorem comp_core {elt iter : Expr} {x : Str} {px pos pp : Pos} {ifs : List Expr} {p : CP} {kk : Nat} (hok : innerOk cx scope = true) (hx : scope.names.lookup x = some .local) (hwx : (innerCx cx scope).slotW x = some p.j) (hpk : p.k = (ownNames scope).length)
    (hce : compE kk cx iter = some p.it) (hsi : SimE P cx iter p.it) (hel : SimE P (innerCx cx scope) elt p.e) (hifs : (ifs = [] ∧ p.cs = .nil) ∨ ∃ q xq, ifs = [q] ∧ p.cs = .cons xq .nil ∧ SimT P (innerCx cx scope) q xq)
    (C : Sims P cx c n) (I : Inv P cx n env A σ l hp s) (hb : evalCP c p l hp ≠ .bad) {use : Option (Value → Sem Unit)} {Q : Value → Shared → Prop}
    (hfin : ∀ σ' hp₃ s₅ D K mm, After P σ (σ' ++ [(D, 0)]) [] hp₃ s s₅ → evalCP c p l hp = .ok (.loc σ'.length) hp₃ → s.heap.get? K = none → K ∉ (σ' ++ [(D, 0)]).map (fun p : Addr × Nat => p.1) → P.B.h₀.get? K = none → s₅.heap.Ns K mm → compPost (model P.prog P.w) A NE use Q (.ref D) K (.ok .next) s₅) :
    wpAny (model P.prog P.w) A (comprehension (.ListComp elt [⟨.Name x px, iter, ifs, 0⟩] scope pos) scope env pp (PySem.newList []) false (eval iter env) use) Q NE s := by
  obtain ⟨src, hp₁, vs, hp₂, xs, hr, hi, hr2, hsz, ecp⟩ := cp_is hb
  obtain ⟨hkind, hhl, hcell, hfree⟩ := inner_scope hok I.fr
  obtain ⟨cl, hclos, sub, has⟩ := closure_is (env := env) (scope := scope) hfree
  have hit' := hsi c n env A σ l hp s C I (by rw [hr]; exact fun e => nomatch e)
  rw [hr] at hit'
  refine wpAny_comprehension_free rfl (fun v => folded_ok hce v) hclos hkind hhl (wpAny_mono hit' (fun xv s₁ q => ?_) fun _ _ e => e)
  obtain ⟨_, _, σ₁, e, a₁, rv⟩ := q
  cases e
  refine iter_prim C.ok a₁.st rv hi fun it s₂ hn0 hnσ hnb a₂ hit => ?_
  have a₂ := a₁.trans a₂
  have hn₀ : s.heap.get? it = none := by
    cases hq : s.heap.get? it with
    | none => rfl
    | some o => obtain ⟨o', e'⟩ := a₁.gr.ex _ o hq; rw [hn0] at e'; cases e'
  obtain ⟨oi, _, _, hoi, _⟩ := hit.obj
  refine wpAny_newObj_type (wpAny_newFunctionEnv hcell (by intro y hy; simp at hy) (fun h₁ hns₁ hsb₁ => ?_) hkind)
  replace hns₁ : h₁.Ns (s₂.heap.push nilObj).objs.size _ := hns₁
  have hDs := gone a₂ (Nat.le_refl s₂.heap.objs.size)
  have hCs := gone a₂ (b := (s₂.heap.push nilObj).objs.size) (by rw [push_size]; exact Nat.le_succ _)
  have hDC : s₂.heap.objs.size ≠ (s₂.heap.push nilObj).objs.size := by rw [push_size]; exact Nat.ne_of_lt (Nat.lt_succ_self _)
  have old : ∀ b o, s₂.heap.get? b = some o → h₁.get? b = some o := fun b o e => hsb₁.extBut b o (fun q => by rw [q] at e; exact absurd (e.symm.trans hCs.1) (fun z => nomatch z)) (Heap.get?_push_of_some _ (Heap.get?_push_of_some _ e))
  have hD₁ : h₁.get? s₂.heap.objs.size = some nilObj := hsb₁.extBut _ _ hDC (Heap.get?_push_of_some _ (Heap.get?_push_size _ rfl))
  have a₃ : After P σ σ₁ [] hp₁ s { s₂ with heap := h₁, toks := s₂.toks + ([] : List (Str × Value)).length } := a₂.trans ⟨rfl, a₂.st.keep old, grows_keep old⟩
  have fr₃ := frm_inner (I.fr.after a₂) hok sub has (C := (s₂.heap.push nilObj).objs.size) hns₁ old hCs.2.2.1 hCs.2.2.2
  have hDit : s₂.heap.objs.size ≠ it := fun q => by rw [← q, hDs.1] at hoi; cases hoi
  have hitK : it ≠ (s₂.heap.push nilObj).objs.size := fun q => by rw [q, hCs.1] at hoi; cases hoi
  have ap : Aside P s it s₂.heap.objs.size (s₂.heap.push nilObj).objs.size := ⟨hn₀, hnb, hDs.2.1, hDs.2.2.2, hCs.2.1, hCs.2.2.2, hDC, hDit, hitK⟩
  have cs : CompS P (innerCx cx scope) c n (compEnvC scope cl (s₂.heap.push nilObj).objs.size env) A (s₂.heap.push nilObj).objs.size elt x ifs p := ⟨⟨C.ok, C.f⟩, I.ar, hwx, hel, hifs, lookup_relabel_local hx, rfl⟩
  have J₀ : CompInv P (innerCx cx scope) (compEnvC scope cl (s₂.heap.push nilObj).objs.size env) l p.k p.j src (epochOf src hp₁) it s₂.heap.objs.size σ s 0 [] hp₁ σ₁ { s₂ with heap := h₁, toks := s₂.toks + ([] : List (Str × Value)).length } :=
    ⟨a₃, ⟨_, fr₃, fun av => by rw [hpk]; rfl⟩, hit.keep (X := []) (grows_keep old) ((old it oi hoi).trans hoi.symm), hnσ, ⟨#[], 0, hD₁, trivial⟩, hDs.2.2.1, Nat.zero_le _⟩
  have loop := comp_loop cs ap (iter := iter) (scope := scope) (px := px) (pos := pos) (R := compPost (model P.prog P.w) A NE use Q (.ref s₂.heap.objs.size) (s₂.heap.push nilObj).objs.size) ⟨0, [], hp₁, σ₁, hr2, J₀⟩ (fun σ' lv s₅ a₅ hlen fr' => by
    obtain ⟨mm, hnsC, _⟩ := fr'.names
    refine hfin σ' _ s₅ _ _ mm a₅ (by rw [hlen]; exact ecp) hCs.2.1 ?_ hCs.2.2.2 hnsC
    rw [List.map_append, List.mem_append]
    rintro (q | q)
    · exact fr'.out.1 q
    · exact hDC (List.mem_singleton.mp q).symm) hsz
  exact codeAny_compStart_list loop (iter_self J₀.walk loop)

theorem not_FX {K : Addr} (f : Frm P s.heap σ env cx l) (h : s.heap.get? K = none) : K ∉ FX env := fun hm => by
  rcases List.mem_cons.mp hm with q | hm
  · obtain ⟨o', _, _, ho', _⟩ := f.nsObj
    rw [← q, h] at ho'; cases ho'
  · obtain ⟨p, hp, q⟩ := List.mem_map.mp hm
    obtain ⟨o', _, ho', _⟩ := f.cells p hp
    rw [q, h] at ho'; cases ho'
theorem ns_obj {h : Heap} {K : Addr} {mm : Str → Option Value} (x : h.Ns K mm) : ∃ o, h.get? K = some o ∧ ¬ fixed o := by
  obtain ⟨o, es, ep, ho, hd, _⟩ := x
  exact ⟨o, ho, by unfold fixed; rw [hd]; exact fun f => f⟩

/-- the parts of one that is read -/
structure CPOk (P : Par) (cx : Cx) (elt : Expr) (x : Str) (iter : Expr) (ifs : List Expr) (scope : Scope) (p : CP) : Prop where
  ok : innerOk cx scope = true
  hx : scope.names.lookup x = some .local
  wx : (innerCx cx scope).slotW x = some p.j
  pk : p.k = (ownNames scope).length
  ce : compE deep cx iter = some p.it
  si : SimE P cx iter p.it
  el : SimE P (innerCx cx scope) elt p.e
  ifs : (ifs = [] ∧ p.cs = .nil) ∨ ∃ q xq, ifs = [q] ∧ p.cs = .cons xq .nil ∧ SimT P (innerCx cx scope) q xq

theorem simSt_retc {elt iter : Expr} {x : Str} {px pos spos : Pos} {ifs : List Expr} {p : CP} (o : CPOk P cx elt x iter ifs scope p) : SimSt P cx (.Return (some (.ListComp elt [⟨.Name x px, iter, ifs, 0⟩] scope pos)) spos) (.retc p) := by
  intro c n env A σ l hp s C I hb
  rw [s_retc] at hb ⊢
  refine wpAny_Return_some ?_
  refine comp_core (P := P) (px := px) (pos := pos) o.ok o.hx o.wx o.pk o.ce o.si o.el o.ifs C I (st_ok hb) (use := none) fun σ' hp₃ s₅ D K mm a₅ er hK hKσ hKb hns => ?_
  refine ⟨mm, hns, fun h' hs => ?_⟩
  rw [er]
  obtain ⟨a₇, hx₇, hk₇⟩ := a₅.extBut (t := s₅.toks) hs.extBut hK hKσ hKb (ns_obj hns)
  exact ⟨_, _, _, _, rfl, a₇.toX, ⟨_, rfl, D, 0, rfl, List.getElem?_concat_length⟩, (I.fr.after a₅).extBut (not_FX I.fr hK) hx₇ hk₇⟩

theorem simSt_comp {elt iter : Expr} {x y : Str} {px py pos spos : Pos} {ifs : List Expr} {p : CP} {i : Nat} (o : CPOk P cx elt x iter ifs scope p) (hp : putOk cx y py scope pos = true) (hwy : cx.slotW y = some i) :
    SimSt P cx (.Assign [.Name y py] (.ListComp elt [⟨.Name x px, iter, ifs, 0⟩] scope pos) spos) (.comp i p) := by
  intro c n env A σ l hp s C I hb
  rename_i hput
  unfold putOk at hput
  rw [Bool.and_eq_true, Bool.and_eq_true, beq_iff_eq (a := cx.sc.names.lookup y), Bool.not_eq_true'] at hput
  obtain ⟨⟨hy, hline⟩, hny⟩ := hput
  rw [s_comp] at hb ⊢
  have hsw : swapsWith (.ListComp elt [⟨.Name x px, iter, ifs, 0⟩] scope pos) (some (.Name y py)) spos.line env = pure true := by
    show (pure (env.blockKind == .function && env.kindOf y == some .local && py.line == pos.line && !(scope.names.any fun p => p.1 == y && (p.2 == .local || p.2 == .cell))) : Sem Bool) = _
    rw [I.fr.kinds y .local hy (.inl rfl), hline, hny]
    unfold Env.blockKind
    rw [I.fr.kind]
    rfl
  rw [exec_Assign_Name_used _ _ _ _ hsw]
  refine wpAny_bind (wpAny_standAt (wpAny_bind ?_))
  show wpAny _ A (do let _ ← comprehension (.ListComp elt [⟨.Name x px, iter, ifs, 0⟩] scope pos) scope env _ (PySem.newList []) false (eval iter env) (some (assign (.Name y py) env))) _ _ s
  refine wpAny_bind (wpAny_mono (comp_core (P := P) (px := px) (pos := pos) o.ok o.hx o.wx o.pk o.ce o.si o.el o.ifs C I (st_ok hb) (use := some (assign (.Name y py) env)) (Q := fun _ s' => QS P env cx σ s ((evalCP c p l hp).st fun v h => .ok .next (l.set i (some v)) h) .next s')
    fun σ' hp₃ s₅ D K mm a₅ er hK hKσ hKb hns => ?_) (fun _ s' hq => wpAny_pure (wpAny_pure hq)) fun _ _ e => e)
  rw [er]
  show wpAny _ A (assign (.Name y py) env (.ref D)) _ _ _
  have hKX := not_FX I.fr hK
  refine wpAny_assign_Name (store_prim a₅.st (I.fr.after a₅) hwy (av := .loc σ'.length) ⟨D, 0, rfl, List.getElem?_concat_length⟩ fun s₆ a₆ fr₆ _ => ?_)
  have hns₆ : s₆.heap.Ns K mm := near_ns hns (fun o ho => a₆.gr.oth K o ho hKσ hKX)
  refine ⟨mm, hns₆, fun h₇ hs₇ => ?_⟩
  obtain ⟨a₇, hx₇, hk₇⟩ := (a₅.toX.trans a₆).extBut (t := s₆.toks) hs₇.extBut hK hKσ hKb (ns_obj hns₆)
  exact ⟨_, _, _, _, rfl, a₇, rfl, fr₆.extBut hKX hx₇ hk₇⟩
end
end Mine

namespace Mine
open PySem PySem.Spec PyProof.Rows PySem.SeqAt

section
theorem lookup_zip {α : Type} : ∀ {ps : List Str} {vs : List α}, ps.Nodup → ∀ {i : Nat} {x : Str} {v : α}, ps[i]? = some x → vs[i]? = some v → (ps.zip vs).lookup x = some v
  | [], _, _, i, x, v, h, _ => by simp at h
  | _ :: _, [], _, i, x, v, _, h => by simp at h
  | p :: ps, w :: ws, nd, 0, x, v, h, h' => by
    simp at h h'; subst h; subst h'
    simp [List.lookup]
  | p :: ps, w :: ws, nd, i + 1, x, v, h, h' => by
    simp only [List.getElem?_cons_succ] at h h'
    have hne : (x == p) = false := by
      rw [beq_eq_false_iff_ne]
      intro e; subst e
      exact (List.nodup_cons.mp nd).1 (List.mem_of_getElem? h)
    simp only [List.zip_cons_cons, List.lookup, hne]
    exact lookup_zip (List.nodup_cons.mp nd).2 h h'

theorem filterMap_zip {α : Type} : ∀ {ps : List Str} {vs : List α}, ps.Nodup → ps.length = vs.length → ∀ (f : Str → Option α), (∀ x v, (x, v) ∈ ps.zip vs → f x = some v) → ps.filterMap (fun n => (f n).map (n, ·)) = ps.zip vs
  | [], [], _, _, _, _ => rfl
  | [], _ :: _, _, h, _, _ => by simp at h
  | _ :: _, [], _, h, _, _ => by simp at h
  | p :: ps, v :: vs, nd, hl, f, hf => by
    have h1 : f p = some v := hf p v (by simp)
    simp only [List.filterMap_cons, h1, Option.map_some, List.zip_cons_cons]
    rw [filterMap_zip (List.nodup_cons.mp nd).2 (by simpa using hl) f fun x v hm => hf x v (by simp [hm])]

theorem ite2 {α : Type} {a b : Bool} {x y z : α} (ha : a = false) (hb : b = false) : (if a = true then x else if b = true then y else z) = z := by rw [ha, hb]; rfl
theorem bind_lit {f : Str} {args : List Arg} {kd : List (Option Expr)} {df : List Expr} {body : List Stmt} {scope : Scope} {pm cd doc : Value} {vals : List Value}
    (nd : (args.map (·.arg)).Nodup) (hl : (args.map (·.arg)).length = vals.length) : bindArgs (Calls.docDef f ⟨[], args, none, [], kd, none, df⟩ body scope pm cd doc) ⟨vals, []⟩ = pure ((args.map (·.arg)).zip vals) := by
  have hz : (((args.map (·.arg)).zip vals).map (·.1)).Nodup := by
    rw [List.map_fst_zip (Nat.le_of_eq hl)]; exact nd
  have hf := filterMap_zip nd hl (fun n => ((args.map (·.arg)).zip vals).lookup n) fun x v hm => lookup_of_mem' hz hm
  have hm : (args.map (·.arg)).filter (fun n => (((args.map (·.arg)).zip vals).lookup n).isNone) = [] := by
    rw [List.filter_eq_nil_iff]
    intro x hx
    obtain ⟨i, hi, e⟩ := List.mem_iff_getElem.mp hx
    have := lookup_zip (vs := vals) nd (i := i) (x := x) (v := vals[i]'(hl ▸ hi)) (by rw [List.getElem?_eq_getElem hi, e]) (by rw [List.getElem?_eq_getElem])
    rw [this]; exact Bool.false_ne_true
  have hb : ∀ D : List Value, D = [] → (!((((args.map (fun x : Arg => x.arg))).take ((args.map (fun x : Arg => x.arg)).length - D.length)).filter (fun n => (((args.map (fun x : Arg => x.arg)).zip vals).lookup n).isNone)).isEmpty) = false := by
    rintro _ rfl
    rw [List.length_nil, Nat.sub_zero, List.take_length, hm]; rfl
  have ha : (decide (vals.length > (args.map (fun x : Arg => x.arg)).length) && true) = false := by
    rw [hl, Bool.and_true, decide_eq_false_iff_not]; exact Nat.lt_irrefl _
  have hpb : ∀ {α β : Type} (x : α) (f : α → Sem β), (pure x >>= f) = f x := fun _ _ => rfl
  have hfor : ∀ (l : List Str) (ds : List Value) (b : List (Str × Value)) (g : Str × Value → List (Str × Value) → Sem (ForInStep (List (Str × Value)))), ds = [] → forIn (l.zip ds) b g = pure b := by
    rintro l _ b g rfl
    rw [List.zip_nil_right]; rfl
  unfold bindArgs
  refine (hpb _ _).trans ((hpb none _).trans ((ite2 ha (hb _ List.drop_nil)).trans ?_))
  refine (congrArg (· >>= _) (hfor _ _ _ _ List.drop_nil)).trans ?_
  exact congrArg (pure (f := Sem)) ((congrArg (List.filterMap _) (List.append_nil _)).trans hf)
theorem bind_plain {params : Arguments} {f : Str} {body : List Stmt} {scope : Scope} {pm cd doc : Value} {vals : List Value} (h1 : params.posonlyargs = []) (h2 : params.kwonlyargs = []) (h3 : params.vararg = none) (h4 : params.kwarg = none)
    (nd : (params.args.map (·.arg)).Nodup) (hl : (params.args.map (·.arg)).length = vals.length) : bindArgs (Calls.docDef f params body scope pm cd doc) ⟨vals, []⟩ = pure ((params.args.map (·.arg)).zip vals) := by
  obtain ⟨po, ar, va, ko, kd, kw, df⟩ := params
  cases h1; cases h2; cases h3; cases h4
  exact bind_lit nd hl
end

section
theorem cells_nodup : ∀ (names : List (Str × NameKind)) (n : Nat) (acc : List (Str × Addr)), (acc.map (·.1)).Nodup → (names.map (·.1)).Nodup → (∀ x ∈ names, x.1 ∉ acc.map (·.1)) → ((cellsFrom n names acc).map (·.1)).Nodup
  | [], _, _, h, _, _ => h
  | (x, k) :: r, n, acc, h, h2, h3 => by
    simp only [List.map_cons, List.nodup_cons] at h2
    unfold cellsFrom
    split
    · refine cells_nodup r _ _ ?_ h2.2 fun y hy => ?_
      · simp only [List.map_cons, List.nodup_cons]
        exact ⟨h3 (x, k) List.mem_cons_self, h⟩
      · simp only [List.map_cons, List.mem_cons, not_or]
        exact ⟨fun e => h2.1 (e ▸ List.mem_map_of_mem hy), h3 y (List.mem_cons_of_mem _ hy)⟩
    · exact cells_nodup r _ _ h h2.2 fun y hy => h3 y (List.mem_cons_of_mem _ hy)
theorem cells_has : ∀ (names : List (Str × NameKind)) (n : Nat) (acc : List (Str × Addr)) (x : Str), (names.lookup x = some .cell ∨ (acc.lookup x).isSome = true) → ((cellsFrom n names acc).lookup x).isSome = true
  | [], _, _, _, h => h.elim (fun e => by simp at e) id
  | (y, k) :: r, n, acc, x, h => by
    unfold cellsFrom
    split
    · rename_i hk
      refine cells_has r _ _ x ?_
      cases hxy : x == y with
      | true => exact .inr (by simp [List.lookup, hxy])
      | false =>
        refine h.imp (fun e => ?_) fun e => ?_
        · simpa only [List.lookup, hxy] using e
        · simpa only [List.lookup, hxy] using e
    · rename_i hk
      refine cells_has r _ _ x (h.imp (fun e => ?_) id)
      cases hxy : x == y with
      | true => simp only [List.lookup, hxy] at e; cases e; exact absurd rfl hk
      | false => simpa only [List.lookup, hxy] using e

theorem bindL_skip {k : Str → Option NameKind} {x : Str} : ∀ {bs : List (Str × Value)} {m : Str → Option Value}, x ∉ bs.map (·.1) → bindL k bs m x = m x
  | [], _, _ => rfl
  | (n, v) :: r, m, h => by
    simp only [List.map_cons, List.mem_cons, not_or] at h
    unfold bindL
    rw [bindL_skip h.2]
    split
    · exact if_neg h.1
    · rfl
theorem bindC_skip {k : Str → Option NameKind} {x : Str} : ∀ {bs : List (Str × Value)} {m : Str → Option Value}, x ∉ bs.map (·.1) → bindC k bs m x = m x
  | [], _, _ => rfl
  | (n, v) :: r, m, h => by
    simp only [List.map_cons, List.mem_cons, not_or] at h
    unfold bindC
    rw [bindC_skip h.2]
    split
    · rfl
    · exact if_neg h.1
theorem bindL_at {k : Str → Option NameKind} {x : Str} (hk : k x = some .local) {v : Value} : ∀ {bs : List (Str × Value)} {m : Str → Option Value}, (bs.map (·.1)).Nodup → (x, v) ∈ bs → bindL k bs m x = some v
  | [], _, _, h => nomatch h
  | (n, w) :: r, m, nd, h => by
    simp only [List.map_cons, List.nodup_cons] at nd
    unfold bindL
    rcases List.mem_cons.mp h with e | h2
    · cases e
      rw [bindL_skip nd.1, if_pos hk]; exact if_pos rfl
    · exact bindL_at hk nd.2 h2
theorem bindC_at {k : Str → Option NameKind} {x : Str} (hk : ¬ k x = some .local) {v : Value} : ∀ {bs : List (Str × Value)} {m : Str → Option Value}, (bs.map (·.1)).Nodup → (x, v) ∈ bs → bindC k bs m x = some v
  | [], _, _, h => nomatch h
  | (n, w) :: r, m, nd, h => by
    simp only [List.map_cons, List.nodup_cons] at nd
    unfold bindC
    rcases List.mem_cons.mp h with e | h2
    · cases e
      rw [bindC_skip nd.1, if_neg hk]; exact if_pos rfl
    · exact bindC_at hk nd.2 h2

end

/-- the frame that a call lays -/
theorem frm_call {P : Par} {σ : Sg} {hp : AHeap} {s s₁ : Shared} {funs : List Str} {params : Arguments} {scope : Scope} {fd : FuncData} {a : Addr} {avs : List AV} {vs : List Value}
    (S : St P.w P.B σ hp s.heap) (rv : RVs P.B s.heap σ avs vs) (hs : fd.scope = scope) (hok : defOk params scope = true) (hl : avs.length = (params.args.map (·.arg)).length) (hg : fd.globals = mainGlobals) (hb : fd.builtins = builtinsNs)
    (x : InCallC s (callEnvC fd s.heap.objs.size a).locals (bindL (callEnvC fd s.heap.objs.size a).kindOf ((params.args.map (·.arg)).zip vs) fun _ => none) (callEnvC fd s.heap.objs.size a).cells
        (bindC (callEnvC fd s.heap.objs.size a).kindOf ((params.args.map (·.arg)).zip vs) fun _ => none) s₁) :
    Frm P s₁.heap σ (callEnvC fd s.heap.objs.size a) { sc := scope, loc := (slotNames (params.args.map (·.arg)) scope).zipIdx, n := (slotNames (params.args.map (·.arg)) scope).length, funs := funs }
      (avs.map some ++ List.replicate ((slotNames (params.args.map (·.arg)) scope).length - (params.args.map (·.arg)).length) none) := by
  subst hs
  have hlv := rv.length
  simp only [defOk, Bool.and_eq_true, Bool.not_eq_true', decide_eq_true_eq, List.isEmpty_iff, Option.isNone_iff_eq_none, beq_iff_eq] at hok
  obtain ⟨⟨⟨⟨⟨⟨⟨⟨⟨⟨ho1, ho2⟩, ho3⟩, ho4⟩, hk⟩, hgen⟩, hco⟩, hnp⟩, hnn⟩, hfree⟩, hpar⟩ := hok
  generalize hps : params.args.map (·.arg) = ps at *
  have hkind : (callEnvC fd s.heap.objs.size a).kindOf = fun x => fd.scope.names.lookup x := rfl
  have hcells : (callEnvC fd s.heap.objs.size a).cells = cellsFrom (s.heap.objs.size + 1) fd.scope.names [] := rfl
  have hlocals : (callEnvC fd s.heap.objs.size a).locals = s.heap.objs.size := rfl
  have hcn : ((cellsFrom (s.heap.objs.size + 1) fd.scope.names []).map (·.1)).Nodup := cells_nodup _ _ _ (by simp) hnn (by simp)
  have hzn : ((ps.zip vs).map (·.1)).Nodup := by rw [List.map_fst_zip (by omega)]; exact hnp
  have hns : ∃ r, slotNames ps fd.scope = ps ++ r := ⟨_, rfl⟩
  obtain ⟨r, hns⟩ := hns
  have hsl : ∀ (cx : Cx) y i, cx.sc = fd.scope → cx.loc = (slotNames ps fd.scope).zipIdx → cx.slot y = some i → (slotNames ps fd.scope)[i]? = some y ∧ ((fd.scope.names.lookup y = some .local) ∨ fd.scope.names.lookup y = some .cell) := by
    intro cx y i e1 e2 h
    unfold Cx.slot at h
    rw [e1, e2] at h
    split at h
    · rename_i k hk'
      split at h
      · rename_i hkk
        refine ⟨by simpa using (zipIdx_lookup h).2, ?_⟩
        have hnf : k ≠ .free := by
          have := List.all_eq_true.mp hfree _ (mem_of_lookup' hk')
          simpa using this
        simp only [Bool.and_eq_true] at hkk
        have := hkk.1
        cases k <;> simp [isLocKind] at this hnf <;> simp [hk']
      · cases h
    · cases h
  have hfar : ∀ c, s.heap.objs.size ≤ c → s.heap.get? c = none := fun c hc => by
    cases hq : s.heap.get? c with
    | none => rfl
    | some o => exact absurd (Heap.lt_size hq) (Nat.not_lt.mpr hc)
  have hout : ∀ c, s.heap.objs.size ≤ c → c ∉ σ.map (·.1) ∧ P.B.h₀.get? c = none := fun c hc => by
    refine ⟨fun hm => ?_, ?_⟩
    · obtain ⟨p, hp, rfl⟩ := List.mem_map.mp hm
      obtain ⟨ob, e, _⟩ := S.there hp
      rw [hfar _ hc] at e; cases e
    · cases hq : P.B.h₀.get? c with
      | none => rfl
      | some o => have := S.base c o hq; rw [hfar _ hc] at this; cases this
  have hval : ∀ (i : Nat) (y : Str) (av : AV), (slotNames ps fd.scope)[i]? = some y → (avs.map some ++ List.replicate ((slotNames ps fd.scope).length - ps.length) none)[i]? = some (some av) → ∃ v, (y, v) ∈ ps.zip vs ∧ RV P.B s₁.heap σ av v := by
    intro i y av h1 h2
    have hi : i < avs.length := by
      by_cases hi : i < avs.length
      · exact hi
      · rw [List.getElem?_append_right (by simpa using Nat.not_lt.mp hi), List.getElem?_replicate] at h2
        split at h2 <;> cases h2
    rw [List.getElem?_append_left (by simpa using hi), List.getElem?_map] at h2
    obtain ⟨av', e, e'⟩ := Option.map_eq_some_iff.mp h2
    cases e'
    obtain ⟨v, hv, r'⟩ := rv.get e
    rw [hns, List.getElem?_append_left (by omega)] at h1
    refine ⟨v, ?_, RV.grows (grows_keep (X := []) x.toInCall.keep) _ _ r'⟩
    apply List.mem_of_getElem? (i := i)
    rw [List.getElem?_zip_eq_some]
    exact ⟨h1, hv⟩
  refine ⟨hk, ?_, fun y z i h1 h2 => ?_, fun y i h => ?_, fun y h => ?_, fun y i h => ?_, ⟨_, x.toInCall.ns, fun y i h => ?_⟩, ⟨(hout _ (Nat.le_refl _)).1, fun p hp => ?_⟩, ⟨(hout _ (Nat.le_refl _)).2, fun p hp => ?_⟩, hg, hb, fun p hp => ?_, fun p hp q hq e => ?_, fun y k h _ => h⟩
  · simp only [List.length_append, List.length_map, List.length_replicate, hns]; omega
  · have e1 := (hsl _ y i rfl rfl h1).1
    have e2 := (hsl _ z i rfl rfl h2).1
    rw [e1] at e2; exact Option.some.inj e2
  · have e1 := (hsl _ y i rfl rfl h).1
    exact (List.getElem?_eq_some_iff.mp e1).1
  · simp only [Cx.isGlob, Bool.and_eq_true, beq_iff_eq] at h
    exact h.1
  · have e1 := (hsl _ y i rfl rfl (slotW_slot h)).2
    show fd.scope.names.lookup y ≠ _
    rcases e1 with e1 | e1 <;> rw [e1] <;> simp
  · obtain ⟨h1, h2⟩ := hsl _ y i rfl rfl h
    rcases h2 with h2 | h2
    · refine .inl ⟨h2, fun av e => ?_⟩
      obtain ⟨v, hm, r'⟩ := hval i y av h1 e
      exact ⟨v, bindL_at (k := (callEnvC fd s.heap.objs.size a).kindOf) h2 hzn hm, r'⟩
    · obtain ⟨c, hc⟩ := Option.isSome_iff_exists.mp (cells_has fd.scope.names (s.heap.objs.size + 1) [] y (.inl h2))
      refine .inr ⟨.inl h2, c, _, hc, x.cell y c hc, fun av e => ?_⟩
      obtain ⟨v, hm, r'⟩ := hval i y av h1 e
      exact ⟨v, bindC_at (k := (callEnvC fd s.heap.objs.size a).kindOf) (by show ¬ fd.scope.names.lookup y = _; rw [h2]; simp) hzn hm, r'⟩
  · exact (hout _ (Nat.le_of_lt (x.above p.1 p.2 hp))).1
  · exact (hout _ (Nat.le_of_lt (x.above p.1 p.2 hp))).2
  · obtain ⟨o, ho, hd⟩ := x.cell p.1 p.2 (lookup_of_mem' hcn hp)
    exact ⟨o, _, ho, hd⟩
  · exact name_of_addr x.apart (c := p.2) hp (by rw [e]; exact hq)
end Mine

namespace Mine
open PySem PySem.Spec PyProof.Rows PySem.SeqAt

section
variable {P : Par} {cx : Cx}

theorem lookup_ty {T : Str} {t : Ty} (h : tyOf T = some t) : (T, Value.type (tyName t)) ∈ bltPairs := by
  delta tyOf at h
  split at h
  · rename_i e; cases eq_of_beq e; cases h; exact blt_int
  split at h
  · rename_i e; cases eq_of_beq e; cases h; exact blt_bool
  split at h
  · rename_i e; cases eq_of_beq e; cases h; exact blt_tuple
  split at h
  · rename_i e; cases eq_of_beq e; cases h; exact blt_list
  · cases h
theorem tgtName_is {t : Expr} {x : Str} (h : tgtName t = some x) : ∃ p, t = .Name x p := by
  cases t
  case Name => cases h; exact ⟨_, rfl⟩
  all_goals exact none_ne h
theorem compTy_name {e : Expr} {t : Ty} (h : compTy cx e = some t) : ∃ T q, e = .Name T q ∧ cx.isGlob T = true ∧ (T, Value.type (tyName t)) ∈ bltPairs := by
  obtain ⟨x, hx, h2⟩ := Option.bind_eq_some_iff.mp h
  obtain ⟨q, rfl⟩ := tgtName_is hx
  split at h2
  · rename_i hg; exact ⟨x, q, rfl, hg, lookup_ty h2⟩
  · cases h2
theorem tyArgs_is {as : List Expr} {t : Ty} (h : compTyArgs cx as = some t) : ∃ a b, as = [a, b] ∧ compTy cx b = some t := by
  cases as with
  | nil => exact none_ne h
  | cons a r =>
    cases r with
    | nil => exact none_ne h
    | cons b r =>
      cases r with
      | nil => exact ⟨a, b, rfl, h⟩
      | cons => exact none_ne h

variable {k : Nat}
theorem sim_isi_of {as : List Expr} {y : X} {t : Ty} {q p : Pos} (hg : cx.isGlob "isinstance" = true) (hy : compHead (compE k cx) as = some y) (ht : compTyArgs cx as = some t) (H : ∀ e y, compE k cx e = some y → SimE P cx e y) :
    SimE P cx (.Call (.Name "isinstance" q) as [] p) (.isi y t) := by
  obtain ⟨a, b, rfl, ht⟩ := tyArgs_is ht
  obtain ⟨T, q', rfl, hgT, hT⟩ := compTy_name ht
  exact sim_isi hg hgT hT (not_starred hy) (H _ y hy)

theorem sim_const {v : Const} {m : Nat} {p : Pos} {x : X} (h : compConst v = some x) : SimE P cx (.Constant v m p) x := by
  unfold compConst at h
  split at h <;> cases h
  · exact sim_none
  · exact sim_bool
  · exact sim_int
  · exact sim_str
theorem sim_name {y : Str} {p : Pos} {x : X} (h : compName cx y = some x) : SimE P cx (.Name y p) x := by
  unfold compName at h
  split at h
  · cases h; exact sim_loc (by assumption)
  · cases h
theorem sim_un {op : UnaryOp} {e : Expr} {y : X} {p : Pos} {x : X} (h : compUn op y = some x) (hy : SimE P cx e y) : SimE P cx (.UnaryOp op e p) x := by
  unfold compUn at h
  split at h <;> cases h
  · exact sim_neg hy
  · exact sim_not hy

theorem compEs_one {f : Expr → Option X} {es : List Expr} {x : X} (h : compEs f es = some (.cons x .nil)) : ∃ e, es = [e] ∧ f e = some x := by
  cases es with
  | nil => cases h
  | cons e r =>
    obtain ⟨a, ha, h⟩ := opt_bind h
    obtain ⟨b, hb, h⟩ := opt_bind h
    cases opt_pure h
    cases r with
    | nil => exact ⟨e, rfl, ha⟩
    | cons e' r' =>
      obtain ⟨a, ha, h⟩ := opt_bind hb
      obtain ⟨b, hb, h⟩ := opt_bind h
      cases opt_pure h
/-- the one kind of comparison -/
theorem compCmp_is {ops : List CmpOp} {f : Expr → Option X} {rs : List Expr} {xl : X} {xr : Xs} {x : X} (hrs : compEs f rs = some xr) (h : compCmp1 ops xl xr = some x) :
    ∃ op o r y, ops = [op] ∧ rs = [r] ∧ compCOp op = some o ∧ f r = some y ∧ x = .cmp o xl y := by
  unfold compCmp1 at h
  split at h
  · split at h
    · split at h
      · rename_i ho
        cases h
        obtain ⟨e, rfl, h1⟩ := compEs_one hrs
        exact ⟨_, _, _, _, rfl, rfl, ho, h1, rfl⟩
      · cases h
    · cases h
  · cases h

theorem sim_biE {f : Str} {as : List Expr} {xs : Xs} {b : BI} {q p : Pos} (hg : cx.isGlob f = true) (hxs : compEs (compE k cx) as = some xs) (hS : SimEs P cx as xs) (h : biOf f = some b) : SimE P cx (.Call (.Name f q) as [] p) (.bi b xs) := by
  delta biOf at h
  split at h
  · rename_i e; cases eq_of_beq e; cases h; exact sim_fn (fun _ _ _ => rfl) blt_len prim_len hg hxs hS
  split at h
  · rename_i e; cases eq_of_beq e; cases h; exact sim_fn (fun _ _ _ => rfl) blt_sorted prim_sorted hg hxs hS
  split at h
  · rename_i e; cases eq_of_beq e; cases h; exact sim_ty (fun _ _ _ => rfl) blt_list prim_list hg hxs hS
  · cases h
theorem sim_callE {f : Str} {as : List Expr} {xs : Xs} {x : X} {q p : Pos} (hg : cx.isGlob f = true) (hxs : compEs (compE k cx) as = some xs) (hS : SimEs P cx as xs) (h : compCall cx f xs = some x) : SimE P cx (.Call (.Name f q) as [] p) x := by
  unfold compCall at h
  split at h
  · rename_i hf
    cases h
    exact sim_call hg hf hxs hS
  split at h
  · rename_i hf
    cases beq_iff_eq.mp hf
    cases h
    exact sim_ty (fun _ _ _ => rfl) blt_range prim_range hg hxs hS
  split at h
  · rename_i b hlk
    cases h
    exact sim_biE hg hxs hS hlk
  · cases h

theorem simB_of (op : BoolOp) (H : ∀ e y, compE k cx e = some y → SimE P cx e y) : ∀ (es : List Expr) (x : X), compBool (compE k cx) op es = some x → SimB P cx op es x
  | [], x, h => by cases h
  | [e], x, h => simB_one (H e x h)
  | e :: e' :: r, x, h => by
    obtain ⟨a, ha, h⟩ := opt_bind h
    obtain ⟨b, hb, h⟩ := opt_bind h
    have hR := simB_of op H (e' :: r) b hb
    cases op with
    | And => cases opt_pure h; exact simB_and (H e a ha) hR
    | Or => cases opt_pure h; exact simB_or (H e a ha) hR
theorem simEs_of (H : ∀ e y, compE k cx e = some y → SimE P cx e y) : ∀ (es : List Expr) (xs : Xs), compEs (compE k cx) es = some xs → SimEs P cx es xs
  | [], xs, h => by cases h; exact simEs_nil
  | e :: r, xs, h => by
    obtain ⟨a, ha, h⟩ := opt_bind h
    obtain ⟨b, hb, h⟩ := opt_bind h
    cases opt_pure h
    exact simEs_cons (not_starred ha) (H e a ha) (simEs_of H r b hb)

theorem setArgs_is {as : List Expr} {e : Expr} (h : setArgs as = some e) : as = [e] := by
  match as, h with
  | [_], h => cases h; rfl
theorem call_form {a e : Expr} (h : setArg cx a = some e) : ∃ g as ks p, a = .Call g as ks p := by
  cases a
  case Call => exact ⟨_, _, _, _, rfl⟩
  all_goals exact none_ne h
theorem setArg_is {a e : Expr} (h : setArg cx a = some e) : ∃ q p, a = .Call (.Name "set" q) [e] [] p ∧ cx.isGlob "set" = true := by
  obtain ⟨g, as, ks, p, rfl⟩ := call_form h
  cases ks with
  | cons => exact none_ne h
  | nil =>
    obtain ⟨g, hg, h2⟩ := Option.bind_eq_some_iff.mp (show (tgtName g).bind (fun g => if cx.isGlob g && g == ("set" : Str) then setArgs as else none) = some e from h)
    obtain ⟨q, rfl⟩ := tgtName_is hg
    split at h2
    · rename_i hg
      rw [Bool.and_eq_true] at hg
      cases eq_of_beq hg.2
      cases setArgs_is h2
      exact ⟨q, p, rfl, hg.1⟩
    · cases h2
theorem sim_lenset_of {g : Str} {as : List Expr} {e : Expr} {x : X} {q p : Pos} (hg : cx.isGlob g = true) (he : lenSet cx g as = some e) (hx : compE k cx e = some x) (h : SimE P cx e x) : SimE P cx (.Call (.Name g q) as [] p) (.lenset x) := by
  unfold lenSet at he
  split at he
  · rename_i hl
    cases eq_of_beq hl
    obtain ⟨a, h1, h2⟩ := Option.bind_eq_some_iff.mp he
    cases setArgs_is h1
    obtain ⟨q', p', rfl, hs⟩ := setArg_is h2
    exact sim_lenset hg hs (not_starred hx) h
  · cases he

theorem sim_call_of {g : Expr} {as : List Expr} {ks : List Keyword} {p : Pos} {x : X} (h : stepE (compE k cx) cx (.Call g as ks p) = some x) (IH : ∀ e y, compE k cx e = some y → SimE P cx e y) : SimE P cx (.Call g as ks p) x := by
  cases ks with
  | cons => exact none_ne h
  | nil =>
    cases g
    case Name g q =>
      replace h : (if (!cx.isGlob g) = true then none else if (g == ("isinstance" : Str)) = true then (do return .isi (← compHead (compE k cx) as) (← compTyArgs cx as)) else match lenSet cx g as with | some e => (do return .lenset (← compE k cx e)) | none => (do compCall cx g (← compEs (compE k cx) as))) = some x := h
      split at h
      · cases h
      · rename_i hg
        rw [Bool.not_eq_true', Bool.not_eq_false] at hg
        split at h
        · rename_i hf
          cases beq_iff_eq.mp hf
          obtain ⟨y, hy, h⟩ := opt_bind h
          obtain ⟨t, ht, h⟩ := opt_bind h
          cases opt_pure h
          exact sim_isi_of hg hy ht IH
        · split at h
          · rename_i e he
            obtain ⟨y, hy, h⟩ := opt_bind h
            cases opt_pure h
            exact sim_lenset_of hg he hy (IH e y hy)
          · obtain ⟨xs, hxs, h⟩ := opt_bind h
            exact sim_callE hg hxs (simEs_of IH _ xs hxs) h
    case Attribute o m ap =>
      replace h : (if (!(ap.endLine == p.line && notSuper o && decide (as.length < 20) && m == ("append" : Str))) = true then none else (do return .append (← compE k cx o) (← compEs (compE k cx) as))) = some x := h
      split at h
      · cases h
      · rename_i hok
        rw [Bool.not_eq_true', Bool.not_eq_false, Bool.and_eq_true, Bool.and_eq_true, Bool.and_eq_true, decide_eq_true_eq, beq_iff_eq (a := m)] at hok
        obtain ⟨xo, ho, h⟩ := opt_bind h
        obtain ⟨xs, hxs, h⟩ := opt_bind h
        cases opt_pure h
        obtain ⟨⟨⟨h1, h2⟩, h3⟩, rfl⟩ := hok
        exact sim_append h2 hxs h3 h1 (IH o xo ho) (simEs_of IH _ xs hxs)
    all_goals exact none_ne h
theorem sim_sub_of {o i : Expr} {p : Pos} {x : X} (h : stepE (compE k cx) cx (.Subscript o i p) = some x) (IH : ∀ e y, compE k cx e = some y → SimE P cx e y) : SimE P cx (.Subscript o i p) x := by
  have sub : (do return .sub (← compE k cx o) (← compE k cx i)) = some x → SimE P cx (.Subscript o i p) x := fun h => by
    obtain ⟨xo, ho, h⟩ := opt_bind h
    obtain ⟨xi, hi, h⟩ := opt_bind h
    cases opt_pure h
    exact sim_sub (IH _ xo ho) (IH _ xi hi)
  cases i
  case Slice => exact none_ne h
  all_goals exact sub h
theorem sim_dict_of {ks : List (Option Expr)} {vs : List Expr} {p : Pos} {x : X} (h : compDict (compE k cx) ks vs = some x) (IH : ∀ e y, compE k cx e = some y → SimE P cx e y) : SimE P cx (.Dict ks vs p) x := by
  match ks, vs, h with
  | [], [], h => cases h; exact sim_dict0
  | [some a], [b], h =>
    obtain ⟨xk, hk, h⟩ := opt_bind h
    obtain ⟨xv, hv, h⟩ := opt_bind h
    cases opt_pure h
    exact sim_dict1 (IH _ xk hk) (IH _ xv hv)

theorem simE_of : ∀ (k : Nat) (e : Expr) (x : X), compE k cx e = some x → SimE P cx e x
  | 0, e, x, h => none_ne h
  | k + 1, e, x, h => by
    have IH : ∀ e y, compE k cx e = some y → SimE P cx e y := fun e y => simE_of k e y
    cases e
    case Constant => exact sim_const h
    case Name => exact sim_name h
    case BinOp =>
      obtain ⟨b, hb, h⟩ := opt_bind h
      obtain ⟨xl, hl, h⟩ := opt_bind h
      obtain ⟨xr, hr, h⟩ := opt_bind h
      cases opt_pure h
      exact sim_bin hb (IH _ xl hl) (IH _ xr hr)
    case UnaryOp =>
      obtain ⟨xl, hl, h⟩ := opt_bind h
      exact sim_un h (IH _ xl hl)
    case BoolOp => exact sim_boolop (simB_of _ IH _ _ h)
    case Compare =>
      obtain ⟨xl, hl, h⟩ := opt_bind h
      obtain ⟨xr, hr, h⟩ := opt_bind h
      obtain ⟨op, o, r, y, rfl, rfl, h1, h2, rfl⟩ := compCmp_is hr h
      exact sim_cmp h1 (notMarks h2) (IH _ xl hl) (IH r y h2)
    case Call => exact sim_call_of h IH
    case Subscript => exact sim_sub_of h IH
    case Tuple =>
      obtain ⟨xs, hxs, h⟩ := opt_bind h
      cases opt_pure h
      exact sim_tup (simEs_of IH _ xs hxs)
    case List =>
      obtain ⟨xs, hxs, h⟩ := opt_bind h
      cases opt_pure h
      exact sim_list (simEs_of IH _ xs hxs)
    case Dict => exact sim_dict_of h IH
    all_goals exact none_ne h

theorem simTs_of (op : BoolOp) (H : ∀ e y, compE k cx e = some y → SimT P cx e y) : ∀ (es : List Expr) (x : X), compBool (compE k cx) op es = some x → SimTs P cx op es x
  | [], x, h => by cases h
  | [e], x, h => simTs_one (H e x h)
  | e :: e' :: r, x, h => by
    obtain ⟨a, ha, h⟩ := opt_bind h
    obtain ⟨b, hb, h⟩ := opt_bind h
    have hR := simTs_of op H (e' :: r) b hb
    cases op with
    | And => cases opt_pure h; exact simTs_and (H e a ha) hR
    | Or => cases opt_pure h; exact simTs_or (H e a ha) hR
theorem simT_of : ∀ (k : Nat) (e : Expr) (x : X), compE k cx e = some x → SimT P cx e x
  | 0, e, x, h => none_ne h
  | k + 1, e, x, h => by
    have hE := simE_of (P := P) (k + 1) e x h
    cases e
    case UnaryOp op y p =>
      cases op
      case Not =>
        obtain ⟨xl, hl, h⟩ := opt_bind h
        cases h
        exact simT_not (simT_of k y xl hl)
      all_goals exact simT_val (fun _ _ => rfl) hE
    case BoolOp op vs p => exact simT_boolop (simTs_of op (fun e y => simT_of k e y) vs x h)
    case IfExp => exact none_ne h
    case Compare l ops cs p =>
      obtain ⟨xl, hl, h⟩ := opt_bind h
      obtain ⟨xr, hr, h⟩ := opt_bind h
      obtain ⟨op, o, r, y, rfl, rfl, h1, h2, rfl⟩ := compCmp_is hr h
      exact simT_cmp h1 (notMarks h2) (simE_of k l xl hl) (simE_of k r y h2)
    all_goals exact simT_val (fun _ _ => rfl) hE
end
end Mine

namespace Mine
open PySem PySem.Spec PyProof.Rows PySem.SeqAt

section
variable {P : Par} {cx : Cx}

theorem cp_ok {elt iter : Expr} {x : Str} {ifs : List Expr} {scope : Scope} {p : CP} (h : compCP cx elt x iter ifs scope = some p) : CPOk P cx elt x iter ifs scope p := by
  unfold compCP at h
  split at h
  · rename_i hc
    rw [Bool.and_eq_true, Bool.and_eq_true, beq_iff_eq (a := scope.names.lookup x), decide_eq_true_eq] at hc
    obtain ⟨⟨h1, h5⟩, h6⟩ := hc
    obtain ⟨e, he, h⟩ := opt_bind h
    obtain ⟨j, hj, h⟩ := opt_bind h
    obtain ⟨it, hit, h⟩ := opt_bind h
    obtain ⟨cs, hcs, h⟩ := opt_bind h
    cases opt_pure h
    refine ⟨h1, h5, hj, rfl, hit, simE_of _ _ _ hit, simE_of _ _ _ he, ?_⟩
    cases ifs with
    | nil => cases hcs; exact .inl ⟨rfl, rfl⟩
    | cons q r =>
      cases r with
      | nil =>
        obtain ⟨xq, hq, hcs⟩ := opt_bind hcs
        cases opt_pure hcs
        exact .inr ⟨q, xq, rfl, rfl, simT_of _ _ _ hq⟩
      | cons => exact absurd h6 (by rw [List.length_cons, List.length_cons]; omega)
  · cases h
theorem not_comp {k : Nat} {e : Expr} {x : X} (h : compE k cx e = some x) : isComp e = false := by
  cases k with
  | zero => exact none_ne h
  | succ k => cases e <;> first | rfl | exact none_ne h
theorem lc_form {ok : Scope → Pos → Bool} {v : Expr} {p : CP} (h : compLC cx ok v = some p) : ∃ elt gens scope pos, v = .ListComp elt gens scope pos := by
  cases v
  case ListComp => exact ⟨_, _, _, _, rfl⟩
  all_goals exact none_ne h
/-- a comprehension that is read -/
inductive LC (P : Par) (cx : Cx) (ok : Scope → Pos → Bool) (p : CP) : Expr → Prop
  | mk (elt : Expr) (x : Str) (px : Pos) (iter : Expr) (ifs : List Expr) (scope : Scope) (pos : Pos) (h : ok scope pos = true) (o : CPOk P cx elt x iter ifs scope p) : LC P cx ok p (.ListComp elt [⟨.Name x px, iter, ifs, 0⟩] scope pos)
theorem lc_is {ok : Scope → Pos → Bool} {v : Expr} {p : CP} (h : compLC cx ok v = some p) : LC P cx ok p v := by
  obtain ⟨elt, gens, scope, pos, rfl⟩ := lc_form h
  cases gens with
  | nil => exact none_ne h
  | cons g r =>
    cases r with
    | cons => exact none_ne h
    | nil =>
      obtain ⟨t, iter, ifs, n⟩ := g
      replace h : (if (n == 0 && ok scope pos) = true then (do compCP cx elt (← tgtName t) iter ifs scope) else none) = some p := h
      split at h
      · rename_i hn
        rw [Bool.and_eq_true] at hn
        cases eq_of_beq hn.1
        obtain ⟨x, hx, h⟩ := opt_bind h
        obtain ⟨px, rfl⟩ := tgtName_is hx
        exact ⟨elt, x, px, iter, ifs, scope, pos, hn.2, cp_ok h⟩
      · cases h
theorem simSt_asgE {ts : List Expr} {v : Expr} {x : S} {p : Pos} (h : compAsg cx ts v = some x) : SimSt P cx (.Assign ts v p) x := by
  cases ts with
  | nil => exact none_ne h
  | cons t r =>
  cases r with
  | cons => exact none_ne h
  | nil =>
    cases t
    case Name y q =>
      replace h : (if isComp v = true then (do return .comp (← cx.slotW y) (← compLC cx (putOk cx y q) v)) else (do return .asg (← cx.slotW y) (← compE deep cx v))) = some x := h
      split at h
      · obtain ⟨i, hi, h⟩ := opt_bind h
        obtain ⟨p, hp, h⟩ := opt_bind h
        cases opt_pure h
        cases lc_is (P := P) hp with
        | mk elt x px iter ifs scope pos h1 h2 => exact simSt_comp h2 h1 hi
      · obtain ⟨i, hi, h⟩ := opt_bind h
        obtain ⟨y, hy, h⟩ := opt_bind h
        cases opt_pure h
        exact simSt_asg hi (not_comp hy) (simE_of _ _ _ hy)
    case Subscript =>
      obtain ⟨xo, ho, h⟩ := opt_bind h
      obtain ⟨xk, hk, h⟩ := opt_bind h
      obtain ⟨y, hy, h⟩ := opt_bind h
      cases opt_pure h
      exact simSt_set (not_comp hy) (simE_of _ _ _ ho) (simE_of _ _ _ hk) (simE_of _ _ _ hy)
    all_goals exact none_ne h
theorem simSt_retE {v : Expr} {x : S} {p : Pos} (h : (if isComp v = true then (do return .retc (← compLC cx (fun _ _ => true) v)) else (do return .ret (← compE deep cx v))) = some x) : SimSt P cx (.Return (some v) p) x := by
  split at h
  · obtain ⟨p, hp, h⟩ := opt_bind h
    cases opt_pure h
    cases lc_is (P := P) hp with
    | mk elt x px iter ifs scope pos h1 h2 => exact simSt_retc h2
  · obtain ⟨y, hy, h⟩ := opt_bind h
    cases opt_pure h
    exact simSt_ret (simE_of _ _ y hy)
theorem tgt_is {t : Expr} {i : Nat} (h : tgtOf cx t = some i) : ∃ y p, t = .Name y p ∧ cx.slotW y = some i := by
  obtain ⟨x, hx, h2⟩ := Option.bind_eq_some_iff.mp h
  obtain ⟨p, rfl⟩ := tgtName_is hx
  exact ⟨x, p, rfl, h2⟩

theorem simSs_of {k : Nat} (H : ∀ st x, compS k cx st = some x → SimSt P cx st x) : ∀ (sts : List Stmt) (xs : Ss), compSs (compS k cx) sts = some xs → SimSs P cx sts xs
  | [], xs, h => by cases h; exact simSs_nil
  | st :: r, xs, h => by
    obtain ⟨a, ha, h⟩ := opt_bind h
    obtain ⟨b, hb, h⟩ := opt_bind h
    cases opt_pure h
    exact simSs_cons (H st a ha) (simSs_of H r b hb)
theorem simSt_of : ∀ (k : Nat) (st : Stmt) (x : S), compS k cx st = some x → SimSt P cx st x
  | 0, st, x, h => none_ne h
  | k + 1, st, x, h => by
    have IH : ∀ st x, compS k cx st = some x → SimSt P cx st x := fun st x => simSt_of k st x
    cases st
    case Expr e p =>
      replace h : (if isComp e = true then none else (do return .expr (← compE deep cx e))) = some x := h
      split at h
      · cases h
      · obtain ⟨y, hy, h⟩ := opt_bind h
        cases opt_pure h
        exact simSt_expr (not_comp hy) (simE_of _ _ y hy)
    case Return v p =>
      cases v with
      | none => exact none_ne h
      | some v => exact simSt_retE h
    case Assign => exact simSt_asgE h
    case If =>
      obtain ⟨xt, ht, h⟩ := opt_bind h
      obtain ⟨xa, ha, h⟩ := opt_bind h
      obtain ⟨xb, hb, h⟩ := opt_bind h
      cases opt_pure h
      exact simSt_if (simT_of _ _ xt ht) (simSs_of IH _ xa ha) (simSs_of IH _ xb hb)
    case While t b o p =>
      cases o with
      | cons => exact none_ne h
      | nil =>
        obtain ⟨xt, ht, h⟩ := opt_bind h
        obtain ⟨xb, hb, h⟩ := opt_bind h
        cases opt_pure h
        exact simSt_while (simT_of _ _ xt ht) (simSs_of IH _ xb hb)
    case For t it b o p =>
      cases o with
      | cons => exact none_ne h
      | nil =>
        obtain ⟨i, hy, h⟩ := opt_bind h
        obtain ⟨xi, hxi, h⟩ := opt_bind h
        obtain ⟨xb, hb, h⟩ := opt_bind h
        cases opt_pure h
        obtain ⟨y, p, rfl, hi⟩ := tgt_is hy
        exact simSt_for hi hxi (simE_of _ _ xi hxi) (simSs_of IH _ xb hb)
    all_goals exact none_ne h

/-- a function of the program, as the base holds it -/
structure FnAt (P : Par) (prog : Prog) (funs : List Str) (f : Str) : Prop where
  get : ∃ a o params body scope pm cd doc d, P.mg f = some (.ref a) ∧ P.B.h₀.get? a = some o ∧ o.data = .func (Calls.docDef f params body scope pm cd doc) ∧ P.B.h₀.CodeRec cd f ∧
    prog.lookup f = some d ∧ compDef funs params body scope = some d

theorem compDef_is {funs : List Str} {params : Arguments} {body : List Stmt} {scope : Scope} {d : FDef} (h : compDef funs params body scope = some d) : defOk params scope = true ∧ ∃ xb,
    compSs (compS deep { sc := scope, loc := (slotNames (params.args.map (·.arg)) scope).zipIdx, n := (slotNames (params.args.map (·.arg)) scope).length, funs := funs }) body = some xb ∧
      d = ⟨(params.args.map (·.arg)).length, (slotNames (params.args.map (·.arg)) scope).length, xb⟩ := by
  cases hok : defOk params scope with
  | false => unfold compDef at h; rw [hok] at h; cases h
  | true =>
    unfold compDef at h
    rw [hok] at h
    obtain ⟨xb, hxb, h⟩ := opt_bind h
    cases opt_pure h
    exact ⟨rfl, xb, hxb, rfl⟩
theorem not_true {b : Bool} (h : (!b) = true) : b = false := by cases b; rfl; cases h
structure DefOk (params : Arguments) (scope : Scope) : Prop where
  po : params.posonlyargs = []
  ko : params.kwonlyargs = []
  va : params.vararg = none
  kw : params.kwarg = none
  kind : scope.kind = .function
  gen : scope.isGenerator = false
  co : scope.isCoroutine = false
  np : (params.args.map (·.arg)).Nodup
  par : ∀ x ∈ params.args.map (·.arg), scope.names.lookup x = some .local ∨ scope.names.lookup x = some .cell
theorem defOk_is {params : Arguments} {scope : Scope} (h : defOk params scope = true) : DefOk params scope := by
  unfold defOk at h
  rw [Bool.and_eq_true, Bool.and_eq_true, Bool.and_eq_true, Bool.and_eq_true, Bool.and_eq_true, Bool.and_eq_true, Bool.and_eq_true, Bool.and_eq_true, Bool.and_eq_true, Bool.and_eq_true, decide_eq_true_eq] at h
  obtain ⟨⟨⟨⟨⟨⟨⟨⟨⟨⟨h1, h2⟩, h3⟩, h4⟩, h5⟩, h6⟩, h7⟩, h8⟩, _⟩, _⟩, h9⟩ := h
  refine ⟨List.isEmpty_iff.mp h1, List.isEmpty_iff.mp h2, Option.isNone_iff_eq_none.mp h3, Option.isNone_iff_eq_none.mp h4, eq_of_beq h5, not_true h6, not_true h7, h8, fun x hx => ?_⟩
  have := List.all_eq_true.mp h9 x hx
  rw [Bool.or_eq_true] at this
  exact this.imp eq_of_beq eq_of_beq
theorem runDef_is {c : Ctx} {d : FDef} {as : List AV} {h : AHeap} (hb : runDef c d as h ≠ .bad) : as.length = d.params ∧ runDef c d as h = retR (execSs c d.body (as.map some ++ List.replicate (d.slots - d.params) none) h) := by
  by_cases hl : as.length = d.params
  · exact ⟨hl, if_pos hl⟩
  · exact absurd (if_neg hl) hb
theorem arnd_in {n : Nat} {A : Around} {f : Str} {params : Arguments} {body : List Stmt} {scope : Scope} {pm cd doc : Value} {k : Nat} {a : Addr} (ar : ArndC (n + 1) A) (hgen : scope.isGenerator = false) (hco : scope.isCoroutine = false) :
    Arnd n (A.deeper (callEnvC (Calls.docDef f params body scope pm cd doc) k a)) := by
  obtain ⟨outer, hfr⟩ := ar.frames
  exact ⟨⟨⟨_, Around.frames_deeper hfr⟩, by have := ar.depth; show A.depth + 1 + n + 150 < _; omega, by have := ar.units; show A.units + 3 + 100 * n + 100 < _; omega, ar.handled⟩, ⟨_, outer, Around.frames_deeper hfr, hgen, hco, rfl, rfl⟩⟩
/-- what a frame leaves is new -/
theorem frame_new {s : Shared} {fd : FuncData} {a : Addr} (habove : ∀ y c, (y, c) ∈ (callEnvC fd s.heap.objs.size a).cells → s.heap.objs.size < c) : ∀ b ∈ FX (callEnvC fd s.heap.objs.size a), b ∈ ([] : List Addr) ∨ s.heap.get? b = none := fun b hb => .inr <| by
  have hge : s.heap.objs.size ≤ b := by
    rcases List.mem_cons.mp hb with rfl | hb
    · exact Nat.le_refl _
    · obtain ⟨p, hp, rfl⟩ := List.mem_map.mp hb
      exact Nat.le_of_lt (habove p.1 p.2 hp)
  exact Heap.get?_none_of_le hge

theorem run_body {prog : Prog} {funs : List Str} {n : Nat} (ok : P.Ok) (ih : FSim P funs (semF prog n) n) {f : Str} {params : Arguments} {body : List Stmt} {scope : Scope} {pm cd doc : Value} {d : FDef} {a : Addr} {o : Obj} (hd : compDef funs params body scope = some d)
    (h2 : P.B.h₀.get? a = some o) (h3 : o.data = .func (Calls.docDef f params body scope pm cd doc)) (h4 : P.B.h₀.CodeRec cd f) {avs : List AV} {vs : List Value} {σ : Sg} {hp : AHeap} {s : Shared} {A : Around} (S : St P.w P.B σ hp s.heap) (rv : RVs P.B s.heap σ avs vs) (ar : ArndC (n + 1) A)
    (hb : runDef ⟨semF prog n, fuelOf⟩ d avs hp ≠ .bad) : wpAny (model P.prog P.w) A (call (.ref a) vs) (QV P σ s (runDef ⟨semF prog n, fuelOf⟩ d avs hp)) NE s := by
  obtain ⟨hok, xb, hxb, rfl⟩ := compDef_is hd
  have D := defOk_is hok
  obtain ⟨hlen, er⟩ := runDef_is hb
  rw [er] at hb ⊢
  have hlv := rv.length
  refine wpAny_call (codeAny_call_cells (fd := Calls.docDef f params body scope pm cd doc) (body := body) (binds := (params.args.map (·.arg)).zip vs) (by have := ar.depth; omega) (S.base a o h2) h3 (ok.noLimit S) (h4.keeps S.base) rfl
    (bind_plain D.po D.ko D.va D.kw D.np (hlen.symm.trans hlv)) rfl (fun x hx => ?_) (fun s₁ x => ?_) D.co D.gen D.kind)
  · have hmem : x.1 ∈ params.args.map (·.arg) := (List.of_mem_zip (a := x.1) (b := x.2) hx).1
    exact (D.par _ hmem).imp id fun e => ⟨e, cells_has _ _ _ _ (.inl e)⟩
  · have fr := frm_call (funs := funs) (scope := scope) S rv rfl hok hlen rfl rfl x
    have habove := x.above
    obtain ⟨h', tk, rfl, hkeep⟩ := x.done
    have a₁ : After P σ σ [] hp s { s with heap := h', toks := tk } := ⟨rfl, S.keep hkeep, grows_keep hkeep⟩
    refine wpAny_mono (simSs_of (simSt_of deep) body xb hxb ⟨semF prog n, fuelOf⟩ n _ _ σ _ hp _ ⟨ok, ih⟩ ⟨a₁.st, fr, arnd_in ar D.gen D.co⟩ (fun e => hb (by rw [e]; rfl))) (fun fl s' Q => ?_) (fun _ _ Q => Q.elim)
    obtain ⟨fl', l', hp', σ', e, a₂, rf, _⟩ := Q
    rw [e]
    have a₃ := a₁.toX.trans a₂
    have a₄ : After P σ σ' [] hp' s s' := ⟨a₃.ctl, a₃.st, a₃.gr.drop (frame_new habove)⟩
    cases fl' with
    | next => cases (show fl = .next from rf); exact ⟨_, _, _, rfl, a₄, rfl⟩
    | ret av => obtain ⟨v, rfl, rv'⟩ := rf; exact ⟨_, _, _, rfl, a₄, rv'⟩

theorem semF_sim {prog : Prog} {funs : List Str} (ok : P.Ok) (hf : ∀ f, funs.contains f = true → FnAt P prog funs f) : ∀ n, FSim P funs (semF prog n) n
  | 0, f, hc => by
    obtain ⟨a, o, params, body, scope, pm, cd, doc, d, h1, h2, h3, h4, h5, h6⟩ := (hf f hc).get
    exact ⟨a, o, _, h1, h2, h3, fun avs vs σ hp s A S rv ar hb => absurd rfl hb⟩
  | n + 1, f, hc => by
    obtain ⟨a, o, params, body, scope, pm, cd, doc, d, h1, h2, h3, h4, h5, h6⟩ := (hf f hc).get
    refine ⟨a, o, _, h1, h2, h3, fun avs vs σ hp s A S rv ar hb => ?_⟩
    rw [semF_at h5] at hb ⊢
    exact run_body ok (semF_sim ok hf n) h6 h2 h3 h4 S rv ar hb
end
end Mine

namespace Mine
open PySem PySem.Spec PySem.W PyProof.Rows PySem.SeqAt

noncomputable def compFuns (p : Program) (funs : List Str) : List Str → Option Prog
  | [] => some []
  | f :: r => match (recsOf p).find? (fun d => d.name == f) with
    | none => none
    | some d => match compDef funs d.params d.body d.scope, compFuns p funs r with
      | some x, some xs => some ((f, x) :: xs)
      | _, _ => none

theorem compFuns_at {p : Program} {funs : List Str} : ∀ {fs : List Str} {ds : Prog}, compFuns p funs fs = some ds → ∀ f ∈ fs, ∃ d ∈ recsOf p, d.name = f ∧ ∃ x, compDef funs d.params d.body d.scope = some x ∧ ds.lookup f = some x
  | [], _, _, _, h => nomatch h
  | g :: r, ds, h, f, hf => by
    unfold compFuns at h
    split at h
    · cases h
    · rename_i d hd
      split at h
      · rename_i x xs hx hxs
        cases h
        have hn : d.name = g := by simpa using List.find?_some hd
        rw [List.lookup_cons]
        by_cases e : f = g
        · subst e
          exact ⟨d, List.mem_of_find?_eq_some hd, hn, x, hx, by simp⟩
        · have hf' : f ∈ r := (List.mem_cons.mp hf).resolve_left e
          obtain ⟨d', h1, h2, x', h3, h4⟩ := compFuns_at hxs f hf'
          have : (f == g) = false := beq_eq_false_iff_ne.mpr e
          exact ⟨d', h1, h2, x', h3, by rw [this]; exact h4⟩
      · cases h

theorem bootB : ∀ x v, (x, v) ∈ bltPairs → bootBuiltins x = some v ∧ x ≠ "__name__" := by
  intro x v h
  simp only [bltPairs, List.mem_cons, Prod.mk.injEq, List.not_mem_nil, or_false] at h
  rcases h with ⟨rfl, rfl⟩ | ⟨rfl, rfl⟩ | ⟨rfl, rfl⟩ | ⟨rfl, rfl⟩ | ⟨rfl, rfl⟩ | ⟨rfl, rfl⟩ | ⟨rfl, rfl⟩ | ⟨rfl, rfl⟩ | ⟨rfl, rfl⟩ <;> exact ⟨by rfl, by decide⟩

noncomputable def freeOk (p : Program) (loose : List Str) : Bool := bltPairs.all fun x => !startupNames.contains x.1 && !loose.contains x.1 && !((recsOf p).map (·.name)).contains x.1 && !((litsOf p).map (·.1)).contains x.1 && !((clssOf p loose).map (·.name)).contains x.1

section
variable {prog view : Program} {loose : List Str} {mean : ExcName → Option Value} {w : World} {mg mb : Str → Option Value} {h : Heap}

theorem ok_of_top (T : Top view loose mean mg mb h) (hi : importsNone view = true) (ht : prog.given.tree = none) (hf : freeOk view loose = true) : Par.Ok ⟨prog, w, ⟨h⟩, mg, mb⟩ := by
  refine ⟨fun x v hm => ?_, T.g, T.b, T.nolimit, T.seer hi, ht, ?_⟩
  · obtain ⟨h1, h2⟩ := bootB x v hm
    have := List.all_eq_true.mp hf _ hm
    simp only [Bool.and_eq_true, Bool.not_eq_true', List.contains_eq_mem, decide_eq_false_iff_not] at this
    obtain ⟨⟨⟨⟨a, b⟩, c⟩, d⟩, e⟩ := this
    exact ⟨T.free x a b c d e, (T.builtins x h2).trans h1⟩
  · obtain ⟨mm, ⟨o, _, _, ho, _⟩, _⟩ := (T.seer hi).mods
    exact ⟨o, ho⟩

theorem fns_of_top (T : Top view loose mean mg mb h) {funs : List Str} {pr : Prog} (hc : compFuns view funs funs = some pr) (f : Str) (hf : funs.contains f = true) : FnAt ⟨prog, w, ⟨h⟩, mg, mb⟩ pr funs f := by
  obtain ⟨d, hd, rfl, x, hx, hl⟩ := compFuns_at hc f (by simpa using hf)
  obtain ⟨a, o, pm, code, doc, h1, h2, h3, h4⟩ := T.fn d hd
  exact ⟨⟨a, o, d.params, d.body, d.scope, pm, code, doc, x, h1, h2, h3, h4, hl, hx⟩⟩

/-- the law's call, from its caller -/
theorem law_call (T : Top view loose mean mg mb h) {s₁ : Shared} (hs : s₁.heap = h) (hi : importsNone view = true) (ht : prog.given.tree = none) (hf : freeOk view loose = true) {funs : List Str} {pr : Prog} (hc : compFuns view funs funs = some pr)
    (hl : funs.contains "law" = true) {fa : Addr} (hfa : mg "law" = some (.ref fa)) {a : Addr} {vs : List Value} {xs : List Int} (hL : h.IsList a vs.toArray) (hI : IntsAre vs xs) {hp : AHeap}
    (hrun : semF pr 16 "law" [.scr xs] [] = .ok (.bool true) hp) {Q : Value → Shared → Prop} {E : Value → Shared → Prop}
    (k : ∀ s', (∀ b o, s₁.heap.get? b = some o → s'.heap.get? b = some o) → s'.os = s₁.os → s'.gens = s₁.gens → Q (.bool true) s') :
    wpAny (model prog w) callerA (call (.ref fa) [.ref a]) Q E s₁ := by
  subst hs
  let P : Par := ⟨prog, w, ⟨s₁.heap⟩, mg, mb⟩
  have ok : P.Ok := ok_of_top T hi ht hf
  obtain ⟨fa', o, fd, e1, e2, e3, hcall⟩ := semF_sim (P := P) ok (fns_of_top (prog := prog) (w := w) T hc) 16 "law" hl
  have : fa' = fa := by
    have e1' : mg "law" = some (.ref fa') := e1
    rw [hfa] at e1'; cases e1'; rfl
  subst this
  have S : St P.w P.B [] [] s₁.heap := ⟨rfl, by simp, fun n a off o e => by simp at e, fun b o e => e, fun p hp => nomatch hp⟩
  have rv : RVs P.B s₁.heap [] [.scr xs] [.ref a] := by
    simp only [RVs, RV, and_true]
    exact ⟨a, _, rfl, hL, by simpa using ris_of hI⟩
  refine wpAny_mono (hcall [.scr xs] [.ref a] [] [] s₁ callerA S rv ⟨⟨[], rfl⟩, by decide, by decide, rfl⟩ (by rw [hrun]; exact fun e => nomatch e)) (fun v s' q => ?_) (fun _ _ q => q.elim)
  obtain ⟨av, hp', σ', er, af, r⟩ := q
  rw [hrun] at er
  cases er
  cases (show v = .bool true from r)
  exact k s' af.st.base (by rw [af.ctl]) (by rw [af.ctl])
end
end Mine

namespace Mine
open PySem

section
variable {h : AHeap} {l : Locs} {c : Ctx}
theorem b_add {x y : Int} : binAV .add (.int x) (.int y) h = .ok (.int (x + y)) h := rfl
theorem b_sub {x y : Int} : binAV .sub (.int x) (.int y) h = .ok (.int (x - y)) h := rfl
theorem b_mulL {x y : Int} (hx : x.natAbs < 2 ^ 64) : binAV .mul (.int x) (.int y) h = .ok (.int (x * y)) h :=
  if_pos (show (decide (x.natAbs < 2 ^ 64) || decide (y.natAbs < 2 ^ 64)) = true by rw [decide_eq_true hx]; rfl)
theorem b_mulR {x y : Int} (hx : y.natAbs < 2 ^ 64) : binAV .mul (.int x) (.int y) h = .ok (.int (x * y)) h :=
  if_pos (show (decide (x.natAbs < 2 ^ 64) || decide (y.natAbs < 2 ^ 64)) = true by rw [decide_eq_true hx]; exact Bool.or_true _)
theorem b_div {x y : Int} (hy : y ≠ 0) : binAV .div (.int x) (.int y) h = .ok (.int (x.fdiv y)) h := if_neg hy
theorem b_mod {x y : Int} (hy : y ≠ 0) : binAV .mod (.int x) (.int y) h = .ok (.int (x.fmod y)) h := if_neg hy
theorem c_lt {x y : Int} : cmpAV h .lt (.int x) (.int y) = some (decide (x < y)) := rfl
theorem c_le {x y : Int} : cmpAV h .le (.int x) (.int y) = some (decide (x ≤ y)) := rfl
theorem c_gt {x y : Int} : cmpAV h .gt (.int x) (.int y) = some (decide (y < x)) := rfl
theorem c_ge {x y : Int} : cmpAV h .ge (.int x) (.int y) = some (decide (y ≤ x)) := rfl
theorem c_eqi {x y : Int} : cmpAV h .eq (.int x) (.int y) = some (decide (x = y)) := rfl
theorem c_nei {x y : Int} : cmpAV h .ne (.int x) (.int y) = some (!decide (x = y)) := rfl
theorem c_eqs {x y : List Nat} : cmpAV h .eq (.str x) (.str y) = some (decide (x = y)) := rfl
theorem len_scr {x : List Int} (hl : x.length ≤ sizeLim) : biAV .len [.scr x] h = .ok (.int x.length) h := if_pos hl
theorem len_list {n : Nat} {x : List AV} (hn : h[n]? = some (.list x)) : biAV .len [.loc n] h = .ok (.int x.length) h := by
  show lenAV (.loc n) h = _
  delta lenAV
  dsimp only
  rw [hn]
theorem len_tup {x : List AV} (hl : x.length ≤ sizeLim) : biAV .len [.tup x] h = .ok (.int x.length) h := if_pos hl
theorem idx_nat {γ : Type} {xs : List γ} {k : Int} (hk : 0 ≤ k) : idx? xs k = xs[k.toNat]? := by unfold idx?; rw [if_pos hk]
theorem idx_last {γ : Type} {xs : List γ} (hk : 0 < xs.length) : idx? xs (-1) = xs[xs.length - 1]? := by
  unfold idx?; rw [if_neg (by omega), if_pos (by omega)]
  congr 1; omega
theorem subI_at {x : List AV} {k : Int} {d : AV} (hl : x.length ≤ sizeLim) (hd : idx? x k = some d) : okO (subI x (some k)) h = .ok d h := by
  show okO (if x.length ≤ sizeLim then idx? x k else none) h = _
  rw [if_pos hl, hd]; rfl
theorem sub_scr {x : List Int} {k : Int} {d : Int} (hl : x.length ≤ sizeLim) (hk : 0 ≤ k) (hd : x[k.toNat]? = some d) : subAV (.scr x) (.int k) h = .ok (.int d) h :=
  subI_at (x := x.map .int) (by rw [List.length_map]; exact hl) (by rw [idx_nat hk, List.getElem?_map, hd]; rfl)
theorem sub_loc {n : Nat} {x : List AV} {i : AV} (hh : h[n]? = some (.list x)) : subAV (.loc n) i h = okO (subI x (intOf i)) h := by
  delta subAV
  dsimp only
  rw [hh]; rfl
theorem sub_list {n : Nat} {x : List AV} {k : Int} {d : AV} (hl : x.length ≤ sizeLim) (hh : h[n]? = some (.list x)) (hk : 0 ≤ k) (hd : x[k.toNat]? = some d) : subAV (.loc n) (.int k) h = .ok d h :=
  (sub_loc hh).trans (subI_at hl (by rw [idx_nat hk]; exact hd))
theorem sub_last {n : Nat} {x : List AV} {d : AV} (hl : x.length ≤ sizeLim) (hh : h[n]? = some (.list x)) (hd : x[x.length - 1]? = some d) : subAV (.loc n) (.int (-1)) h = .ok d h :=
  (sub_loc hh).trans (subI_at hl (by rw [idx_last (Nat.lt_of_le_of_lt (Nat.zero_le _) (List.getElem?_eq_some_iff.mp hd).1)]; exact hd))
theorem sub_t0 {x y : AV} : subAV (.tup [x, y]) (.int 0) h = .ok x h := rfl
theorem sub_t1 {x y : AV} : subAV (.tup [x, y]) (.int 1) h = .ok y h := rfl
theorem sub_dict {n : Nat} {x : List (Key × AV)} {ep : Nat} {kv : AV} {k : Key} {d : AV} (hh : h[n]? = some (.dict x ep)) (hk : kv.key? = some k) (hs : sortOk x k = true) (hd : x.lookup k = some d) : subAV (.loc n) kv h = .ok d h := by
  delta subAV
  dsimp only
  rw [hh]
  show okO (subD x kv.key?) h = _
  rw [hk]
  show okO (if sortOk x k = true then x.lookup k else none) h = _
  rw [if_pos hs, hd]; rfl
theorem isIn_dict {n : Nat} {x : List (Key × AV)} {ep : Nat} {kv : AV} {k : Key} (hh : h[n]? = some (.dict x ep)) (hk : kv.key? = some k) (hs : sortOk x k = true) : isIn h kv (.loc n) = some (x.lookup k).isSome := by
  delta isIn
  dsimp only
  rw [hh]
  show inDict x kv.key? = _
  rw [hk]
  exact if_pos hs
theorem in_dict' {n : Nat} {x : List (Key × AV)} {ep : Nat} {kv : AV} {k : Key} (hh : h[n]? = some (.dict x ep)) (hk : kv.key? = some k) (hs : sortOk x k = true) : cmpAV h .isin kv (.loc n) = some (x.lookup k).isSome := isIn_dict hh hk hs
theorem notin_dict' {n : Nat} {x : List (Key × AV)} {ep : Nat} {kv : AV} {k : Key} (hh : h[n]? = some (.dict x ep)) (hk : kv.key? = some k) (hs : sortOk x k = true) : cmpAV h .notin kv (.loc n) = some (!(x.lookup k).isSome) :=
  congrArg (Option.map not) (isIn_dict hh hk hs)
theorem set_dict {n : Nat} {x : List (Key × AV)} {ep : Nat} {kv v : AV} {k : Key} (hh : h[n]? = some (.dict x ep)) (hk : kv.key? = some k) (hs : sortOk x k = true) (hl : x.length < sizeLim) :
    ∃ ep', setItemAV (.loc n) kv v h = some (h.set n (.dict (dictPut x k v) ep')) :=
  ⟨if (x.lookup k).isSome then ep else ep + 1, by
    delta setItemAV
    dsimp only
    rw [hh]
    show setD h n x ep v kv.key? = _
    rw [hk]
    exact if_pos (by rw [hs, decide_eq_true hl]; rfl)⟩
theorem set_list {n : Nat} {x : List AV} {v : AV} {k : Nat} (hh : h[n]? = some (.list x)) (hk : k < x.length) : setItemAV (.loc n) (.int k) v h = some (h.set n (.list (x.set k v))) := by
  delta setItemAV
  dsimp only
  rw [hh]
  exact (if_pos ⟨Int.natCast_nonneg k, Int.ofNat_lt.mpr hk⟩).trans (by rw [Int.toNat_natCast])
theorem newList_ok {vs : List AV} (hl : vs.length ≤ sizeLim) : newList vs h = .ok (.loc h.length) (h ++ [.list vs]) := if_pos hl
theorem listAt_of {n : Nat} {x : List AV} (hh : h[n]? = some (.list x)) : listAt h n = some x := by delta listAt; rw [hh]
theorem dictAt_of {n : Nat} {x : List (Key × AV)} {ep : Nat} (hh : h[n]? = some (.dict x ep)) : dictAt h n = some (x, ep) := by delta dictAt; rw [hh]
theorem append_ok {n : Nat} {x : List AV} {v : AV} (hh : h[n]? = some (.list x)) (hl : x.length < sizeLim) : appendAV (.loc n) [v] h = .ok .none (h.set n (.list (x ++ [v]))) := by
  delta appendAV
  dsimp only
  rw [listAt_of hh]
  exact if_pos hl
theorem isList_ok {n : Nat} {x : List AV} (hh : h[n]? = some (.list x)) : isListAV (.loc n) h = true := by
  show (listAt h n).isSome = true
  rw [listAt_of hh]; rfl
theorem newListO_ok {o : Option (List AV)} {x : List AV} (ho : o = some x) (hl : x.length ≤ sizeLim) : newListO o h = .ok (.loc h.length) (h ++ [.list x]) := by
  rw [ho]; exact newList_ok hl
theorem list_ok {n : Nat} {x : List AV} (hh : h[n]? = some (.list x)) (hl : x.length ≤ sizeLim) : biAV .list [.loc n] h = .ok (.loc h.length) (h ++ [.list x]) := newListO_ok (listAt_of hh) hl
theorem cat_ok {n m : Nat} {x y : List AV} (hh : h[n]? = some (.list x)) (hm : h[m]? = some (.list y)) (hl : (x ++ y).length ≤ sizeLim) : binAV .add (.loc n) (.loc m) h = .ok (.loc h.length) (h ++ [.list (x ++ y)]) :=
  newListO_ok (o := catL (listAt h n) (listAt h m)) (by rw [listAt_of hh, listAt_of hm]; rfl) hl
end
theorem eqAll_int {f : AV → AV → Option Bool} {κ : Type} [DecidableEq κ] {g : κ → AV} (hf : ∀ a b, f (g a) (g b) = some (decide (a = b))) : ∀ xs ys : List κ, xs.length = ys.length → eqAll f (xs.map g) (ys.map g) = some (decide (xs = ys))
  | [], [], _ => rfl
  | a :: xs, b :: ys, h => by
    have e : eqAll f ((a :: xs).map g) ((b :: ys).map g) = match f (g a) (g b), eqAll f (xs.map g) (ys.map g) with | some b, some r => some (b && r) | _, _ => none := rfl
    rw [e, hf, eqAll_int hf xs ys (Nat.succ.inj h)]
    by_cases h1 : a = b
    · subst h1
      by_cases h2 : xs = ys
      · rw [decide_eq_true rfl, decide_eq_true h2, decide_eq_true (by rw [h2])]; rfl
      · rw [decide_eq_true rfl, decide_eq_false h2, decide_eq_false fun q => h2 (List.cons.inj q).2]; rfl
    · rw [decide_eq_false h1, decide_eq_false fun q => h1 (List.cons.inj q).1]; rfl
  | [], _ :: _, h => nomatch h
  | _ :: _, [], h => nomatch h
theorem eqv_pair {h : AHeap} {n : Nat} {a b c d : Int} : eqv h (n + 2) (.tup [.int a, .int b]) (.tup [.int c, .int d]) = some (decide (a = c) && decide (b = d)) := by
  show some (decide (a = c) && (decide (b = d) && true)) = _
  rw [Bool.and_true]
theorem eq_lists {h : AHeap} {n m : Nat} {κ : Type} [DecidableEq κ] {g : κ → AV} {xs ys : List κ} (hn : h[n]? = some (.list (xs.map g))) (hm : h[m]? = some (.list (ys.map g))) (hf : ∀ a b, eqv h 5 (g a) (g b) = some (decide (a = b))) :
    cmpAV h .eq (.loc n) (.loc m) = some (decide (xs = ys)) := by
  have e : cmpAV h .eq (.loc n) (.loc m) = eqL (eqv h 5) (listAt h n) (listAt h m) := rfl
  rw [e, listAt_of hn, listAt_of hm]
  show (if (xs.map g).length = (ys.map g).length then eqAll (eqv h 5) (xs.map g) (ys.map g) else some false) = _
  rw [List.length_map, List.length_map]
  by_cases hl : xs.length = ys.length
  · rw [if_pos hl, eqAll_int hf _ _ hl]
  · rw [if_neg hl]
    have : xs ≠ ys := fun e => hl (by rw [e])
    rw [decide_eq_false this]
theorem ne_lists {h : AHeap} {n m : Nat} {κ : Type} [DecidableEq κ] {g : κ → AV} {xs ys : List κ} (hn : h[n]? = some (.list (xs.map g))) (hm : h[m]? = some (.list (ys.map g))) (hf : ∀ a b, eqv h 5 (g a) (g b) = some (decide (a = b))) :
    cmpAV h .ne (.loc n) (.loc m) = some (!decide (xs = ys)) := by
  have e : cmpAV h .ne (.loc n) (.loc m) = (cmpAV h .eq (.loc n) (.loc m)).map not := rfl
  rw [e, eq_lists hn hm hf]; rfl

theorem forLoop_inv {i : Nat} {body : Locs → AHeap → SR} {src : AV} {e : Option (Nat × Nat)} {items : List AV} (I : Nat → Locs → AHeap → Prop) (R : AV → AHeap → Prop)
    (hn : ∀ k l h, I k l h → nextAt src e k h = some items[k]?)
    (step : ∀ k v l h, items[k]? = some v → I k l h → ∃ fl l' h', body (l.set i (some v)) h = .ok fl l' h' ∧ ((fl = .next ∧ I (k + 1) l' h') ∨ ∃ r, fl = .ret r ∧ R r h')) :
    ∀ f k l h, items.length < f + k → k ≤ items.length → I k l h →
      (∃ l' h', forLoop i body src e f k l h = .ok .next l' h' ∧ I items.length l' h') ∨ ∃ r l' h', forLoop i body src e f k l h = .ok (.ret r) l' h' ∧ R r h'
  | 0, k, l, h, h1, h2, _ => by omega
  | f + 1, k, l, h, h1, h2, hI => by
    unfold forLoop
    rw [hn k l h hI]
    by_cases hk : k < items.length
    · obtain ⟨fl, l', h', hb, hc⟩ := step k items[k] l h (List.getElem?_eq_getElem hk) hI
      rw [List.getElem?_eq_getElem hk]
      simp only [hb]
      rcases hc with ⟨rfl, hI'⟩ | ⟨r, rfl, hR⟩
      · rw [turn_next]; exact forLoop_inv I R hn step f (k + 1) l' h' (by omega) (by omega) hI'
      · exact .inr ⟨r, l', h', rfl, hR⟩
    · have e : k = items.length := by omega
      subst e
      rw [List.getElem?_eq_none (Nat.le_refl _)]
      exact .inl ⟨l, h, rfl, hI⟩

/-- a loop that runs through -/
theorem forLoop_all {i : Nat} {body : Locs → AHeap → SR} {src : AV} {e : Option (Nat × Nat)} {items : List AV} (I : Nat → Locs → AHeap → Prop)
    (hn : ∀ k l h, I k l h → nextAt src e k h = some items[k]?)
    (step : ∀ k v l h, items[k]? = some v → I k l h → ∃ l' h', body (l.set i (some v)) h = .ok .next l' h' ∧ I (k + 1) l' h')
    {f : Nat} {l : Locs} {h : AHeap} (hf : items.length < f) (hI : I 0 l h) : ∃ l' h', forLoop i body src e f 0 l h = .ok .next l' h' ∧ I items.length l' h' := by
  rcases forLoop_inv I (fun _ _ => False) hn (fun k v l h e hI => let ⟨l', h', a, c⟩ := step k v l h e hI; ⟨_, l', h', a, .inl ⟨rfl, c⟩⟩) f 0 l h (by omega) (by omega) hI with h1 | ⟨_, _, _, _, h1⟩
  · exact h1
  · exact h1.elim

theorem compLoop_all {body : AV → AHeap → Res (Option AV)} {src : AV} {e : Option (Nat × Nat)} {items : List AV} (I : Nat → List AV → AHeap → Prop)
    (hn : ∀ k a h, I k a h → nextAt src e k h = some items[k]?)
    (step : ∀ k v a h, items[k]? = some v → I k a h → ∃ r h', body v h = .ok r h' ∧ I (k + 1) (a ++ r.toList) h') (hl : items.length ≤ 1000) :
    ∀ f k a h, items.length < f + k → k ≤ items.length → a.length ≤ k → I k a h → ∃ a' h', compLoop body src e f k a h = .ok a' h' ∧ I items.length a' h' ∧ a'.length ≤ items.length
  | 0, k, a, h, h1, h2, _, _ => by omega
  | f + 1, k, a, h, h1, h2, h3, hI => by
    unfold compLoop
    rw [hn k a h hI]
    by_cases hk : k < items.length
    · obtain ⟨r, h', hb, hc⟩ := step k items[k] a h (List.getElem?_eq_getElem hk) hI
      rw [List.getElem?_eq_getElem hk]
      simp only [hb, bok]
      cases r with
      | none =>
        simp only [Option.toList_none, List.append_nil] at hc
        exact compLoop_all I hn step hl f (k + 1) a h' (by omega) (by omega) (by omega) hc
      | some x =>
        simp only [Option.toList_some] at hc ⊢
        rw [if_pos (by unfold sizeLim; omega)]
        exact compLoop_all I hn step hl f (k + 1) _ h' (by omega) (by omega) (by simp; omega) hc
    · have e : k = items.length := by omega
      subst e
      rw [List.getElem?_eq_none (Nat.le_refl _)]
      exact ⟨a, h, rfl, hI, h3⟩

abbrev Prog.has (p : Prog) (f : Str) (d : FDef) : Prop := p.lookup f = some d
theorem run_at {p : Prog} {n : Nat} {f : Str} {as : List AV} {h : AHeap} {d : FDef} (hl : Prog.has p f d) (ha : as.length = d.params) :
    ∃ F, 50000 ≤ F ∧ semF p (n + 1) f as h = retR (execSs ⟨semF p n, F⟩ d.body (as.map some ++ List.replicate (d.slots - d.params) none) h) := by
  refine ⟨fuelOf, by decide, ?_⟩
  rw [semF_at hl]
  exact if_pos ha

theorem epoch_rng {a b c : Int} {h : AHeap} : epochOf (.rng a b c) h = none := rfl
theorem epoch_tup {x : List AV} {h : AHeap} : epochOf (.tup x) h = none := rfl
theorem epoch_list {h : AHeap} {n : Nat} {x : List AV} (hh : h[n]? = some (.list x)) : epochOf (.loc n) h = none := by
  show (dictAt h n).map _ = _
  delta dictAt
  rw [hh]; rfl
theorem epoch_dict {h : AHeap} {n : Nat} {x : List (Key × AV)} {ep : Nat} (hh : h[n]? = some (.dict x ep)) : epochOf (.loc n) h = some (ep, x.length) := by
  show (dictAt h n).map _ = _
  rw [dictAt_of hh]; rfl
theorem next_of {src : AV} {e : Option (Nat × Nat)} {k : Nat} {xs : List AV} {h : AHeap} (hi : itemsAV src h = some xs) (he : epochOf src h = e) : nextAt src e k h = some xs[k]? := by
  delta nextAt
  rw [hi]
  exact if_pos he
theorem next_list {h : AHeap} {n k : Nat} {x : List AV} (hh : h[n]? = some (.list x)) : nextAt (.loc n) none k h = some x[k]? := next_of (by delta itemsAV; dsimp only; rw [hh]) (epoch_list hh)
theorem next_dict {h : AHeap} {n k : Nat} {x : List (Key × AV)} {ep : Nat} (hh : h[n]? = some (.dict x ep)) : nextAt (.loc n) (some (ep, x.length)) k h = some (x.map fun p => p.1.av)[k]? := next_of (by delta itemsAV; dsimp only; rw [hh]) (epoch_dict hh)
theorem next_tup {h : AHeap} {k : Nat} {x : List AV} : nextAt (.tup x) none k h = some x[k]? := next_of rfl rfl
theorem next_rng {b : Int} {k : Nat} {h : AHeap} (hb : b.natAbs ≤ sizeLim) : nextAt (.rng 0 b 1) none k h = some (rngItems 0 b 1)[k]? := next_of (if_pos ⟨.inl rfl, Nat.zero_le _, hb⟩) rfl
theorem next_down {b : Int} {k : Nat} {h : AHeap} (hb : b.natAbs ≤ sizeLim) : nextAt (.rng b 0 (-1)) none k h = some (rngItems b 0 (-1))[k]? := next_of (if_pos ⟨.inr rfl, hb, Nat.zero_le _⟩) rfl
theorem rng_up (m : Nat) : rngItems 0 m 1 = (List.range m).map fun (k : Nat) => AV.int k := by
  show (List.range ((m : Int) - 0).toNat).map _ = _
  rw [Int.sub_zero, Int.toNat_natCast]
  exact List.map_congr_left fun k _ => by rw [Int.one_mul, Int.zero_add]
theorem up_item {m k : Nat} {v : AV} (h : (rngItems 0 m 1)[k]? = some v) : k < m ∧ v = .int k := by
  rw [rng_up, List.getElem?_map] at h
  obtain ⟨j, hj, rfl⟩ := Option.map_eq_some_iff.mp h
  obtain ⟨h1, h2⟩ := List.getElem?_eq_some_iff.mp hj
  rw [List.length_range] at h1
  rw [List.getElem_range] at h2
  subst h2
  exact ⟨h1, rfl⟩
theorem up_length (m : Nat) : (rngItems 0 m 1).length = m := by rw [rng_up, List.length_map, List.length_range]
theorem range_up {m : Nat} (hm : m ≤ 1000) : rangeOf [.int (m : Int)] = some (.rng 0 m 1) := by
  exact if_pos (Nat.le_trans hm (by decide))
theorem rng_down (m : Nat) : rngItems m 0 (-1) = (List.range m).map fun (k : Nat) => AV.int (m + -1 * k) := by
  show (List.range ((m : Int) - 0).toNat).map _ = _
  rw [Int.sub_zero, Int.toNat_natCast]
theorem down_item {m k : Nat} {v : AV} (h : (rngItems m 0 (-1))[k]? = some v) : k < m ∧ v = .int ((m - k : Nat) : Int) := by
  rw [rng_down, List.getElem?_map] at h
  obtain ⟨j, hj, rfl⟩ := Option.map_eq_some_iff.mp h
  obtain ⟨h1, h2⟩ := List.getElem?_eq_some_iff.mp hj
  rw [List.length_range] at h1
  rw [List.getElem_range] at h2
  subst h2
  exact ⟨h1, congrArg AV.int (by omega)⟩
theorem down_length (m : Nat) : (rngItems m 0 (-1)).length = m := by rw [rng_down, List.length_map, List.length_range]
theorem range_down {m : Nat} (hm : m ≤ 1000) : rangeOf [.int (m : Int), .int 0, .int (-1)] = some (.rng m 0 (-1)) := by
  exact if_pos ⟨rfl, Nat.le_trans hm (by decide), Nat.zero_le _⟩

noncomputable def cellAt (xs : List Int) (k : Nat) : Int := xs.getD k 0
noncomputable def mixF (c k : Int) : Int := ((c + 7919 * k + 11) * 48271).fmod 2147483647
noncomputable def mixed (c k : Int) : Int := (mixF c k * mixF c k + 40692 * mixF c k).fmod 2147483399
theorem fmod_bound (a : Int) {m : Int} (hm : 0 < m) : 0 ≤ a.fmod m ∧ a.fmod m < m := by
  rw [Int.fmod_eq_emod_of_nonneg _ (Int.le_of_lt hm)]
  exact ⟨Int.emod_nonneg _ (Int.ne_of_gt hm), Int.emod_lt_of_pos _ hm⟩

noncomputable def d__law_cell_at : FDef := ⟨2, 2,
  (.cons (.iff (.cmp .lt (.loc 1) (.bi .len (.cons (.loc 0) .nil)))
    (.cons (.ret (.sub (.loc 0) (.loc 1)))
    .nil)
    .nil)
  (.cons (.ret (.int 0))
  .nil))⟩
noncomputable def d__law_mixed : FDef := ⟨2, 3,
  (.cons (.asg 2 (.bin .mod (.bin .mul (.bin .add (.bin .add (.loc 0) (.bin .mul (.int 7919) (.loc 1))) (.int 11)) (.int 48271)) (.int 2147483647)))
  (.cons (.ret (.bin .mod (.bin .add (.bin .mul (.loc 2) (.loc 2)) (.bin .mul (.int 40692) (.loc 2))) (.int 2147483399)))
  .nil))⟩

section
variable {p : Prog} {n : Nat} {h : AHeap}
theorem run_cell_at (hp : Prog.has p "_law_cell_at" d__law_cell_at) {xs : List Int} (hl : xs.length ≤ 63) (k : Nat) : semF p (n + 1) "_law_cell_at" [.scr xs, .int k] h = .ok (.int (cellAt xs k)) h := by
  obtain ⟨F, hF, e⟩ := run_at (n := n) (h := h) hp (as := [.scr xs, .int k]) rfl
  rw [e]
  have hs : xs.length ≤ sizeLim := Nat.le_trans hl (by decide)
  simp only [d__law_cell_at, ss_cons, ss_nil, s_iff, s_ret, x_cmp, x_loc, x_bi, xs_cons, xs_nil, x_sub, x_int, List.map_cons, List.map_nil, List.cons_append, List.nil_append, loc0, locS, okO_some, bok, sok, len_scr hs, c_lt, boolO_some, cond_if]
  by_cases hk : k < xs.length
  · rw [if_pos (by omega), sub_scr hs (by omega) (d := cellAt xs k) (by simp [cellAt, hk]), sok, turn_ret, turn_ret, retR_ret]
  · rw [if_neg (by omega), turn_next, turn_ret, retR_ret, cellAt, List.getD_eq_getElem?_getD, List.getElem?_eq_none (by omega)]
    rfl

theorem run_mixed (hp : Prog.has p "_law_mixed" d__law_mixed) (c k : Int) : semF p (n + 1) "_law_mixed" [.int c, .int k] h = .ok (.int (mixed c k)) h := by
  obtain ⟨F, hF, e⟩ := run_at (n := n) (h := h) hp (as := [.int c, .int k]) rfl
  rw [e]
  have hb := fmod_bound ((c + 7919 * k + 11) * 48271) (m := 2147483647) (by decide)
  have hm : ((c + 7919 * k + 11) * 48271).fmod 2147483647 = mixF c k := rfl
  rw [hm] at hb
  simp only [d__law_mixed, ss_cons, ss_nil, s_asg, s_ret, x_bin, x_loc, x_int, List.map_cons, List.map_nil, List.cons_append, List.nil_append, List.replicate, List.set, loc0, locS, okO_some, bok, sok, b_add, b_mulL (x := 7919) (by decide), b_mulR (y := 48271) (by decide), b_mod (y := 2147483647) (by decide), turn_next, hm]
  rw [b_mulL (by omega), bok, b_mulL (by decide), bok, b_add, bok, b_mod (by decide), sok, turn_ret, retR_ret]
  rfl
end
end Mine

namespace Mine
open PySem Cu

/-! tables of the plain law, as the small language holds them -/
noncomputable def mk {α β : Type} (kf : α → Key) (vf : β → AV) (t : List (α × β)) : List (Key × AV) := t.map fun p => (kf p.1, vf p.2)
section
variable {α β : Type} [DecidableEq α] [BEq α] [LawfulBEq α] {kf : α → Key} {vf : β → AV}
theorem mk_length {t : List (α × β)} : (mk kf vf t).length = t.length := by simp [mk]
theorem mk_lookup (inj : ∀ a b, kf a = kf b → a = b) (a : α) : ∀ t : List (α × β), (mk kf vf t).lookup (kf a) = (t.lookup a).map vf
  | [] => rfl
  | (k, v) :: t => by
    have ih := mk_lookup inj a t
    simp only [mk, List.map_cons, List.lookup_cons] at ih ⊢
    by_cases h : a = k
    · subst h; simp
    · rw [beq_eq_false_iff_ne.mpr h, beq_eq_false_iff_ne.mpr fun e => h (inj _ _ e)]; exact ih
theorem mk_put (inj : ∀ a b, kf a = kf b → a = b) {t : List (α × β)} {a : α} {b : β} : dictPut (mk kf vf t) (kf a) (vf b) = mk kf vf (put t a b) := by
  have hb : ∀ x : α, (kf x == kf a) = (x == a) := fun x => by
    by_cases h : x = a
    · subst h; simp
    · rw [beq_eq_false_iff_ne.mpr h, beq_eq_false_iff_ne.mpr fun e => h (inj _ _ e)]
  have hany : (mk kf vf t).any (fun p => p.1 == kf a) = t.any (fun p => p.1 == a) := by
    simp only [mk, List.any_map]; congr 1; funext p; exact hb p.1
  unfold dictPut put
  rw [hany]
  split
  · simp only [mk, List.map_map]
    apply List.map_congr_left
    intro p _
    simp only [Function.comp, hb]
    split <;> rfl
  · simp [mk]
theorem mk_sort (hs : ∀ a b, (kf a).sort = (kf b).sort) {t : List (α × β)} {a : α} : sortOk (mk kf vf t) (kf a) = true := by
  simp only [sortOk, mk, List.all_map, List.all_eq_true, Function.comp, beq_iff_eq]
  exact fun p _ => hs _ _
end
noncomputable def sv (s : Seat) : AV := .tup [.int s.1, .int s.2]
noncomputable def kp (s : Seat) : Key := .pair s.1 s.2
theorem kp_inj (a b : Seat) (h : kp a = kp b) : a = b := by
  cases a; cases b; simp only [kp, Key.pair.injEq] at h; rw [h.1, h.2]
theorem kp_sort (a b : Seat) : (kp a).sort = (kp b).sort := rfl
theorem sv_key (s : Seat) : (sv s).key? = some (kp s) := rfl
noncomputable def tk (t : Tk) : List (Key × AV) := mk kp (fun n => .int (n : Nat)) t
theorem tk_lookup (s : Seat) (t : Tk) : (tk t).lookup (kp s) = (t.lookup s).map fun n => .int (n : Nat) := mk_lookup kp_inj s t
theorem tk_sort {t : Tk} {s : Seat} : sortOk (tk t) (kp s) = true := mk_sort kp_sort
theorem tk_put {t : Tk} {s : Seat} {n : Nat} : dictPut (tk t) (kp s) (.int n) = tk (put t s n) := mk_put kp_inj
theorem eqv_sv {h : AHeap} {n : Nat} (a b : Seat) : eqv h (n + 2) (sv a) (sv b) = some (decide (a = b)) := by
  rw [sv, sv, eqv_pair]
  cases a; cases b
  simp only [Prod.mk.injEq, Option.some.injEq]
  rw [Bool.decide_and]
theorem find_sv {h : AHeap} (a : Seat) : ∀ w : List Seat, findEq h (sv a) (w.map sv) = some (decide (a ∈ w))
  | [] => rfl
  | b :: w => by
    have e : findEq h (sv a) ((b :: w).map sv) = match eqv h eqFuel (sv b) (sv a), findEq h (sv a) (w.map sv) with | some b, some r => some (b || r) | _, _ => none := rfl
    rw [e, find_sv a w, show eqv h eqFuel (sv b) (sv a) = some (decide (b = a)) from eqv_sv (n := 4) b a]
    simp only [Option.some.injEq, List.mem_cons, Bool.decide_or]
    congr 1
    by_cases h : a = b <;> simp [h, eq_comm]
theorem in_list {h : AHeap} {n : Nat} {a : Seat} {w : List Seat} (hn : h[n]? = some (.list (w.map sv))) : cmpAV h .isin (sv a) (.loc n) = some (decide (a ∈ w)) := by
  have e : cmpAV h .isin (sv a) (.loc n) = isIn h (sv a) (.loc n) := rfl
  rw [e]; simp only [isIn, hn, find_sv]

/-! the heap -/
noncomputable def Keep (h h' : AHeap) : Prop := ∀ (i : Nat) (o : AObj), h[i]? = some o → h'[i]? = some o
theorem Keep.refl (h : AHeap) : Keep h h := fun _ _ e => e
theorem Keep.trans {a b c : AHeap} (x : Keep a b) (y : Keep b c) : Keep a c := fun i o e => y i o (x i o e)
theorem get_new {h : AHeap} {o : AObj} : (h ++ [o])[h.length]? = some o := by simp
theorem keep_new (h : AHeap) (o : AObj) : Keep h (h ++ [o]) := fun i o' e => by
  rw [List.getElem?_append_left (List.getElem?_eq_some_iff.mp e).1]; exact e
theorem set_new {h : AHeap} {o o' : AObj} : (h ++ [o]).set h.length o' = h ++ [o'] := by simp
theorem get_set {h : AHeap} {i : Nat} {o o' : AObj} (e : h[i]? = some o) : (h.set i o')[i]? = some o' := by
  rw [List.getElem?_set_self (List.getElem?_eq_some_iff.mp e).1]
theorem get_other {h : AHeap} {i j : Nat} {o o' : AObj} (e : h[i]? = some o) (hne : j ≠ i) : (h.set j o')[i]? = some o := by
  rw [List.getElem?_set_ne hne]; exact e
theorem keep_set {h h' : AHeap} {i : Nat} {o' : AObj} (k : Keep h h') (hi : h[i]? = none) : Keep h (h'.set i o') := fun j o e => by
  have : i ≠ j := by rintro rfl; rw [hi] at e; cases e
  rw [List.getElem?_set_ne this]; exact k j o e
theorem set_set {h : AHeap} {i : Nat} {a b : AObj} : (h.set i a).set i b = h.set i b := by simp
theorem set_same {h : AHeap} {i : Nat} {o : AObj} (e : h[i]? = some o) : h.set i o = h := by
  obtain ⟨hi, rfl⟩ := List.getElem?_eq_some_iff.mp e
  exact List.set_getElem_self hi
theorem get_lt {h : AHeap} {i : Nat} {o : AObj} (e : h[i]? = some o) : i < h.length := (List.getElem?_eq_some_iff.mp e).1
theorem ld_ne {h : AHeap} {i j : Nat} {x : List AV} {y : List (Key × AV)} {ep : Nat} (a : h[i]? = some (.list x)) (b : h[j]? = some (.dict y ep)) : j ≠ i := by
  rintro rfl; rw [a] at b; cases b
theorem tup2 {α : Type} {x y : AV} {a b : α} : (if ([x, y] : List AV).length ≤ sizeLim then a else b) = a := if_pos (by show 2 ≤ sizeLim; decide)

/-! the compiled text -/
noncomputable def d_seat_of : FDef := ⟨3, 3,
  (.cons (.ret (.tup (.cons (.loc 2) (.cons (.sub (.sub (.loc 0) (.loc 1)) (.loc 2)) .nil))))
  .nil)⟩
noncomputable def b_way_from_1 : Ss :=
  (.cons (.asg 4 (.call "seat_of" (.cons (.loc 0) (.cons (.sub (.loc 1) (.sub (.loc 3) (.neg (.int 1)))) (.cons (.bin .sub (.int 1) (.sub (.sub (.loc 3) (.neg (.int 1))) (.int 0))) .nil)))))
  (.cons (.iff (.cmp .isin (.loc 4) (.loc 3))
    (.cons (.ret (.loc 3))
    .nil)
    .nil)
  (.cons (.expr (.append (.loc 3) (.cons (.loc 4) .nil)))
  .nil)))
noncomputable def d_way_from : FDef := ⟨3, 5,
  (.cons (.asg 3 (.list (.cons (.loc 2) .nil)))
  (.cons (.whil (.cmp .isin (.sub (.loc 3) (.neg (.int 1))) (.loc 1)) b_way_from_1)
  (.cons (.ret (.loc 3))
  .nil)))⟩
noncomputable def b_put_along_1 : Ss :=
  (.cons (.setitem (.loc 0) (.sub (.loc 1) (.loc 3)) (.sub (.loc 0) (.sub (.loc 1) (.bin .sub (.loc 3) (.int 1)))))
  .nil)
noncomputable def d_put_along : FDef := ⟨3, 4,
  (.cons (.forr 3 (.range (.cons (.bin .sub (.bi .len (.cons (.loc 1) .nil)) (.int 1)) (.cons (.int 0) (.cons (.neg (.int 1)) .nil)))) b_put_along_1)
  (.cons (.setitem (.loc 0) (.sub (.loc 1) (.int 0)) (.loc 2))
  .nil))⟩

theorem fit {α : Type} {l : List α} (h : l.length ≤ 1000) : l.length ≤ sizeLim := by unfold sizeLim; omega
theorem at_map {w : List Seat} {i : Nat} {s : Seat} (h : w[i]? = some s) : (w.map sv)[i]? = some (sv s) := by rw [List.getElem?_map, h]; rfl

section
variable {p : Prog} {n : Nat} {h : AHeap}

theorem run_seat_of (hp : Prog.has p "seat_of" d_seat_of) {a m : Nat} {ps : List Seat} {r : Int} (hl : ps.length ≤ 1000) (ha : h[a]? = some (.list (ps.map sv))) (hm : m < ps.length) (hr : r = 0 ∨ r = 1) :
    semF p (n + 1) "seat_of" [.loc a, .int m, .int r] h = .ok (sv (Cu.hm ps m r)) h := by
  obtain ⟨F, hF, e⟩ := run_at (n := n) (h := h) hp (as := [.loc a, .int m, .int r]) rfl
  rw [e]
  have h1 : subAV (.loc a) (.int m) h = .ok (sv ps[m]) h := sub_list (by simpa using fit hl) ha (by omega) (at_map (by simp [hm]))
  have h2 : subAV (sv ps[m]) (.int r) h = .ok (.int (Cu.hm ps m r).2) h := by
    rcases hr with rfl | rfl <;> simp [sv, Cu.hm, hm, sub_t0, sub_t1]
  simp only [d_seat_of, ss_cons, s_ret, x_tup, x_sub, xs_cons, xs_nil, x_loc, List.map_cons, List.map_nil, List.cons_append, List.nil_append, loc0, locS, okO_some, bok, h1, h2, tup2, sok, turn_ret, retR_ret]
  rfl

theorem last_sub {a : Nat} {w : List Seat} {s : Seat} (hl : w.length ≤ 2000) (ha : h[a]? = some (.list (w.map sv))) (hs : w[w.length - 1]? = some s) : subAV (.loc a) (.int (-1)) h = .ok (sv s) h :=
  sub_last (by rw [List.length_map]; unfold sizeLim; omega) ha (by rw [List.length_map]; exact at_map hs)
theorem tk_get {a : Nat} {t : Tk} {ep : Nat} {s : Seat} {m : Nat} (ha : h[a]? = some (.dict (tk t) ep)) (hs : t.lookup s = some m) : subAV (.loc a) (sv s) h = .ok (.int m) h :=
  sub_dict ha (sv_key s) tk_sort (by rw [tk_lookup, hs]; rfl)
theorem tk_in {a : Nat} {t : Tk} {ep : Nat} {s : Seat} (ha : h[a]? = some (.dict (tk t) ep)) : cmpAV h .isin (sv s) (.loc a) = some (t.lookup s).isSome := by
  rw [in_dict' ha (sv_key s) tk_sort, tk_lookup, Option.isSome_map]
theorem tk_notin {a : Nat} {t : Tk} {ep : Nat} {s : Seat} (ha : h[a]? = some (.dict (tk t) ep)) : cmpAV h .notin (sv s) (.loc a) = some (!(t.lookup s).isSome) := by
  rw [notin_dict' ha (sv_key s) tk_sort, tk_lookup, Option.isSome_map]

theorem way_loop (hp : Prog.has p "seat_of" d_seat_of) {a b m : Nat} {ps : List Seat} {t : Tk} {ep : Nat} {s0 : Seat} (hl : ps.length ≤ 1000) (ha : h[a]? = some (.list (ps.map sv))) (hb : h[b]? = some (.dict (tk t) ep)) (I : Cu.Inv ps t m) (hm : m ≤ ps.length) {F : Nat} :
    ∀ f w v, Way ps t s0 w → t.length + 2 < f + w.length →
      ∃ fl w' v', whileLoop (fun l h => evalX ⟨semF p (n + 1), F⟩ (.cmp .isin (.sub (.loc 3) (.neg (.int 1))) (.loc 1)) l h) (fun l h => execSs ⟨semF p (n + 1), F⟩ b_way_from_1 l h) f
          [some (.loc a), some (.loc b), some (sv s0), some (.loc h.length), v] (h ++ [.list (w.map sv)]) = .ok fl [some (.loc a), some (.loc b), some (sv s0), some (.loc h.length), v'] (h ++ [.list (w'.map sv)]) ∧ Way ps t s0 w' ∧
        ((fl = .next ∧ ∀ s, w'[w'.length - 1]? = some s → t.lookup s = none) ∨ (fl = .ret (.loc h.length) ∧ Closed ps t w')) := by
  intro f
  induction f with
  | zero => intro w v W hf; have := W.short; omega
  | succ f ih =>
    intro w v W hf
    have hws := W.short
    have hwl : w.length ≤ 2000 := by have := I.len; omega
    obtain ⟨s, hs⟩ : ∃ s, w[w.length - 1]? = some s := ⟨_, List.getElem?_eq_getElem (by have := W.pos; omega)⟩
    have ha' := keep_new h (.list (w.map sv)) _ _ ha
    have hb' := keep_new h (.list (w.map sv)) _ _ hb
    have hL := last_sub hwl (get_new (h := h) (o := .list (w.map sv))) hs
    have e1 : ∀ (x : SR), whileLoop (fun l h => evalX ⟨semF p (n + 1), F⟩ (.cmp .isin (.sub (.loc 3) (.neg (.int 1))) (.loc 1)) l h) (fun l h => execSs ⟨semF p (n + 1), F⟩ b_way_from_1 l h) (f + 1)
          [some (.loc a), some (.loc b), some (sv s0), some (.loc h.length), v] (h ++ [.list (w.map sv)]) = condS (.bool (t.lookup s).isSome) ((execSs ⟨semF p (n + 1), F⟩ b_way_from_1 [some (.loc a), some (.loc b), some (sv s0), some (.loc h.length), v] (h ++ [.list (w.map sv)])).turn
            (whileLoop (fun l h => evalX ⟨semF p (n + 1), F⟩ (.cmp .isin (.sub (.loc 3) (.neg (.int 1))) (.loc 1)) l h) (fun l h => execSs ⟨semF p (n + 1), F⟩ b_way_from_1 l h) f)) (.ok .next [some (.loc a), some (.loc b), some (sv s0), some (.loc h.length), v] (h ++ [.list (w.map sv)])) := by
      intro _
      show (Res.st (evalX _ _ _ _) _) = _
      simp only [x_cmp, x_sub, x_neg, x_int, x_loc, loc0, locS, okO_some, bok, negAV_int, hL, tk_in hb', boolO_some, sok]
    rw [e1 .bad]
    cases hn : t.lookup s with
    | none =>
      rw [Option.isSome_none, cond_f]
      exact ⟨_, w, v, rfl, W, .inl ⟨rfl, fun s' h' => by rw [hs] at h'; cases h'; exact hn⟩⟩
    | some k =>
      rw [Option.isSome_some, cond_t]
      have hk := (I.home s k hn).1
      have hrow := I.row hn
      have hsub : subAV (sv s) (.int 0) (h ++ [.list (w.map sv)]) = .ok (.int s.1) (h ++ [.list (w.map sv)]) := rfl
      have hseat := run_seat_of (n := n) hp hl ha' (m := k) (r := 1 - s.1) (by omega) (by rcases hrow with e | e <;> rw [e] <;> decide)
      by_cases hin : Cu.hm ps k (1 - s.1) ∈ w
      · refine ⟨_, w, some (sv (Cu.hm ps k (1 - s.1))), ?_, W, .inr ⟨rfl, s, k, hs, hn, hin⟩⟩
        simp only [b_way_from_1, ss_cons, ss_nil, s_asg, s_iff, s_ret, x_call, x_cmp, x_sub, x_neg, x_int, x_loc, x_bin, xs_cons, xs_nil, List.set, loc0, locS, okO_some, bok, sok, negAV_int, hL, tk_get hb' hn, hsub, b_sub, hseat, turn_next, in_list get_new, decide_eq_true hin, boolO_some, cond_t, turn_ret]
      · obtain ⟨fl, w', v', e, r⟩ := ih (w ++ [Cu.hm ps k (1 - s.1)]) (some (sv (Cu.hm ps k (1 - s.1)))) (W.snoc hs hn hin) (by rw [List.length_append, List.length_singleton]; omega)
        refine ⟨fl, w', v', ?_, r⟩
        rw [← e]
        have hap : appendAV (.loc h.length) [sv (Cu.hm ps k (1 - s.1))] (h ++ [.list (w.map sv)]) = .ok .none (h ++ [.list ((w ++ [Cu.hm ps k (1 - s.1)]).map sv)]) := by
          rw [append_ok get_new (by rw [List.length_map]; unfold sizeLim; omega), set_new, List.map_append]; rfl
        simp only [b_way_from_1, ss_cons, ss_nil, s_asg, s_iff, s_expr, x_append, x_call, x_cmp, x_sub, x_neg, x_int, x_loc, x_bin, xs_cons, xs_nil, List.set, loc0, locS, okO_some, bok, sok, negAV_int, hL, tk_get hb' hn, hsub, b_sub, hseat, turn_next, in_list get_new, decide_eq_false hin, boolO_some, cond_f, isList_ok get_new, if_true, hap]

theorem run_way_from (hp : Prog.has p "seat_of" d_seat_of) (hp2 : Prog.has p "way_from" d_way_from) {a b m : Nat} {ps : List Seat} {t : Tk} {ep : Nat} (s0 : Seat) (hl : ps.length ≤ 1000) (ha : h[a]? = some (.list (ps.map sv))) (hb : h[b]? = some (.dict (tk t) ep)) (I : Cu.Inv ps t m) (hm : m ≤ ps.length) :
    ∃ w, semF p (n + 2) "way_from" [.loc a, .loc b, sv s0] h = .ok (.loc h.length) (h ++ [.list (w.map sv)]) ∧ Way ps t s0 w ∧ ((∀ s, w[w.length - 1]? = some s → t.lookup s = none) ∨ Closed ps t w) := by
  obtain ⟨F, hF, e⟩ := run_at (n := n + 1) (h := h) hp2 (as := [.loc a, .loc b, sv s0]) rfl
  obtain ⟨fl, w, v, e2, W, hw⟩ := way_loop (n := n) (s0 := s0) hp hl ha hb I hm (F := F) F [s0] none (Way.one ps t s0) (by have := I.len; simp; omega)
  refine ⟨w, ?_, W, ?_⟩
  · rw [e]
    simp only [d_way_from, ss_cons, ss_nil, s_asg, s_whil, s_ret, x_list, xs_cons, xs_nil, x_loc, List.map_cons, List.map_nil, List.cons_append, List.nil_append, List.replicate, List.set, loc0, locS, okO_some, bok, sok, turn_next, newList_ok (vs := [sv s0]) (by show 1 ≤ sizeLim; decide)]
    have e2' := e2
    rw [List.map_cons, List.map_nil] at e2'
    rw [e2']
    rcases hw with ⟨rfl, _⟩ | ⟨rfl, _⟩
    · simp only [turn_next, loc0, locS, okO_some, sok, turn_ret, retR_ret]
    · simp only [turn_ret, retR_ret]
  · rcases hw with ⟨_, x⟩ | ⟨_, x⟩
    · exact .inl x
    · exact .inr x

theorem run_put_along (hp : Prog.has p "put_along" d_put_along) {b c m : Nat} {ps : List Seat} {t : Tk} {ep : Nat} {w : List Seat} {r : Int} (hl : ps.length ≤ 1000) (hb : h[b]? = some (.dict (tk t) ep)) (hc : h[c]? = some (.list (w.map sv)))
    (I : Cu.Inv ps t m) (hm : m ≤ ps.length) (hr : r = 0 ∨ r = 1) (W : Way ps t (Cu.hm ps m r) w) (hop : ∀ s, w[w.length - 1]? = some s → t.lookup s = none) :
    ∃ T ep', semF p (n + 1) "put_along" [.loc b, .loc c, .int m] h = .ok .none (h.set b (.dict (tk T) ep')) ∧ Cu.Inv ps T (m + 1) := by
  obtain ⟨F, hF, e⟩ := run_at (n := n) (h := h) hp (as := [.loc b, .loc c, .int m]) rfl
  have hws := W.short
  have hwp := W.pos
  have htl := I.len
  have hwl : w.length ≤ 2000 := by omega
  have hbc : b ≠ c := ld_ne hc hb
  have hlen : ((w.map sv).length : Int) - 1 = ((w.length - 1 : Nat) : Int) := by rw [List.length_map]; omega
  obtain ⟨l', h', e2, T, ep', v', eh, el, M⟩ := forLoop_all (i := 3) (src := .rng ((w.length - 1 : Nat) : Int) 0 (-1)) (e := none) (items := rngItems ((w.length - 1 : Nat) : Int) 0 (-1))
    (body := fun l h => execSs ⟨semF p n, F⟩ b_put_along_1 l h)
    (fun k l h' => ∃ T ep' v, h' = h.set b (.dict (tk T) ep') ∧ l = [some (.loc b), some (.loc c), some (.int m), v] ∧ Mid t w (w.length - 1 - k) T)
    (fun k l h' _ => next_down (by unfold sizeLim; omega)) (fun k v l h' hv ⟨T, ep', v', eh, el, M⟩ => by
      obtain ⟨hk, rfl⟩ := down_item hv
      subst eh; subst el
      obtain ⟨j, hj⟩ : ∃ j, w.length - 1 - k = j + 1 := ⟨w.length - 1 - k - 1, by omega⟩
      have hwb : w[j + 1]? = some w[j + 1] := List.getElem?_eq_getElem (by omega)
      have hwa : w[j]? = some w[j] := List.getElem?_eq_getElem (by omega)
      obtain ⟨x, hx, _⟩ := W.step j _ _ hwa hwb
      rw [hj] at M
      obtain ⟨hTa, M'⟩ := M.step W hop hwa hwb hx
      have hc' : (h.set b (.dict (tk T) ep'))[c]? = some (.list (w.map sv)) := get_other hc hbc
      have hb' : (h.set b (.dict (tk T) ep'))[b]? = some (.dict (tk T) ep') := get_set hb
      have s1 : subAV (.loc c) (.int ((j + 1 : Nat) : Int)) (h.set b (.dict (tk T) ep')) = .ok (sv w[j + 1]) (h.set b (.dict (tk T) ep')) := sub_list (by rw [List.length_map]; unfold sizeLim; omega) hc' (by omega) (at_map (by rw [← hwb]; congr 1))
      have s2 : subAV (.loc c) (.int (((j + 1 : Nat) : Int) - 1)) (h.set b (.dict (tk T) ep')) = .ok (sv w[j]) (h.set b (.dict (tk T) ep')) := sub_list (by rw [List.length_map]; unfold sizeLim; omega) hc' (by omega) (at_map (by rw [← hwa]; congr 1; omega))
      have hTl : T.length < sizeLim := by have := M.len; unfold sizeLim; split at this <;> omega
      obtain ⟨ep2, hset⟩ := set_dict (v := .int (x : Nat)) hb' (sv_key w[j + 1]) tk_sort (by rw [tk, mk_length]; exact hTl)
      refine ⟨_, _, ?_, put T w[j + 1] x, ep2, some (.int ((w.length - 1 - k : Nat) : Int)), rfl, rfl, ?_⟩
      · rw [hj]
        simp only [b_put_along_1, ss_cons, ss_nil, s_set, x_sub, x_loc, x_bin, x_int, List.set, loc0, locS, okO_some, bok, sok, b_sub, s1, s2, tk_get hb' hTa, hset, heapO_some, turn_next, tk_put, set_set]
      · rw [show w.length - 1 - (k + 1) = j by omega]
        exact M') (f := F) (l := [some (.loc b), some (.loc c), some (.int m), none]) (h := h) (by rw [down_length]; omega) ⟨t, ep, none, (set_same hb).symm, rfl, Mid.start I⟩
  rw [down_length, show w.length - 1 - (w.length - 1) = 0 by omega] at M
  subst eh; subst el
  have hc' : (h.set b (.dict (tk T) ep'))[c]? = some (.list (w.map sv)) := get_other hc hbc
  have hb' : (h.set b (.dict (tk T) ep'))[b]? = some (.dict (tk T) ep') := get_set hb
  have s1 : subAV (.loc c) (.int 0) (h.set b (.dict (tk T) ep')) = .ok (sv (Cu.hm ps m r)) (h.set b (.dict (tk T) ep')) := sub_list (by rw [List.length_map]; unfold sizeLim; omega) hc' (by omega) (at_map W.head)
  have hTl : T.length < sizeLim := by have := M.len; unfold sizeLim; split at this <;> omega
  obtain ⟨ep2, hset⟩ := set_dict (v := .int (m : Nat)) hb' (sv_key (Cu.hm ps m r)) tk_sort (by rw [tk, mk_length]; exact hTl)
  refine ⟨put T (Cu.hm ps m r) m, ep2, ?_, M.done I hr W hop⟩
  rw [e]
  simp only [d_put_along, ss_cons, ss_nil, s_for, s_set, x_range, x_bi, x_bin, x_neg, x_int, x_loc, x_sub, xs_cons, xs_nil, List.map_cons, List.map_nil, List.cons_append, List.nil_append, List.replicate, loc0, locS, okO_some, bok, sok, negAV_int, len_list hc, b_sub, hlen, range_down (show w.length - 1 ≤ 1000 by omega), epoch_rng, e2, turn_next, s1, hset, heapO_some, retR_next, tk_put, set_set]
end
end Mine

namespace Mine
open PySem Cu

noncomputable def b_crowded_1 : Ss :=
  (.cons (.setitem (.loc 3) (.sub (.loc 0) (.loc 5)) (.bool true))
  .nil)
noncomputable def b_crowded_2 : Ss :=
  (.cons (.forr 5 (.loc 4) b_crowded_1)
  .nil)
noncomputable def d_crowded : FDef := ⟨3, 6,
  (.cons (.asg 3 (.dict1 (.loc 2) (.bool true)))
  (.cons (.forr 4 (.loc 1) b_crowded_2)
  (.cons (.ret (.bi .sorted (.cons (.loc 3) .nil)))
  .nil)))⟩
noncomputable def b_seated_1 : Ss :=
  (.cons (.comp 3 ⟨(.call "way_from" (.cons (.loc 0) (.cons (.loc 1) (.cons (.call "seat_of" (.cons (.loc 0) (.cons (.loc 2) (.cons (.loc 7) .nil)))) .nil)))), 1, 7, (.tup (.cons (.int 0) (.cons (.int 1) .nil))), .nil⟩)
  (.cons (.comp 4 ⟨(.loc 7), 1, 7, (.loc 3), (.cons (.cmp .notin (.sub (.loc 7) (.neg (.int 1))) (.loc 1)) .nil)⟩)
  (.cons (.iff (.cmp .eq (.loc 4) (.list .nil))
    (.cons (.ret (.tup (.cons (.str [110, 111]) (.cons (.call "crowded" (.cons (.loc 1) (.cons (.loc 3) (.cons (.loc 2) .nil)))) .nil))))
    .nil)
    .nil)
  (.cons (.expr (.call "put_along" (.cons (.loc 1) (.cons (.sub (.loc 4) (.int 0)) (.cons (.loc 2) .nil)))))
  .nil))))
noncomputable def b_seated_2 : Ss :=
  (.cons (.setitem (.loc 5) (.sub (.loc 1) (.loc 6)) (.sub (.loc 6) (.int 0)))
  .nil)
noncomputable def d_seated : FDef := ⟨1, 7,
  (.cons (.asg 1 .dict0)
  (.cons (.forr 2 (.range (.cons (.bi .len (.cons (.loc 0) .nil)) .nil)) b_seated_1)
  (.cons (.asg 5 (.bin .mul (.list (.cons (.int 0) .nil)) (.bi .len (.cons (.loc 0) .nil))))
  (.cons (.forr 6 (.loc 1) b_seated_2)
  (.cons (.ret (.tup (.cons (.str [121, 101, 115]) (.cons (.loc 5) .nil))))
  .nil)))))⟩

noncomputable def kn (n : Nat) : Key := .int n
theorem kn_inj (a b : Nat) (h : kn a = kn b) : a = b := by simp only [kn, Key.int.injEq] at h; omega
abbrev Nk := List (Nat × Unit)
noncomputable def nk (t : Nk) : List (Key × AV) := mk kn (fun _ => .bool true) t
theorem nk_keys : ∀ t : Nk, intKeys (nk t) = some (t.map fun p => (p.1 : Int))
  | [] => rfl
  | (n, u) :: t => by
    show (intKeys (nk t)).map (fun is => (n : Int) :: is) = _
    rw [nk_keys t]; rfl

section
variable {p : Prog} {n : Nat} {h : AHeap}

theorem crowd_inner {F : Nat} {b c m u : Nat} {t : Tk} {ep ep0 : Nat} {w : List Seat} {C : Nk} {v5 : Option AV} (hb : h[b]? = some (.dict (tk t) ep)) (hu : h[u]? = some (.list (w.map sv))) (hw : ∀ s ∈ w, ∃ k, t.lookup s = some k) (hwl : w.length ≤ 2000) (nd : (C.map (·.1)).Nodup) (hC : C.length ≤ 3000) (hF : 50000 ≤ F) :
    ∃ C' ep' v', forLoop 5 (fun l h => execSs ⟨semF p n, F⟩ b_crowded_1 l h) (.loc u) none F 0 [some (.loc b), some (.loc c), some (.int m), some (.loc h.length), some (.loc u), v5] (h ++ [.dict (nk C) ep0]) =
        .ok .next [some (.loc b), some (.loc c), some (.int m), some (.loc h.length), some (.loc u), v'] (h ++ [.dict (nk C') ep']) ∧ (C'.map (·.1)).Nodup ∧ C'.length ≤ C.length + w.length ∧
      ∀ k, k ∈ C'.map (·.1) ↔ k ∈ C.map (·.1) ∨ ∃ s ∈ w, t.lookup s = some k := by
  obtain ⟨l', h', e, C', ep', v', eh, el, nd', hl', hk⟩ := forLoop_all (i := 5) (src := .loc u) (e := none) (items := w.map sv) (body := fun l h => execSs ⟨semF p n, F⟩ b_crowded_1 l h)
    (fun k l h' => ∃ C' ep' v, h' = h ++ [.dict (nk C') ep'] ∧ l = [some (.loc b), some (.loc c), some (.int m), some (.loc h.length), some (.loc u), v] ∧ (C'.map (·.1)).Nodup ∧ C'.length ≤ C.length + k ∧
      ∀ x, x ∈ C'.map (·.1) ↔ x ∈ C.map (·.1) ∨ ∃ s ∈ w.take k, t.lookup s = some x)
    (fun k l h' ⟨C', ep', v, eh, _⟩ => by subst eh; exact next_list (keep_new _ _ _ _ hu)) (fun k v l h' hv ⟨C', ep', v', eh, el, nd', hl', hk⟩ => by
      subst eh; subst el
      rw [List.getElem?_map] at hv
      obtain ⟨s, hs, rfl⟩ := Option.map_eq_some_iff.mp hv
      obtain ⟨hkl, hse⟩ := List.getElem?_eq_some_iff.mp hs
      obtain ⟨x, hx⟩ := hw s (List.mem_of_getElem? hs)
      have hg := tk_get (keep_new h (.dict (nk C') ep') _ _ hb) hx
      obtain ⟨ep2, hset⟩ := set_dict (h := h ++ [.dict (nk C') ep']) (n := h.length) (x := nk C') (ep := ep') (kv := .int (x : Nat)) (v := .bool true) (k := kn x) get_new rfl (mk_sort (fun _ _ => rfl)) (by rw [nk, mk_length]; unfold sizeLim; omega)
      refine ⟨_, _, ?_, put C' x (), ep2, some (sv s), rfl, rfl, put_nodup nd', ?_, ?_⟩
      · simp only [b_crowded_1, ss_cons, ss_nil, s_set, x_bool, x_loc, x_sub, List.set, loc0, locS, okO_some, bok, sok, hg, hset, heapO_some, turn_next, set_new]
        rw [show dictPut (nk C') (kn x) (.bool true) = nk (put C' x ()) from mk_put kn_inj]
      · rw [put_length]; split <;> omega
      · intro y
        rw [put_keys]
        have hs' : ∀ P : Seat → Prop, (∃ s' ∈ w.take (k + 1), P s') ↔ (∃ s' ∈ w.take k, P s') ∨ P s := fun P => by
          rw [List.take_add_one, hs, Option.toList_some]
          simp only [List.mem_append, List.mem_singleton]
          constructor
          · rintro ⟨s', h1 | rfl, h2⟩
            · exact .inl ⟨s', h1, h2⟩
            · exact .inr h2
          · rintro (⟨s', h1, h2⟩ | h2)
            · exact ⟨s', .inl h1, h2⟩
            · exact ⟨s, .inr rfl, h2⟩
        rw [hs']
        have hxy : t.lookup s = some y ↔ y = x := by rw [hx, Option.some.injEq, eq_comm]
        rw [hxy, ← or_assoc, ← hk]
        split
        · rename_i hm
          constructor
          · exact fun q => .inl q
          · rintro (q | rfl)
            · exact q
            · exact hm
        · rw [List.mem_append, List.mem_singleton]) (f := F) (l := [some (.loc b), some (.loc c), some (.int m), some (.loc h.length), some (.loc u), v5]) (h := h ++ [.dict (nk C) ep0])
    (by rw [List.length_map]; omega) ⟨C, ep0, v5, rfl, rfl, nd, by omega, by simp⟩
  rw [List.length_map] at hl' hk
  rw [List.take_of_length_le (Nat.le_refl _)] at hk
  subst eh; subst el
  exact ⟨C', ep', v', e, nd', hl', hk⟩

theorem run_crowded (hp : Prog.has p "crowded" d_crowded) {b c m u v : Nat} {t : Tk} {ep : Nat} {w0 w1 : List Seat} (hb : h[b]? = some (.dict (tk t) ep)) (hc : h[c]? = some (.list [.loc u, .loc v])) (hu : h[u]? = some (.list (w0.map sv))) (hv : h[v]? = some (.list (w1.map sv)))
    (h0 : ∀ s ∈ w0, ∃ k, t.lookup s = some k) (h1 : ∀ s ∈ w1, ∃ k, t.lookup s = some k) (hl0 : w0.length ≤ 1100) (hl1 : w1.length ≤ 1100) (hlt : ∀ s k, t.lookup s = some k → k < m) (hm : m < 63) :
    ∃ (ks : List Nat) (zs : List Int) (o : AObj), semF p (n + 1) "crowded" [.loc b, .loc c, .int m] h = .ok (.loc (h.length + 1)) (h ++ [o, .list (zs.map .int)]) ∧ zs.Pairwise (· < ·) ∧ zs.length = ks.length ∧ (∀ z, z ∈ zs ↔ ∃ k ∈ ks, z = (k : Int)) ∧
      ∀ k, k ∈ ks ↔ k = m ∨ ∃ s, (s ∈ w0 ∨ s ∈ w1) ∧ t.lookup s = some k := by
  obtain ⟨F, hF, e⟩ := run_at (n := n) (h := h) hp (as := [.loc b, .loc c, .int m]) rfl
  obtain ⟨f, rfl⟩ : ∃ f, F = f + 3 := ⟨F - 3, by omega⟩
  obtain ⟨C1, ep1, v1, e1, nd1, hc1, hk1⟩ := crowd_inner (p := p) (n := n) (F := f + 3) (c := c) (m := m) (ep0 := 1) (C := [(m, ())]) (v5 := none) hb hu h0 (by omega) (by simp) (by simp) hF
  obtain ⟨C2, ep2, v2, e2, nd2, hc2, hk2⟩ := crowd_inner (p := p) (n := n) (F := f + 3) (c := c) (m := m) (ep0 := ep1) (C := C1) (v5 := v1) hb hv h1 (by omega) nd1 (by simp at hc1; omega) hF
  have hdict : dict1 (AV.int (m : Nat)).key? (.bool true) h = .ok (.loc h.length) (h ++ [.dict (nk [(m, ())]) 1]) := rfl
  have hit : ∀ (o : AObj) (k : Nat), nextAt (.loc c) none k (h ++ [o]) = some ([.loc u, .loc v] : List AV)[k]? := fun o k => next_list (keep_new _ _ _ _ hc)
  have hep : epochOf (.loc c) (h ++ [.dict (nk [(m, ())]) 1]) = none := epoch_list (keep_new _ _ _ _ hc)
  have hepu : ∀ o, epochOf (.loc u) (h ++ [o]) = none := fun o => epoch_list (keep_new _ _ _ _ hu)
  have hepv : ∀ o, epochOf (.loc v) (h ++ [o]) = none := fun o => epoch_list (keep_new _ _ _ _ hv)
  have hloop : forLoop 4 (fun l h => execSs ⟨semF p n, f + 3⟩ b_crowded_2 l h) (.loc c) none (f + 3) 0 [some (.loc b), some (.loc c), some (.int m), some (.loc h.length), none, none] (h ++ [.dict (nk [(m, ())]) 1]) =
      .ok .next [some (.loc b), some (.loc c), some (.int m), some (.loc h.length), some (.loc v), v2] (h ++ [.dict (nk C2) ep2]) := by
    rw [forLoop, hit]
    simp only [List.getElem?_cons_zero, List.set, b_crowded_2, ss_cons, ss_nil, s_for, x_loc, loc0, locS, okO_some, sok, hepu, e1, turn_next]
    rw [forLoop, hit]
    simp only [List.getElem?_cons_succ, List.getElem?_cons_zero, List.set, b_crowded_2, ss_cons, ss_nil, s_for, x_loc, loc0, locS, okO_some, sok, hepv, e2, turn_next]
    rw [forLoop, hit]
    rfl
  have hC2 : C2.length < 64 := by
    have hle : (C2.map (·.1)).length ≤ (List.range (m + 1)).length := card_le nd2 fun x hx => by
      rw [List.mem_range]
      rcases (hk2 x).mp hx with hx | ⟨s, _, hs⟩
      · rcases (hk1 x).mp hx with hx | ⟨s, _, hs⟩
        · simp at hx; omega
        · have := hlt s x hs; omega
      · have := hlt s x hs; omega
    rw [List.length_map, List.length_range] at hle
    omega
  have hsort : biAV .sorted [.loc h.length] (h ++ [.dict (nk C2) ep2]) = .ok (.loc (h.length + 1)) (h ++ [.dict (nk C2) ep2, .list (((C2.map fun p => (p.1 : Int)).mergeSort fun a b => decide (a ≤ b)).map .int)]) := by
    simp only [biAV, sortedAV, dictAt_of get_new, nk_keys, Option.bind_some, sortZ, List.length_map]
    rw [if_pos hC2]
    simp only [newListO]
    rw [newList_ok (by rw [List.length_map, List.length_mergeSort, List.length_map]; simp at hc1; unfold sizeLim; omega)]
    simp
  refine ⟨C2.map (·.1), (C2.map fun p => (p.1 : Int)).mergeSort fun a b => decide (a ≤ b), .dict (nk C2) ep2, ?_, ?_, ?_, ?_, ?_⟩
  · rw [e]
    simp only [d_crowded, ss_cons, ss_nil, s_asg, s_for, s_ret, x_dict1, x_bool, x_bi, x_loc, xs_cons, xs_nil, List.map_cons, List.map_nil, List.cons_append, List.nil_append, List.replicate, List.set, loc0, locS, okO_some, bok, sok, hdict, turn_next, hep, hloop, hsort, turn_ret, retR_ret]
  · have hs : ((C2.map fun p => (p.1 : Int)).mergeSort fun a b => decide (a ≤ b)).Pairwise (fun a b => decide (a ≤ b) = true) := List.pairwise_mergeSort (fun a b c h1 h2 => by simp at h1 h2 ⊢; omega) (fun a b => by simp; omega) _
    have hnd : ((C2.map fun p => (p.1 : Int)).mergeSort fun a b => decide (a ≤ b)).Nodup := by
      rw [(List.mergeSort_perm _ _).nodup_iff]
      have : C2.map (fun p => (p.1 : Int)) = (C2.map (·.1)).map (fun k : Nat => (k : Int)) := by simp
      rw [this]
      exact List.pairwise_map.mpr (List.Pairwise.imp (fun hne => by omega) nd2)
    exact List.Pairwise.imp₂ (fun a b h1 h2 => by simp at h1; omega) hs hnd
  · rw [List.length_mergeSort, List.length_map, List.length_map]
  · intro z
    rw [(List.mergeSort_perm _ _).mem_iff]
    simp only [List.mem_map]
    constructor
    · rintro ⟨q, hq, rfl⟩; exact ⟨q.1, ⟨q, hq, rfl⟩, rfl⟩
    · rintro ⟨k, ⟨q, hq, rfl⟩, rfl⟩; exact ⟨q, hq, rfl⟩
  · intro k
    rw [hk2, hk1]
    simp only [List.map_cons, List.map_nil, List.mem_singleton, or_assoc]
    constructor
    · rintro (q | ⟨s, hs, hx⟩ | ⟨s, hs, hx⟩)
      · exact .inl q
      · exact .inr ⟨s, .inl hs, hx⟩
      · exact .inr ⟨s, .inr hs, hx⟩
    · rintro (q | ⟨s, hs | hs, hx⟩)
      · exact .inl q
      · exact .inr (.inl ⟨s, hs, hx⟩)
      · exact .inr (.inr ⟨s, hs, hx⟩)

theorem comp2 {body : AV → AHeap → Res (Option AV)} {src x y : AV} {e : Option (Nat × Nat)} {h h1 h2 : AHeap} {r1 r2 : Option AV} {F : Nat} (hF : 50000 ≤ F) (n0 : nextAt src e 0 h = some (some x)) (n1 : nextAt src e 1 h1 = some (some y)) (n2 : nextAt src e 2 h2 = some none)
    (b1 : body x h = .ok r1 h1) (b2 : body y h1 = .ok r2 h2) : compLoop body src e F 0 [] h = .ok (r1.toList ++ r2.toList) h2 := by
  obtain ⟨f, rfl⟩ : ∃ f, F = f + 3 := ⟨F - 3, by omega⟩
  rw [compLoop, n0]
  simp only [b1, bok]
  cases r1 with
  | none =>
    simp only
    rw [compLoop, n1]
    simp only [b2, bok]
    cases r2 with
    | none => simp only; rw [compLoop, n2]; rfl
    | some z => simp only; rw [if_pos (by show 0 < sizeLim; decide), compLoop, n2]; rfl
  | some q =>
    simp only
    rw [if_pos (by show 0 < sizeLim; decide), compLoop, n1]
    simp only [b2, bok]
    cases r2 with
    | none => simp only; rw [compLoop, n2]; rfl
    | some z => simp only; rw [if_pos (by show 1 < sizeLim; decide), compLoop, n2]; rfl
theorem eq_nil {h : AHeap} {n m : Nat} {xs : List AV} (hn : h[n]? = some (.list xs)) (hm : h[m]? = some (.list [])) : cmpAV h .eq (.loc n) (.loc m) = some (decide (xs = [])) := by
  have e : cmpAV h .eq (.loc n) (.loc m) = eqL (eqv h 5) (listAt h n) (listAt h m) := rfl
  rw [e, listAt_of hn, listAt_of hm]
  cases xs with
  | nil => rfl
  | cons x xs => simp [eqL]
end
end Mine

namespace Mine
open PySem Cu

noncomputable def YesOk (ps : List Seat) (rows : List Int) : Prop := rows.length = ps.length ∧ ∃ t, Cu.Inv ps t ps.length ∧ ∀ k, k < ps.length → ∃ r, rows[k]? = some r ∧ (r = 0 ∨ r = 1) ∧ t.lookup (Cu.hm ps k r) = some k
noncomputable def NoOk (ps : List Seat) (zs : List Int) : Prop := zs.Pairwise (· < ·) ∧ zs.length ≤ 3000 ∧ (∀ z ∈ zs, 0 ≤ z ∧ z < ps.length) ∧ ∀ P : List Seat, P.Nodup → (∀ s ∈ P, ∃ z ∈ zs, s = Cu.hm ps z.toNat 0 ∨ s = Cu.hm ps z.toNat 1) → P.length < zs.length
noncomputable def yesT : List Nat := [121, 101, 115]
noncomputable def noT : List Nat := [110, 111]
/-- what seated tells -/
noncomputable def Told (ps : List Seat) (h : AHeap) (v : AV) (h' : AHeap) : Prop :=
  Keep h h' ∧ ∃ r, h[r]? = none ∧ ((∃ rows : List Int, v = .tup [.str yesT, .loc r] ∧ h'[r]? = some (.list (rows.map .int)) ∧ YesOk ps rows) ∨ (∃ zs : List Int, v = .tup [.str noT, .loc r] ∧ h'[r]? = some (.list (zs.map .int)) ∧ NoOk ps zs))

section
variable {p : Prog} {n : Nat} {h : AHeap}

theorem ec_nil {c : Ctx} {l : Locs} : evalConds c .nil l h = .ok true h := rfl
theorem ec_one {c : Ctx} {l : Locs} {x : X} {b : Bool} {h' : AHeap} (e : evalX c x l h = .ok (.bool b) h') : evalConds c (.cons x .nil) l h = .ok b h' := by
  show ((evalX c x l h).bind fun v h => match v with | .bool b => if b then .ok true h else .ok false h | _ => .bad) = _
  rw [e]
  cases b <;> rfl
theorem cb_t {c : Ctx} {l : Locs} {x : X} {cs : Xs} {h1 h2 : AHeap} {v : AV} (e : evalConds c cs l h = .ok true h1) (e2 : evalX c x l h1 = .ok v h2) : compBody c x cs l h = .ok (some v) h2 := by
  simp only [compBody, e, bok, e2, if_true]
theorem cb_f {c : Ctx} {l : Locs} {x : X} {cs : Xs} {h1 : AHeap} (e : evalConds c cs l h = .ok false h1) : compBody c x cs l h = .ok none h1 := by
  simp only [compBody, e, bok]; rfl

theorem seat_step (hp1 : Prog.has p "seat_of" d_seat_of) (hp2 : Prog.has p "way_from" d_way_from) (hp3 : Prog.has p "put_along" d_put_along) (hp4 : Prog.has p "crowded" d_crowded) {a b k : Nat} {ps : List Seat} {t : Tk} {ep : Nat} {v3 v4 v5 v6 : Option AV} {F : Nat} (hF : 50000 ≤ F)
    (hl : ps.length ≤ 1000) (hl2 : ps.length ≤ 62) (ha : h[a]? = some (.list (ps.map sv))) (hb : h[b]? = some (.dict (tk t) ep)) (I : Cu.Inv ps t k) (hk : k < ps.length) :
    (∃ T ep' h' x3 x4, execSs ⟨semF p (n + 2), F⟩ b_seated_1 [some (.loc a), some (.loc b), some (.int k), v3, v4, v5, v6] h = .ok .next [some (.loc a), some (.loc b), some (.int k), x3, x4, v5, v6] h' ∧ h'[b]? = some (.dict (tk T) ep') ∧ Cu.Inv ps T (k + 1) ∧ (∀ i o, i ≠ b → h[i]? = some o → h'[i]? = some o)) ∨
    (∃ v l' h', execSs ⟨semF p (n + 2), F⟩ b_seated_1 [some (.loc a), some (.loc b), some (.int k), v3, v4, v5, v6] h = .ok (.ret v) l' h' ∧ Told ps h v h') := by
  -- the two ways
  have s0 := run_seat_of (n := n + 1) hp1 hl ha hk (r := 0) (.inl rfl)
  obtain ⟨w0, e0, W0, c0⟩ := run_way_from (n := n) hp1 hp2 (Cu.hm ps k 0) hl ha hb I (Nat.le_of_lt hk)
  generalize hH1 : h ++ [.list (w0.map sv)] = h1 at e0
  have k1 : Keep h h1 := by rw [← hH1]; exact keep_new _ _
  have u1 : h1[h.length]? = some (.list (w0.map sv)) := by rw [← hH1]; exact get_new
  have s1 := run_seat_of (n := n + 1) hp1 hl (k1 _ _ ha) hk (r := 1) (.inr rfl)
  obtain ⟨w1, e1, W1, c1⟩ := run_way_from (n := n) (h := h1) hp1 hp2 (Cu.hm ps k 1) hl (k1 _ _ ha) (k1 _ _ hb) I (Nat.le_of_lt hk)
  generalize hH2 : h1 ++ [.list (w1.map sv)] = h2 at e1
  have k2 : Keep h1 h2 := by rw [← hH2]; exact keep_new _ _
  have u2 : h2[h1.length]? = some (.list (w1.map sv)) := by rw [← hH2]; exact get_new
  have hws0 := W0.short
  have hws1 := W1.short
  have htl := I.len
  generalize hL : ([some (.loc a), some (.loc b), some (.int (k : Int)), v3, v4, v5, v6] : Locs) = L
  have hb0 : compBody ⟨semF p (n + 2), F⟩ (.call "way_from" (.cons (.loc 0) (.cons (.loc 1) (.cons (.call "seat_of" (.cons (.loc 0) (.cons (.loc 2) (.cons (.loc 7) .nil)))) .nil)))) .nil (inner L 1 7 (.int 0)) h = .ok (some (.loc h.length)) h1 := by
    refine cb_t ec_nil ?_
    subst hL
    simp only [x_call, xs_cons, xs_nil, x_loc, inner, List.replicate, List.cons_append, List.nil_append, List.set, loc0, locS, okO_some, bok, s0, e0]
  have hb1 : compBody ⟨semF p (n + 2), F⟩ (.call "way_from" (.cons (.loc 0) (.cons (.loc 1) (.cons (.call "seat_of" (.cons (.loc 0) (.cons (.loc 2) (.cons (.loc 7) .nil)))) .nil)))) .nil (inner L 1 7 (.int 1)) h1 = .ok (some (.loc h1.length)) h2 := by
    refine cb_t ec_nil ?_
    subst hL
    simp only [x_call, xs_cons, xs_nil, x_loc, inner, List.replicate, List.cons_append, List.nil_append, List.set, loc0, locS, okO_some, bok, s1, e1]
  have hcomp1 := comp2 (body := fun v h => compBody ⟨semF p (n + 2), F⟩ (.call "way_from" (.cons (.loc 0) (.cons (.loc 1) (.cons (.call "seat_of" (.cons (.loc 0) (.cons (.loc 2) (.cons (.loc 7) .nil)))) .nil)))) .nil (inner L 1 7 v) h) (F := F) hF (src := .tup [.int 0, .int 1]) (e := none) next_tup next_tup next_tup hb0 hb1
  simp only [Option.toList_some, List.cons_append, List.nil_append] at hcomp1
  generalize hH3 : h2 ++ [.list [.loc h.length, .loc h1.length]] = h3
  have k3 : Keep h2 h3 := by rw [← hH3]; exact keep_new _ _
  have u3 : h3[h2.length]? = some (.list [.loc h.length, .loc h1.length]) := by rw [← hH3]; exact get_new
  have kh3 : Keep h h3 := k1.trans (k2.trans k3)
  have hn1 : newList [.loc h.length, .loc h1.length] h2 = .ok (.loc h2.length) h3 := by rw [newList_ok (by show 2 ≤ sizeLim; decide), hH3]
  have g0 : h3[h.length]? = some (.list (w0.map sv)) := k3 _ _ (k2 _ _ u1)
  have g1 : h3[h1.length]? = some (.list (w1.map sv)) := k3 _ _ u2
  -- which are open
  have look : ∀ (i : Nat) (w : List Seat) (s : Seat) (L' : Locs), h3[i]? = some (.list (w.map sv)) → w[w.length - 1]? = some s → w.length ≤ 2000 →
      evalX ⟨semF p (n + 2), F⟩ (.cmp .notin (.sub (.loc 7) (.neg (.int 1))) (.loc 1)) (inner [some (.loc a), some (.loc b), some (.int (k : Int)), some (.loc h2.length), v4, v5, v6] 1 7 (.loc i)) h3 = .ok (.bool (!(t.lookup s).isSome)) h3 := by
    intro i w s L' hi hs hwl
    simp only [x_cmp, x_sub, x_neg, x_int, x_loc, inner, List.replicate, List.cons_append, List.nil_append, List.set, loc0, locS, okO_some, bok, negAV_int, last_sub hwl hi hs, tk_notin (kh3 _ _ hb), boolO_some]
  have turn : ∀ (i : Nat) (w : List Seat) (s0 : Seat), h3[i]? = some (.list (w.map sv)) → Way ps t s0 w → w.length ≤ 2000 → ((∀ s, w[w.length - 1]? = some s → t.lookup s = none) ∨ Closed ps t w) →
      ∃ r, compBody ⟨semF p (n + 2), F⟩ (.loc 7) (.cons (.cmp .notin (.sub (.loc 7) (.neg (.int 1))) (.loc 1)) .nil) (inner [some (.loc a), some (.loc b), some (.int (k : Int)), some (.loc h2.length), v4, v5, v6] 1 7 (.loc i)) h3 = .ok r h3 ∧
        ((r = some (.loc i) ∧ ∀ s, w[w.length - 1]? = some s → t.lookup s = none) ∨ (r = none ∧ Closed ps t w)) := by
    intro i w s0 hi W hwl hc
    obtain ⟨s, hs⟩ : ∃ s, w[w.length - 1]? = some s := ⟨_, List.getElem?_eq_getElem (by have := W.pos; omega)⟩
    have lk := look i w s [] hi hs hwl
    rcases hc with ho | hcl
    · rw [ho s hs] at lk
      refine ⟨_, cb_t (ec_one lk) ?_, .inl ⟨rfl, ho⟩⟩
      rfl
    · obtain ⟨s', x, e', hx, _⟩ := id hcl
      rw [hs] at e'; cases e'
      rw [hx] at lk
      exact ⟨_, cb_f (ec_one lk), .inr ⟨rfl, hcl⟩⟩
  obtain ⟨r0, q0, d0⟩ := turn _ w0 _ g0 W0 (by omega) c0
  obtain ⟨r1, q1, d1⟩ := turn _ w1 _ g1 W1 (by omega) c1
  have hcomp2 := comp2 (body := fun v h => compBody ⟨semF p (n + 2), F⟩ (.loc 7) (.cons (.cmp .notin (.sub (.loc 7) (.neg (.int 1))) (.loc 1)) .nil) (inner [some (.loc a), some (.loc b), some (.int (k : Int)), some (.loc h2.length), v4, v5, v6] 1 7 v) h) (F := F) hF (src := .loc h2.length) (e := none) (x := .loc h.length) (y := .loc h1.length) (next_list u3) (next_list u3) (next_list u3) q0 q1
  generalize hgl : r0.toList ++ r1.toList = gl at hcomp2
  have hgll : gl.length ≤ 2 := by rw [← hgl]; cases r0 <;> cases r1 <;> simp
  generalize hH4 : h3 ++ [.list gl] = h4
  have k4 : Keep h3 h4 := by rw [← hH4]; exact keep_new _ _
  have u4 : h4[h3.length]? = some (.list gl) := by rw [← hH4]; exact get_new
  have hn2 : newList gl h3 = .ok (.loc h3.length) h4 := by rw [newList_ok (by unfold sizeLim; omega), hH4]
  generalize hH5 : h4 ++ [.list []] = h5
  have k5 : Keep h4 h5 := by rw [← hH5]; exact keep_new _ _
  have u5 : h5[h4.length]? = some (.list []) := by rw [← hH5]; exact get_new
  have hn3 : newList [] h4 = .ok (.loc h4.length) h5 := by rw [newList_ok (by show 0 ≤ sizeLim; decide), hH5]
  have kh5 : Keep h h5 := kh3.trans (k4.trans k5)
  have hcmp := eq_nil (k5 _ _ u4) u5
  have hep3 : epochOf (.loc h2.length) h3 = none := epoch_list u3
  have pre : ∀ (X : SR → Prop), X ((condS (.bool (decide (gl = []))) (execSs ⟨semF p (n + 2), F⟩ (.cons (.ret (.tup (.cons (.str [110, 111]) (.cons (.call "crowded" (.cons (.loc 1) (.cons (.loc 3) (.cons (.loc 2) .nil)))) .nil)))) .nil) [some (.loc a), some (.loc b), some (.int (k : Int)), some (.loc h2.length), some (.loc h3.length), v5, v6] h5) (.ok .next [some (.loc a), some (.loc b), some (.int (k : Int)), some (.loc h2.length), some (.loc h3.length), v5, v6] h5)).turn
        fun l h => execSs ⟨semF p (n + 2), F⟩ (.cons (.expr (.call "put_along" (.cons (.loc 1) (.cons (.sub (.loc 4) (.int 0)) (.cons (.loc 2) .nil))))) .nil) l h) → X (execSs ⟨semF p (n + 2), F⟩ b_seated_1 L h) := by
    intro X hX
    rw [b_seated_1, ss_cons, s_comp, x_cp]
    simp only [x_tup, xs_cons, xs_nil, x_int, bok, tup2, sok, epoch_tup, hcomp1, hn1]
    rw [turn_next, ss_cons, s_comp, x_cp]
    subst hL
    simp only [List.set, x_loc, loc0, locS, okO_some, bok, sok, hep3, hcomp2, hn2]
    rw [turn_next, ss_cons, s_iff]
    simp only [List.set, x_cmp, x_list, x_loc, xs_nil, loc0, locS, okO_some, bok, hn3, hcmp, boolO_some, sok, ss_nil]
    exact hX
  -- the way that is taken
  have go : ∀ (i : Nat) (w : List Seat) (r : Int), gl ≠ [] → gl[0]? = some (.loc i) → h3[i]? = some (.list (w.map sv)) → (r = 0 ∨ r = 1) → Way ps t (Cu.hm ps k r) w → (∀ s, w[w.length - 1]? = some s → t.lookup s = none) →
      ∃ T ep' h' x3 x4, execSs ⟨semF p (n + 2), F⟩ b_seated_1 L h = .ok .next [some (.loc a), some (.loc b), some (.int k), x3, x4, v5, v6] h' ∧ h'[b]? = some (.dict (tk T) ep') ∧ Cu.Inv ps T (k + 1) ∧ (∀ i o, i ≠ b → h[i]? = some o → h'[i]? = some o) := by
    intro i w r hne hg hi hr W hop
    have hi5 := k5 _ _ (k4 _ _ hi)
    obtain ⟨T, ep', hrun, I'⟩ := run_put_along (n := n + 1) (h := h5) hp3 hl (kh5 _ _ hb) hi5 I (Nat.le_of_lt hk) hr W hop
    refine ⟨T, ep', h5.set b (.dict (tk T) ep'), some (.loc h2.length), some (.loc h3.length), ?_, get_set (kh5 _ _ hb), I', fun j o hj e => get_other (kh5 _ _ e) (Ne.symm hj)⟩
    refine pre (fun z => z = _) ?_
    have hsub : subAV (.loc h3.length) (.int 0) h5 = .ok (.loc i) h5 := sub_list (by unfold sizeLim; omega) (k5 _ _ u4) (by omega) hg
    rw [decide_eq_false hne, cond_f, turn_next]
    simp only [ss_cons, ss_nil, s_expr, x_call, xs_cons, xs_nil, x_loc, x_sub, x_int, loc0, locS, okO_some, bok, hsub, hrun, sok, turn_next]
  rcases d0 with ⟨rfl, o0⟩ | ⟨rfl, cl0⟩
  · rw [Option.toList_some] at hgl
    exact .inl (go h.length w0 0 (by rw [← hgl]; simp) (by rw [← hgl]; rfl) g0 (.inl rfl) W0 o0)
  · rcases d1 with ⟨rfl, o1⟩ | ⟨rfl, cl1⟩
    · rw [Option.toList_none, Option.toList_some, List.nil_append] at hgl
      exact .inl (go h1.length w1 1 (by rw [← hgl]; simp) (by rw [← hgl]; rfl) g1 (.inr rfl) W1 o1)
    · simp only [Option.toList_none, List.nil_append] at hgl
      subst hgl
      obtain ⟨ks, zs, o, hrun, hz1, hz2, hz3, hks⟩ := run_crowded (n := n + 1) (m := k) (h := h5) hp4 (kh5 _ _ hb) (k5 _ _ (k4 _ _ u3)) (k5 _ _ (k4 _ _ g0)) (k5 _ _ (k4 _ _ g1)) (fun s hs => let ⟨x, hx, _⟩ := cl0.taken W0 hs; ⟨x, hx⟩) (fun s hs => let ⟨x, hx, _⟩ := cl1.taken W1 hs; ⟨x, hx⟩) (by omega) (by omega) (fun s x hx => (I.home s x hx).1) (by omega)
      have hlt : ∀ x ∈ ks, x ≤ k := fun x hx => by
        rcases (hks x).mp hx with rfl | ⟨s, _, hs⟩
        · exact Nat.le_refl _
        · have := (I.home s x hs).1; omega
      right
      refine ⟨.tup [.str noT, .loc (h5.length + 1)], [some (.loc a), some (.loc b), some (.int (k : Int)), some (.loc h2.length), some (.loc h3.length), v5, v6], h5 ++ [o, .list (zs.map .int)], ?_, ?_⟩
      · refine pre (fun z => z = _) ?_
        rw [decide_eq_true rfl, cond_t]
        simp only [ss_cons, ss_nil, s_ret, x_tup, x_str, x_call, xs_cons, xs_nil, x_loc, loc0, locS, okO_some, bok, hrun, tup2, sok, turn_ret]
        rfl
      · have kk : Keep h (h5 ++ [o, .list (zs.map .int)]) := fun i o' e => by
          have e5 := kh5 _ _ e
          rw [List.getElem?_append_left (get_lt e5)]; exact e5
        refine ⟨kk, h5.length + 1, ?_, .inr ⟨zs, rfl, by simp, hz1, ?_, ?_, ?_⟩⟩
        · rw [List.getElem?_eq_none_iff]
          have : h.length ≤ h5.length := by
            rw [← hH5, ← hH4, ← hH3, ← hH2, ← hH1]; simp only [List.length_append]; omega
          omega
        · have h1 : zs.length ≤ k + 1 := by
            have : (List.range (k + 1)).length = k + 1 := List.length_range
            rw [hz2, ← this]
            have hnd : ks.Nodup ∨ True := .inr trivial
            have hzn : zs.Nodup := hz1.imp (fun hlt => by omega)
            have := card_le (l := zs) (l' := (List.range (k + 1)).map fun (x : Nat) => (x : Int)) hzn (fun z hz => by
              obtain ⟨x, hx, rfl⟩ := (hz3 z).mp hz
              exact List.mem_map.mpr ⟨x, List.mem_range.mpr (by have := hlt x hx; omega), rfl⟩)
            rw [List.length_map] at this
            rw [← hz2]; exact this
          omega
        · intro z hz
          obtain ⟨x, hx, rfl⟩ := (hz3 z).mp hz
          have := hlt x hx
          omega
        · intro P nd hP
          rw [hz2]
          refine crowd I W0 W1 cl0 cl1 hks nd fun s hs => ?_
          obtain ⟨z, hz, e⟩ := hP s hs
          obtain ⟨x, hx, rfl⟩ := (hz3 z).mp hz
          rw [Int.toNat_natCast] at e
          exact ⟨x, hx, e⟩
end
end Mine

namespace Mine
open PySem Cu

theorem Told.of {ps : List Seat} {h h1 h' : AHeap} {v : AV} (k : Keep h h1) (x : Told ps h1 v h') : Told ps h v h' := by
  obtain ⟨k', r, hr, x⟩ := x
  refine ⟨k.trans k', r, ?_, x⟩
  cases e : h[r]? with
  | none => rfl
  | some o => rw [k r o e] at hr; cases hr

section
variable {p : Prog} {n : Nat} {h : AHeap}

theorem rows_loop {F : Nat} (hF : 50000 ≤ F) {a b r : Nat} {ps : List Seat} {T : Tk} {ep : Nat} {v2 v3 v4 : Option AV} (hl : ps.length ≤ 1000) (hb : h[b]? = some (.dict (tk T) ep)) (hr : h[r]? = some (.list (List.replicate ps.length (.int 0)))) (I : Cu.Inv ps T ps.length) :
    ∃ rows v6, forLoop 6 (fun l h => execSs ⟨semF p n, F⟩ b_seated_2 l h) (.loc b) (some (ep, (tk T).length)) F 0 [some (.loc a), some (.loc b), v2, v3, v4, some (.loc r), none] h =
        .ok .next [some (.loc a), some (.loc b), v2, v3, v4, some (.loc r), v6] (h.set r (.list (rows.map .int))) ∧ YesOk ps rows := by
  have hbr : r ≠ b := fun e => by subst e; rw [hb] at hr; cases hr
  have hlen := I.len
  have hkeys : (tk T).map (fun p => p.1.av) = T.map fun p => sv p.1 := by
    simp only [tk, mk, List.map_map]; rfl
  obtain ⟨l', h', e, rows, v6, eh, el, hrl, hrow⟩ := forLoop_all (i := 6) (src := .loc b) (e := some (ep, (tk T).length)) (items := T.map fun p => sv p.1) (body := fun l h => execSs ⟨semF p n, F⟩ b_seated_2 l h)
    (fun k l h' => ∃ rows v6, h' = h.set r (.list (rows.map .int)) ∧ l = [some (.loc a), some (.loc b), v2, v3, v4, some (.loc r), v6] ∧ rows.length = ps.length ∧ ∀ (j : Nat) (q : Seat × Nat), j < k → T[j]? = some q → rows[q.2]? = some q.1.1)
    (fun k l h' ⟨rows, v6, eh, _⟩ => by subst eh; rw [next_dict (get_other hb hbr), hkeys]) (fun k v l h' hv ⟨rows, v6, eh, el, hrl, hrow⟩ => by
      subst eh; subst el
      rw [List.getElem?_map] at hv
      obtain ⟨⟨s, m⟩, hs, rfl⟩ := Option.map_eq_some_iff.mp hv
      have hlk := lookup_of_mem I.nd (List.mem_of_getElem? hs)
      have hm := (I.home s m hlk).1
      have hb' : (h.set r (.list (rows.map .int)))[b]? = some (.dict (tk T) ep) := get_other hb hbr
      have hset := set_list (v := .int s.1) (k := m) (get_set hr (o' := .list (rows.map .int))) (by rw [List.length_map]; omega)
      have hsub : subAV (sv s) (.int 0) (h.set r (.list (rows.map .int))) = .ok (.int s.1) (h.set r (.list (rows.map .int))) := rfl
      refine ⟨_, _, ?_, rows.set m s.1, some (sv s), rfl, rfl, by rw [List.length_set]; exact hrl, ?_⟩
      · simp only [b_seated_2, ss_cons, ss_nil, s_set, x_sub, x_loc, x_int, List.set, loc0, locS, okO_some, bok, sok, hsub, tk_get hb' hlk, hset, heapO_some, turn_next, set_set, List.map_set]
      · intro j q hj hq
        by_cases hjk : j = k
        · subst hjk
          rw [hs] at hq; cases hq
          rw [List.getElem?_set_self (by omega)]
        · have hold := hrow j q (by omega) hq
          by_cases hqm : q.2 = m
          · have hlq := lookup_of_mem I.nd (List.mem_of_getElem? hq)
            have hqs : q.1 = s := I.inj _ _ m (by rw [← hqm]; exact hlq) hlk
            rw [hqm, List.getElem?_set_self (by omega), hqs]
          · rw [List.getElem?_set_ne (Ne.symm hqm)]; exact hold) (f := F) (l := [some (.loc a), some (.loc b), v2, v3, v4, some (.loc r), none]) (h := h) (by rw [List.length_map]; omega)
    ⟨List.replicate ps.length 0, none, by rw [List.map_replicate, set_same hr], rfl, by simp, fun j q hj => absurd hj (by omega)⟩
  subst eh; subst el
  refine ⟨rows, v6, e, hrl, T, I, fun k hk => ?_⟩
  obtain ⟨s, hs⟩ := I.full hk
  obtain ⟨j, hj, ej⟩ := List.getElem_of_mem hs
  have hlk := lookup_of_mem I.nd hs
  have := hrow j (s, k) (by rw [List.length_map]; exact hj) (by rw [List.getElem?_eq_getElem hj, ej])
  exact ⟨s.1, this, I.row hlk, by rw [← I.self hlk]; exact hlk⟩

theorem run_seated (hp1 : Prog.has p "seat_of" d_seat_of) (hp2 : Prog.has p "way_from" d_way_from) (hp3 : Prog.has p "put_along" d_put_along) (hp4 : Prog.has p "crowded" d_crowded) (hp5 : Prog.has p "seated" d_seated) {a : Nat} {ps : List Seat} (hl2 : ps.length ≤ 62) (ha : h[a]? = some (.list (ps.map sv))) :
    ∃ v h', semF p (n + 3) "seated" [.loc a] h = .ok v h' ∧ Told ps h v h' := by
  obtain ⟨F, hF, e⟩ := run_at (n := n + 2) (h := h) hp5 (as := [.loc a]) rfl
  have hl : ps.length ≤ 1000 := by omega
  have hfresh : h[h.length]? = none := List.getElem?_eq_none (Nat.le_refl _)
  have hloop := forLoop_inv (i := 2) (src := .rng 0 (ps.length : Nat) 1) (e := none) (items := rngItems 0 (ps.length : Nat) 1) (body := fun l h => execSs ⟨semF p (n + 2), F⟩ b_seated_1 l h)
    (fun k l hq => Keep h hq ∧ ∃ T ep v2 v3 v4, hq[h.length]? = some (.dict (tk T) ep) ∧ Cu.Inv ps T k ∧ l = [some (.loc a), some (.loc h.length), v2, v3, v4, none, none]) (fun v h' => Told ps h v h')
    (fun k l hq _ => next_rng (by unfold sizeLim; omega)) (fun k v l hq hv ⟨kq, T, ep, v2, v3, v4, hb, I, el⟩ => by
      obtain ⟨hk, rfl⟩ := up_item hv
      subst el
      rcases seat_step (n := n) (h := hq) (v3 := v3) (v4 := v4) (v5 := none) (v6 := none) hp1 hp2 hp3 hp4 hF hl hl2 (kq _ _ ha) hb I hk with ⟨T', ep', h', x3, x4, e1, hb', I', kk⟩ | ⟨v, l', h', e1, ht⟩
      · refine ⟨_, _, _, e1, .inl ⟨rfl, fun i o ho => ?_, T', ep', _, x3, x4, hb', I', rfl⟩⟩
        exact kk i o (by rintro rfl; rw [hfresh] at ho; cases ho) (kq i o ho)
      · exact ⟨_, _, _, e1, .inr ⟨v, rfl, ht.of kq⟩⟩) F 0 [some (.loc a), some (.loc h.length), none, none, none, none, none] (h ++ [.dict [] 0]) (by rw [up_length]; omega) (by omega)
    ⟨keep_new _ _, [], 0, none, none, none, get_new, Inv.nil ps, rfl⟩
  have hlenA : ∀ hq : AHeap, Keep h hq → biAV .len [.loc a] hq = .ok (.int (ps.length : Nat)) hq := fun hq k => by rw [len_list (k _ _ ha), List.length_map]
  have hpre : semF p (n + 3) "seated" [.loc a] h = retR ((forLoop 2 (fun l h => execSs ⟨semF p (n + 2), F⟩ b_seated_1 l h) (.rng 0 (ps.length : Nat) 1) none F 0 [some (.loc a), some (.loc h.length), none, none, none, none, none] (h ++ [.dict [] 0])).turn fun l h => execSs ⟨semF p (n + 2), F⟩
      (.cons (.asg 5 (.bin .mul (.list (.cons (.int 0) .nil)) (.bi .len (.cons (.loc 0) .nil)))) (.cons (.forr 6 (.loc 1) b_seated_2) (.cons (.ret (.tup (.cons (.str [121, 101, 115]) (.cons (.loc 5) .nil)))) .nil))) l h) := by
    rw [e]
    simp only [d_seated, ss_cons, ss_nil, s_asg, s_for, x_dict0, x_range, x_bi, x_loc, xs_cons, xs_nil, List.map_cons, List.map_nil, List.cons_append, List.nil_append, List.replicate, List.set, loc0, locS, okO_some, bok, sok, turn_next, hlenA _ (keep_new _ _), range_up hl, epoch_rng]
  rcases hloop with ⟨l', hq, e1, kq, T, ep, v2, v3, v4, hb, I, el⟩ | ⟨v, l', hq, e1, ht⟩
  · rw [up_length] at I
    subst el
    generalize hH1 : hq ++ [.list [.int 0]] = h1
    have k1 : Keep hq h1 := by rw [← hH1]; exact keep_new _ _
    have hn1 : newList [.int 0] hq = .ok (.loc hq.length) h1 := by rw [newList_ok (by show 1 ≤ sizeLim; decide), hH1]
    generalize hH2 : h1 ++ [.list (List.replicate ps.length (.int 0))] = h2
    have k2 : Keep h1 h2 := by rw [← hH2]; exact keep_new _ _
    have u2 : h2[h1.length]? = some (.list (List.replicate ps.length (.int 0))) := by rw [← hH2]; exact get_new
    have hmul : binAV .mul (.loc hq.length) (.int (ps.length : Nat)) h1 = .ok (.loc h1.length) h2 := by
      have hg : listAt h1 hq.length = some [.int 0] := listAt_of (by rw [← hH1]; exact get_new)
      simp only [binAV, isMul, if_true, hg, repL]
      rw [if_pos ⟨by omega, by unfold sizeLim; omega⟩]
      simp only [newListO, Int.toNat_natCast]
      rw [newList_ok (by rw [List.length_replicate]; unfold sizeLim; omega), hH2]
    obtain ⟨rows, v6, e2, hy⟩ := rows_loop (p := p) (n := n + 2) (a := a) (v2 := v2) (v3 := v3) (v4 := v4) hF hl (k2 _ _ (k1 _ _ hb)) u2 I
    have kk := kq.trans (k1.trans k2)
    have hr0 : h[h1.length]? = none := by
      rw [List.getElem?_eq_none_iff]
      have h1 : h.length < hq.length := get_lt hb
      rw [← hH1]; simp; omega
    refine ⟨.tup [.str yesT, .loc h1.length], h2.set h1.length (.list (rows.map .int)), ?_, keep_set kk hr0, h1.length, hr0, .inl ⟨rows, rfl, get_set u2, hy⟩⟩
    rw [hpre, e1, turn_next]
    simp only [ss_cons, ss_nil, s_asg, s_for, s_ret, x_bin, x_list, x_bi, x_int, x_loc, x_tup, x_str, xs_cons, xs_nil, List.set, loc0, locS, okO_some, bok, sok, hn1, hlenA _ (kq.trans k1), hmul, turn_next, epoch_dict (k2 _ _ (k1 _ _ hb)), e2, tup2, turn_ret, retR_ret]
    rfl
  · refine ⟨v, hq, ?_, ht⟩
    rw [hpre, e1, turn_ret, retR_ret]
end
end Mine

namespace Mine
open PySem Cu

/-! places met, each once -/
noncomputable def pk (s : Seat) : List Int := [s.1, s.2]
theorem pk_inj {a b : Seat} (h : pk a = pk b) : a = b := by
  cases a; cases b
  have h1 := (List.cons.inj h).1
  have h2 := (List.cons.inj (List.cons.inj h).2).1
  exact Prod.ext h1 h2
noncomputable def addS (seen : List Seat) (s : Seat) : List Seat := if s ∈ seen then seen else seen ++ [s]
theorem addNew_pk {seen : List Seat} {s : Seat} : addNew (seen.map pk) (pk s) = (addS seen s).map pk := by
  unfold addNew addS
  by_cases h : s ∈ seen
  · rw [if_pos h, if_pos (List.mem_map.mpr ⟨s, h, rfl⟩)]
  · rw [if_neg h, if_neg fun q => h (by obtain ⟨x, hx, e⟩ := List.mem_map.mp q; rw [← pk_inj e]; exact hx), List.map_append]; rfl
theorem fold_pk : ∀ {qs seen : List Seat}, (qs.map pk).foldl addNew (seen.map pk) = (qs.foldl addS seen).map pk
  | [], _ => rfl
  | q :: qs, seen => by rw [List.map_cons, List.foldl_cons, addNew_pk, fold_pk]; rfl
theorem fold_nodup : ∀ {qs seen : List Seat}, seen.Nodup → (qs.foldl addS seen).Nodup
  | [], _, h => h
  | q :: qs, seen, h => fold_nodup (qs := qs) (by
    unfold addS
    split
    · exact h
    · rename_i hq
      rw [List.nodup_append]
      exact ⟨h, List.pairwise_singleton _ _, fun a ha b hb e => hq (by rw [← List.mem_singleton.mp hb, ← e]; exact ha)⟩)
theorem fold_mem {x : Seat} : ∀ {qs seen : List Seat}, x ∈ qs.foldl addS seen ↔ x ∈ seen ∨ x ∈ qs
  | [], _ => by rw [List.foldl_nil]; exact ⟨.inl, fun h => h.elim id fun h => nomatch h⟩
  | q :: qs, seen => by
    rw [List.foldl_cons, fold_mem, List.mem_cons, ← or_assoc]
    have : x ∈ addS seen q ↔ x ∈ seen ∨ x = q := by
      unfold addS
      split
      · rename_i hq
        exact ⟨.inl, fun h => h.elim id fun e => by rw [e]; exact hq⟩
      · rw [List.mem_append, List.mem_singleton]
    rw [this]
theorem nodup_of_card : ∀ (qs u : List Seat), u.Nodup → (∀ x ∈ u, x ∈ qs) → qs.length ≤ u.length → qs.Nodup
  | [], _, _, _, _ => List.nodup_nil
  | q :: qs, u, nd, hs, hl => by
    rw [List.length_cons] at hl
    refine List.nodup_cons.mpr ⟨fun hm => ?_, nodup_of_card qs (u.erase q) (nd.erase q) (fun x hx => ?_) ?_⟩
    · have := card_le nd fun x hx => (List.mem_cons.mp (hs x hx)).elim (fun e => by rw [e]; exact hm) id
      omega
    · rw [nd.mem_erase_iff] at hx
      exact (List.mem_cons.mp (hs x hx.2)).resolve_left hx.1
    · rw [List.length_erase]; split <;> omega
/-- each once: as many as there are, just where none is met twice -/
theorem once_iff {qs : List Seat} : (qs.foldl addS []).length = qs.length ↔ qs.Nodup := by
  have nd : (qs.foldl addS []).Nodup := fold_nodup List.nodup_nil
  have hm : ∀ x, x ∈ qs.foldl addS [] ↔ x ∈ qs := fun x => by rw [fold_mem]; exact ⟨fun h => h.elim (fun h => nomatch h) id, .inr⟩
  constructor
  · exact fun h => nodup_of_card qs _ nd (fun x hx => (hm x).mp hx) (Nat.le_of_eq h.symm)
  · exact fun h => Nat.le_antisymm (card_le nd fun x hx => (hm x).mp hx) (card_le h fun x hx => (hm x).mpr hx)
theorem keys_sv : ∀ qs : List Seat, pairKeys (qs.map sv) = some (qs.map pk)
  | [] => rfl
  | q :: qs => by
    have : pairKeys ((q :: qs).map sv) = match some (pk q), pairKeys (qs.map sv) with | some k, some ks => some (k :: ks) | _, _ => none := rfl
    rw [this, keys_sv qs]; rfl
theorem lenset_ok {h : AHeap} {n : Nat} {qs : List Seat} (hn : h[n]? = some (.list (qs.map sv))) (hl : qs.length ≤ 18) : lenSetAV (.loc n) h = .ok (.int ((qs.foldl addS []).length : Nat)) h := by
  have e : lenSetAV (.loc n) h = lenSetO ((listAt h n).bind pairKeys) h := rfl
  rw [e, listAt_of hn, Option.bind_some, keys_sv]
  have e2 : (qs.map pk).foldl addNew [] = (qs.foldl addS []).map pk := fold_pk (seen := [])
  show (if (qs.map pk).length ≤ 18 then Res.ok (AV.int (((qs.map pk).foldl addNew []).length : Nat)) h else .bad) = _
  rw [List.length_map, if_pos hl, e2, List.length_map]

/-! a comprehension over a range -/
theorem comp_range {c : Ctx} {p : CP} {l : Locs} {h : AHeap} {m : Nat} (hm : m ≤ 1000) (hF : 50000 ≤ c.fuel) (hit : evalX c p.it l h = .ok (.rng 0 m 1) h) (hcs : p.cs = .nil) (J : Nat → AHeap → Prop) (J0 : J 0 h) (g : Nat → AV)
    (hbody : ∀ i h', i < m → J i h' → ∃ h'', evalX c p.e (inner l p.k p.j (.int i)) h' = .ok (g i) h'' ∧ J (i + 1) h'') :
    ∃ h', evalCP c p l h = .ok (.loc h'.length) (h' ++ [.list ((List.range m).map g)]) ∧ J m h' := by
  obtain ⟨a, h', e, ⟨ea, hJ⟩, _⟩ := compLoop_all (body := fun v h => compBody c p.e p.cs (inner l p.k p.j v) h) (src := .rng 0 m 1) (e := none) (items := rngItems 0 m 1) (fun k a h' => a = (List.range k).map g ∧ J k h')
    (fun k a h' _ => next_rng (by unfold sizeLim; omega)) (fun k v a h' hv ⟨ea, hJ⟩ => by
      obtain ⟨hk, rfl⟩ := up_item hv
      obtain ⟨h'', e1, hJ'⟩ := hbody k h' hk hJ
      refine ⟨some (g k), h'', ?_, ?_, hJ'⟩
      · rw [hcs]
        exact cb_t ec_nil e1
      · rw [ea, List.range_succ, List.map_append]; rfl) (by rw [up_length]; exact hm) c.fuel 0 [] h (by rw [up_length]; omega) (by omega) (by exact Nat.le_refl _) ⟨rfl, J0⟩
  rw [up_length] at ea hJ
  subst ea
  refine ⟨h', ?_, hJ⟩
  rw [x_cp, hit, bok, epoch_rng, e, bok, newList_ok (by rw [List.length_map, List.length_range]; unfold sizeLim; omega)]

noncomputable def d__law_places : FDef := ⟨2, 2,
  (.cons (.retc ⟨(.tup (.cons (.sub (.loc 1) (.loc 2)) (.cons (.sub (.sub (.loc 0) (.loc 2)) (.sub (.loc 1) (.loc 2))) .nil))), 1, 2, (.range (.cons (.bi .len (.cons (.loc 0) .nil)) .nil)), .nil⟩)
  .nil)⟩
noncomputable def d__law_unlike : FDef := ⟨1, 1,
  (.cons (.ret (.cmp .eq (.lenset (.loc 0)) (.bi .len (.cons (.loc 0) .nil))))
  .nil)⟩

/-- a row for each -/
noncomputable def RowsOk (ps : List Seat) (rows : List Int) : Prop := rows.length = ps.length ∧ ∀ r ∈ rows, r = 0 ∨ r = 1
noncomputable def placeAt (ps : List Seat) (rows : List Int) (k : Nat) : Seat := Cu.hm ps k (rows.getD k 0)
noncomputable def placesOf (ps : List Seat) (rows : List Int) : List Seat := (List.range ps.length).map (placeAt ps rows)

section
variable {p : Prog} {n : Nat} {h : AHeap}

theorem run_places (hp : Prog.has p "_law_places" d__law_places) {a b : Nat} {ps : List Seat} {rows : List Int} (hl : ps.length ≤ 18) (ha : h[a]? = some (.list (ps.map sv))) (hb : h[b]? = some (.list (rows.map .int))) (ho : RowsOk ps rows) :
    semF p (n + 1) "_law_places" [.loc a, .loc b] h = .ok (.loc h.length) (h ++ [.list ((placesOf ps rows).map sv)]) := by
  obtain ⟨F, hF, e⟩ := run_at (n := n) (h := h) hp (as := [.loc a, .loc b]) rfl
  rw [e]
  have hlen : biAV .len [.loc a] h = .ok (.int (ps.length : Nat)) h := by rw [len_list ha, List.length_map]
  obtain ⟨h', e1, rfl⟩ := comp_range (c := ⟨semF p n, F⟩) (p := ⟨(.tup (.cons (.sub (.loc 1) (.loc 2)) (.cons (.sub (.sub (.loc 0) (.loc 2)) (.sub (.loc 1) (.loc 2))) .nil))), 1, 2, (.range (.cons (.bi .len (.cons (.loc 0) .nil)) .nil)), .nil⟩) (l := [some (.loc a), some (.loc b)]) (h := h) (m := ps.length)
    (by omega) hF (by simp only [x_range, x_bi, xs_cons, xs_nil, x_loc, loc0, locS, okO_some, bok, hlen, range_up (show ps.length ≤ 1000 by omega)]) rfl (fun _ h' => h' = h) rfl (fun k => sv (placeAt ps rows k)) (fun k h' hk eh => ⟨h, by
      subst eh
      have hr : k < rows.length := by rw [ho.1]; exact hk
      have s1 : subAV (.loc a) (.int k) h' = .ok (sv ps[k]) h' := sub_list (by rw [List.length_map]; unfold sizeLim; omega) ha (by omega) (at_map (by simp [hk]))
      have s2 : subAV (.loc b) (.int k) h' = .ok (.int (rows.getD k 0)) h' := sub_list (by rw [List.length_map, ho.1]; unfold sizeLim; omega) hb (by omega) (by rw [List.getElem?_map, Int.toNat_natCast, List.getElem?_eq_getElem hr, List.getD_eq_getElem?_getD, List.getElem?_eq_getElem hr]; rfl)
      have hrow : rows.getD k 0 = 0 ∨ rows.getD k 0 = 1 := by
        rw [List.getD_eq_getElem?_getD, List.getElem?_eq_getElem hr]
        exact ho.2 _ (List.getElem_mem hr)
      have s3 : subAV (sv ps[k]) (.int (rows.getD k 0)) h' = .ok (.int (placeAt ps rows k).2) h' := by
        unfold placeAt
        rcases hrow with q | q <;> rw [q] <;> simp [sv, Cu.hm, hk, sub_t0, sub_t1]
      simp only [x_tup, x_sub, xs_cons, xs_nil, x_loc, inner, List.replicate, List.cons_append, List.nil_append, List.set, loc0, locS, okO_some, bok, s1, s2, s3, tup2]
      rfl, rfl⟩)
  have e2 : (List.range ps.length).map (fun k => sv (placeAt ps rows k)) = (placesOf ps rows).map sv := by
    unfold placesOf; rw [List.map_map]; rfl
  rw [e2] at e1
  show retR ((execS ⟨semF p n, F⟩ (.retc _) [some (.loc a), some (.loc b)] h').turn _) = _
  rw [s_retc, e1]
  rfl

theorem run_unlike (hp : Prog.has p "_law_unlike" d__law_unlike) {a : Nat} {qs : List Seat} (hl : qs.length ≤ 18) (ha : h[a]? = some (.list (qs.map sv))) : semF p (n + 1) "_law_unlike" [.loc a] h = .ok (.bool (decide qs.Nodup)) h := by
  obtain ⟨F, hF, e⟩ := run_at (n := n) (h := h) hp (as := [.loc a]) rfl
  rw [e]
  have hlen : biAV .len [.loc a] h = .ok (.int (qs.length : Nat)) h := by rw [len_list ha, List.length_map]
  simp only [d__law_unlike, ss_cons, s_ret, x_cmp, x_lenset, x_bi, xs_cons, xs_nil, x_loc, List.map_cons, List.map_nil, List.cons_append, List.nil_append, loc0, okO_some, bok, lenset_ok ha hl, hlen, c_eqi, boolO_some, sok, turn_ret, retR_ret]
  congr 2
  rw [decide_eq_decide, ← once_iff]
  omega
end
end Mine

namespace Mine
open PySem Cu

/-! a code for each choice of rows -/
noncomputable def pws : List Int := [1, 2, 4, 8, 16, 32, 64]
noncomputable def bitI (code k : Nat) : Int := ((code : Int).fdiv (pws.getD k 1)).fmod 2
theorem pws_is : ∀ k, k < 7 → pws[k]? = some ((2 ^ k : Nat) : Int) := by decide
theorem bitI_is {code k : Nat} (hk : k < 7) : bitI code k = ((code / 2 ^ k % 2 : Nat) : Int) := by
  unfold bitI
  rw [List.getD_eq_getElem?_getD, pws_is k hk, Option.getD_some, Int.fdiv_eq_ediv_of_nonneg _ (Int.natCast_nonneg _), Int.fmod_eq_emod_of_nonneg _ (by decide)]
  rfl
noncomputable def codeOf : List Int → Nat
  | [] => 0
  | r :: rs => r.toNat + 2 * codeOf rs
theorem code_at : ∀ (rows : List Int), (∀ r ∈ rows, r = 0 ∨ r = 1) → codeOf rows < 2 ^ rows.length ∧ ∀ (k : Nat) (r : Int), rows[k]? = some r → ((codeOf rows / 2 ^ k % 2 : Nat) : Int) = r
  | [], _ => ⟨by decide, fun k r h => by cases h⟩
  | r :: rs, h => by
    obtain ⟨h1, h2⟩ := code_at rs fun x hx => h x (.tail _ hx)
    have hr : r.toNat < 2 ∧ (r.toNat : Int) = r := by rcases h r (.head _) with e | e <;> rw [e] <;> decide
    unfold codeOf
    refine ⟨?_, fun k x hx => ?_⟩
    · rw [List.length_cons, Nat.pow_succ]; omega
    · cases k with
      | zero =>
        cases hx
        rw [Nat.pow_zero, Nat.div_one]
        have : (r.toNat + 2 * codeOf rs) % 2 = r.toNat := by omega
        rw [this]; exact hr.2
      | succ k =>
        have e : (r.toNat + 2 * codeOf rs) / 2 = codeOf rs := by omega
        rw [Nat.pow_succ', ← Nat.div_div_eq_div_mul, e]
        exact h2 k x hx
noncomputable def bitsOf (m code : Nat) : List Int := (List.range m).map (bitI code)
theorem bits_ok {ps : List Seat} {code : Nat} : RowsOk ps (bitsOf ps.length code) := by
  refine ⟨by unfold bitsOf; rw [List.length_map, List.length_range], fun r hr => ?_⟩
  obtain ⟨k, _, rfl⟩ := List.mem_map.mp hr
  have := fmod_bound ((code : Int).fdiv (pws.getD k 1)) (m := 2) (by decide)
  unfold bitI
  omega
theorem code_there {ps : List Seat} {rows : List Int} (h7 : ps.length ≤ 7) (h : RowsOk ps rows) : ∃ code, code < 128 ∧ bitsOf ps.length code = rows := by
  obtain ⟨h1, h2⟩ := code_at rows h.2
  have hp : 2 ^ rows.length ≤ 2 ^ 7 := Nat.pow_le_pow_right (by decide) (by rw [h.1]; exact h7)
  refine ⟨codeOf rows, by omega, List.ext_getElem? fun k => ?_⟩
  unfold bitsOf
  rw [List.getElem?_map]
  rcases Nat.lt_or_ge k rows.length with q | q
  · rw [List.getElem?_range (by rw [← h.1]; exact q), Option.map_some, bitI_is (by rw [h.1] at q; omega), h2 k _ (List.getElem?_eq_getElem q), List.getElem?_eq_getElem q]
  · rw [List.getElem?_eq_none q, List.getElem?_eq_none (by rw [List.length_range, ← h.1]; exact q)]; rfl

/-! the plain law: rows there are, or a crowd there is -/
theorem row_at {ps : List Seat} {rows : List Int} (h : RowsOk ps rows) (k : Nat) : rows.getD k 0 = 0 ∨ rows.getD k 0 = 1 := by
  rw [List.getD_eq_getElem?_getD]
  cases e : rows[k]? with
  | none => exact .inl rfl
  | some r => exact h.2 r (List.mem_of_getElem? e)
theorem YesOk.rows {ps : List Seat} {rows : List Int} (h : YesOk ps rows) : RowsOk ps rows ∧ (placesOf ps rows).Nodup := by
  obtain ⟨h1, t, I, h2⟩ := h
  refine ⟨⟨h1, fun r hr => ?_⟩, ?_⟩
  · obtain ⟨k, hk, e⟩ := List.getElem_of_mem hr
    obtain ⟨r', e1, e2, _⟩ := h2 k (by rw [← h1]; exact hk)
    rw [List.getElem?_eq_getElem hk, e] at e1
    cases e1; exact e2
  · have at_ : ∀ k, k < ps.length → t.lookup (placeAt ps rows k) = some k := fun k hk => by
      obtain ⟨r, e1, _, e2⟩ := h2 k hk
      unfold placeAt
      rw [List.getD_eq_getElem?_getD, e1]; exact e2
    refine List.pairwise_map.mpr (List.Pairwise.imp_of_mem ?_ List.nodup_range)
    intro a b ha hb hne e
    have h1 := at_ a (List.mem_range.mp ha)
    rw [e, at_ b (List.mem_range.mp hb)] at h1
    exact hne (Option.some.inj h1).symm
theorem NoOk.none {ps : List Seat} {zs : List Int} (h : NoOk ps zs) {rows : List Int} (ho : RowsOk ps rows) : ¬ (placesOf ps rows).Nodup := fun nd => by
  obtain ⟨h1, _, h3, h4⟩ := h
  have := h4 (zs.map fun z => placeAt ps rows z.toNat) (List.pairwise_map.mpr (List.Pairwise.imp_of_mem (fun {a b} ha hb hlt e => by
    have ha' := h3 a ha
    have hb' := h3 b hb
    have hi : (placesOf ps rows)[a.toNat]? = (placesOf ps rows)[b.toNat]? := by
      unfold placesOf
      rw [List.getElem?_map, List.getElem?_map, List.getElem?_range (by omega), List.getElem?_range (by omega), Option.map_some, Option.map_some, e]
    have := (List.getElem?_inj (by unfold placesOf; rw [List.length_map, List.length_range]; omega) nd).mp hi
    omega) h1)) fun s hs => by
      obtain ⟨z, hz, rfl⟩ := List.mem_map.mp hs
      refine ⟨z, hz, ?_⟩
      unfold placeAt
      rcases row_at ho z.toNat with q | q <;> rw [q]
      · exact .inl rfl
      · exact .inr rfl
  rw [List.length_map] at this
  exact absurd this (Nat.lt_irrefl _)
theorem NoOk.short {ps : List Seat} {zs : List Int} (h : NoOk ps zs) : zs.length ≤ ps.length := by
  have := card_le (l := zs) (l' := (List.range ps.length).map fun (k : Nat) => (k : Int)) (h.1.imp fun q => by omega) fun z hz => by
    have := h.2.2.1 z hz
    exact List.mem_map.mpr ⟨z.toNat, List.mem_range.mpr (by omega), by omega⟩
  rw [List.length_map, List.length_range] at this
  exact this
noncomputable def fewOf (ps : List Seat) (zs : List Int) : List Seat := zs.flatMap fun z => [Cu.hm ps z.toNat 0, Cu.hm ps z.toNat 1]
theorem NoOk.few {ps : List Seat} {zs : List Int} (h : NoOk ps zs) : ((fewOf ps zs).foldl addS []).length < zs.length := by
  refine h.2.2.2 _ (fold_nodup List.nodup_nil) fun s hs => ?_
  rcases fold_mem.mp hs with q | q
  · cases q
  · obtain ⟨z, hz, hm⟩ := List.mem_flatMap.mp q
    refine ⟨z, hz, ?_⟩
    rcases List.mem_cons.mp hm with e | e
    · exact .inl e
    · exact .inr (List.mem_singleton.mp e)
theorem few_len {ps : List Seat} : ∀ zs : List Int, (fewOf ps zs).length = 2 * zs.length
  | [] => rfl
  | z :: zs => by
    have : fewOf ps (z :: zs) = [Cu.hm ps z.toNat 0, Cu.hm ps z.toNat 1] ++ fewOf ps zs := rfl
    rw [this, List.length_append, few_len zs, List.length_cons, List.length_cons, List.length_cons, List.length_nil]
    omega
end Mine

namespace Mine
open PySem Cu

noncomputable def x_bit : X := (.bin .mod (.bin .div (.loc 1) (.sub (.list (.cons (.int 1) (.cons (.int 2) (.cons (.int 4) (.cons (.int 8) (.cons (.int 16) (.cons (.int 32) (.cons (.int 64) .nil)))))))) (.loc 3))) (.int 2))
noncomputable def b__law_can_1 : Ss :=
  (.cons (.comp 2 ⟨x_bit, 1, 3, (.range (.cons (.bi .len (.cons (.loc 0) .nil)) .nil)), .nil⟩)
  (.cons (.iff (.call "_law_unlike" (.cons (.call "_law_places" (.cons (.loc 0) (.cons (.loc 2) .nil))) .nil))
    (.cons (.ret (.bool true))
    .nil)
    .nil)
  .nil))
noncomputable def d__law_can : FDef := ⟨1, 3,
  (.cons (.forr 1 (.range (.cons (.bin .pow (.int 2) (.int 7)) .nil)) b__law_can_1)
  (.cons (.ret (.bool false))
  .nil))⟩
noncomputable def b__law_numbers_1 : Ss :=
  (.cons (.iff (.or (.not (.isi (.loc 3) .int)) (.or (.isi (.loc 3) .bool) (.or (.cmp .lt (.loc 3) (.loc 1)) (.cmp .gt (.loc 3) (.loc 2)))))
    (.cons (.ret (.bool false))
    .nil)
    .nil)
  .nil)
noncomputable def d__law_numbers : FDef := ⟨3, 4,
  (.cons (.iff (.not (.isi (.loc 0) .list))
    (.cons (.ret (.bool false))
    .nil)
    .nil)
  (.cons (.forr 3 (.loc 0) b__law_numbers_1)
  (.cons (.ret (.bool true))
  .nil)))⟩
noncomputable def b__law_few_1 : Ss :=
  (.cons (.iff (.and (.cmp .gt (.loc 3) (.int 0)) (.cmp .ge (.sub (.loc 1) (.bin .sub (.loc 3) (.int 1))) (.sub (.loc 1) (.loc 3))))
    (.cons (.ret (.bool false))
    .nil)
    .nil)
  (.cons (.asg 2 (.bin .add (.loc 2) (.list (.cons (.tup (.cons (.int 0) (.cons (.sub (.sub (.loc 0) (.sub (.loc 1) (.loc 3))) (.int 0)) .nil))) (.cons (.tup (.cons (.int 1) (.cons (.sub (.sub (.loc 0) (.sub (.loc 1) (.loc 3))) (.int 1)) .nil))) .nil)))))
  .nil))
noncomputable def d__law_few : FDef := ⟨2, 4,
  (.cons (.asg 2 (.list .nil))
  (.cons (.forr 3 (.range (.cons (.bi .len (.cons (.loc 1) .nil)) .nil)) b__law_few_1)
  (.cons (.ret (.cmp .lt (.lenset (.loc 2)) (.bi .len (.cons (.loc 1) .nil))))
  .nil)))⟩

section
variable {p : Prog} {n : Nat} {h : AHeap}

theorem isi_int {z : Int} : isTy h (.int z) .int = some true := rfl
theorem isi_bool {z : Int} : isTy h (.int z) .bool = some false := rfl
theorem isi_tup {x : List AV} : isTy h (.tup x) .tuple = some true := rfl
theorem isi_list {r : Nat} {x : List AV} (hr : h[r]? = some (.list x)) : isTy h (.loc r) .list = some true := by
  have e : isTy h (.loc r) .list = (listAt h r).map fun _ => true := rfl
  rw [e, listAt_of hr]; rfl

/-- the rows of a code -/
theorem bits_run {c : Ctx} (hF : 50000 ≤ c.fuel) {a code : Nat} {ps : List Seat} {v2 : Option AV} (h7 : ps.length ≤ 7) (ha : h[a]? = some (.list (ps.map sv))) :
    ∃ h', evalCP c ⟨x_bit, 1, 3, (.range (.cons (.bi .len (.cons (.loc 0) .nil)) .nil)), .nil⟩ [some (.loc a), some (.int code), v2] h = .ok (.loc h'.length) (h' ++ [.list ((bitsOf ps.length code).map .int)]) ∧ Keep h h' := by
  have hlen : biAV .len [.loc a] h = .ok (.int (ps.length : Nat)) h := by rw [len_list ha, List.length_map]
  obtain ⟨h', e, k⟩ := comp_range (c := c) (p := ⟨x_bit, 1, 3, (.range (.cons (.bi .len (.cons (.loc 0) .nil)) .nil)), .nil⟩) (l := [some (.loc a), some (.int code), v2]) (h := h) (m := ps.length) (by omega) hF
    (by simp only [x_range, x_bi, xs_cons, xs_nil, x_loc, loc0, okO_some, bok, hlen, range_up (show ps.length ≤ 1000 by omega)]) rfl (fun _ h' => Keep h h') (Keep.refl h) (fun k => .int (bitI code k)) fun k h' hk kh => by
      refine ⟨h' ++ [.list (pws.map .int)], ?_, kh.trans (keep_new _ _)⟩
      have hk7 : k < 7 := by omega
      have hn : newList [.int 1, .int 2, .int 4, .int 8, .int 16, .int 32, .int 64] h' = .ok (.loc h'.length) (h' ++ [.list (pws.map .int)]) := newList_ok (by show 7 ≤ sizeLim; decide)
      have hs : subAV (.loc h'.length) (.int k) (h' ++ [.list (pws.map .int)]) = .ok (.int (pws.getD k 1)) (h' ++ [.list (pws.map .int)]) :=
        sub_list (by show 7 ≤ sizeLim; decide) get_new (by omega) (by rw [List.getElem?_map, Int.toNat_natCast, List.getD_eq_getElem?_getD, pws_is k hk7]; rfl)
      have h0 : pws.getD k 1 ≠ 0 := by
        rw [List.getD_eq_getElem?_getD, pws_is k hk7, Option.getD_some]
        have := Nat.pow_pos (n := k) (show 0 < 2 by decide)
        omega
      simp only [x_bit, x_bin, x_sub, x_list, x_int, x_loc, xs_cons, xs_nil, inner, List.replicate, List.cons_append, List.nil_append, List.set, loc0, locS, okO_some, bok, hn, hs, b_div h0, b_mod (y := 2) (by decide)]
      rfl
  refine ⟨h', ?_, k⟩
  rw [e]
  unfold bitsOf
  rw [List.map_map]; rfl

theorem run_can (hp1 : Prog.has p "_law_places" d__law_places) (hp2 : Prog.has p "_law_unlike" d__law_unlike) (hp : Prog.has p "_law_can" d__law_can) {a : Nat} {ps : List Seat} (h7 : ps.length ≤ 7) (ha : h[a]? = some (.list (ps.map sv))) :
    ∃ b h', semF p (n + 2) "_law_can" [.loc a] h = .ok (.bool b) h' ∧ Keep h h' ∧ (b = true → ∃ rows, RowsOk ps rows ∧ (placesOf ps rows).Nodup) ∧ (b = false → ∀ rows, RowsOk ps rows → ¬ (placesOf ps rows).Nodup) := by
  obtain ⟨F, hF, e⟩ := run_at (n := n + 1) (h := h) hp (as := [.loc a]) rfl
  have hpre : semF p (n + 2) "_law_can" [.loc a] h = retR ((forLoop 1 (fun l h => execSs ⟨semF p (n + 1), F⟩ b__law_can_1 l h) (.rng 0 (128 : Nat) 1) none F 0 [some (.loc a), none, none] h).turn fun l h => execSs ⟨semF p (n + 1), F⟩ (.cons (.ret (.bool false)) .nil) l h) := e
  have hloop := forLoop_inv (i := 1) (src := .rng 0 (128 : Nat) 1) (e := none) (items := rngItems 0 (128 : Nat) 1) (body := fun l h => execSs ⟨semF p (n + 1), F⟩ b__law_can_1 l h)
    (fun k l hq => Keep h hq ∧ (∃ v1 v2, l = [some (.loc a), v1, v2]) ∧ ∀ c, c < k → ¬ (placesOf ps (bitsOf ps.length c)).Nodup) (fun v h' => v = .bool true ∧ Keep h h' ∧ ∃ rows, RowsOk ps rows ∧ (placesOf ps rows).Nodup)
    (fun k l hq _ => next_rng (by decide)) (fun k v l hq hv ⟨kq, ⟨v1, v2, el⟩, hno⟩ => by
      obtain ⟨hk, rfl⟩ := up_item hv
      subst el
      obtain ⟨h1, e1, k1⟩ := bits_run (c := ⟨semF p (n + 1), F⟩) (h := hq) hF (code := k) (v2 := v2) h7 (kq _ _ ha)
      generalize hH2 : h1 ++ [.list ((bitsOf ps.length k).map .int)] = h2 at e1
      have k2 : Keep h1 h2 := by rw [← hH2]; exact keep_new _ _
      have u2 : h2[h1.length]? = some (.list ((bitsOf ps.length k).map .int)) := by rw [← hH2]; exact get_new
      have k12 := kq.trans (k1.trans k2)
      have e2 := run_places (n := n) (h := h2) hp1 (show ps.length ≤ 18 by omega) (k12 _ _ ha) u2 bits_ok
      have hpl : (placesOf ps (bitsOf ps.length k)).length ≤ 18 := by unfold placesOf; rw [List.length_map, List.length_range]; omega
      have e3 := run_unlike (n := n) (h := h2 ++ [.list ((placesOf ps (bitsOf ps.length k)).map sv)]) hp2 hpl get_new
      have k3 := k12.trans (keep_new h2 (.list ((placesOf ps (bitsOf ps.length k)).map sv)))
      have eb : execSs ⟨semF p (n + 1), F⟩ b__law_can_1 [some (.loc a), some (.int k), v2] hq = (condS (.bool (decide (placesOf ps (bitsOf ps.length k)).Nodup)) (.ok (.ret (.bool true)) [some (.loc a), some (.int k), some (.loc h1.length)] (h2 ++ [.list ((placesOf ps (bitsOf ps.length k)).map sv)]))
          (.ok .next [some (.loc a), some (.int k), some (.loc h1.length)] (h2 ++ [.list ((placesOf ps (bitsOf ps.length k)).map sv)]))).turn fun l h => .ok .next l h := by
        rw [b__law_can_1, ss_cons, s_comp, e1, sok, turn_next, ss_cons, s_iff]
        simp only [List.set, x_call, xs_cons, xs_nil, x_loc, loc0, locS, okO_some, bok, e2, e3, sok, ss_cons, ss_nil, s_ret, x_bool, turn_ret]
      by_cases hd : (placesOf ps (bitsOf ps.length k)).Nodup
      · rw [decide_eq_true hd] at eb
        exact ⟨.ret (.bool true), _, _, eb, .inr ⟨_, rfl, rfl, k3, _, bits_ok, hd⟩⟩
      · rw [decide_eq_false hd] at eb
        refine ⟨.next, _, _, eb, .inl ⟨rfl, k3, ⟨_, _, rfl⟩, fun c hc => ?_⟩⟩
        rcases Nat.lt_or_ge c k with q | q
        · exact hno c q
        · cases (show c = k by omega); exact hd) F 0 [some (.loc a), none, none] h (by rw [up_length]; omega) (by omega) ⟨Keep.refl h, ⟨_, _, rfl⟩, fun c hc => absurd hc (Nat.not_lt_zero c)⟩
  rcases hloop with ⟨l', hq, e1, kq, ⟨v1, v2, el⟩, hno⟩ | ⟨v, l', hq, e1, rfl, kq, hy⟩
  · rw [up_length] at hno
    refine ⟨false, hq, ?_, kq, fun q => (nomatch q), fun _ rows ho => ?_⟩
    · rw [hpre, e1, turn_next]; rfl
    · obtain ⟨code, hc, e⟩ := code_there h7 ho
      rw [← e]; exact hno code hc
  · exact ⟨true, hq, by rw [hpre, e1, turn_ret, retR_ret], kq, fun _ => hy, fun q => (nomatch q)⟩

theorem run_numbers (hp : Prog.has p "_law_numbers" d__law_numbers) {r : Nat} {zs : List Int} {lo hi : Int} (hr : h[r]? = some (.list (zs.map .int))) (hz : ∀ z ∈ zs, lo ≤ z ∧ z ≤ hi) (hl : zs.length ≤ 1000) :
    semF p (n + 1) "_law_numbers" [.loc r, .int lo, .int hi] h = .ok (.bool true) h := by
  obtain ⟨F, hF, e⟩ := run_at (n := n) (h := h) hp (as := [.loc r, .int lo, .int hi]) rfl
  obtain ⟨l', h', e1, rfl, v, el⟩ := forLoop_all (i := 3) (src := .loc r) (e := none) (items := zs.map .int) (body := fun l h => execSs ⟨semF p n, F⟩ b__law_numbers_1 l h)
    (fun k l h' => h' = h ∧ ∃ v, l = [some (.loc r), some (.int lo), some (.int hi), v]) (fun k l h' ⟨eh, _⟩ => by rw [eh]; exact next_list hr) (fun k v l h' hv ⟨eh, v', el⟩ => by
      subst eh; subst el
      rw [List.getElem?_map] at hv
      obtain ⟨z, hz', rfl⟩ := Option.map_eq_some_iff.mp hv
      have := hz z (List.mem_of_getElem? hz')
      refine ⟨_, _, ?_, rfl, some (.int z), rfl⟩
      simp only [b__law_numbers_1, ss_cons, ss_nil, s_iff, x_or, x_not, x_isi, x_cmp, x_loc, List.set, loc0, locS, okO_some, bok, sok, isi_int, isi_bool, boolO_some, notAV_bool, Bool.not_true, condV_f, c_lt, c_gt, decide_eq_false (show ¬ z < lo by omega), decide_eq_false (show ¬ hi < z by omega), cond_f, turn_next]) (f := F)
    (l := [some (.loc r), some (.int lo), some (.int hi), none]) (h := h) (by rw [List.length_map]; omega) ⟨rfl, none, rfl⟩
  rw [e]
  simp only [d__law_numbers, ss_cons, ss_nil, s_iff, s_for, s_ret, x_not, x_isi, x_loc, x_bool, List.map_cons, List.map_nil, List.cons_append, List.nil_append, List.replicate, loc0, locS, okO_some, bok, sok, isi_list hr, boolO_some, notAV_bool, Bool.not_true, cond_f, turn_next, epoch_list hr, e1, turn_ret, retR_ret]
end
end Mine

namespace Mine
open PySem Cu

noncomputable def d__law_right : FDef := ⟨2, 2,
  (.cons (.iff (.or (.not (.isi (.loc 0) .tuple)) (.cmp .ne (.bi .len (.cons (.loc 0) .nil)) (.int 2)))
    (.cons (.ret (.bool false))
    .nil)
    .nil)
  (.cons (.iff (.call "_law_can" (.cons (.loc 1) .nil))
    (.cons (.iff (.or (.cmp .ne (.sub (.loc 0) (.int 0)) (.str [121, 101, 115])) (.or (.not (.call "_law_numbers" (.cons (.sub (.loc 0) (.int 1)) (.cons (.int 0) (.cons (.int 1) .nil))))) (.cmp .ne (.bi .len (.cons (.sub (.loc 0) (.int 1)) .nil)) (.bi .len (.cons (.loc 1) .nil)))))
      (.cons (.ret (.bool false))
      .nil)
      .nil)
    (.cons (.ret (.call "_law_unlike" (.cons (.call "_law_places" (.cons (.loc 1) (.cons (.sub (.loc 0) (.int 1)) .nil))) .nil)))
    .nil))
    .nil)
  (.cons (.ret (.and (.cmp .eq (.sub (.loc 0) (.int 0)) (.str [110, 111])) (.and (.call "_law_numbers" (.cons (.sub (.loc 0) (.int 1)) (.cons (.int 0) (.cons (.bin .sub (.bi .len (.cons (.loc 1) .nil)) (.int 1)) .nil)))) (.call "_law_few" (.cons (.loc 1) (.cons (.sub (.loc 0) (.int 1)) .nil))))))
  .nil)))⟩

section
variable {p : Prog} {n : Nat} {h : AHeap}

theorem c_yes : cmpAV h .ne (.str yesT) (.str [121, 101, 115]) = some false := rfl
theorem c_no : cmpAV h .eq (.str noT) (.str [110, 111]) = some true := rfl
theorem c22 : cmpAV h .ne (.int 2) (.int 2) = some false := rfl
theorem len_two {x y : AV} : biAV .len [.tup [x, y]] h = .ok (.int 2) h := len_tup (x := [x, y]) (by show 2 ≤ sizeLim; decide)
theorem tup_pair {s : Seat} : AV.tup [.int s.1, .int s.2] = sv s := rfl
theorem few_snoc {ps : List Seat} {zs : List Int} {k : Nat} {z : Int} (h : zs[k]? = some z) : fewOf ps (zs.take (k + 1)) = fewOf ps (zs.take k) ++ [Cu.hm ps z.toNat 0, Cu.hm ps z.toNat 1] := by
  unfold fewOf
  rw [List.take_add_one, h, Option.toList_some, List.flatMap_append]; rfl

theorem run_few (hp : Prog.has p "_law_few" d__law_few) {a r : Nat} {ps : List Seat} {zs : List Int} (h7 : ps.length ≤ 7) (ha : h[a]? = some (.list (ps.map sv))) (hr : h[r]? = some (.list (zs.map .int))) (hno : NoOk ps zs) :
    ∃ h', semF p (n + 1) "_law_few" [.loc a, .loc r] h = .ok (.bool true) h' ∧ Keep h h' := by
  obtain ⟨F, hF, e⟩ := run_at (n := n) (h := h) hp (as := [.loc a, .loc r]) rfl
  have hzl : zs.length ≤ 7 := Nat.le_trans hno.short h7
  have num : ∀ (hq : AHeap), Keep h hq → ∀ k (hk : k < zs.length) (i : Int), i = (k : Int) → subAV (.loc r) (.int i) hq = .ok (.int zs[k]) hq := fun hq kq k hk i hi => by
    subst hi
    exact sub_list (by rw [List.length_map]; unfold sizeLim; omega) (kq _ _ hr) (by omega) (by rw [List.getElem?_map, Int.toNat_natCast, List.getElem?_eq_getElem hk]; rfl)
  obtain ⟨l', hq, e1, kq, q, hq1, v3, el⟩ := forLoop_all (i := 3) (src := .rng 0 (zs.length : Nat) 1) (e := none) (items := rngItems 0 (zs.length : Nat) 1) (body := fun l h => execSs ⟨semF p n, F⟩ b__law_few_1 l h)
    (fun k l hq => Keep h hq ∧ ∃ q, hq[q]? = some (.list ((fewOf ps (zs.take k)).map sv)) ∧ ∃ v, l = [some (.loc a), some (.loc r), some (.loc q), v]) (fun k l hq _ => next_rng (by unfold sizeLim; omega)) (fun k v l hq hv ⟨kq, q, hq1, v3, el⟩ => by
      obtain ⟨hk, rfl⟩ := up_item hv
      subst el
      have hzk := hno.2.2.1 zs[k] (List.getElem_mem hk)
      have s1 := num hq kq k hk k rfl
      have hcond : evalX ⟨semF p n, F⟩ (.and (.cmp .gt (.loc 3) (.int 0)) (.cmp .ge (.sub (.loc 1) (.bin .sub (.loc 3) (.int 1))) (.sub (.loc 1) (.loc 3)))) [some (.loc a), some (.loc r), some (.loc q), some (.int k)] hq = .ok (.bool false) hq := by
        by_cases h0 : k = 0
        · subst h0; rfl
        · have s2 := num hq kq (k - 1) (by omega) ((k : Int) - 1) (by omega)
          have hlt := List.pairwise_iff_getElem.mp hno.1 (k - 1) k (by omega) hk (by omega)
          simp only [x_and, x_cmp, x_sub, x_bin, x_loc, x_int, loc0, locS, okO_some, bok, c_gt, decide_eq_true (show (0 : Int) < k by omega), boolO_some, condV_t, b_sub, s1, s2, c_ge, decide_eq_false (show ¬ zs[k] ≤ zs[k - 1] by omega)]
      have hm : zs[k].toNat < ps.length := by omega
      have s3 : subAV (.loc a) (.int zs[k]) hq = .ok (sv ps[zs[k].toNat]) hq := sub_list (by rw [List.length_map]; unfold sizeLim; omega) (kq _ _ ha) hzk.1 (at_map (List.getElem?_eq_getElem hm))
      have s4 : subAV (sv ps[zs[k].toNat]) (.int 0) hq = .ok (.int (Cu.hm ps zs[k].toNat 0).2) hq := by simp [sv, Cu.hm, hm, sub_t0]
      have s5 : subAV (sv ps[zs[k].toNat]) (.int 1) hq = .ok (.int (Cu.hm ps zs[k].toNat 1).2) hq := by simp [sv, Cu.hm, hm, sub_t1]
      generalize hH1 : hq ++ [.list ([Cu.hm ps zs[k].toNat 0, Cu.hm ps zs[k].toNat 1].map sv)] = h1
      have k1 : Keep hq h1 := by rw [← hH1]; exact keep_new _ _
      have n1 : newList [.tup [.int 0, .int (Cu.hm ps zs[k].toNat 0).2], .tup [.int 1, .int (Cu.hm ps zs[k].toNat 1).2]] hq = .ok (.loc hq.length) h1 := by rw [newList_ok (by show 2 ≤ sizeLim; decide), ← hH1]; rfl
      have hfl := few_len (ps := ps) (zs.take k)
      rw [List.length_take] at hfl
      have n2 := cat_ok (k1 _ _ hq1) (m := hq.length) (y := [Cu.hm ps zs[k].toNat 0, Cu.hm ps zs[k].toNat 1].map sv) (by rw [← hH1]; exact get_new) (by rw [List.length_append, List.length_map, List.length_map, hfl]; show _ + 2 ≤ sizeLim; unfold sizeLim; omega)
      rw [← List.map_append, ← few_snoc (List.getElem?_eq_getElem hk)] at n2
      refine ⟨_, _, ?_, kq.trans (k1.trans (keep_new _ _)), h1.length, get_new, some (.int k), rfl⟩
      rw [b__law_few_1, ss_cons, s_iff]
      show (Res.st (evalX _ _ [some (.loc a), some (.loc r), some (.loc q), some (.int k)] hq) _).turn _ = _
      rw [hcond, sok, cond_f, ss_nil, turn_next, ss_cons, s_asg]
      simp only [List.set, x_bin, x_list, x_tup, x_sub, x_loc, x_int, xs_cons, xs_nil, loc0, locS, okO_some, bok, s1, s3, s4, s5, tup2, n1, n2, sok, ss_nil, turn_next]) (f := F) (l := [some (.loc a), some (.loc r), some (.loc h.length), none]) (h := h ++ [.list []]) (by rw [up_length]; omega) ⟨keep_new _ _, h.length, get_new, none, rfl⟩
  rw [up_length, List.take_of_length_le (Nat.le_refl _)] at hq1
  subst el
  have hfl := few_len (ps := ps) zs
  have hlz : ∀ hq, Keep h hq → biAV .len [.loc r] hq = .ok (.int (zs.length : Nat)) hq := fun hq kq => by rw [len_list (kq _ _ hr), List.length_map]
  refine ⟨hq, ?_, kq⟩
  rw [e]
  simp only [d__law_few, ss_cons, ss_nil, s_asg, s_for, s_ret, x_list, x_range, x_cmp, x_lenset, x_bi, x_loc, xs_cons, xs_nil, List.map_cons, List.map_nil, List.cons_append, List.nil_append, List.replicate, List.set, loc0, locS, okO_some, bok, sok, newList_ok (vs := []) (h := h) (by show 0 ≤ sizeLim; decide), turn_next, hlz _ (keep_new _ _), range_up (show zs.length ≤ 1000 by omega), epoch_rng, e1, lenset_ok hq1 (by omega), hlz _ kq, c_lt, boolO_some, turn_ret, retR_ret]
  rw [decide_eq_true (by have := hno.few; omega)]

structure HasR (p : Prog) : Prop where
  pl : Prog.has p "_law_places" d__law_places
  un : Prog.has p "_law_unlike" d__law_unlike
  ca : Prog.has p "_law_can" d__law_can
  nu : Prog.has p "_law_numbers" d__law_numbers
  fe : Prog.has p "_law_few" d__law_few
  ri : Prog.has p "_law_right" d__law_right

theorem run_right (H : HasR p) {h0 : AHeap} {a : Nat} {ps : List Seat} {v : AV} (h7 : ps.length ≤ 7) (ha : h[a]? = some (.list (ps.map sv))) (ht : Told ps h0 v h) : ∃ h', semF p (n + 3) "_law_right" [v, .loc a] h = .ok (.bool true) h' ∧ Keep h h' := by
  obtain ⟨F, hF, e⟩ := run_at (n := n + 2) (h := h) H.ri (as := [v, .loc a]) rfl
  obtain ⟨b, h1, e1, k1, hb1, hb2⟩ := run_can (n := n) (h := h) H.pl H.un H.ca h7 ha
  obtain ⟨_, r, _, ⟨rows, rfl, hr, hy⟩ | ⟨zs, rfl, hr, hn⟩⟩ := ht
  · obtain ⟨ho, hnd⟩ := hy.rows
    have hbt : b = true := by
      cases b with
      | true => rfl
      | false => exact absurd hnd (hb2 rfl rows ho)
    subst hbt
    have e2 := run_numbers (n := n + 1) (h := h1) H.nu (lo := 0) (hi := 1) (k1 _ _ hr) (fun z hz => by rcases ho.2 z hz with q | q <;> omega) (by rw [ho.1]; omega)
    have e3 := run_places (n := n + 1) (h := h1) H.pl (show ps.length ≤ 18 by omega) (k1 _ _ ha) (k1 _ _ hr) ho
    have e4 := run_unlike (n := n + 1) (h := h1 ++ [.list ((placesOf ps rows).map sv)]) H.un (qs := placesOf ps rows) (by unfold placesOf; rw [List.length_map, List.length_range]; omega) get_new
    rw [decide_eq_true hnd] at e4
    have l1 : biAV .len [.loc r] h1 = .ok (.int (ps.length : Nat)) h1 := by rw [len_list (k1 _ _ hr), List.length_map, ho.1]
    have l2 : biAV .len [.loc a] h1 = .ok (.int (ps.length : Nat)) h1 := by rw [len_list (k1 _ _ ha), List.length_map]
    refine ⟨h1 ++ [.list ((placesOf ps rows).map sv)], ?_, k1.trans (keep_new _ _)⟩
    rw [e]
    simp only [d__law_right, ss_cons, ss_nil, s_iff, s_ret, x_or, x_not, x_isi, x_cmp, x_bi, x_sub, x_str, x_call, x_loc, x_int, xs_cons, xs_nil, List.map_cons, List.map_nil, List.cons_append, List.nil_append, List.replicate, loc0, locS, okO_some, bok, sok, isi_tup, boolO_some, notAV_bool, Bool.not_true, condV_f, len_two, c22, cond_f, turn_next, e1, cond_t, sub_t0, sub_t1, c_yes, e2, l1, l2, c_nei, decide_true, e3, e4, turn_ret, retR_ret]
  · have hbf : b = false := by
      cases b with
      | false => rfl
      | true => obtain ⟨rows, ho, hnd⟩ := hb1 rfl; exact absurd hnd (hn.none ho)
    subst hbf
    have e2 := run_numbers (n := n + 1) (h := h1) H.nu (lo := 0) (hi := (ps.length : Int) - 1) (k1 _ _ hr) (fun z hz => by have := hn.2.2.1 z hz; omega) (by have := hn.short; omega)
    obtain ⟨h2, e3, k2⟩ := run_few (n := n + 1) (h := h1) H.fe h7 (k1 _ _ ha) (k1 _ _ hr) hn
    have l2 : biAV .len [.loc a] h1 = .ok (.int (ps.length : Nat)) h1 := by rw [len_list (k1 _ _ ha), List.length_map]
    refine ⟨h2, ?_, k1.trans k2⟩
    rw [e]
    simp only [d__law_right, ss_cons, ss_nil, s_iff, s_ret, x_or, x_and, x_not, x_isi, x_cmp, x_bi, x_bin, x_sub, x_str, x_call, x_loc, x_int, xs_cons, xs_nil, List.map_cons, List.map_nil, List.cons_append, List.nil_append, List.replicate, loc0, locS, okO_some, bok, sok, isi_tup, boolO_some, notAV_bool, Bool.not_true, condV_f, condV_t, len_two, c22, cond_f, turn_next, e1, sub_t0, sub_t1, c_no, e2, l2, b_sub, e3, turn_ret, retR_ret]
end
end Mine

namespace Mine
open PySem Cu

noncomputable def b_law_1 : Ss :=
  (.cons (.asg 4 (.call "_law_mixed" (.cons (.call "_law_cell_at" (.cons (.loc 0) (.cons (.bin .add (.int 2) (.loc 3)) .nil))) (.cons (.loc 3) .nil))))
  (.cons (.expr (.append (.loc 2) (.cons (.tup (.cons (.bin .mod (.bin .div (.loc 4) (.int 7)) (.loc 1)) (.cons (.bin .mod (.bin .div (.loc 4) (.int 61)) (.loc 1)) .nil))) .nil)))
  .nil))
noncomputable def b_end : Ss :=
  (.cons (.ret (.and (.call "_law_right" (.cons (.call "seated" (.cons (.bi .list (.cons (.loc 2) .nil)) .nil)) (.cons (.loc 2) .nil))) (.call "_law_right" (.cons (.call "seated" (.cons (.loc 5) .nil)) (.cons (.loc 5) .nil)))))
  .nil)
noncomputable def b_tail : Ss :=
  (.cons (.asg 5 (.bi .list (.cons (.loc 2) .nil)))
  (.cons (.asg 6 (.call "seated" (.cons (.loc 5) .nil)))
  (.cons (.iff (.or (.cmp .ne (.loc 5) (.loc 2)) (.not (.call "_law_right" (.cons (.loc 6) (.cons (.loc 2) .nil)))))
    (.cons (.ret (.bool false))
    .nil)
    .nil)
  (.cons (.expr (.append (.loc 5) (.cons (.tup (.cons (.int 0) (.cons (.int 0) .nil))) .nil)))
  (.cons (.expr (.append (.sub (.loc 6) (.int 1)) (.cons (.neg (.int 1)) .nil)))
  b_end)))))
noncomputable def d_law : FDef := ⟨1, 7,
  (.cons (.asg 1 (.sub (.list (.cons (.int 4) (.cons (.int 4) (.cons (.int 4) (.cons (.int 2) .nil))))) (.bin .mod (.call "_law_cell_at" (.cons (.loc 0) (.cons (.int 1) .nil))) (.int 4))))
  (.cons (.asg 2 (.list .nil))
  (.cons (.forr 3 (.range (.cons (.bin .mod (.call "_law_cell_at" (.cons (.loc 0) (.cons (.int 0) .nil))) (.int 7)) .nil)) b_law_1)
  b_tail)))⟩
noncomputable def prog02 : Prog := [("seat_of", d_seat_of), ("way_from", d_way_from), ("put_along", d_put_along), ("crowded", d_crowded), ("seated", d_seated), ("_law_cell_at", d__law_cell_at), ("_law_mixed", d__law_mixed), ("_law_places", d__law_places), ("_law_unlike", d__law_unlike), ("_law_can", d__law_can), ("_law_numbers", d__law_numbers), ("_law_few", d__law_few), ("_law_right", d__law_right), ("law", d_law)]

structure Has02 (p : Prog) : Prop extends HasR p where
  a : Prog.has p "seat_of" d_seat_of
  b : Prog.has p "way_from" d_way_from
  c : Prog.has p "put_along" d_put_along
  d : Prog.has p "crowded" d_crowded
  e : Prog.has p "seated" d_seated
  f : Prog.has p "_law_cell_at" d__law_cell_at
  g : Prog.has p "_law_mixed" d__law_mixed
  n : Prog.has p "law" d_law

section
variable {p : Prog} {n : Nat} {h : AHeap}

theorem seated02 (H : Has02 p) {a : Nat} {ps : List Seat} (h7 : ps.length ≤ 7) (ha : h[a]? = some (.list (ps.map sv))) : ∃ v h', semF p (n + 3) "seated" [.loc a] h = .ok v h' ∧ Told ps h v h' :=
  run_seated H.a H.b H.c H.d H.e (by omega) ha

theorem law_end (H : Has02 p) {F a b : Nat} {ps qs : List Seat} {v0 v1 v3 v4 v6 : Option AV} (h7 : ps.length ≤ 7) (hq7 : qs.length ≤ 7) (ha : h[a]? = some (.list (ps.map sv))) (hb : h[b]? = some (.list (qs.map sv))) :
    ∃ h', retR (execSs ⟨semF p (n + 3), F⟩ b_end [v0, v1, some (.loc a), v3, v4, some (.loc b), v6] h) = .ok (.bool true) h' := by
  have n1 := list_ok ha (by rw [List.length_map]; unfold sizeLim; omega)
  obtain ⟨v, h2, e2, t2⟩ := seated02 (n := n) (h := h ++ [.list (ps.map sv)]) H h7 get_new
  have k2 := (keep_new h (.list (ps.map sv))).trans t2.1
  obtain ⟨h3, e3, k3⟩ := run_right (n := n) H.toHasR h7 (k2 _ _ ha) t2
  have k3 := k2.trans k3
  obtain ⟨u, h4, e4, t4⟩ := seated02 (n := n) (h := h3) H hq7 (k3 _ _ hb)
  obtain ⟨h5, e5, _⟩ := run_right (n := n) H.toHasR hq7 (t4.1 _ _ (k3 _ _ hb)) t4
  refine ⟨h5, ?_⟩
  simp only [b_end, ss_cons, s_ret, x_and, x_call, x_bi, xs_cons, xs_nil, x_loc, loc0, locS, okO_some, bok, sok, n1, e2, e3, condV_t, e4, e5, turn_ret, retR_ret]

theorem law_tail (H : Has02 p) {F a : Nat} {ps : List Seat} {v0 v1 v3 v4 : Option AV} (h6 : ps.length ≤ 6) (ha : h[a]? = some (.list (ps.map sv))) :
    ∃ h', retR (execSs ⟨semF p (n + 3), F⟩ b_tail [v0, v1, some (.loc a), v3, v4, none, none] h) = .ok (.bool true) h' := by
  have n1 := list_ok ha (by rw [List.length_map]; unfold sizeLim; omega)
  generalize hH1 : h ++ [.list (ps.map sv)] = h1 at n1
  have k1 : Keep h h1 := by rw [← hH1]; exact keep_new _ _
  have u1 : h1[h.length]? = some (.list (ps.map sv)) := by rw [← hH1]; exact get_new
  obtain ⟨v, h2, e2, t2⟩ := seated02 (n := n) (h := h1) H (show ps.length ≤ 7 by omega) u1
  obtain ⟨h3, e3, k3⟩ := run_right (n := n) H.toHasR (show ps.length ≤ 7 by omega) (t2.1 _ _ (k1 _ _ ha)) t2
  obtain ⟨k2, r, hr1, ht⟩ := t2
  obtain ⟨tag, zs, rfl, hr2, hzl⟩ : ∃ (tag : List Nat) (zs : List Int), v = .tup [.str tag, .loc r] ∧ h2[r]? = some (.list (zs.map .int)) ∧ zs.length ≤ 3000 := by
    rcases ht with ⟨rows, rfl, h, hy⟩ | ⟨zs, rfl, h, hn⟩
    · exact ⟨_, rows, rfl, h, by rw [hy.1]; omega⟩
    · exact ⟨_, zs, rfl, h, hn.2.1⟩
  have hne := ne_lists (g := sv) (k2 _ _ u1) (k2 _ _ (k1 _ _ ha)) (fun a b => eqv_sv (n := 3) a b)
  rw [decide_eq_true rfl, Bool.not_true] at hne
  have a3 := k3 _ _ (k2 _ _ (k1 _ _ ha))
  have u3 := k3 _ _ (k2 _ _ u1)
  have r3 := k3 _ _ hr2
  have hra : r ≠ a := by rintro rfl; rw [k1 _ _ ha] at hr1; cases hr1
  have hru : r ≠ h.length := by rintro rfl; rw [u1] at hr1; cases hr1
  have hua : h.length ≠ a := by have := get_lt ha; omega
  have hap : appendAV (.loc h.length) [sv (0, 0)] h3 = .ok .none (h3.set h.length (.list ((ps ++ [(0, 0)]).map sv))) := by
    rw [append_ok u3 (by rw [List.length_map]; unfold sizeLim; omega), List.map_append]; rfl
  generalize hH4 : h3.set h.length (.list ((ps ++ [(0, 0)]).map sv)) = h4 at hap
  have a4 : h4[a]? = some (.list (ps.map sv)) := by rw [← hH4]; exact get_other a3 hua
  have u4 : h4[h.length]? = some (.list ((ps ++ [(0, 0)]).map sv)) := by rw [← hH4]; exact get_set u3
  have r4 : h4[r]? = some (.list (zs.map .int)) := by rw [← hH4]; exact get_other r3 (Ne.symm hru)
  have hap2 := append_ok (v := .int (-1)) r4 (by rw [List.length_map]; unfold sizeLim; omega)
  obtain ⟨h', e9⟩ := law_end (n := n) (F := F) (v0 := v0) (v1 := v1) (v3 := v3) (v4 := v4) (v6 := some (.tup [.str tag, .loc r])) H (ps := ps) (qs := ps ++ [(0, 0)]) (by omega) (by rw [List.length_append]; show _ + 1 ≤ 7; omega) (get_other a4 hra) (get_other u4 hru)
  refine ⟨h', ?_⟩
  have t0 : AV.tup [.int 0, .int 0] = sv (0, 0) := rfl
  rw [b_tail, ss_cons, s_asg]
  simp only [x_bi, x_loc, xs_cons, xs_nil, List.set, loc0, locS, okO_some, bok, sok, n1, turn_next]
  rw [ss_cons, s_asg]
  simp only [x_call, x_loc, xs_cons, xs_nil, List.set, loc0, locS, okO_some, bok, sok, e2, turn_next]
  rw [ss_cons, s_iff]
  simp only [x_or, x_not, x_cmp, x_call, x_loc, xs_cons, xs_nil, loc0, locS, okO_some, bok, sok, hne, boolO_some, condV_f, e3, notAV_bool, Bool.not_true, cond_f, ss_nil, turn_next]
  rw [ss_cons, s_expr]
  simp only [x_append, x_tup, x_loc, x_int, xs_cons, xs_nil, loc0, locS, okO_some, bok, sok, isList_ok u3, if_true, tup2, t0, hap, turn_next]
  rw [ss_cons, s_expr]
  simp only [x_append, x_sub, x_neg, x_loc, x_int, xs_cons, xs_nil, loc0, locS, okO_some, bok, sok, sub_t1, isList_ok r4, if_true, negAV_int, hap2, turn_next]
  exact e9

theorem run_law (H : Has02 p) {xs : List Int} (hl : xs.length ≤ 63) : ∃ hp, semF p (n + 4) "law" [.scr xs] [] = .ok (.bool true) hp := by
  obtain ⟨F, hF, e⟩ := run_at (n := n + 3) (h := []) H.n (as := [.scr xs]) rfl
  have cell : ∀ (k : Nat) (h : AHeap), semF p (n + 3) "_law_cell_at" [.scr xs, .int k] h = .ok (.int (cellAt xs k)) h := fun k h => run_cell_at H.f hl k
  have hb1 := fmod_bound (cellAt xs 1) (m := 4) (by decide)
  have hb0 := fmod_bound (cellAt xs 0) (m := 7) (by decide)
  generalize hi1 : (cellAt xs 1).fmod 4 = i1 at hb1
  obtain ⟨m0, hm0⟩ : ∃ m : Nat, (cellAt xs 0).fmod 7 = m := ⟨((cellAt xs 0).fmod 7).toNat, by omega⟩
  have hm6 : m0 ≤ 6 := by omega
  have hn4 : newList [.int 4, .int 4, .int 4, .int 2] [] = .ok (.loc 0) [.list [.int 4, .int 4, .int 4, .int 2]] := rfl
  obtain ⟨mo, hmo, hs⟩ : ∃ mo : Int, mo ≠ 0 ∧ subAV (.loc 0) (.int i1) [.list [.int 4, .int 4, .int 4, .int 2]] = .ok (.int mo) [.list [.int 4, .int 4, .int 4, .int 2]] := by
    have : i1 = 0 ∨ i1 = 1 ∨ i1 = 2 ∨ i1 = 3 := by omega
    rcases this with q | q | q | q <;> subst q
    · exact ⟨4, by decide, rfl⟩
    · exact ⟨4, by decide, rfl⟩
    · exact ⟨4, by decide, rfl⟩
    · exact ⟨2, by decide, rfl⟩
  generalize hL4 : AObj.list [.int 4, .int 4, .int 4, .int 2] = L4 at hn4 hs
  obtain ⟨l', h', e1, ps, hpl, rfl, v3, v4, el⟩ := forLoop_all (i := 3) (src := .rng 0 m0 1) (e := none) (items := rngItems 0 m0 1) (body := fun l h => execSs ⟨semF p (n + 3), F⟩ b_law_1 l h)
    (fun k l h => ∃ ps : List Seat, ps.length = k ∧ h = [L4, .list (ps.map sv)] ∧ ∃ v3 v4, l = [some (.scr xs), some (.int mo), some (.loc 1), v3, v4, none, none]) (fun k l h _ => next_rng (by unfold sizeLim; omega)) (fun k v l h hv ⟨ps, hpl, eh, v3, v4, el⟩ => by
      obtain ⟨hk, rfl⟩ := up_item hv
      subst eh; subst el
      have e2 := cell (2 + k) [L4, .list (ps.map sv)]
      have ek : ((2 + k : Nat) : Int) = 2 + (k : Int) := by omega
      rw [ek] at e2
      have e3 := run_mixed (n := n + 2) (h := [L4, .list (ps.map sv)]) H.g (cellAt xs (2 + k)) k
      generalize mixed (cellAt xs (2 + k)) k = mx at e3
      have hap : appendAV (.loc 1) [sv ((mx.fdiv 7).fmod mo, (mx.fdiv 61).fmod mo)] [L4, .list (ps.map sv)] = .ok .none [L4, .list ((ps ++ [((mx.fdiv 7).fmod mo, (mx.fdiv 61).fmod mo)]).map sv)] := by
        rw [append_ok (x := ps.map sv) rfl (by rw [List.length_map]; unfold sizeLim; omega), List.map_append]; rfl
      have tp : AV.tup [.int ((mx.fdiv 7).fmod mo), .int ((mx.fdiv 61).fmod mo)] = sv ((mx.fdiv 7).fmod mo, (mx.fdiv 61).fmod mo) := rfl
      have hli : isListAV (.loc 1) [L4, .list (ps.map sv)] = true := isList_ok (x := ps.map sv) rfl
      refine ⟨_, _, ?_, ps ++ [((mx.fdiv 7).fmod mo, (mx.fdiv 61).fmod mo)], by rw [List.length_append, hpl]; rfl, rfl, some (.int k), some (.int mx), rfl⟩
      simp only [b_law_1, ss_cons, ss_nil, s_asg, s_expr, x_call, x_append, x_tup, x_bin, x_loc, x_int, xs_cons, xs_nil, List.set, loc0, locS, okO_some, bok, sok, b_add, e2, e3, turn_next, hli, if_true, b_div (y := 7) (by decide), b_div (y := 61) (by decide), b_mod hmo, tup2, tp, hap]) (f := F)
    (l := [some (.scr xs), some (.int mo), some (.loc 1), none, none, none, none]) (h := [L4, .list []]) (by rw [up_length]; omega) ⟨[], rfl, rfl, none, none, rfl⟩
  rw [up_length] at hpl
  subst el
  obtain ⟨h2, e2⟩ := law_tail (n := n) (F := F) (h := [L4, .list (ps.map sv)]) (a := 1) (v0 := some (.scr xs)) (v1 := some (.int mo)) (v3 := v3) (v4 := v4) H (ps := ps) (by omega) rfl
  refine ⟨h2, ?_⟩
  have c0 := cell 0
  have c1 := cell 1
  have hn0 : newList [] [L4] = .ok (.loc 1) [L4, .list []] := rfl
  rw [e]
  simp only [d_law]
  rw [ss_cons, s_asg]
  simp only [x_sub, x_list, x_bin, x_call, x_loc, x_int, xs_cons, xs_nil, List.map_cons, List.map_nil, List.cons_append, List.nil_append, List.replicate, List.set, loc0, locS, okO_some, bok, sok, hn4]
  rw [show (1 : Int) = ((1 : Nat) : Int) from rfl, c1, bok, b_mod (by decide), bok, hi1, hs, sok, turn_next, ss_cons, s_asg]
  simp only [x_list, xs_nil, List.set, bok, sok, hn0, turn_next]
  rw [ss_cons, s_for]
  simp only [x_range, x_bin, x_call, x_loc, x_int, xs_cons, xs_nil, loc0, okO_some, bok]
  rw [show (0 : Int) = ((0 : Nat) : Int) from rfl, c0, bok, b_mod (by decide), bok, hm0, bok, range_up (by omega), okO_some, sok, epoch_rng, e1, turn_next]
  exact e2
end

theorem has02 : Has02 prog02 := ⟨⟨rfl, rfl, rfl, rfl, rfl, rfl⟩, rfl, rfl, rfl, rfl, rfl, rfl, rfl, rfl⟩
theorem run02 (xs : List Int) (hl : xs.length ≤ 63) : ∃ hp, semF prog02 16 "law" [.scr xs] [] = .ok (.bool true) hp := run_law (n := 12) has02 hl
end Mine

open PySem PySem.W PyProof.Rows Mine
noncomputable def Mine.q02 : Program := view PySem.Challenge.pw_uf040007_02 [1,2,3,4,5,7,8,9,10,11,12,13,14,15]
set_option maxRecDepth 100000 in
set_option maxHeartbeats 8000000 in
theorem PySem.Challenge.cw_uf040007_02_holds : PySem.Challenge.rw_uf040007_02.Holds := by
  w_on
  refine PySem.W.holds_law (by decide +kernel) fun said => ?_
  refine holds_open (q := Mine.q02) (loose := []) (Xt := fun s => xlAt Mine.q02 [] s && recOk (RowW.records (OpenRow.toRowW PySem.Challenge.rw_uf040007_02.row)) s) (XP := XL Mine.q02 []) (Yf := Hook.obs Hook.none) (Ya := Hook.val Hook.none) (YP := Hook.says Hook.none) (N := 968) ?hl (Hook.of Hook.none) (Hook.keeps Hook.none) (fun s e => xl_of s (Bool.and_eq_true_iff.mp e).1) XL.keeps (by rfl) (by rfl) (by rfl) (fun s e => recFacts_of (Bool.and_eq_true_iff.mp e).2) (by rfl) (by first | assumption | decide +kernel) (by decide +kernel) ⟨rfl, rfl, rfl, rfl, rfl, by decide +kernel⟩ ?hw ?hc
  case hl => intro w; kernel_rfl
  case hw => w_witness2
  intro w s₀ s₁ mg mb G Y fa o pm cd doc dV kV ho hd hcd hD hmg hg args vals as hpre hlay hrd hwl hlo
  refine Ground.open G ?_
  intro T B D TE TW
  clear hd hD hcd G Y
  wrow_args hpre hlay hrd hwl hlo
  rename_i xs _ _ _ _ _ _ _ a vs _ hL _ _ _ hI _ hlen _
  obtain ⟨hp, hrun⟩ := Mine.run02 xs (by omega)
  refine Mine.law_call T rfl (by decide +kernel) rfl (by decide +kernel) (funs := ["seat_of", "way_from", "put_along", "crowded", "seated", "_law_cell_at", "_law_mixed", "_law_places", "_law_unlike", "_law_can", "_law_numbers", "_law_few", "_law_right", "law"]) (pr := Mine.prog02) (by rfl) (by decide +kernel) hmg hL hI hrun ?_
  intro s' hk ho hgen
  exact GoodW.toG ⟨.inl ⟨_, .bool true, [], rfl, raisesW_false (by wrow_none_raised), .bool true, by wrow_post, by simp⟩, hk, ho, hgen.trans hg⟩

