import PyProof.Rows.All
import Wide.All
import OpenK.AllK
import Wide.FinOn
import PySem.Challenge.RW_uf040007_01
set_option Elab.async false
set_option linter.unusedVariables false
set_option linter.unusedSimpArgs false
set_option genSizeOfSpec false
namespace Mine
open PySem

/-- abstract values -/
inductive AV where
  | none
  | bool (b : Bool)
  | int (i : Int)
  | str (s : List Nat)
  | tup (vs : List AV)
  | loc (n : Nat)
  | exc (c : Str)
  | rng (a b s : Int)
  | scr (xs : List Int)

inductive Key where
  | int (i : Int)
  | str (s : List Nat)
  | pair (a b : Int)
  deriving DecidableEq

inductive AObj where
  | list (vs : List AV)
  | dict (kvs : List (Key × AV)) (ep : Nat)
  | set (ks : List Key)
  | ns (fs : List (Option AV))
  | inst (ns : Nat)

abbrev AHeap := List AObj
abbrev Locs := List (Option AV)

inductive Res (α : Type) where
  | ok (a : α) (h : AHeap)
  | ex (c : Str) (h : AHeap)
  | bad

inductive COp where
  | eq | ne | lt | le | gt | ge | isin | notin | is | isnot
  deriving DecidableEq
inductive BOp where
  | add | sub | mul | div | mod | pow
  deriving DecidableEq
inductive BI where
  | len | sorted | list | dict | set | min | int | str
  deriving DecidableEq
inductive BM where
  | append | remove | pop | get | index | count | join | split | replace
  deriving DecidableEq
inductive Ty where
  | int | bool | str | tuple | list | own (c : Str) | valueError
  deriving DecidableEq
inductive Tgt where
  | one (i : Nat)
  | many (is : List Nat)
  deriving DecidableEq

mutual
inductive X where
  | none
  | bool (b : Bool)
  | int (i : Int)
  | str (s : List Nat)
  | loc (i : Nat)
  | glob (x : Str)
  | bin (op : BOp) (l r : X)
  | neg (x : X)
  | not (x : X)
  | and (l r : X)
  | or (l r : X)
  | cmp (op : COp) (l r : X)
  | cmp2 (o1 o2 : COp) (l m r : X)
  | call (f : Str) (as : Xs)
  | bi (b : BI) (as : Xs)
  | isi (x : X) (ts : List Ty)
  | new (as : Xs)
  | im (m : Str) (o : X) (as : Xs)
  | bm (m : BM) (o : X) (as : Xs)
  | attr (o : X) (a : Nat)
  | sub (o i : X)
  | slice (o : X) (lo hi : X)
  | tup (es : Xs)
  | list (es : Xs)
  | dict0
  | dict1 (k v : X)
  | range (as : Xs)
  | comp (elt : X) (k : Nat) (tgt : Tgt) (it : X) (conds : Xs)
inductive Xs where
  | nil
  | cons (x : X) (xs : Xs)
end

mutual
inductive S where
  | expr (x : X)
  | ret (x : X)
  | asg (t : Tgt) (x : X)
  | setattr (o : X) (a : Nat) (x : X)
  | setitem (o k x : X)
  | iff (c : X) (a b : Ss)
  | whil (c : X) (b : Ss)
  | forr (t : Tgt) (it : X) (b : Ss)
  | cont
  | pass
  | raise (c : Str)
  | tryy (b : Ss) (hs : Hs)
inductive Ss where
  | nil
  | cons (s : S) (r : Ss)
inductive Hs where
  | nil
  | cons (c : Str) (slot : Option Nat) (b : Ss) (r : Hs)
end

structure FDef where
  params : Nat
  slots : Nat
  body : Ss

end Mine

namespace Mine
open PySem

structure Cx where
  sc : Scope
  loc : List (Str × Nat)
  n : Nat
  funs : List Str
  consts : List Str
  excs : List Str

noncomputable def isLocKind : NameKind → Bool
  | .local | .cell | .free => true
  | _ => false

noncomputable def plainName (x : Str) : Bool := x != ("__debug__" : Str) && x != ("__classdict__" : Str)
noncomputable def Cx.slot (c : Cx) (x : Str) : Option Nat :=
  match c.sc.names.lookup x with
  | some k => if isLocKind k && plainName x then c.loc.lookup x else none
  | none => none
noncomputable def Cx.isGlob (c : Cx) (x : Str) : Bool := c.sc.names.lookup x == some .globalImplicit && plainName x

noncomputable def Cx.slotW (c : Cx) (x : Str) : Option Nat :=
  match c.sc.names.lookup x with
  | some .local | some .cell => c.slot x
  | _ => none
noncomputable def isComp : Expr → Bool
  | .ListComp .. | .SetComp .. | .DictComp .. | .GeneratorExp .. => true
  | _ => false

noncomputable def compBOp : Operator → Option BOp
  | .Add => some .add | .Sub => some .sub | .Mult => some .mul | .FloorDiv => some .div | .Mod => some .mod | .Pow => some .pow
  | _ => none
noncomputable def compCOp : CmpOp → Option COp
  | .Eq => some .eq | .NotEq => some .ne | .Lt => some .lt | .LtE => some .le | .Gt => some .gt | .GtE => some .ge
  | .In => some .isin | .NotIn => some .notin | .Is => some .is | .IsNot => some .isnot

noncomputable def biTable : List (Str × BI) := [("len", .len), ("sorted", .sorted), ("list", .list), ("dict", .dict), ("set", .set), ("min", .min), ("int", .int), ("str", .str)]
noncomputable def bmTable : List (Str × BM) := [("append", .append), ("remove", .remove), ("pop", .pop), ("get", .get), ("index", .index), ("count", .count), ("join", .join), ("split", .split), ("replace", .replace)]
noncomputable def attrTable : List (Str × Nat) := [("count", 0), ("first", 1), ("second", 2), ("standing", 3), ("things", 4)]
noncomputable def methTable : List Str := ["homes", "need_nest", "at", "way", "best_way", "moves", "put", "put_at", "crowd", "need_there", "take_out", "value", "where", "names", "many"]

noncomputable def compTy (c : Cx) : Expr → Option Ty
  | .Name x _ =>
    if !c.isGlob x then none
    else if x == ("int" : Str) then some .int
    else if x == ("bool" : Str) then some .bool
    else if x == ("str" : Str) then some .str
    else if x == ("tuple" : Str) then some .tuple
    else if x == ("list" : Str) then some .list
    else if x == ("ValueError" : Str) then some .valueError
    else if c.excs.contains x then some (.own x)
    else none
  | _ => none
noncomputable def compTys (c : Cx) : List Expr → Option (List Ty)
  | [] => some []
  | e :: r => do return (← compTy c e) :: (← compTys c r)
noncomputable def compTyArg (c : Cx) : Expr → Option (List Ty)
  | .Tuple es _ _ => if es.length == 1 then none else compTys c es
  | e => do return [← compTy c e]

noncomputable def compNames (c : Cx) : List Expr → Option (List Nat)
  | [] => some []
  | .Name x _ :: r => do return (← c.slotW x) :: (← compNames c r)
  | _ => none
noncomputable def compTgt (c : Cx) : Expr → Option Tgt
  | .Name x _ => do return .one (← c.slotW x)
  | .Tuple es _ _ => do return .many (← compNames c es)
  | _ => none

noncomputable def compInner (c : Cx) (scope : Scope) : Cx :=
  let own := scope.names.filterMap fun p => if p.2 == .local && p.1 != (".0" : Str) then some p.1 else none
  { c with sc := scope, loc := own.zipIdx.map (fun p => (p.1, c.n + p.2)) ++ c.loc, n := c.n + own.length }
noncomputable def innerCount (scope : Scope) : Nat := (scope.names.filterMap fun p => if p.2 == .local && p.1 != (".0" : Str) then some p.1 else none).length

noncomputable def compTyArgs (c : Cx) : List Expr → Option (List Ty)
  | [_, t] => compTyArg c t
  | _ => none
noncomputable def compCall (c : Cx) (f : Str) (as : Xs) : Option X :=
  if c.funs.contains f then some (.call f as)
  else if f == ("Nests" : Str) then some (.new as)
  else if f == ("range" : Str) then some (.range as)
  else match biTable.lookup f with
    | some b => some (.bi b as)
    | none => none

noncomputable def notSuper : Expr → Bool
  | .Call (.Name _ _) [] [] _ => false
  | _ => true

noncomputable def compConst : Const → Option X
  | .none => some .none
  | .bool b => some (.bool b)
  | .int i => some (.int i)
  | .str s => some (.str s.cps.toList)
  | _ => none
noncomputable def compName (c : Cx) (x : Str) : Option X :=
  match c.slot x with
  | some i => some (.loc i)
  | none => if c.isGlob x && c.consts.contains x then some (.glob x) else none
noncomputable def compUn (op : UnaryOp) (x : X) : Option X := match op with
  | .USub => some (.neg x)
  | .Not => some (.not x)
  | _ => none
noncomputable def compCmp1 (ops : List CmpOp) (l : X) (rs : Xs) : Option X := match rs with
  | .cons r .nil => match ops with
    | [op] => match compCOp op with
      | some o => some (.cmp o l r)
      | none => none
    | _ => none
  | .cons m (.cons r .nil) => match ops with
    | [o1, o2] => match compCOp o1, compCOp o2 with
      | some a, some b => some (.cmp2 a b l m r)
      | _, _ => none
    | _ => none
  | _ => none
noncomputable def isSliceE : Expr → Bool
  | .Slice .. => true
  | _ => false
mutual
noncomputable def compE (c : Cx) : Expr → Option X
  | .Constant v _ _ => compConst v
  | .Name x _ => compName c x
  | .BinOp l op r _ => do return .bin (← compBOp op) (← compE c l) (← compE c r)
  | .UnaryOp op x _ => do compUn op (← compE c x)
  | .BoolOp op vs _ => compBool c op vs
  | .Compare l ops rs _ => do compCmp1 ops (← compE c l) (← compEs c rs)
  | .Call f as ks pos => match ks with
    | [] => match f with
      | .Name f _ => if !c.isGlob f then none
        else if f == ("isinstance" : Str) then do return .isi (← compHead c as) (← compTyArgs c as)
        else do compCall c f (← compEs c as)
      | .Attribute o m ap => if !(ap.endLine == pos.line && notSuper o && decide (as.length < 20)) then none
        else match bmTable.lookup m with
        | some b => do return .bm b (← compE c o) (← compEs c as)
        | none => if methTable.contains m then do return .im (("Nests." : Str) ++ m) (← compE c o) (← compEs c as) else none
      | _ => none
    | _ => none
  | .Attribute o a _ => if notSuper o then do return .attr (← compE c o) (← attrTable.lookup a) else none
  | .Subscript o i _ => match i with
    | .Slice lo hi st _ => match st with
      | none => do return .slice (← compE c o) (← compO c lo) (← compO c hi)
      | some _ => none
    | i => do return .sub (← compE c o) (← compE c i)
  | .Tuple es _ _ => do return .tup (← compEs c es)
  | .List es _ => do return .list (← compEs c es)
  | _ => none
noncomputable def compBool (c : Cx) (op : BoolOp) : List Expr → Option X
  | [] => none
  | [x] => compE c x
  | x :: r => do
    let a ← compE c x
    let b ← compBool c op r
    return match op with | .And => .and a b | .Or => .or a b
noncomputable def compEs (c : Cx) : List Expr → Option Xs
  | [] => some .nil
  | e :: r => do return .cons (← compE c e) (← compEs c r)
noncomputable def compO (c : Cx) : Option Expr → Option X
  | none => some .none
  | some e => compE c e
noncomputable def compHead (c : Cx) : List Expr → Option X
  | [] => none
  | e :: _ => compE c e
end

noncomputable def compAsg (c : Cx) (ts : List Expr) (isC : Bool) (v : X) : Option S := match ts with
  | [t] => match t with
    | .Name x _ => if isC then none else do return .asg (.one (← c.slotW x)) v
    | .Tuple es _ _ => do return .asg (.many (← compNames c es)) v
    | .Attribute o a _ => do return .setattr (← compE c o) (← attrTable.lookup a) v
    | .Subscript o k _ => do return .setitem (← compE c o) (← compE c k) v
    | _ => none
  | _ => none
noncomputable def excOf : Expr → Option Str
  | .Call f as ks _ => match ks with
    | [] => match as with
      | [a] => match a with
        | .Constant v _ _ => match v with
          | .str _ => match f with
            | .Name x _ => some x
            | _ => none
          | _ => none
        | _ => none
      | _ => none
    | _ => none
  | _ => none
mutual
noncomputable def compS (c : Cx) : Stmt → Option S
  | .Expr x _ => if isComp x then none else do return .expr (← compE c x)
  | .Return v _ => match v with
    | some x => do return .ret (← compE c x)
    | none => some (.ret .none)
  | .Assign ts v _ => do compAsg c ts (isComp v) (← compE c v)
  | .If t a b _ => do return .iff (← compE c t) (← compSs c a) (← compSs c b)
  | .While t b o _ => if o.isEmpty then do return .whil (← compE c t) (← compSs c b) else none
  | .For t it b o _ => if o.isEmpty then do return .forr (← compTgt c t) (← compE c it) (← compSs c b) else none
  | .Continue _ => some .cont
  | .Pass _ => some .pass
  | _ => none
noncomputable def compSs (c : Cx) : List Stmt → Option Ss
  | [] => some .nil
  | s :: r => do return .cons (← compS c s) (← compSs c r)
end

noncomputable def slotNames (ps : List Str) (sc : Scope) : List Str :=
  ps ++ sc.names.filterMap fun p => if isLocKind p.2 && !ps.contains p.1 then some p.1 else none

/-- a plain function: named parameters alone, no name of an outer function -/
noncomputable def defOk (args : Arguments) (sc : Scope) : Bool :=
  args.posonlyargs.isEmpty && args.kwonlyargs.isEmpty && args.vararg.isNone && args.kwarg.isNone && sc.kind == .function && !sc.isGenerator && !sc.isCoroutine &&
  decide (args.args.map (·.arg)).Nodup && decide (sc.names.map (·.1)).Nodup && sc.names.all (fun p => p.2 != .free) &&
  (args.args.map (·.arg)).all (fun x => sc.names.lookup x == some .local || sc.names.lookup x == some .cell)
noncomputable def compDef (funs consts excs : List Str) (args : Arguments) (body : List Stmt) (sc : Scope) : Option FDef := do
  let ps := args.args.map (·.arg)
  let ns := slotNames ps sc
  if !defOk args sc then none
  let b ← compSs { sc := sc, loc := ns.zipIdx, n := ns.length, funs := funs, consts := consts, excs := excs } body
  return ⟨ps.length, ns.length, b⟩

structure Prog where
  defs : List (Str × FDef)
  consts : List (Str × AV)

end Mine

namespace Mine
open PySem

noncomputable def sizeLim : Nat := 2 ^ 20

namespace Res
noncomputable def bind {α β : Type} (r : Res α) (f : α → AHeap → Res β) : Res β := match r with
  | .ok a h => f a h
  | .ex c h => .ex c h
  | .bad => .bad
end Res

noncomputable def Key.av : Key → AV
  | .int i => .int i
  | .str s => .str s
  | .pair a b => .tup [.int a, .int b]
noncomputable def AV.key? : AV → Option Key
  | .int i => some (.int i)
  | .str s => some (.str s)
  | .tup [.int a, .int b] => some (.pair a b)
  | _ => Option.none
noncomputable def Key.sort : Key → Nat
  | .int _ => 0
  | .str _ => 1
  | .pair _ _ => 2
noncomputable def strLe : List Nat → List Nat → Bool
  | [], _ => true
  | _ :: _, [] => false
  | a :: x, b :: y => if a = b then strLe x y else decide (a < b)
noncomputable def Key.le : Key → Key → Bool
  | .int a, .int b => decide (a ≤ b)
  | .str a, .str b => strLe a b
  | .pair a b, .pair c d => if a = c then decide (b ≤ d) else decide (a < c)
  | _, _ => false

noncomputable def keysOf : List AV → Option (List Key)
  | [] => some []
  | v :: r => match v.key?, keysOf r with
    | some k, some ks => some (k :: ks)
    | _, _ => none
noncomputable def oneSort (ks : List Key) : Bool := match ks with
  | [] => true
  | k :: r => r.all fun x => x.sort == k.sort

noncomputable def sortOk (kvs : List (Key × AV)) (k : Key) : Bool := kvs.all fun p => p.1.sort == k.sort

/-- == of two values -/
noncomputable def eqAll (f : AV → AV → Option Bool) : List AV → List AV → Option Bool
  | [], [] => some true
  | x :: xs, y :: ys => match f x y, eqAll f xs ys with
    | some b, some r => some (b && r)
    | _, _ => none
  | _, _ => some false
noncomputable def eqv (h : AHeap) : Nat → AV → AV → Option Bool
  | 0, _, _ => none
  | n + 1, a, b => match a, b with
    | .none, .none => some true
    | .bool x, .bool y => some (x == y)
    | .int x, .int y => some (decide (x = y))
    | .str x, .str y => some (decide (x = y))
    | .tup xs, .tup ys => eqAll (eqv h n) xs ys
    | .loc i, .loc j => match h[i]?, h[j]? with
      | some (.list xs), some (.list ys) => if xs.length = ys.length then eqAll (eqv h n) xs ys else some false
      | _, _ => none
    | .none, .str _ | .none, .int _ | .none, .tup _ | .str _, .none | .int _, .none | .tup _, .none => some false
    | .str _, .int _ | .int _, .str _ | .str _, .tup _ | .tup _, .str _ | .int _, .tup _ | .tup _, .int _ => some false
    | .loc i, .none | .none, .loc i | .loc i, .str _ | .str _, .loc i => match h[i]? with
      | some (.list _) => some false
      | _ => none
    | _, _ => none
noncomputable def eqFuel : Nat := 6

noncomputable def strLt (a b : List Nat) : Bool := !strLe b a
noncomputable def cmpOrd (op : COp) (a b : AV) : Option Bool := match a, b with
  | .int x, .int y => match op with
    | .lt => some (decide (x < y))
    | .le => some (decide (x ≤ y))
    | .gt => some (decide (y < x))
    | .ge => some (decide (y ≤ x))
    | _ => none
  | _, _ => none

noncomputable def isSub (x : List Nat) : List Nat → Bool
  | [] => x.isEmpty
  | c :: r => x.isPrefixOf (c :: r) || isSub x r

noncomputable def findEq (h : AHeap) (v : AV) : List AV → Option Bool
  | [] => some false
  | x :: r => match eqv h eqFuel x v, findEq h v r with
    | some b, some r => some (b || r)
    | _, _ => none
noncomputable def isIn (h : AHeap) (v c : AV) : Option Bool := match c with
  | .tup xs => findEq h v xs
  | .str y => match v with
    | .str [c] => some (decide (c ∈ y))
    | _ => none
  | .loc n => match h[n]? with
    | some (.list xs) => findEq h v xs
    | some (.dict kvs _) => match v.key? with
      | some k => if sortOk kvs k then some (kvs.lookup k).isSome else none
      | none => none
    | _ => none
  | _ => none

noncomputable def cmpAV (h : AHeap) (op : COp) (a b : AV) : Option Bool := match op with
  | .eq => eqv h eqFuel a b
  | .ne => (eqv h eqFuel a b).map not
  | .isin => isIn h a b
  | .notin => (isIn h a b).map not
  | .is => match b with
    | .none => match a with
      | .none => some true
      | _ => some false
    | _ => none
  | .isnot => match b with
    | .none => match a with
      | .none => some false
      | _ => some true
    | _ => none
  | op => cmpOrd op a b

noncomputable def mulOk (a b : Int) : Bool := decide (a.natAbs < 2 ^ 64) || decide (b.natAbs < 2 ^ 64)

noncomputable def retV (v : AV) (h : AHeap) : Res AV := .ok v h
noncomputable def newList (vs : List AV) (h : AHeap) : Res AV := if vs.length ≤ sizeLim then .ok (.loc h.length) (h ++ [.list vs]) else .bad

noncomputable def binI (op : BOp) (x y : Int) (h : AHeap) : Res AV := match op with
  | .add => .ok (.int (x + y)) h
  | .sub => .ok (.int (x - y)) h
  | .mul => if mulOk x y then .ok (.int (x * y)) h else .bad
  | .div => if y = 0 then .bad else .ok (.int (x.fdiv y)) h
  | .mod => if y = 0 then .bad else .ok (.int (x.fmod y)) h
  | .pow => if 0 ≤ y ∧ y ≤ 1000 ∧ x.natAbs < 2 ^ 64 then .ok (.int (x ^ y.toNat)) h else .bad
noncomputable def addS (x y : List Nat) (h : AHeap) : Res AV := if x.length + y.length ≤ sizeLim then .ok (.str (x ++ y)) h else .bad
noncomputable def addL (n m : Nat) (h : AHeap) : Res AV := match h[n]?, h[m]? with
  | some (.list xs), some (.list ys) => newList (xs ++ ys) h
  | _, _ => .bad
noncomputable def mulL (n : Nat) (k : Int) (h : AHeap) : Res AV := match h[n]? with
  | some (.list [x]) => if 0 ≤ k ∧ k ≤ sizeLim then newList (List.replicate k.toNat x) h else .bad
  | _ => .bad
noncomputable def binAV (op : BOp) (a b : AV) (h : AHeap) : Res AV := match a with
  | .int x => match b with
    | .int y => binI op x y h
    | _ => .bad
  | .str x => match b with
    | .str y => match op with
      | .add => addS x y h
      | _ => .bad
    | _ => .bad
  | .loc n => match b with
    | .loc m => match op with
      | .add => addL n m h
      | _ => .bad
    | .int k => match op with
      | .mul => mulL n k h
      | _ => .bad
    | _ => .bad
  | _ => .bad

noncomputable def negAV (a : AV) (h : AHeap) : Res AV := match a with
  | .int x => .ok (.int (-x)) h
  | _ => .bad

noncomputable def lenAV (a : AV) (h : AHeap) : Res AV := match a with
  | .str x => if x.length ≤ sizeLim then .ok (.int x.length) h else .bad
  | .tup xs => if xs.length ≤ sizeLim then .ok (.int xs.length) h else .bad
  | .scr xs => if xs.length ≤ sizeLim then .ok (.int xs.length) h else .bad
  | .loc n => match h[n]? with
    | some (.list xs) => .ok (.int xs.length) h
    | some (.dict kvs _) => .ok (.int kvs.length) h
    | some (.set ks) => .ok (.int ks.length) h
    | _ => .bad
  | _ => .bad

noncomputable def rngLen (a b s : Int) : Nat := if s = 1 then (b - a).toNat else if s = -1 then (a - b).toNat else 0
noncomputable def rngItems (a b s : Int) : List AV := (List.range (rngLen a b s)).map fun (k : Nat) => .int (a + s * k)

/-- what an iteration takes, in order; the list or dict it looks at -/
noncomputable def itemsAV (a : AV) (h : AHeap) : Option (List AV) := match a with
  | .str x => some (x.map fun c => .str [c])
  | .tup xs => some xs
  | .loc n => match h[n]? with
    | some (.list xs) => some xs
    | _ => none
  | .rng a b s => if (s = 1 ∨ s = -1) ∧ a.natAbs ≤ sizeLim ∧ b.natAbs ≤ sizeLim then some (rngItems a b s) else none
  | .scr xs => some (xs.map .int)
  | _ => none

noncomputable def dictPut (kvs : List (Key × AV)) (k : Key) (v : AV) : List (Key × AV) :=
  if kvs.any (fun p => p.1 == k) then kvs.map (fun p => if p.1 == k then (p.1, v) else p) else kvs ++ [(k, v)]

noncomputable def dictOfPairs : List AV → List (Key × AV) → Option (List (Key × AV))
  | [], acc => some acc
  | .tup [k, v] :: r, acc => match k.key? with
    | some k => if sortOk acc k then dictOfPairs r (dictPut acc k v) else none
    | none => none
  | _, _ => none

noncomputable def setOf : List Key → List Key
  | [] => []
  | k :: r => if r.contains k then setOf r else k :: setOf r

noncomputable def digitsOf (n : Nat) : List Nat := (Nat.toDigits 10 n).map Char.toNat
noncomputable def textOf (i : Int) : List Nat := if i < 0 then 45 :: digitsOf i.natAbs else digitsOf i.natAbs
noncomputable def numOf : List Nat → Nat → Option Int
  | [], acc => some acc
  | c :: r, acc => if 48 ≤ c ∧ c ≤ 57 then numOf r (acc * 10 + (c - 48)) else none

noncomputable def biAV (b : BI) (as : List AV) (h : AHeap) : Res AV := match b, as with
  | .len, [a] => lenAV a h
  | _, _ => .bad

noncomputable def splitAux (sep : Nat) : List Nat → List Nat → List (List Nat)
  | [], cur => [cur.reverse]
  | c :: r, cur => if c = sep then cur.reverse :: splitAux sep r [] else splitAux sep r (c :: cur)
noncomputable def replaceN (old : Nat) (new : List Nat) : List Nat → Nat → List Nat
  | [], _ => []
  | c :: r, 0 => c :: r
  | c :: r, n + 1 => if c = old then new ++ replaceN old new r n else c :: replaceN old new r (n + 1)
noncomputable def strsOf : List AV → Option (List (List Nat))
  | [] => some []
  | .str s :: r => (strsOf r).map (s :: ·)
  | _ => none
noncomputable def joinS (sep : List Nat) : List (List Nat) → List Nat
  | [] => []
  | [x] => x
  | x :: r => x ++ sep ++ joinS sep r
noncomputable def findIdxEq (h : AHeap) (v : AV) : List AV → Nat → Option Nat
  | [], _ => none
  | x :: r, i => match eqv h eqFuel x v with
    | some true => some i
    | some false => findIdxEq h v r (i + 1)
    | none => none
noncomputable def countEq (h : AHeap) (v : AV) : List AV → Option Nat
  | [] => some 0
  | x :: r => match eqv h eqFuel x v, countEq h v r with
    | some true, some n => some (n + 1)
    | some false, some n => some n
    | _, _ => none

noncomputable def appendAV (o : AV) (as : List AV) (h : AHeap) : Res AV := match o with
  | .loc n => match as with
    | [v] => match h[n]? with
      | some (.list xs) => if xs.length < sizeLim then .ok .none (h.set n (.list (xs ++ [v]))) else .bad
      | _ => .bad
    | _ => .bad
  | _ => .bad
noncomputable def indexAV (o : AV) (as : List AV) (h : AHeap) : Res AV := match o with
  | .str x => match as with
    | [.str [c]] => match x.findIdx? (· == c) with
      | some i => .ok (.int i) h
      | none => .bad
    | _ => .bad
  | _ => .bad
noncomputable def bmAV (m : BM) (o : AV) (as : List AV) (h : AHeap) : Res AV := match m with
  | .append => appendAV o as h
  | .index => indexAV o as h
  | _ => .bad

/-- the kind of thing that a method is asked of -/
noncomputable def bmOk (m : BM) (v : AV) (h : AHeap) : Bool := match v with
  | .str _ => (match m with | .index => true | _ => false)
  | .loc n => (match h[n]? with
    | some (.list _) => (match m with | .append => true | _ => false)
    | some (.dict _ _) => (match m with | _ => false)
    | _ => false)
  | _ => false

noncomputable def idx? {α : Type} (xs : List α) (i : Int) : Option α :=
  if 0 ≤ i then xs[i.toNat]? else if 0 ≤ i + xs.length then xs[(i + xs.length).toNat]? else none
noncomputable def subAV (o i : AV) (h : AHeap) : Res AV := match o, i with
  | .tup xs, .int k => if xs.length ≤ sizeLim then (match idx? xs k with
    | some v => .ok v h
    | none => .bad) else .bad
  | .str xs, .int k => if xs.length ≤ sizeLim then (match idx? xs k with
    | some c => .ok (.str [c]) h
    | none => .bad) else .bad
  | .scr xs, .int k => if xs.length ≤ sizeLim then (match idx? xs k with
    | some i => .ok (.int i) h
    | none => .bad) else .bad
  | .loc n, i => match h[n]?, i with
    | some (.list xs), .int k => match idx? xs k with
      | some v => .ok v h
      | none => .bad
    | some (.dict kvs _), i => match i.key? with
      | some k => if sortOk kvs k then (match kvs.lookup k with
        | some v => .ok v h
        | none => .bad) else .bad
      | none => .bad
    | _, _ => .bad
  | _, _ => .bad

noncomputable def clampIdx (n : Nat) (i : Int) : Nat := if i < 0 then (i + n).toNat else min i.toNat n
noncomputable def cutList {α : Type} (xs : List α) (lo hi : Int) : List α := (xs.take (clampIdx xs.length hi)).drop (clampIdx xs.length lo)
noncomputable def loOf : AV → Option Int
  | .none => some 0
  | .int i => some i
  | _ => none
noncomputable def hiOf (n : Nat) : AV → Option Int
  | .none => some n
  | .int i => some i
  | _ => none
noncomputable def sliceAV (o lo hi : AV) (h : AHeap) : Res AV := match o with
  | .scr xs => if xs.length ≤ sizeLim then (match loOf lo, hiOf xs.length hi with
    | some a, some b => newList ((cutList xs a b).map .int) h
    | _, _ => .bad) else .bad
  | .str x => if x.length ≤ sizeLim then (match loOf lo, hiOf x.length hi with
    | some a, some b => .ok (.str (cutList x a b)) h
    | _, _ => .bad) else .bad
  | .loc n => match h[n]? with
    | some (.list xs) => match loOf lo, hiOf xs.length hi with
      | some a, some b => newList (cutList xs a b) h
      | _, _ => .bad
    | _ => .bad
  | _ => .bad

noncomputable def isTy (h : AHeap) (a : AV) (t : Ty) : Option Bool := match t with
  | .own _ => none
  | .valueError => none
  | t => match a with
    | .int _ => some (match t with | .int => true | _ => false)
    | .bool _ => some (match t with | .int => true | .bool => true | _ => false)
    | .str _ => some (match t with | .str => true | _ => false)
    | .tup _ => some (match t with | .tuple => true | _ => false)
    | .loc n => match h[n]? with
      | some (.list _) => some (match t with | .list => true | _ => false)
      | some (.dict _ _) => some false
      | _ => none
    | _ => none
noncomputable def isTys (h : AHeap) (a : AV) : List Ty → Option Bool
  | [t] => isTy h a t
  | _ => none

noncomputable def plainTy : Ty → Bool
  | .own _ | .valueError => false
  | _ => true
noncomputable def tysSup : List Ty → Bool
  | [t] => plainTy t
  | _ => false
noncomputable def biSup : BI → Bool
  | .len => true
  | _ => false
noncomputable def bmSup : BM → Bool
  | .append | .index => true
  | _ => false
noncomputable def Tgt.isMany : Tgt → Bool
  | .many _ => true
  | _ => false
noncomputable def setMany : Locs → List Nat → List AV → Option Locs
  | l, [], [] => some l
  | l, i :: is, v :: vs => setMany (l.set i (some v)) is vs
  | _, _, _ => none
noncomputable def setTgt (l : Locs) (t : Tgt) (v : AV) : Option Locs := match t with
  | .one i => some (l.set i (some v))
  | .many _ => none

structure Ctx where
  q : Bool
  F : Bool → Str → List AV → AHeap → Res AV
  G : Str → Option AV
  fuel : Nat

noncomputable def rangeOf : List AV → Option AV
  | [.int b] => if b.natAbs ≤ sizeLim then some (.rng 0 b 1) else none
  | [.int a, .int b] => if a.natAbs ≤ sizeLim ∧ b.natAbs ≤ sizeLim then some (.rng a b 1) else none
  | [.int a, .int b, .int s] => if s = -1 ∧ a.natAbs ≤ sizeLim ∧ b.natAbs ≤ sizeLim then some (.rng a b (-1)) else none
  | _ => none

/-- the epoch of what is walked -/
noncomputable def epochOf (a : AV) (h : AHeap) : Option Nat := match a with
  | .loc n => match h[n]? with
    | some (.dict _ e) => some e
    | _ => none
  | _ => none
/-- the item at a place, as the walk finds it now -/
noncomputable def nextAt (src : AV) (e : Option Nat) (i : Nat) (h : AHeap) : Option (Option AV) :=
  match itemsAV src h with
  | some xs => if epochOf src h = e then some xs[i]? else none
  | none => none

noncomputable def compLoop (body : AV → AHeap → Res (Option AV)) (src : AV) (e : Option Nat) : Nat → Nat → List AV → AHeap → Res (List AV)
  | 0, _, _, _ => .bad
  | f + 1, i, acc, h => match nextAt src e i h with
    | none => .bad
    | some none => .ok acc h
    | some (some v) => (body v h).bind fun r h => match r with
      | some x => if acc.length < sizeLim then compLoop body src e f (i + 1) (acc ++ [x]) h else .bad
      | none => compLoop body src e f (i + 1) acc h

mutual
noncomputable def evalX (c : Ctx) : X → Locs → AHeap → Res AV
  | .none, _, h => .ok .none h
  | .bool b, _, h => .ok (.bool b) h
  | .int i, _, h => .ok (.int i) h
  | .str s, _, h => .ok (.str s) h
  | .loc i, l, h => match l[i]? with
    | some (some v) => .ok v h
    | _ => .bad
  | .glob x, _, h => match c.G x with
    | some v => .ok v h
    | none => .bad
  | .bin op a b, l, h => (evalX c a l h).bind fun x h => (evalX c b l h).bind fun y h => binAV op x y h
  | .neg a, l, h => (evalX c a l h).bind negAV
  | .not a, l, h => (evalX c a l h).bind fun x h => match x with
    | .bool b => .ok (.bool !b) h
    | _ => .bad
  | .and a b, l, h => (evalX c a l h).bind fun x h => match x with
    | .bool true => evalX c b l h
    | .bool false => .ok (.bool false) h
    | _ => .bad
  | .or a b, l, h => (evalX c a l h).bind fun x h => match x with
    | .bool false => evalX c b l h
    | .bool true => .ok (.bool true) h
    | _ => .bad
  | .cmp op a b, l, h => (evalX c a l h).bind fun x h => (evalX c b l h).bind fun y h => match cmpAV h op x y with
    | some r => .ok (.bool r) h
    | none => .bad
  | .cmp2 o1 o2 a m b, l, h => (evalX c a l h).bind fun x h => (evalX c m l h).bind fun y h => match cmpAV h o1 x y with
    | some true => (evalX c b l h).bind fun z h => match cmpAV h o2 y z with
      | some r => .ok (.bool r) h
      | none => .bad
    | some false => .ok (.bool false) h
    | none => .bad
  | .call f as, l, h => (evalXs c as l h).bind fun vs h => c.F c.q f vs h
  | .bi b as, l, h => if !biSup b then .bad else (evalXs c as l h).bind fun vs h => biAV b vs h
  | .isi x ts, l, h => if !tysSup ts then .bad else (evalX c x l h).bind fun v h => match isTys h v ts with
    | some r => .ok (.bool r) h
    | none => .bad
  | .new _, _, _ => .bad
  | .im _ _ _, _, _ => .bad
  | .bm m o as, l, h => if !bmSup m then .bad else (evalX c o l h).bind fun v h => if bmOk m v h then (evalXs c as l h).bind fun vs h => bmAV m v vs h else .bad
  | .attr _ _, _, _ => .bad
  | .sub o i, l, h => (evalX c o l h).bind fun v h => (evalX c i l h).bind fun k h => subAV v k h
  | .slice o lo hi, l, h => (evalX c o l h).bind fun v h => (evalX c lo l h).bind fun a h => (evalX c hi l h).bind fun b h => sliceAV v a b h
  | .tup es, l, h => (evalXs c es l h).bind fun vs h => if vs.length ≤ sizeLim then .ok (.tup vs) h else .bad
  | .list es, l, h => (evalXs c es l h).bind fun vs h => newList vs h
  | .dict0, _, _ => .bad
  | .dict1 _ _, _, _ => .bad
  | .range as, l, h => (evalXs c as l h).bind fun vs h => match rangeOf vs with
    | some v => .ok v h
    | none => .bad
  | .comp _ _ _ _ _, _, _ => .bad
noncomputable def evalXs (c : Ctx) : Xs → Locs → AHeap → Res (List AV)
  | .nil, _, h => .ok [] h
  | .cons x r, l, h => (evalX c x l h).bind fun v h => (evalXs c r l h).bind fun vs h => .ok (v :: vs) h
noncomputable def evalConds (c : Ctx) : Xs → Locs → AHeap → Res Bool
  | .nil, _, h => .ok true h
  | .cons x r, l, h => (evalX c x l h).bind fun v h => match v with
    | .bool true => evalConds c r l h
    | .bool false => .ok false h
    | _ => .bad
end

inductive Flow where
  | next | cont
  | ret (v : AV)
inductive SR where
  | ok (f : Flow) (l : Locs) (h : AHeap)
  | ex (c : Str) (l : Locs) (h : AHeap)
  | bad
noncomputable def Res.st {α : Type} (r : Res α) (l : Locs) (f : α → AHeap → SR) : SR := match r with
  | .ok a h => f a h
  | .ex c h => .ex c l h
  | .bad => .bad

noncomputable def setItemAV (o k v : AV) (h : AHeap) : Option AHeap := match o with
  | .loc n => match h[n]? with
    | some (.dict kvs ep) => match k.key? with
      | some k => if sortOk kvs k && decide (kvs.length < sizeLim) then some (h.set n (.dict (dictPut kvs k v) (if (kvs.lookup k).isSome then ep else ep + 1))) else none
      | none => none
    | some (.list xs) => match k with
      | .int i => if 0 ≤ i ∧ i < xs.length then some (h.set n (.list (xs.set i.toNat v)))
        else if i < 0 ∧ 0 ≤ i + xs.length then some (h.set n (.list (xs.set (i + xs.length).toNat v))) else none
      | _ => none
    | _ => none
  | _ => none
noncomputable def setAttrAV (o : AV) (a : Nat) (v : AV) (h : AHeap) : Option AHeap := match o with
  | .loc n => match h[n]? with
    | some (.inst d) => match h[d]? with
      | some (.ns fs) => if a < fs.length then some (h.set d (.ns (fs.set a (some v)))) else none
      | _ => none
    | _ => none
  | _ => none

noncomputable def whileLoop (test : Locs → AHeap → Res AV) (body : Locs → AHeap → SR) : Nat → Locs → AHeap → SR
  | 0, _, _ => .bad
  | f + 1, l, h => match test l h with
    | .ok (.bool false) h => .ok .next l h
    | .ok (.bool true) h => match body l h with
      | .ok (.ret v) l h => .ok (.ret v) l h
      | .ok _ l h => whileLoop test body f l h
      | _ => .bad
    | _ => .bad
noncomputable def forLoop (tgt : Tgt) (body : Locs → AHeap → SR) (src : AV) (e : Option Nat) : Nat → Nat → Locs → AHeap → SR
  | 0, _, _, _ => .bad
  | f + 1, i, l, h => match nextAt src e i h with
    | none => .bad
    | some none => .ok .next l h
    | some (some v) => match setTgt l tgt v with
      | none => .bad
      | some l => match body l h with
        | .ok (.ret v) l h => .ok (.ret v) l h
        | .ok _ l h => forLoop tgt body src e f (i + 1) l h
        | _ => .bad
noncomputable def excIs (c d : Str) : Bool := c == d || d == ("NestError" : Str)

mutual
noncomputable def execS (c : Ctx) : S → Locs → AHeap → SR
  | .expr x, l, h => (evalX c x l h).st l fun _ h => .ok .next l h
  | .ret x, l, h => (evalX c x l h).st l fun v h => .ok (.ret v) l h
  | .asg t x, l, h => if t.isMany then .bad else (evalX c x l h).st l fun v h => match setTgt l t v with
    | some l => .ok .next l h
    | none => .bad
  | .setattr _ _ _, _, _ => .bad
  | .setitem _ _ _, _, _ => .bad
  | .iff t a b, l, h => (evalX c t l h).st l fun v h => match v with
    | .bool true => execSs c a l h
    | .bool false => execSs c b l h
    | _ => .bad
  | .whil _ _, _, _ => .bad
  | .forr t it b, l, h => if c.q || t.isMany then .bad else (evalX c it l h).st l fun src h => forLoop t (fun l h => execSs c b l h) src (epochOf src h) c.fuel 0 l h
  | .cont, l, h => .ok .cont l h
  | .pass, l, h => .ok .next l h
  | .raise _, _, _ => .bad
  | .tryy _ _, _, _ => .bad
noncomputable def execSs (c : Ctx) : Ss → Locs → AHeap → SR
  | .nil, l, h => .ok .next l h
  | .cons s r, l, h => match execS c s l h with
    | .ok .next l h => execSs c r l h
    | r => r
end

noncomputable def runDef (c : Ctx) (d : FDef) (as : List AV) (h : AHeap) : Res AV :=
  if as.length = d.params then
    match execSs c d.body (as.map some ++ List.replicate (d.slots - d.params) none) h with
    | .ok (.ret v) _ h => .ok v h
    | .ok .next _ h => .ok .none h
    | .ok .cont _ _ => .bad
    | .ex _ _ _ => .bad
    | .bad => .bad
  else .bad

noncomputable def fuelOf : Nat := 100000
noncomputable def semF (p : Prog) : Nat → Bool → Str → List AV → AHeap → Res AV
  | 0 => fun _ _ _ _ => .bad
  | n + 1 => fun q f as h => match p.defs.lookup f with
    | some d => runDef ⟨q, semF p n, fun x => p.consts.lookup x, fuelOf⟩ d as h
    | none => .bad

noncomputable def runLaw (p : Prog) (script : List Int) : Res AV := semF p 16 false "law" [.scr script] []
end Mine

namespace Mine
open PySem PySem.Spec PyProof.Rows

abbrev Sg := List (Addr × Nat)

structure Bs where
  h₀ : Heap
  nests : Addr
  exc : Str → Addr

abbrev ObjAt (h : Heap) (a : Addr) (cls : Value) (d : Data) : Prop := h.get? a = some { cls := cls, data := d }

mutual
noncomputable def RV (B : Bs) (h : Heap) (σ : Sg) : AV → Value → Prop
  | .none, v => v = .none
  | .bool b, v => v = .bool b
  | .int i, v => ∃ t, v = .int i t
  | .str s, v => ∃ t, v = .str ⟨s.toArray⟩ t
  | .tup xs, v => ∃ a ws n, v = .ref a ∧ ObjAt h a (.type "tuple") (.seq ws n) ∧ RVs B h σ xs ws.toList
  | .loc n, v => ∃ a off, v = .ref a ∧ σ[n]? = some (a, off)
  | .exc c, v => ∃ a o vs, v = .ref a ∧ h.get? a = some o ∧ o.cls = .ref (B.exc c) ∧ o.data = .fields vs
  | .rng a b s, v => ∃ r t u x, v = .ref r ∧ IsRange h r a b s t u x
  | .scr xs, v => ∃ a items, v = .ref a ∧ B.h₀.IsList a items ∧ RIs xs items.toList
noncomputable def RVs (B : Bs) (h : Heap) (σ : Sg) : List AV → List Value → Prop
  | [], [] => True
  | x :: xs, w :: ws => RV B h σ x w ∧ RVs B h σ xs ws
  | _, _ => False
noncomputable def RIs : List Int → List Value → Prop
  | [], [] => True
  | x :: xs, w :: ws => (∃ t, w = .int x t) ∧ RIs xs ws
  | _, _ => False
end

/-- objects that nothing turns -/
noncomputable def fixed (o : Obj) : Prop := match o.data with
  | .seq _ _ => o.cls = .type "tuple"
  | .fields _ => o.cls = .type "range" ∨ ∃ a, o.cls = .ref a
  | _ => False

noncomputable def Near (o : Obj) (r : Option Obj) : Prop := r = some o ∨ (o.cls = .type "frame" ∧ ∃ sl, r = some { o with slots := sl })

structure Grows (σ σ' : Sg) (X : List Addr) (h h' : Heap) : Prop where
  ext : ∃ τ, σ' = σ ++ τ ∧ ∀ p ∈ τ, h.get? p.1 = none
  fix : ∀ b o, h.get? b = some o → fixed o → h'.get? b = some o
  oth : ∀ b o, h.get? b = some o → b ∉ σ.map (·.1) → b ∉ X → Near o (h'.get? b)
  ex : ∀ b o, h.get? b = some o → ∃ o', h'.get? b = some o'

theorem Near.refl {o : Obj} : Near o (some o) := .inl rfl
theorem Near.trans {o o' : Obj} {r r' : Option Obj} (h1 : Near o r) (e : r = some o') (h2 : Near o' r') : Near o r' := by
  subst e
  rcases h1 with h1 | ⟨hc, sl, h1⟩
  · cases h1; exact h2
  · cases h1
    rcases h2 with h2 | ⟨_, sl', h2⟩
    · exact .inr ⟨hc, sl, h2⟩
    · exact .inr ⟨hc, sl', h2⟩
theorem Near.get {o : Obj} {r : Option Obj} (h : Near o r) : ∃ o', r = some o' ∧ o'.cls = o.cls ∧ o'.data = o.data ∧ o'.dict = o.dict := by
  rcases h with h | ⟨_, sl, h⟩
  · exact ⟨o, h, rfl, rfl, rfl⟩
  · exact ⟨_, h, rfl, rfl, rfl⟩

theorem Grows.refl (σ : Sg) (X : List Addr) (h : Heap) : Grows σ σ X h h :=
  ⟨⟨[], by simp, fun _ hp => nomatch hp⟩, fun _ _ e _ => e, fun b o e _ _ => by rw [e]; exact .refl, fun b o e => ⟨o, e⟩⟩

theorem Grows.trans {σ₁ σ₂ σ₃ : Sg} {X : List Addr} {h₁ h₂ h₃ : Heap} (x : Grows σ₁ σ₂ X h₁ h₂) (y : Grows σ₂ σ₃ X h₂ h₃) : Grows σ₁ σ₃ X h₁ h₃ := by
  obtain ⟨τ, rfl, hτ⟩ := x.ext
  obtain ⟨τ', rfl, hτ'⟩ := y.ext
  refine ⟨⟨τ ++ τ', by simp, fun p hp => ?_⟩, fun b o e f => y.fix b o (x.fix b o e f) f, fun b o e h1 h2 => ?_, fun b o e => let ⟨o', e'⟩ := x.ex b o e; y.ex b o' e'⟩
  · rcases List.mem_append.mp hp with hp | hp
    · exact hτ p hp
    · cases hq : h₁.get? p.1 with
      | none => rfl
      | some o =>
        obtain ⟨o', e'⟩ := x.ex _ o hq
        rw [hτ' p hp] at e'; cases e'
  · have n := x.oth b o e h1 h2
    obtain ⟨o', e', _⟩ := n.get
    refine n.trans e' (y.oth b o' e' ?_ h2)
    rw [List.map_append, List.mem_append]
    rintro (hb | hb)
    · exact h1 hb
    · obtain ⟨p, hp, rfl⟩ := List.mem_map.mp hb
      rw [hτ p hp] at e; cases e

/-- what is let turn may be new, or be let turn anyway -/
theorem Grows.drop {σ σ' : Sg} {X Y : List Addr} {h h' : Heap} (x : Grows σ σ' X h h') (hs : ∀ a ∈ X, a ∈ Y ∨ h.get? a = none) : Grows σ σ' Y h h' :=
  ⟨x.ext, x.fix, fun b o e h1 h2 => x.oth b o e h1 fun hb => (hs b hb).elim h2 (fun q => by rw [q] at e; cases e), x.ex⟩
theorem Grows.more {σ σ' : Sg} {X Y : List Addr} {h h' : Heap} (x : Grows σ σ' X h h') (hs : ∀ a ∈ X, a ∈ Y) : Grows σ σ' Y h h' :=
  ⟨x.ext, x.fix, fun b o e h1 h2 => x.oth b o e h1 fun hb => h2 (hs b hb), x.ex⟩

theorem Grows.look {σ σ' : Sg} {X : List Addr} {h h' : Heap} (x : Grows σ σ' X h h') {n : Nat} {p : Addr × Nat} (e : σ[n]? = some p) : σ'[n]? = some p := by
  obtain ⟨τ, rfl, _⟩ := x.ext
  rw [List.getElem?_append_left (List.getElem?_eq_some_iff.mp e).1]; exact e

theorem objAt_fix {σ σ' : Sg} {X : List Addr} {h h' : Heap} (x : Grows σ σ' X h h') {a : Addr} {c : Value} {d : Data} (o : ObjAt h a c d) (f : ∀ o : Obj, o.cls = c → o.data = d → fixed o) : ObjAt h' a c d :=
  x.fix a _ o (f _ rfl rfl)

theorem fixed_tuple {o : Obj} {ws : Array Value} {n : Nat} (hc : o.cls = .type "tuple") (hd : o.data = .seq ws n) : fixed o := by
  unfold fixed; rw [hd]; exact hc
theorem fixed_fields {o : Obj} {ws : Array Value} (hd : o.data = .fields ws) (hc : o.cls = .type "range" ∨ ∃ a, o.cls = .ref a) : fixed o := by
  unfold fixed; rw [hd]; exact hc

mutual
theorem RV.grows {B : Bs} {σ σ' : Sg} {X : List Addr} {h h' : Heap} (g : Grows σ σ' X h h') : ∀ (x : AV) (v : Value), RV B h σ x v → RV B h' σ' x v
  | .none, v, r => r
  | .bool b, v, r => r
  | .int i, v, r => r
  | .str s, v, r => r
  | .tup xs, v, r => by
    obtain ⟨a, ws, n, e, o, rs⟩ := r
    exact ⟨a, ws, n, e, objAt_fix g o (fun _ hc hd => fixed_tuple hc hd), RVs.grows g xs ws.toList rs⟩
  | .loc n, v, r => by
    obtain ⟨a, off, e, l⟩ := r
    exact ⟨a, off, e, g.look l⟩
  | .exc c, v, r => by
    obtain ⟨a, o, vs, e, ho, hc, hd⟩ := r
    exact ⟨a, o, vs, e, g.fix a o ho (fixed_fields hd (.inr ⟨_, hc⟩)), hc, hd⟩
  | .rng a b s, v, r => by
    obtain ⟨a, t, u, x, e, ho⟩ := r
    exact ⟨a, t, u, x, e, g.fix a _ ho (fixed_fields rfl (.inl rfl))⟩
  | .scr xs, v, r => r
theorem RVs.grows {B : Bs} {σ σ' : Sg} {X : List Addr} {h h' : Heap} (g : Grows σ σ' X h h') : ∀ (xs : List AV) (vs : List Value), RVs B h σ xs vs → RVs B h' σ' xs vs
  | [], [], r => r
  | x :: xs, w :: ws, r => ⟨RV.grows g x w r.1, RVs.grows g xs ws r.2⟩
  | [], _ :: _, r => r.elim
  | _ :: _, [], r => r.elim
end

mutual
theorem RV.fixes {B : Bs} {σ : Sg} {h h' : Heap} (g : ∀ b o, h.get? b = some o → fixed o → h'.get? b = some o) : ∀ (x : AV) (v : Value), RV B h σ x v → RV B h' σ x v
  | .none, v, r => r
  | .bool b, v, r => r
  | .int i, v, r => r
  | .str s, v, r => r
  | .tup xs, v, r => by
    obtain ⟨a, ws, n, e, o, rs⟩ := r
    exact ⟨a, ws, n, e, g a _ o (fixed_tuple rfl rfl), RVs.fixes g xs ws.toList rs⟩
  | .loc n, v, r => r
  | .exc c, v, r => by
    obtain ⟨a, o, vs, e, ho, hc, hd⟩ := r
    exact ⟨a, o, vs, e, g a o ho (fixed_fields hd (.inr ⟨_, hc⟩)), hc, hd⟩
  | .rng a b s, v, r => by
    obtain ⟨a, t, u, x, e, ho⟩ := r
    exact ⟨a, t, u, x, e, g a _ ho (fixed_fields rfl (.inl rfl))⟩
  | .scr xs, v, r => r
theorem RVs.fixes {B : Bs} {σ : Sg} {h h' : Heap} (g : ∀ b o, h.get? b = some o → fixed o → h'.get? b = some o) : ∀ (xs : List AV) (vs : List Value), RVs B h σ xs vs → RVs B h' σ xs vs
  | [], [], r => r
  | x :: xs, w :: ws, r => ⟨RV.fixes g x w r.1, RVs.fixes g xs ws r.2⟩
  | [], _ :: _, r => r.elim
  | _ :: _, [], r => r.elim
end

theorem RVs.length {B : Bs} {h : Heap} {σ : Sg} : ∀ {xs : List AV} {vs : List Value}, RVs B h σ xs vs → xs.length = vs.length
  | [], [], _ => rfl
  | _ :: _, _ :: _, r => by simp [RVs.length r.2]
  | [], _ :: _, r => r.elim
  | _ :: _, [], r => r.elim
theorem RVs.get {B : Bs} {h : Heap} {σ : Sg} : ∀ {xs : List AV} {vs : List Value}, RVs B h σ xs vs → ∀ {i : Nat} {x : AV}, xs[i]? = some x → ∃ v, vs[i]? = some v ∧ RV B h σ x v
  | [], [], _, i, x, e => by simp at e
  | x :: xs, w :: ws, r, 0, y, e => by
    simp at e; subst e; exact ⟨w, by simp, r.1⟩
  | x :: xs, w :: ws, r, i + 1, y, e => by
    simp at e
    obtain ⟨v, h1, h2⟩ := RVs.get r.2 e
    exact ⟨v, by simpa using h1, h2⟩
  | [], _ :: _, r, _, _, _ => r.elim
  | _ :: _, [], r, _, _, _ => r.elim
theorem RVs.append {B : Bs} {h : Heap} {σ : Sg} : ∀ {xs : List AV} {vs : List Value} {ys : List AV} {ws : List Value}, RVs B h σ xs vs → RVs B h σ ys ws → RVs B h σ (xs ++ ys) (vs ++ ws)
  | [], [], _, _, _, r => r
  | _ :: _, _ :: _, _, _, q, r => ⟨q.1, RVs.append q.2 r⟩
  | [], _ :: _, _, _, q, _ => q.elim
  | _ :: _, [], _, _, q, _ => q.elim
theorem RVs.set {B : Bs} {h : Heap} {σ : Sg} {x : AV} {v : Value} (q : RV B h σ x v) : ∀ {xs : List AV} {vs : List Value}, RVs B h σ xs vs → ∀ i, RVs B h σ (xs.set i x) (vs.set i v)
  | [], [], r, _ => r
  | _ :: _, _ :: _, r, 0 => ⟨q, r.2⟩
  | _ :: _, _ :: _, r, i + 1 => ⟨r.1, RVs.set q r.2 i⟩
  | [], _ :: _, q, _ => q.elim
  | _ :: _, [], q, _ => q.elim
theorem RVs.take {B : Bs} {h : Heap} {σ : Sg} : ∀ {xs : List AV} {vs : List Value}, RVs B h σ xs vs → ∀ i, RVs B h σ (xs.take i) (vs.take i)
  | [], [], r, i => by simp [RVs]
  | _ :: _, _ :: _, r, 0 => by simp [RVs]
  | _ :: _, _ :: _, r, i + 1 => ⟨r.1, RVs.take r.2 i⟩
  | [], _ :: _, q, _ => q.elim
  | _ :: _, [], q, _ => q.elim
theorem RVs.drop {B : Bs} {h : Heap} {σ : Sg} : ∀ {xs : List AV} {vs : List Value}, RVs B h σ xs vs → ∀ i, RVs B h σ (xs.drop i) (vs.drop i)
  | [], [], r, i => by simp [RVs]
  | _ :: _, _ :: _, r, 0 => r
  | _ :: _, _ :: _, r, i + 1 => RVs.drop r.2 i
  | [], _ :: _, q, _ => q.elim
  | _ :: _, [], q, _ => q.elim

/-- the hash of a key -/
noncomputable def keyHash (w : World) : Key → Int
  | .int i => hashInt i
  | .str s => hashStr w ⟨s.toArray⟩
  | .pair a b => reduceHash (Builtin.Tuple.tupleHashOf [hashInt a, hashInt b])

noncomputable def REs (w : World) (B : Bs) (h : Heap) (σ : Sg) : List (Key × AV) → List DictEntry → Prop
  | [], [] => True
  | p :: ps, e :: es => (e.hash = keyHash w p.1 ∧ RV B h σ p.1.av e.key ∧ RV B h σ p.2 e.val) ∧ REs w B h σ ps es
  | _, _ => False

noncomputable def attrName : Nat → Str
  | 0 => "count" | 1 => "first" | 2 => "second" | 3 => "standing" | _ => "things"

noncomputable def RO (w : World) (B : Bs) (h : Heap) (σ : Sg) (a : Addr) (off : Nat) : AObj → Prop
  | .list xs => ∃ ws n, ObjAt h a (.type "list") (.seq ws n) ∧ RVs B h σ xs ws.toList ∧ xs.length ≤ sizeLine
  | .dict kvs ep => ∃ es, ObjAt h a (.type "dict") (.dict es (off + ep)) ∧ REs w B h σ kvs es.toList ∧ (kvs.map (·.1)).Nodup ∧ (∀ p ∈ kvs, ∀ q ∈ kvs, p.1.sort = q.1.sort) ∧ kvs.length ≤ sizeLine
  | .set ks => ∃ es ep tb, ObjAt h a (.type "set") (.set es ep tb) ∧ es.size = ks.length ∧ tb.fits es.size = true ∧ ks.length ≤ sizeLine
  | .ns fs => ∃ m, h.Ns a m ∧ (∃ o, h.get? a = some o ∧ o.cls = .type "dict") ∧ fs.length = 5 ∧ (∀ i x, fs[i]? = some (some x) → ∃ v, m (attrName i) = some v ∧ RV B h σ x v) ∧ (∀ y v, m y = some v → ∃ i, i < 5 ∧ y = attrName i)
  | .inst d => ∃ o ad offd, h.get? a = some o ∧ o.cls = .ref B.nests ∧ o.data = .plain ∧ o.dict = some ad ∧ σ[d]? = some (ad, offd)

structure St (w : World) (B : Bs) (σ : Sg) (hp : AHeap) (h : Heap) : Prop where
  len : σ.length = hp.length
  nd : (σ.map (·.1)).Nodup
  obj : ∀ (n : Nat) a off o, σ[n]? = some (a, off) → hp[n]? = some o → RO w B h σ a off o
  base : B.h₀.StaysIn h
  new : ∀ p ∈ σ, B.h₀.get? p.1 = none

theorem REs.grows {w : World} {B : Bs} {σ σ' : Sg} {X : List Addr} {h h' : Heap} (g : Grows σ σ' X h h') : ∀ {ps : List (Key × AV)} {es : List DictEntry}, REs w B h σ ps es → REs w B h' σ' ps es
  | [], [], r => r
  | _ :: _, _ :: _, r => ⟨⟨r.1.1, RV.grows g _ _ r.1.2.1, RV.grows g _ _ r.1.2.2⟩, REs.grows g r.2⟩
  | [], _ :: _, r => r.elim
  | _ :: _, [], r => r.elim
theorem REs.length {w : World} {B : Bs} {h : Heap} {σ : Sg} : ∀ {ps : List (Key × AV)} {es : List DictEntry}, REs w B h σ ps es → ps.length = es.length
  | [], [], _ => rfl
  | _ :: _, _ :: _, r => by simp [REs.length r.2]
  | [], _ :: _, r => r.elim
  | _ :: _, [], r => r.elim
theorem REs.append {w : World} {B : Bs} {h : Heap} {σ : Sg} : ∀ {ps : List (Key × AV)} {es : List DictEntry} {qs : List (Key × AV)} {fs : List DictEntry}, REs w B h σ ps es → REs w B h σ qs fs → REs w B h σ (ps ++ qs) (es ++ fs)
  | [], [], _, _, _, r => r
  | _ :: _, _ :: _, _, _, q, r => ⟨q.1, REs.append q.2 r⟩
  | [], _ :: _, _, _, q, _ => q.elim
  | _ :: _, [], _, _, q, _ => q.elim
theorem REs.get {w : World} {B : Bs} {h : Heap} {σ : Sg} : ∀ {ps : List (Key × AV)} {es : List DictEntry}, REs w B h σ ps es → ∀ {i : Nat} {p : Key × AV}, ps[i]? = some p →
    ∃ e, es[i]? = some e ∧ e.hash = keyHash w p.1 ∧ RV B h σ p.1.av e.key ∧ RV B h σ p.2 e.val
  | [], [], _, i, x, e => by simp at e
  | x :: xs, w :: ws, r, 0, y, e => by
    simp at e; subst e; exact ⟨w, by simp, r.1⟩
  | x :: xs, w :: ws, r, i + 1, y, e => by
    simp at e
    obtain ⟨v, h1, h2⟩ := REs.get r.2 e
    exact ⟨v, by simpa using h1, h2⟩
  | [], _ :: _, r, _, _, _ => r.elim
  | _ :: _, [], r, _, _, _ => r.elim


theorem RO.keep {w : World} {B : Bs} {σ σ' : Sg} {X : List Addr} {h h' : Heap} {a : Addr} {off : Nat} (g : Grows σ σ' X h h') (e : h'.get? a = h.get? a) : ∀ {o : AObj}, RO w B h σ a off o → RO w B h' σ' a off o
  | .list xs, ⟨ws, n, o, r, q⟩ => ⟨ws, n, (e.trans o), RVs.grows g _ _ r, q⟩
  | .dict kvs ep, ⟨es, o, r, q⟩ => ⟨es, (e.trans o), r.grows g, q⟩
  | .set ks, ⟨es, ep, tb, o, r⟩ => ⟨es, ep, tb, (e.trans o), r⟩
  | .ns fs, ⟨m, ⟨o, es, ep, ho, r⟩, ⟨o', ho', hc⟩, l, hm, hn⟩ => ⟨m, ⟨o, es, ep, e.trans ho, r⟩, ⟨o', e.trans ho', hc⟩, l, fun i x hi => let ⟨v, h1, h2⟩ := hm i x hi; ⟨v, h1, RV.grows g _ _ h2⟩, hn⟩
  | .inst d, ⟨o, ad, offd, ho, r1, r2, r3, r4⟩ => ⟨o, ad, offd, e.trans ho, r1, r2, r3, g.look r4⟩

theorem REs.fixes {w : World} {B : Bs} {σ : Sg} {h h' : Heap} (g : ∀ b o, h.get? b = some o → fixed o → h'.get? b = some o) : ∀ {ps : List (Key × AV)} {es : List DictEntry}, REs w B h σ ps es → REs w B h' σ ps es
  | [], [], r => r
  | _ :: _, _ :: _, r => ⟨⟨r.1.1, RV.fixes g _ _ r.1.2.1, RV.fixes g _ _ r.1.2.2⟩, REs.fixes g r.2⟩
  | [], _ :: _, r => r.elim
  | _ :: _, [], r => r.elim
theorem RO.fixes {w : World} {B : Bs} {σ : Sg} {h h' : Heap} {a : Addr} {off : Nat} (g : ∀ b o, h.get? b = some o → fixed o → h'.get? b = some o) (e : h'.get? a = h.get? a) : ∀ {o : AObj}, RO w B h σ a off o → RO w B h' σ a off o
  | .list xs, ⟨ws, n, o, r, q⟩ => ⟨ws, n, (e.trans o), RVs.fixes g _ _ r, q⟩
  | .dict kvs ep, ⟨es, o, r, q⟩ => ⟨es, (e.trans o), r.fixes g, q⟩
  | .set ks, ⟨es, ep, tb, o, r⟩ => ⟨es, ep, tb, (e.trans o), r⟩
  | .ns fs, ⟨m, ⟨o, es, ep, ho, r⟩, ⟨o', ho', hc⟩, l, hm, hn⟩ => ⟨m, ⟨o, es, ep, e.trans ho, r⟩, ⟨o', e.trans ho', hc⟩, l, fun i x hi => let ⟨v, h1, h2⟩ := hm i x hi; ⟨v, h1, RV.fixes g _ _ h2⟩, hn⟩
  | .inst d, ⟨o, ad, offd, ho, r1, r2, r3, r4⟩ => ⟨o, ad, offd, e.trans ho, r1, r2, r3, r4⟩

theorem RO.there {w : World} {B : Bs} {σ : Sg} {h : Heap} {a : Addr} {off : Nat} : ∀ {o : AObj}, RO w B h σ a off o → ∃ ob, h.get? a = some ob ∧ ¬ fixed ob
  | .list xs, ⟨ws, n, ho, r⟩ => ⟨_, ho, by unfold fixed; simp⟩
  | .dict kvs ep, ⟨es, ho, r⟩ => ⟨_, ho, by unfold fixed; simp⟩
  | .set ks, ⟨es, ep, tb, ho, r⟩ => ⟨_, ho, by unfold fixed; simp⟩
  | .ns fs, ⟨m, ⟨o, es, ep, ho, hd, r⟩, _⟩ => ⟨o, ho, by unfold fixed; rw [hd]; simp⟩
  | .inst d, ⟨o, ad, offd, ho, r1, r2, r3, r4⟩ => ⟨o, ho, by unfold fixed; rw [r2]; simp⟩

theorem St.there {w : World} {B : Bs} {σ : Sg} {hp : AHeap} {h : Heap} (S : St w B σ hp h) {p : Addr × Nat} (hm : p ∈ σ) : ∃ ob, h.get? p.1 = some ob ∧ ¬ fixed ob := by
  obtain ⟨n, hn, e⟩ := List.mem_iff_getElem.mp hm
  have e' : σ[n]? = some (p.1, p.2) := by rw [List.getElem?_eq_getElem hn, e]
  have hl : n < hp.length := S.len ▸ hn
  exact (S.obj n p.1 p.2 hp[n] e' (List.getElem?_eq_getElem hl)).there

theorem Grows.sameBut {σ : Sg} {X : List Addr} {h h' : Heap} {b : Addr} {ob : Obj} (hs : Heap.SameBut b h h') (hf : ∀ o, h.get? b = some o → ¬ fixed o) (hm : b ∈ σ.map (·.1) ∨ b ∈ X) (hself : h'.get? b = some ob) : Grows σ σ X h h' := by
  refine ⟨⟨[], by simp, fun _ hp => nomatch hp⟩, fun c o e f => ?_, fun c o e h1 h2 => ?_, fun c o e => ?_⟩
  · have : c ≠ b := fun q => hf o (q ▸ e) f
    exact (hs.2 c this).trans e
  · have : c ≠ b := fun q => by subst q; exact hm.elim h1 h2
    rw [hs.2 c this, e]; exact .refl
  · by_cases q : c = b
    · subst q; exact ⟨_, (hself : _)⟩
    · exact ⟨o, (hs.2 c q).trans e⟩
theorem Grows.push {σ : Sg} {X : List Addr} {h : Heap} (o : Obj) : Grows σ σ X h (h.push o) :=
  ⟨⟨[], by simp, fun _ hp => nomatch hp⟩, fun c o' e _ => Heap.get?_push_of_some o e, fun c o' e _ _ => by rw [Heap.get?_push_of_some o e]; exact .refl, fun c o' e => ⟨o', Heap.get?_push_of_some o e⟩⟩
theorem push_size (h : Heap) (o : Obj) : (h.push o).objs.size = h.objs.size + 1 := by cases h; simp [Heap.push]

theorem St.step {w : World} {B : Bs} {σ : Sg} {X : List Addr} {hp : AHeap} {h h' : Heap} (S : St w B σ hp h) (g : Grows σ σ X h h') (same : ∀ p ∈ σ, h'.get? p.1 = h.get? p.1) (hb : B.h₀.StaysIn h') : St w B σ hp h' :=
  ⟨S.len, S.nd, fun n a off o e e' => (S.obj n a off o e e').keep g (same (a, off) (List.mem_of_getElem? e)), hb, S.new⟩

theorem St.push {w : World} {B : Bs} {σ : Sg} {hp : AHeap} {h : Heap} (S : St w B σ hp h) (o : Obj) : St w B σ hp (h.push o) :=
  S.step (X := []) (.push o) (fun p hp => by obtain ⟨ob, e, _⟩ := S.there hp; rw [Heap.get?_push_of_some o e, e]) fun b o' e => Heap.get?_push_of_some o (S.base b o' e)

/-- an object that is not followed turns -/
theorem St.sameBut {w : World} {B : Bs} {σ : Sg} {X : List Addr} {hp : AHeap} {h h' : Heap} {b : Addr} (S : St w B σ hp h) (hs : Heap.SameBut b h h') (hf : ∀ o, h.get? b = some o → ¬ fixed o) (hm : b ∉ σ.map (·.1)) (hb : B.h₀.get? b = none) (hX : b ∈ X) {ob : Obj} (hself : h'.get? b = some ob) : St w B σ hp h' ∧ Grows σ σ X h h' := by
  have g : Grows σ σ X h h' := .sameBut hs hf (.inr hX) hself
  refine ⟨S.step g (fun p hp => hs.2 p.1 fun q => hm (q ▸ List.mem_map_of_mem hp)) fun c o e => ?_, g⟩
  have : c ≠ b := fun q => by subst q; rw [hb] at e; cases e
  exact (hs.2 c this).trans (S.base c o e)

theorem St.fresh {w : World} {B : Bs} {σ : Sg} {hp : AHeap} {h : Heap} (S : St w B σ hp h) : h.objs.size ∉ σ.map (·.1) := fun hm => by
  obtain ⟨p, hp, e⟩ := List.mem_map.mp hm
  obtain ⟨ob, e', _⟩ := S.there hp
  have h1 : p.1 < h.objs.size := Heap.lt_size e'
  exact absurd e (Nat.ne_of_lt h1)

/-- a followed object is made -/
theorem St.alloc {w : World} {B : Bs} {σ : Sg} {X : List Addr} {hp : AHeap} {h : Heap} (S : St w B σ hp h) (o : Obj) (off : Nat) (ao : AObj)
    (hr : Grows σ (σ ++ [(h.objs.size, off)]) X h (h.push o) → RO w B (h.push o) (σ ++ [(h.objs.size, off)]) h.objs.size off ao) :
    St w B (σ ++ [(h.objs.size, off)]) (hp ++ [ao]) (h.push o) ∧ Grows σ (σ ++ [(h.objs.size, off)]) X h (h.push o) := by
  have g : Grows σ (σ ++ [(h.objs.size, off)]) X h (h.push o) := ⟨⟨[(h.objs.size, off)], rfl, fun p hp => by
    simp at hp; subst hp
    cases hq : h.get? h.objs.size with
    | none => rfl
    | some o' => exact absurd (Heap.lt_size hq) (Nat.lt_irrefl _)⟩, (Grows.push (σ := σ) (X := X) o).fix, (Grows.push (σ := σ) (X := X) o).oth, (Grows.push (σ := σ) (X := X) o).ex⟩
  refine ⟨⟨by simp [S.len], ?_, fun n a off' o' e e' => ?_, (S.push o).base, fun p hp => ?_⟩, g⟩
  · rw [List.map_append, List.nodup_append]
    refine ⟨S.nd, by simp, fun x hx y hy e => ?_⟩
    simp at hy; subst hy; subst e; exact S.fresh hx
  · by_cases hn : n < σ.length
    · rw [List.getElem?_append_left hn] at e
      rw [List.getElem?_append_left (S.len ▸ hn)] at e'
      obtain ⟨ob, e₁, _⟩ := S.there (List.mem_of_getElem? e)
      exact (S.obj n a off' o' e e').keep g (by rw [Heap.get?_push_of_some o e₁, e₁])
    · have hn' := Nat.le_of_not_lt hn
      rw [List.getElem?_append_right hn'] at e
      rw [List.getElem?_append_right (S.len ▸ hn')] at e'
      rw [← S.len] at e'
      cases hk : n - σ.length with
      | zero =>
        rw [hk] at e e'
        simp at e e'
        obtain ⟨rfl, rfl⟩ := e
        subst e'
        exact hr g
      | succ k => rw [hk] at e; simp at e
  · rcases List.mem_append.mp hp with hp | hp
    · exact S.new p hp
    · simp at hp; subst hp; exact S.base.fresh

/-- a followed object turns -/
theorem St.upd {w : World} {B : Bs} {σ : Sg} {X : List Addr} {hp : AHeap} {h h' : Heap} {n : Nat} {a : Addr} {off : Nat} (S : St w B σ hp h) (hn : σ[n]? = some (a, off)) (hs : Heap.SameBut a h h') (ao : AObj)
    {ob' : Obj} (hself : h'.get? a = some ob') (hr : Grows σ σ X h h' → RO w B h' σ a off ao) : St w B σ (hp.set n ao) h' ∧ Grows σ σ X h h' := by
  have hmem := List.mem_of_getElem? hn
  obtain ⟨ob, e₁, hf⟩ := S.there hmem
  have g : Grows σ σ X h h' := .sameBut hs (fun o e => by rw [e₁] at e; cases e; exact hf) (.inl (List.mem_map_of_mem (f := (·.1)) hmem)) hself
  refine ⟨⟨by simp [S.len], S.nd, fun k b off' o' e e' => ?_, fun c o e => ?_, S.new⟩, g⟩
  · by_cases hk : k = n
    · subst hk
      rw [hn] at e; cases e
      have hl : k < hp.length := S.len ▸ (List.getElem?_eq_some_iff.mp hn).1
      rw [List.getElem?_set_self hl] at e'
      cases e'
      exact hr g
    · rw [List.getElem?_set_ne (Ne.symm hk)] at e'
      have hne : b ≠ a := fun q => by
        have h1 : (σ.map (·.1))[k]? = some b := by rw [List.getElem?_map, e]; rfl
        have h2 : (σ.map (·.1))[n]? = some a := by rw [List.getElem?_map, hn]; rfl
        exact hk ((List.getElem?_inj (List.getElem?_eq_some_iff.mp h1).1 S.nd).mp (by rw [h1, h2, q]))
      exact (S.obj k b off' o' e e').keep g (hs.2 b hne)
  · have : c ≠ a := fun q => by subst q; have := S.new _ hmem; rw [this] at e; cases e
    exact (hs.2 c this).trans (S.base c o e)

end Mine

namespace Mine
open PySem PySem.Spec PyProof.Rows

structure Par where
  prog : Program
  w : World
  B : Bs
  mg : Str → Option Value
  mb : Str → Option Value

structure After (P : Par) (σ σ' : Sg) (X : List Addr) (hp' : AHeap) (s s' : Shared) : Prop where
  ctl : s' = { s with heap := s'.heap, toks := s'.toks }
  st : St P.w P.B σ' hp' s'.heap
  gr : Grows σ σ' X s.heap s'.heap

theorem After.trans {P : Par} {σ₁ σ₂ σ₃ : Sg} {X : List Addr} {hp₂ hp₃ : AHeap} {s₁ s₂ s₃ : Shared} (x : After P σ₁ σ₂ X hp₂ s₁ s₂) (y : After P σ₂ σ₃ X hp₃ s₂ s₃) : After P σ₁ σ₃ X hp₃ s₁ s₃ :=
  ⟨by rw [y.ctl, x.ctl], y.st, x.gr.trans y.gr⟩
theorem After.more {P : Par} {σ σ' : Sg} {X Y : List Addr} {hp' : AHeap} {s s' : Shared} (x : After P σ σ' X hp' s s') (hs : ∀ a ∈ X, a ∈ Y) : After P σ σ' Y hp' s s' := ⟨x.ctl, x.st, x.gr.more hs⟩
theorem After.refl {P : Par} {σ : Sg} {X : List Addr} {hp : AHeap} {s : Shared} (S : St P.w P.B σ hp s.heap) : After P σ σ X hp s s := ⟨rfl, S, .refl ..⟩
theorem After.tok {P : Par} {σ : Sg} {X : List Addr} {hp : AHeap} {s : Shared} (S : St P.w P.B σ hp s.heap) (t : Nat) : After P σ σ X hp s { s with toks := t } := ⟨rfl, S, .refl ..⟩

/-- an exception on its way: made since h -/
noncomputable def Thrown (P : Par) (h h' : Heap) (a : Addr) (c : Str) : Prop :=
  ∃ o vs, h'.get? a = some o ∧ o.cls = .ref (P.B.exc c) ∧ o.data = .fields vs ∧ 4 < vs.size ∧
    (vs[1]? = some .none ∨ ∃ T oT ts m, vs[1]? = some (.ref T) ∧ h.get? T = none ∧ T ≠ a ∧ h'.get? T = some oT ∧ oT.data = .fields ts ∧ ts[3]? = some m)
noncomputable def Fly (P : Par) (h h' : Heap) (e : Value) (c : Str) : Prop := ∃ a, e = .ref a ∧ h.get? a = none ∧ Thrown P h h' a c
theorem Fly.le {P : Par} {h₀ h h' : Heap} {e : Value} {c : Str} (x : Fly P h h' e c) (hm : ∀ b o, h₀.get? b = some o → ∃ o', h.get? b = some o') : Fly P h₀ h' e c := by
  have hn : ∀ b, h.get? b = none → h₀.get? b = none := fun b hb => by
    cases hq : h₀.get? b with
    | none => rfl
    | some o => obtain ⟨o', e'⟩ := hm b o hq; rw [hb] at e'; cases e'
  obtain ⟨a, rfl, h1, o, vs, h3, h4, h5, h6, h7⟩ := x
  refine ⟨a, rfl, hn a h1, o, vs, h3, h4, h5, h6, h7.imp id ?_⟩
  rintro ⟨T, oT, ts, m', e1, e2, e3⟩
  exact ⟨T, oT, ts, m', e1, hn T e2, e3⟩

noncomputable def QV (P : Par) (σ : Sg) (s : Shared) (r : Res AV) : Value → Shared → Prop := fun v s' => ∃ av hp' σ', r = .ok av hp' ∧ After P σ σ' [] hp' s s' ∧ RV P.B s'.heap σ' av v
noncomputable def QVs (P : Par) (σ : Sg) (s : Shared) (r : Res (List AV)) : List Value → Shared → Prop := fun v s' => ∃ av hp' σ', r = .ok av hp' ∧ After P σ σ' [] hp' s s' ∧ RVs P.B s'.heap σ' av v
noncomputable def EV {α : Type} (P : Par) (σ : Sg) (s : Shared) (r : Res α) : Value → Shared → Prop := fun e s' => ∃ c hp' σ', r = .ex c hp' ∧ After P σ σ' [] hp' s s' ∧ Fly P s.heap s'.heap e c


theorem QV.lift {P : Par} {σ σ' : Sg} {hp' : AHeap} {s s' : Shared} {r : Res AV} {v : Value} {s'' : Shared} (a : After P σ σ' [] hp' s s') (q : QV P σ' s' r v s'') : QV P σ s r v s'' := by
  obtain ⟨av, hp, σ₂, e, b, rv⟩ := q
  exact ⟨av, hp, σ₂, e, a.trans b, rv⟩
theorem QVs.lift {P : Par} {σ σ' : Sg} {hp' : AHeap} {s s' : Shared} {r : Res (List AV)} {v : List Value} {s'' : Shared} (a : After P σ σ' [] hp' s s') (q : QVs P σ' s' r v s'') : QVs P σ s r v s'' := by
  obtain ⟨av, hp, σ₂, e, b, rv⟩ := q
  exact ⟨av, hp, σ₂, e, a.trans b, rv⟩
/-- the base lies below -/
noncomputable def Low (P : Par) (s : Shared) : Prop := True
theorem Low.after {P : Par} {σ σ' : Sg} {X : List Addr} {hp' : AHeap} {s s' : Shared} (l : Low P s) (a : After P σ σ' X hp' s s') : Low P s' := trivial
theorem EV.lift {α : Type} {P : Par} {σ σ' : Sg} {hp' : AHeap} {s s' : Shared} {r : Res α} {v : Value} {s'' : Shared} (l : Low P s) (a : After P σ σ' [] hp' s s') (q : EV P σ' s' r v s'') : EV P σ s r v s'' := by
  obtain ⟨c, hp, σ₂, e, b, f⟩ := q
  exact ⟨c, hp, σ₂, e, a.trans b, f.le a.gr.ex⟩
theorem EV.cast {α β : Type} {P : Par} {σ : Sg} {s : Shared} {r : Res α} {r' : Res β} {v : Value} {s' : Shared} (h : ∀ c hp, r = .ex c hp → r' = .ex c hp) (q : EV P σ s r v s') : EV P σ s r' v s' := by
  obtain ⟨c, hp, σ₂, e, b, f⟩ := q
  exact ⟨c, hp, σ₂, h c hp e, b, f⟩
theorem EV.bind {α β : Type} {P : Par} {σ : Sg} {s : Shared} {r : Res α} {f : α → AHeap → Res β} {v : Value} {s' : Shared} (q : EV P σ s r v s') : EV P σ s (r.bind f) v s' :=
  q.cast fun c hp e => by rw [e]; rfl

structure Frm (P : Par) (h : Heap) (σ : Sg) (env : Env) (cx : Cx) (l : Locs) : Prop where
  kind : env.scope.kind = .function
  len : l.length = cx.n
  inj : ∀ x y i, cx.slot x = some i → cx.slot y = some i → x = y
  lt : ∀ x i, cx.slot x = some i → i < cx.n
  glob : ∀ x, cx.isGlob x = true → env.kindOf x = some .globalImplicit
  wr : ∀ x i, cx.slotW x = some i → env.kindOf x ≠ some .free
  names : ∃ m, h.Ns env.locals m ∧ ∀ x i, cx.slot x = some i →
    (env.kindOf x = some .local ∧ ∀ av, l[i]? = some (some av) → ∃ v, m x = some v ∧ RV P.B h σ av v) ∨
    ((env.kindOf x = some .cell ∨ env.kindOf x = some .free) ∧ ∃ c ov, env.cells.lookup x = some c ∧ h.IsCell c ov ∧ ∀ av, l[i]? = some (some av) → ∃ v, ov = some v ∧ RV P.B h σ av v)
  out : env.locals ∉ σ.map (·.1) ∧ ∀ p ∈ env.cells, p.2 ∉ σ.map (·.1)
  new : P.B.h₀.get? env.locals = none ∧ ∀ p ∈ env.cells, P.B.h₀.get? p.2 = none
  globals : env.globals = mainGlobals
  builtins : env.builtins = builtinsNs
  cells : ∀ p ∈ env.cells, ∃ o v, h.get? p.2 = some o ∧ o.data = .cell v
  apart : ∀ p ∈ env.cells, ∀ q ∈ env.cells, p.2 = q.2 → p.1 = q.1

structure Arnd (n : Nat) (q : Bool) (A : Around) : Prop where
  frames : ∃ f outer, A.frames = some (f :: outer) ∧ f.scope.isGenerator = false ∧ f.scope.isCoroutine = false ∧ f.builtins = builtinsNs ∧ f.globals = mainGlobals
  depth : A.depth + n + 150 < recursionLimit
  units : A.units + 100 * n + 100 < cLine
  handled : q = false → A.handled = none

structure ArndC (n : Nat) (q : Bool) (A : Around) : Prop where
  frames : ∃ outer, A.frames = some outer
  depth : A.depth + n + 150 < recursionLimit
  units : A.units + 100 * n + 100 < cLine
  handled : q = false → A.handled = none
theorem Arnd.toC {n : Nat} {q : Bool} {A : Around} (a : Arnd n q A) : ArndC n q A := ⟨let ⟨f, o, e, _⟩ := a.frames; ⟨f :: o, e⟩, a.depth, a.units, a.handled⟩

structure Inv (P : Par) (cx : Cx) (c : Ctx) (n : Nat) (env : Env) (A : Around) (σ : Sg) (l : Locs) (hp : AHeap) (s : Shared) : Prop where
  st : St P.w P.B σ hp s.heap
  fr : Frm P s.heap σ env cx l
  ar : Arnd n c.q A
  low : Low P s

theorem near_ns {h h' : Heap} {a : Addr} {m : Str → Option Value} (n : h.Ns a m) (hk : ∀ o, h.get? a = some o → Near o (h'.get? a)) : h'.Ns a m := by
  obtain ⟨o, es, ep, ho, hd, r⟩ := n
  obtain ⟨o', e, _, hd', _⟩ := (hk o ho).get
  exact ⟨o', es, ep, e, hd'.trans hd, r⟩
theorem near_cell {h h' : Heap} {a : Addr} {v : Option Value} (n : h.IsCell a v) (hk : ∀ o, h.get? a = some o → Near o (h'.get? a)) : h'.IsCell a v := by
  obtain ⟨o, ho, hd⟩ := n
  obtain ⟨o', e, _, hd', _⟩ := (hk o ho).get
  exact ⟨o', e, hd'.trans hd⟩

theorem not_mem_grown {σ σ' : Sg} {X : List Addr} {h h' : Heap} (g : Grows σ σ' X h h') {a : Addr} {o : Obj} (ho : h.get? a = some o) (hn : a ∉ σ.map (·.1)) : a ∉ σ'.map (·.1) := by
  obtain ⟨τ, rfl, hτ⟩ := g.ext
  rw [List.map_append, List.mem_append]
  rintro (hb | hb)
  · exact hn hb
  · obtain ⟨p, hp, rfl⟩ := List.mem_map.mp hb
    rw [hτ p hp] at ho; cases ho

theorem mem_of_lookup' {α : Type} : ∀ {l : List (Str × α)} {n : Str} {c : α}, l.lookup n = some c → (n, c) ∈ l := PySem.mem_of_lookup

theorem Frm.after {P : Par} {σ σ' : Sg} {hp' : AHeap} {s s' : Shared} {env : Env} {cx : Cx} {l : Locs} (f : Frm P s.heap σ env cx l) (a : After P σ σ' [] hp' s s') : Frm P s'.heap σ' env cx l := by
  obtain ⟨m, hn, hm⟩ := f.names
  have hL : ∀ o, s.heap.get? env.locals = some o → Near o (s'.heap.get? env.locals) := fun o ho => a.gr.oth _ o ho f.out.1 (by simp)
  have hC : ∀ p ∈ env.cells, ∀ o, s.heap.get? p.2 = some o → Near o (s'.heap.get? p.2) := fun p hp o ho => a.gr.oth _ o ho (f.out.2 p hp) (by simp)
  refine ⟨f.kind, f.len, f.inj, f.lt, f.glob, f.wr, ⟨m, near_ns hn hL, fun x i hx => ?_⟩, ⟨?_, fun p hp => ?_⟩, f.new, f.globals, f.builtins, fun p hp => ?_, f.apart⟩
  · rcases hm x i hx with ⟨hk, hv⟩ | ⟨hk, c, ov, hc, hi, hv⟩
    · exact .inl ⟨hk, fun av e => let ⟨v, h1, h2⟩ := hv av e; ⟨v, h1, RV.grows a.gr _ _ h2⟩⟩
    · exact .inr ⟨hk, c, ov, hc, near_cell hi (hC (x, c) (mem_of_lookup' hc)), fun av e => let ⟨v, h1, h2⟩ := hv av e; ⟨v, h1, RV.grows a.gr _ _ h2⟩⟩
  · obtain ⟨o, _, _, ho, _⟩ := hn
    exact not_mem_grown a.gr ho f.out.1
  · obtain ⟨o, v, ho, _⟩ := f.cells p hp
    exact not_mem_grown a.gr ho (f.out.2 p hp)
  · obtain ⟨o, v, ho, hd⟩ := f.cells p hp
    obtain ⟨o', e, _, hd', _⟩ := (hC p hp o ho).get
    exact ⟨o', v, e, hd'.trans hd⟩

theorem Inv.after {P : Par} {cx : Cx} {c : Ctx} {n : Nat} {env : Env} {A : Around} {σ σ' : Sg} {l : Locs} {hp hp' : AHeap} {s s' : Shared} (I : Inv P cx c n env A σ l hp s) (a : After P σ σ' [] hp' s s') : Inv P cx c n env A σ' l hp' s' :=
  ⟨a.st, I.fr.after a, I.ar, I.low.after a⟩

noncomputable def bltPairs : List (Str × Value) := [("len", .builtin "len"), ("isinstance", .builtin "isinstance"), ("range", .type "range"), ("sorted", .builtin "sorted"), ("list", .type "list"), ("dict", .type "dict"), ("set", .type "set"), ("min", .builtin "min"), ("int", .type "int"), ("str", .type "str"), ("bool", .type "bool"), ("tuple", .type "tuple"), ("ValueError", .type "ValueError")]
structure Par.Ok (P : Par) : Prop where
  blt : ∀ x v, (x, v) ∈ bltPairs → P.mg x = none ∧ P.mb x = some v
  g : P.B.h₀.Ns mainGlobals P.mg
  b : P.B.h₀.Ns builtinsNs P.mb
  nolimit : P.B.h₀.NoLimit
  seer : P.B.h₀.NoSeer
  tree : P.prog.given.tree = none
  mods : ∃ o, P.B.h₀.get? sysModules = some o

/-- the calls: what the abstract functions say is what the model's calls do -/
noncomputable def FSim (P : Par) (funs : List Str) (c : Ctx) (n : Nat) : Prop :=
  ∀ f, funs.contains f = true → ∃ a o fd, P.mg f = some (.ref a) ∧ P.B.h₀.get? a = some o ∧ o.data = .func fd ∧
    ∀ q avs vs σ hp s A, St P.w P.B σ hp s.heap → Low P s → RVs P.B s.heap σ avs vs → ArndC n q A → c.F q f avs hp ≠ .bad →
      wpAny (model P.prog P.w) A (call (.ref a) vs) (QV P σ s (c.F q f avs hp)) (EV P σ s (c.F q f avs hp)) s
noncomputable def GSim (P : Par) (consts : List Str) (c : Ctx) : Prop :=
  ∀ x, consts.contains x = true → ∃ v av, P.mg x = some v ∧ c.G x = some av ∧ ∀ h σ, RV P.B h σ av v

structure Sims (P : Par) (cx : Cx) (c : Ctx) (n : Nat) : Prop where
  ok : P.Ok
  f : FSim P cx.funs c n
  g : GSim P cx.consts c

noncomputable def SimE (P : Par) (cx : Cx) (e : Expr) (x : X) : Prop :=
  ∀ c n env A σ l hp s, Sims P cx c n → Inv P cx c n env A σ l hp s → evalX c x l hp ≠ .bad →
    wpAny (model P.prog P.w) A (eval e env) (QV P σ s (evalX c x l hp)) (EV P σ s (evalX c x l hp)) s
noncomputable def SimEs (P : Par) (cx : Cx) (es : List Expr) (xs : Xs) : Prop :=
  ∀ c n env A σ l hp s pos, Sims P cx c n → Inv P cx c n env A σ l hp s → evalXs c xs l hp ≠ .bad →
    wpAny (model P.prog P.w) A (spliced (backTo pos (starEach es env))) (QVs P σ s (evalXs c xs l hp)) (EV P σ s (evalXs c xs l hp)) s

theorem bind_ok {α β : Type} {r : Res α} {f : α → AHeap → Res β} (h : r.bind f ≠ .bad) : r ≠ .bad := fun e => h (by rw [e]; rfl)

/-- one value, then what follows -/
theorem thenV {P : Par} {β : Type} {γ : Type} {A : Around} {m : Sem Value} {k : Value → Sem β} {Q : β → Shared → Prop} {σ : Sg} {s : Shared} {r : Res AV} {f : AV → AHeap → Res γ} (l : Low P s)
    (h : wpAny (model P.prog P.w) A m (QV P σ s r) (EV P σ s r) s)
    (hk : ∀ av hp' σ' v s', r = .ok av hp' → After P σ σ' [] hp' s s' → RV P.B s'.heap σ' av v → wpAny (model P.prog P.w) A (k v) Q (EV P σ s (r.bind f)) s') :
    wpAny (model P.prog P.w) A (m >>= k) Q (EV P σ s (r.bind f)) s :=
  wpAny_bind (wpAny_mono h (fun v s' ⟨av, hp', σ', e, a, rv⟩ => hk av hp' σ' v s' e a rv) fun _ _ q => q.bind)

theorem slot_plain {cx : Cx} {x : Str} {i : Nat} (h : cx.slot x = some i) : (x == ("__debug__" : Str)) = false ∧ (x == ("__classdict__" : Str)) = false := by
  unfold Cx.slot at h
  split at h
  · split at h
    · rename_i hk
      simp only [plainName, Bool.and_eq_true, bne_iff_ne, ne_eq] at hk
      exact ⟨beq_eq_false_iff_ne.mpr hk.2.1, beq_eq_false_iff_ne.mpr hk.2.2⟩
    · cases h
  · cases h
theorem glob_plain {cx : Cx} {x : Str} (h : cx.isGlob x = true) : (x == ("__debug__" : Str)) = false ∧ (x == ("__classdict__" : Str)) = false := by
  simp only [Cx.isGlob, plainName, Bool.and_eq_true, bne_iff_ne, ne_eq] at h
  exact ⟨beq_eq_false_iff_ne.mpr h.2.1, beq_eq_false_iff_ne.mpr h.2.2⟩

section
variable {P : Par} {cx : Cx}

theorem sim_none {k : Nat} {pos : Pos} : SimE P cx (.Constant .none k pos) .none := fun c n env A σ l hp s _ I _ =>
  wpAny_Constant_none ⟨.none, hp, σ, rfl, .refl I.st, rfl⟩
theorem sim_bool {b : Bool} {k : Nat} {pos : Pos} : SimE P cx (.Constant (.bool b) k pos) (.bool b) := fun c n env A σ l hp s _ I _ =>
  wpAny_Constant_bool ⟨.bool b, hp, σ, rfl, .refl I.st, rfl⟩
theorem sim_int {i : Int} {k : Nat} {pos : Pos} : SimE P cx (.Constant (.int i) k pos) (.int i) := fun c n env A σ l hp s _ I _ =>
  wpAny_Constant_int ⟨.int i, hp, σ, rfl, .tok I.st _, _, rfl⟩
theorem sim_str {x : Str} {k : Nat} {pos : Pos} : SimE P cx (.Constant (.str x) k pos) (.str x.cps.toList) := fun c n env A σ l hp s _ I _ =>
  wpAny_Constant_str ⟨.str x.cps.toList, hp, σ, rfl, .tok I.st _, _, rfl⟩

theorem sim_loc {x : Str} {i : Nat} {pos : Pos} (hx : cx.slot x = some i) : SimE P cx (.Name x pos) (.loc i) := by
  intro c n env A σ l hp s _ I hb
  obtain ⟨hd, hcl⟩ := slot_plain hx
  rw [evalX] at hb ⊢
  cases hl : l[i]? with
  | none => rw [hl] at hb; exact absurd rfl hb
  | some o => cases o with
    | none => rw [hl] at hb; exact absurd rfl hb
    | some av =>
      obtain ⟨m, hn, hm⟩ := I.fr.names
      refine wpAny_Name ?_ hd
      rcases hm x i hx with ⟨hk, hv⟩ | ⟨hk, cc, ov, hc, hi, hv⟩
      · obtain ⟨v, e, rv⟩ := hv av hl
        exact wpAny_loadName_local I.fr.kind hk hn e ⟨av, hp, σ, rfl, .refl I.st, rv⟩
      · obtain ⟨v, e, rv⟩ := hv av hl
        subst e
        rcases hk with hk | hk
        · exact wpAny_loadName_cell I.fr.kind hk hc hi ⟨av, hp, σ, rfl, .refl I.st, rv⟩
        · exact wpAny_loadName_free I.fr.kind hk hc hi ⟨av, hp, σ, rfl, .refl I.st, rv⟩ hcl
end
end Mine

namespace Mine
open PySem PySem.Spec PyProof.Rows PySem.SeqAt

theorem isTuple_of {h : Heap} {a : Addr} {ws : Array Value} {n : Nat} (o : ObjAt h a (.type "tuple") (.seq ws n)) : h.IsTuple a ws :=
  ⟨_, o, rfl, n, rfl⟩
theorem isList_of {h : Heap} {a : Addr} {ws : Array Value} {n : Nat} (o : ObjAt h a (.type "list") (.seq ws n)) : h.IsList a ws :=
  ⟨_, o, rfl, n, rfl⟩

theorem St.isList {w : World} {B : Bs} {σ : Sg} {hp : AHeap} {h : Heap} (S : St w B σ hp h) {n : Nat} {xs : List AV} {a : Addr} {off : Nat} (e : hp[n]? = some (.list xs)) (hs : σ[n]? = some (a, off)) :
    ∃ ws, h.IsList a ws ∧ RVs B h σ xs ws.toList := by
  obtain ⟨ws, k, o, r, _⟩ := S.obj n a off _ hs e
  exact ⟨ws, (isList_of o), r⟩

theorem str_eq_iff (x y : List Nat) : ((⟨x.toArray⟩ : Str) == ⟨y.toArray⟩) = decide (x = y) := by
  by_cases h : x = y
  · subst h; simp
  · rw [decide_eq_false h]
    refine beq_eq_false_iff_ne.mpr fun e => h ?_
    have := Str.mk.inj e
    simpa using this

theorem eqAll_spec {f : AV → AV → Option Bool} : ∀ {xs ys : List AV} {r : Bool}, eqAll f xs ys = some r →
    ∃ e : Nat → Bool, (∀ j x y, xs[j]? = some x → ys[j]? = some y → f x y = some (e j)) ∧ r = ((List.range (min xs.length ys.length)).all e && xs.length == ys.length)
  | [], [], r, h => by simp [eqAll] at h; exact ⟨fun _ => true, by simp, by simp [h]⟩
  | [], _ :: _, r, h => by simp [eqAll] at h; exact ⟨fun _ => true, by simp, by simp [h]⟩
  | _ :: _, [], r, h => by simp [eqAll] at h; exact ⟨fun _ => true, by simp, by simp [h]⟩
  | x :: xs, y :: ys, r, h => by
    rw [eqAll] at h
    cases h1 : f x y with
    | none => rw [h1] at h; cases h
    | some b =>
      cases h2 : eqAll f xs ys with
      | none => rw [h1, h2] at h; cases h
      | some r' =>
        rw [h1, h2] at h
        simp only [Option.some.injEq] at h
        obtain ⟨e, he, hr⟩ := eqAll_spec h2
        refine ⟨fun j => match j with | 0 => b | j + 1 => e j, fun j x' y' hx hy => ?_, ?_⟩
        · cases j with
          | zero => simp at hx hy; subst hx hy; exact h1
          | succ j => simp at hx hy; exact he j x' y' hx hy
        · rw [← h, hr]
          simp only [List.length_cons, Nat.add_min_add_right, List.range_succ_eq_map, List.all_cons, List.all_map, Bool.and_assoc]
          have e1 : (xs.length + 1 == ys.length + 1) = (xs.length == ys.length) := by simp
          rw [e1]
          rfl

section
variable {w : World} {B : Bs} {σ : Sg} {hp : AHeap} {s : Shared}

theorem eqAt_of_rc {A : Around} {a b : Addr} {k : Bool} (h : RcAt A s (.ref a) (.ref b) k) (hs : a = b → k = true) : EqAt A s (.ref a) (.ref b) k := by
  by_cases e : a = b
  · subst e; rw [hs rfl]; exact EqAt.same _
  · exact .of_refs e h

theorem eqAll_same {f : AV → AV → Option Bool} : ∀ {xs ys : List AV} {vs : List Value} {r : Bool}, eqAll f xs ys = some r → RVs B s.heap σ xs vs → RVs B s.heap σ ys vs →
    (∀ x y v r, f x y = some r → RV B s.heap σ x v → RV B s.heap σ y v → r = true) → r = true
  | [], [], _, r, h, _, _, _ => by simp [eqAll] at h; exact h
  | x :: xs, y :: ys, v :: vs, r, h, rx, ry, H => by
    rw [eqAll] at h
    cases h1 : f x y with
    | none => rw [h1] at h; cases h
    | some b =>
      cases h2 : eqAll f xs ys with
      | none => rw [h1, h2] at h; cases h
      | some r' =>
        rw [h1, h2] at h
        simp only [Option.some.injEq] at h
        rw [H x y v b h1 rx.1 ry.1, eqAll_same h2 rx.2 ry.2 H] at h
        exact h.symm
  | [], _ :: _, [], _, _, _, ry, _ => ry.elim
  | [], _, _ :: _, _, _, rx, _, _ => rx.elim
  | _ :: _, _, [], _, _, rx, _, _ => rx.elim
  | _ :: _, [], _ :: _, _, _, _, ry, _ => ry.elim

theorem St.inj (S : St w B σ hp s.heap) {i j : Nat} {a : Addr} {o o' : Nat} (hi : σ[i]? = some (a, o)) (hj : σ[j]? = some (a, o')) : i = j := by
  have h1 : (σ.map (·.1))[i]? = some a := by rw [List.getElem?_map, hi]; rfl
  have h2 : (σ.map (·.1))[j]? = some a := by rw [List.getElem?_map, hj]; rfl
  exact (List.getElem?_inj (List.getElem?_eq_some_iff.mp h1).1 S.nd).mp (by rw [h1, h2])

theorem objAt_uniq {h : Heap} {a : Addr} {c c' : Value} {d d' : Data} (x : ObjAt h a c d) (y : ObjAt h a c' d') : c = c' ∧ d = d' := by
  have := x.symm.trans y
  cases this
  exact ⟨rfl, rfl⟩

theorem eqv_same (S : St w B σ hp s.heap) : ∀ (n : Nat) (a b : AV) (v : Value) (r : Bool), eqv hp n a b = some r → RV B s.heap σ a v → RV B s.heap σ b v → r = true := by
  intro n
  induction n with
  | zero => intro a b v r h; simp [eqv] at h
  | succ n ih =>
    intro a b v r h ra rb
    have H : ∀ x y v r, eqv hp n x y = some r → RV B s.heap σ x v → RV B s.heap σ y v → r = true := fun x y v r => ih x y v r
    cases a <;> cases b <;> simp only [eqv] at h <;> try (cases h; done)
    all_goals (try (simp only [RV] at ra rb))
    case none.none => cases h; rfl
    case bool.bool x y => subst ra; cases rb; cases h; simp
    case int.int x y => obtain ⟨t, rfl⟩ := ra; obtain ⟨t', e⟩ := rb; cases e; cases h; simp
    case str.str x y =>
      obtain ⟨t, rfl⟩ := ra; obtain ⟨t', e⟩ := rb
      have : x = y := by simpa using (Value.str.inj e).1
      cases h; simp [this]
    case tup.tup xs ys =>
      obtain ⟨a, ws, k, rfl, oa, rx⟩ := ra; obtain ⟨b, us, k', e, ob, ry⟩ := rb
      cases e
      have := (objAt_uniq oa ob).2
      cases this
      exact eqAll_same h rx ry H
    case loc.loc i j =>
      obtain ⟨a, o, rfl, e1⟩ := ra; obtain ⟨b, o', e, e2⟩ := rb
      cases e
      obtain rfl := S.inj e1 e2
      cases hi : hp[i]? with
      | none => rw [hi] at h; simp at h
      | some ob =>
        cases ob <;> rw [hi] at h <;> simp at h
        obtain ⟨ws, hl, rx⟩ := S.isList hi e1
        exact eqAll_same h rx rx H
    all_goals (exfalso; first
      | (subst ra; obtain ⟨_, e⟩ := rb; cases e; done)
      | (subst rb; obtain ⟨_, e⟩ := ra; cases e; done)
      | (obtain ⟨_, rfl⟩ := ra; obtain ⟨_, e⟩ := rb; cases e; done)
      | (obtain ⟨_, rfl⟩ := ra; obtain ⟨_, _, _, e, _⟩ := rb; cases e; done)
      | (obtain ⟨_, rfl⟩ := rb; obtain ⟨_, _, _, e, _⟩ := ra; cases e; done)
      | (subst ra; obtain ⟨_, _, _, e, _⟩ := rb; cases e; done)
      | (subst rb; obtain ⟨_, _, _, e, _⟩ := ra; cases e; done)
      | (subst ra; obtain ⟨_, _, e, _⟩ := rb; cases e; done)
      | (subst rb; obtain ⟨_, _, e, _⟩ := ra; cases e; done)
      | (obtain ⟨_, rfl⟩ := ra; obtain ⟨_, _, e, _⟩ := rb; cases e; done)
      | (obtain ⟨_, rfl⟩ := rb; obtain ⟨_, _, e, _⟩ := ra; cases e; done))

/-- what == gives, as eqBool and as the comparison, with the fact that a thing is like itself -/
theorem eqv_at (S : St w B σ hp s.heap) : ∀ (n : Nat) (a b : AV) (r : Bool) (A : Around) (v u : Value), eqv hp n a b = some r → RV B s.heap σ a v → RV B s.heap σ b u → A.units + n < cLine →
    RcAt A s v u r ∧ RcNeAt A s v u (!r) ∧ EqAt A s v u r := by
  intro n
  induction n with
  | zero => intro a b r A v u h; simp [eqv] at h
  | succ n ih =>
    intro a b r A v u h ra rb hu
    have hu' : A.units < cLine := by omega
    have hseq : ∀ {xs ys : List AV} {ws us : Array Value} {r : Bool}, eqAll (eqv hp n) xs ys = some r → RVs B s.heap σ xs ws.toList → RVs B s.heap σ ys us.toList →
        ∃ e : Nat → Bool, r = ((List.range (min ws.size us.size)).all e && ws.size == us.size) ∧ ∀ j (h1 : j < ws.size) (h2 : j < us.size), EqAt A.in1 s ws[j] us[j] (e j) := by
      intro xs ys ws us r he rx ry
      obtain ⟨e, h1, h2⟩ := eqAll_spec he
      have lx := rx.length
      have ly := ry.length
      simp only [Array.length_toList] at lx ly
      refine ⟨e, by rw [h2, lx, ly], fun j h3 h4 => ?_⟩
      have ex : xs[j]? = some xs[j] := List.getElem?_eq_getElem (by omega)
      have ey : ys[j]? = some ys[j] := List.getElem?_eq_getElem (by omega)
      obtain ⟨v', e1, q1⟩ := rx.get ex
      obtain ⟨u', e2, q2⟩ := ry.get ey
      rw [Array.getElem?_toList, Array.getElem?_eq_getElem h3] at e1
      rw [Array.getElem?_toList, Array.getElem?_eq_getElem h4] at e2
      cases e1; cases e2
      exact (ih _ _ _ A.in1 _ _ (h1 j _ _ ex ey) q1 q2 (by simp; omega)).2.2
    cases a <;> cases b <;> simp only [eqv] at h <;> try (cases h; done)
    all_goals (try (simp only [RV] at ra rb))
    case none.none => subst ra rb; cases h; exact ⟨RcAt.none_none, RcNeAt.none_none, EqAt.same _⟩
    case bool.bool x y => subst ra rb; cases h; exact ⟨RcAt.bool_bool _ _, RcNeAt.bool_bool _ _, EqAt.bool_bool _ _⟩
    case int.int x y =>
      obtain ⟨t, rfl⟩ := ra; obtain ⟨t', rfl⟩ := rb; cases h
      have e : (x == y) = decide (x = y) := by by_cases q : x = y <;> simp [q]
      rw [← e]
      exact ⟨RcAt.int_int _ _ _ _, RcNeAt.int_int _ _ _ _, EqAt.int_int _ _ _ _⟩
    case str.str x y =>
      obtain ⟨t, rfl⟩ := ra; obtain ⟨t', rfl⟩ := rb; cases h
      rw [← str_eq_iff]
      exact ⟨RcAt.str_str _ _ _ _, RcNeAt.str_str _ _ _ _, EqAt.str_str _ _ _ _⟩
    case tup.tup xs ys =>
      obtain ⟨a, ws, k, rfl, oa, rx⟩ := ra; obtain ⟨b, us, k', rfl, ob, ry⟩ := rb
      obtain ⟨e, hr, he⟩ := hseq h rx ry
      have hrc := RcAt.tuples (isTuple_of oa) (isTuple_of ob) hu' he
      have hne := RcNeAt.tuples (isTuple_of oa) (isTuple_of ob) hu' he
      rw [← hr] at hrc hne
      refine ⟨hrc, hne, eqAt_of_rc hrc fun q => ?_⟩
      subst q
      have := (objAt_uniq oa ob).2
      cases this
      exact eqAll_same h rx ry fun x y v r => eqv_same S n x y v r
    case loc.loc i j =>
      obtain ⟨a, o, rfl, e1⟩ := ra; obtain ⟨b, o', rfl, e2⟩ := rb
      cases hi : hp[i]? with
      | none => rw [hi] at h; simp at h
      | some oi =>
        cases hj : hp[j]? with
        | none => rw [hi, hj] at h; cases oi <;> simp at h
        | some oj =>
          cases oi <;> cases oj <;> rw [hi, hj] at h <;> simp only at h <;> try (cases h; done)
          obtain ⟨ws, hl, rx⟩ := S.isList hi e1
          obtain ⟨us, hl', ry⟩ := S.isList hj e2
          rename_i xs ys
          have lx := rx.length
          have ly := ry.length
          simp only [Array.length_toList] at lx ly
          split at h
          · rename_i hlen
            obtain ⟨e, hr, he⟩ := hseq h rx ry
            have hsz : ws.size = us.size := by omega
            have hrc := RcAt.lists hl hl' hsz hu' he
            have hne := RcNeAt.lists hl hl' hsz hu' he
            have er : r = (List.range ws.size).all e := by rw [hr, hsz]; simp
            rw [← er] at hrc hne
            refine ⟨hrc, hne, eqAt_of_rc hrc fun q => ?_⟩
            subst q
            obtain rfl := S.inj e1 e2
            rw [hi] at hj; cases hj
            exact eqAll_same h rx rx fun x y v r => eqv_same S n x y v r
          · rename_i hlen
            cases h
            have hsz : (ws.size != us.size) = true := by simp; omega
            refine ⟨RcAt.lists_lengths hl hl' hsz hu', RcNeAt.lists_lengths hl hl' hsz hu', eqAt_of_rc (RcAt.lists_lengths hl hl' hsz hu') fun q => ?_⟩
            subst q
            obtain rfl := S.inj e1 e2
            rw [hi] at hj; cases hj
            exact absurd rfl hlen
    case none.str => subst ra; obtain ⟨t, rfl⟩ := rb; cases h; exact ⟨RcAt.none_str _ _, RcNeAt.none_str _ _, EqAt.none_str _ _⟩
    case none.int => subst ra; obtain ⟨t, rfl⟩ := rb; cases h; exact ⟨RcAt.none_int _ _, RcNeAt.none_int _ _, EqAt.none_int _ _⟩
    case str.none => subst rb; obtain ⟨t, rfl⟩ := ra; cases h; exact ⟨RcAt.str_none _ _, RcNeAt.str_none _ _, EqAt.str_none _ _⟩
    case int.none => subst rb; obtain ⟨t, rfl⟩ := ra; cases h; exact ⟨RcAt.int_none _ _, RcNeAt.int_none _ _, EqAt.int_none _ _⟩
    case str.int => obtain ⟨t, rfl⟩ := ra; obtain ⟨t', rfl⟩ := rb; cases h; exact ⟨RcAt.str_int _ _ _ _, RcNeAt.str_int _ _ _ _, EqAt.str_int _ _ _ _⟩
    case int.str => obtain ⟨t, rfl⟩ := ra; obtain ⟨t', rfl⟩ := rb; cases h; exact ⟨RcAt.int_str _ _ _ _, RcNeAt.int_str _ _ _ _, EqAt.int_str _ _ _ _⟩
    case none.tup => subst ra; obtain ⟨a, ws, k, rfl, oa, rx⟩ := rb; cases h; exact ⟨RcAt.none_tuple (isTuple_of oa) hu', RcNeAt.none_tuple (isTuple_of oa) hu', EqAt.none_tuple (isTuple_of oa) hu'⟩
    case tup.none => subst rb; obtain ⟨a, ws, k, rfl, oa, rx⟩ := ra; cases h; exact ⟨RcAt.tuple_none (isTuple_of oa) hu', RcNeAt.tuple_none (isTuple_of oa) hu', EqAt.tuple_none (isTuple_of oa) hu'⟩
    case str.tup => obtain ⟨t, rfl⟩ := ra; obtain ⟨a, ws, k, rfl, oa, rx⟩ := rb; cases h; exact ⟨RcAt.str_tuple _ _ (isTuple_of oa) hu', RcNeAt.str_tuple _ _ (isTuple_of oa) hu', EqAt.str_tuple _ _ (isTuple_of oa) hu'⟩
    case tup.str => obtain ⟨t, rfl⟩ := rb; obtain ⟨a, ws, k, rfl, oa, rx⟩ := ra; cases h; exact ⟨RcAt.tuple_str _ _ (isTuple_of oa) hu', RcNeAt.tuple_str _ _ (isTuple_of oa) hu', EqAt.tuple_str _ _ (isTuple_of oa) hu'⟩
    case int.tup => obtain ⟨t, rfl⟩ := ra; obtain ⟨a, ws, k, rfl, oa, rx⟩ := rb; cases h; exact ⟨RcAt.int_tuple _ _ (isTuple_of oa) hu', RcNeAt.int_tuple _ _ (isTuple_of oa) hu', EqAt.int_tuple _ _ (isTuple_of oa) hu'⟩
    case tup.int => obtain ⟨t, rfl⟩ := rb; obtain ⟨a, ws, k, rfl, oa, rx⟩ := ra; cases h; exact ⟨RcAt.tuple_int _ _ (isTuple_of oa) hu', RcNeAt.tuple_int _ _ (isTuple_of oa) hu', EqAt.tuple_int _ _ (isTuple_of oa) hu'⟩
    case none.loc j =>
      subst ra; obtain ⟨a, o, rfl, e1⟩ := rb
      cases hj : hp[j]? with
      | none => rw [hj] at h; simp at h
      | some oj =>
        cases oj <;> rw [hj] at h <;> simp at h
        subst h
        obtain ⟨ws, hl, rx⟩ := S.isList hj e1
        exact ⟨RcAt.none_list hl hu', RcNeAt.none_list hl hu', EqAt.none_list hl hu'⟩
    case loc.none j =>
      subst rb; obtain ⟨a, o, rfl, e1⟩ := ra
      cases hj : hp[j]? with
      | none => rw [hj] at h; simp at h
      | some oj =>
        cases oj <;> rw [hj] at h <;> simp at h
        subst h
        obtain ⟨ws, hl, rx⟩ := S.isList hj e1
        exact ⟨RcAt.list_none hl hu', RcNeAt.list_none hl hu', EqAt.list_none hl hu'⟩
    case str.loc j =>
      obtain ⟨t, rfl⟩ := ra; obtain ⟨a, o, rfl, e1⟩ := rb
      cases hj : hp[j]? with
      | none => rw [hj] at h; simp at h
      | some oj =>
        cases oj <;> rw [hj] at h <;> simp at h
        subst h
        obtain ⟨ws, hl, rx⟩ := S.isList hj e1
        exact ⟨RcAt.str_list _ _ hl hu', RcNeAt.str_list _ _ hl hu', EqAt.str_list _ _ hl hu'⟩
    case loc.str j _ =>
      obtain ⟨t, rfl⟩ := rb; obtain ⟨a, o, rfl, e1⟩ := ra
      cases hj : hp[j]? with
      | none => rw [hj] at h; simp at h
      | some oj =>
        cases oj <;> rw [hj] at h <;> simp at h
        subst h
        obtain ⟨ws, hl, rx⟩ := S.isList hj e1
        exact ⟨RcAt.list_str _ _ hl hu', RcNeAt.list_str _ _ hl hu', EqAt.list_str _ _ hl hu'⟩
end
end Mine

namespace Mine
open PySem PySem.Spec PyProof.Rows PySem.SeqAt

theorem sizeLim_le {n : Nat} (h : n ≤ sizeLim) : n ≤ sizeLine := Nat.le_trans h (by decide +kernel)

section
variable {P : Par} {A : Around} {σ : Sg} {hp : AHeap} {s : Shared} {E : Value → Shared → Prop}

theorem Par.Ok.noLimit (ok : P.Ok) (S : St P.w P.B σ hp s.heap) : s.heap.NoLimit := ok.nolimit.keeps S.base
theorem Par.Ok.noSeer (ok : P.Ok) (S : St P.w P.B σ hp s.heap) : s.heap.NoSeer := ok.seer.keeps S.base

theorem mulOk_ok {a b : Int} (h : mulOk a b = true) : IntMulOk a b := by
  simp only [mulOk, Bool.or_eq_true, decide_eq_true_eq] at h
  rcases h with h | h
  · exact IntMulOk.of_left (intBits_le_64 (by omega) (by omega))
  · exact IntMulOk.of_right (intBits_le_64 (by omega) (by omega))

/-- a new list -/
theorem qv_newList (S : St P.w P.B σ hp s.heap) {vs : List AV} {ws : Array Value} (hr : RVs P.B s.heap σ vs ws.toList) (hb : newList vs hp ≠ .bad) :
    ws.size ≤ sizeLine ∧ QV P σ s (newList vs hp) (.ref s.heap.objs.size) { s with heap := s.heap.push { cls := .type "list", data := .seq ws } } := by
  unfold newList at hb ⊢
  split at hb
  · rename_i hsz
    have hl := hr.length
    simp only [Array.length_toList] at hl
    refine ⟨sizeLim_le (hl ▸ hsz), ?_⟩
    rw [if_pos hsz]
    obtain ⟨S', g⟩ := S.alloc (X := []) { cls := .type "list", data := .seq ws } 0 (.list vs) fun g => ⟨ws, 0, Heap.get?_push_size _ rfl, RVs.grows g _ _ hr, sizeLim_le hsz⟩
    refine ⟨_, _, _, rfl, ⟨rfl, S', g⟩, s.heap.objs.size, 0, rfl, ?_⟩
    rw [← S.len]; simp
  · exact absurd rfl hb

theorem St.isL (S : St P.w P.B σ hp s.heap) {n : Nat} {xs : List AV} {a : Addr} {off : Nat} (e : hp[n]? = some (.list xs)) (hs : σ[n]? = some (a, off)) :
    ∃ ws k, IsL s.heap a ws k ∧ RVs P.B s.heap σ xs ws.toList := by
  obtain ⟨ws, k, o, r, _⟩ := S.obj n a off _ hs e
  exact ⟨ws, k, o, r⟩
theorem St.isLen (S : St P.w P.B σ hp s.heap) {n : Nat} {xs : List AV} {a : Addr} {off : Nat} (e : hp[n]? = some (.list xs)) (hs : σ[n]? = some (a, off)) : xs.length ≤ sizeLine := by
  obtain ⟨ws, k, o, r, q⟩ := S.obj n a off _ hs e
  exact q

theorem RVs.replicate {B : Bs} {h : Heap} {x : AV} {v : Value} (r : RV B h σ x v) : ∀ n, RVs B h σ (List.replicate n x) (List.replicate n v)
  | 0 => trivial
  | n + 1 => ⟨r, RVs.replicate r n⟩

theorem bin_prim (ok : P.Ok) (S : St P.w P.B σ hp s.heap) {n : Nat} {q : Bool} (ar : Arnd n q A) {op : Operator} {bop : BOp} {a b : AV} {v u : Value} (hop : compBOp op = some bop)
    (ra : RV P.B s.heap σ a v) (rb : RV P.B s.heap σ b u) (hb : binAV bop a b hp ≠ .bad) : wpAny (model P.prog P.w) A (binaryOp op v u) (QV P σ s (binAV bop a b hp)) E s := by
  obtain ⟨f, outer, hf1, hf2, hf3, hf4, hf5⟩ := ar.frames
  have hroom : PylongRoom (model P.prog P.w) A s := PylongRoom.of (ok.noLimit S) (by have := ar.depth; show A.depth + 100 < recursionLimit; omega) (SeerAt.of (ok.noSeer S) ok.tree hf1 hf2 hf3 hf4 hf5)
  cases a <;> (try exact absurd rfl hb) <;> cases b <;> (try exact absurd rfl hb) <;> cases op <;> simp only [compBOp, Option.some.injEq, reduceCtorEq] at hop <;> subst hop <;> (try exact absurd rfl hb) <;> simp only [binAV, binI, addS, addL, mulL] at hb ⊢ <;> simp only [RV] at ra rb
  case int.int.Add x y =>
    obtain ⟨t, rfl⟩ := ra; obtain ⟨t', rfl⟩ := rb
    exact add_int ⟨_, _, _, rfl, .tok S _, _, rfl⟩
  case str.str.Add x y =>
    obtain ⟨t, rfl⟩ := ra; obtain ⟨t', rfl⟩ := rb
    split at hb
    · rename_i hsz
      rw [if_pos hsz]
      refine SB.add (fun t' k => ⟨_, _, _, rfl, .tok S _, t', ?_⟩) (sizeLim_le hsz)
      show Value.str ⟨x.toArray ++ y.toArray⟩ t' = _
      simp
    · exact absurd rfl hb
  case loc.loc.Add i j =>
    obtain ⟨a, o, rfl, e1⟩ := ra; obtain ⟨b, o', rfl, e2⟩ := rb
    cases hi : hp[i]? with
    | none => rw [hi] at hb; exact absurd rfl hb
    | some oi =>
      cases hj : hp[j]? with
      | none => rw [hi, hj] at hb; cases oi <;> exact absurd rfl hb
      | some oj =>
        rw [hi, hj] at hb
        cases oi <;> cases oj <;> first | exact absurd rfl hb | skip
        rename_i xs ys
        obtain ⟨ws, k, hl, rx⟩ := S.isL hi e1
        obtain ⟨us, k', hl', ry⟩ := S.isL hj e2
        have hr : RVs P.B s.heap σ (xs ++ ys) (ws ++ us).toList := by rw [Array.toList_append]; exact rx.append ry
        obtain ⟨hsz, hq⟩ := qv_newList S hr hb
        exact PySem.P.add_list hl hl' hq (by rw [Array.size_append] at hsz; exact hsz)
  case int.int.Sub x y =>
    obtain ⟨t, rfl⟩ := ra; obtain ⟨t', rfl⟩ := rb
    exact sub_int ⟨_, _, _, rfl, .tok S _, _, rfl⟩
  case int.int.Mult x y =>
    obtain ⟨t, rfl⟩ := ra; obtain ⟨t', rfl⟩ := rb
    split at hb
    · rename_i hm
      rw [if_pos hm]
      exact mul_int ⟨_, _, _, rfl, .tok S _, _, rfl⟩ (mulOk_ok hm)
    · exact absurd rfl hb
  case loc.int.Mult i k =>
    obtain ⟨a, o, rfl, e1⟩ := ra; obtain ⟨t', rfl⟩ := rb
    cases hi : hp[i]? with
    | none => rw [hi] at hb; exact absurd rfl hb
    | some oi =>
      rw [hi] at hb
      cases oi with
      | list xs =>
        obtain ⟨ws, m, hl, rx⟩ := S.isL hi e1
        match xs, rx, hb with
        | [], _, hb => exact absurd rfl hb
        | _ :: _ :: _, _, hb => exact absurd rfl hb
        | [x], rx, hb =>
          dsimp only at hb ⊢
          split at hb
          · rename_i hk
            rw [if_pos hk]
            have hlim : ((sizeLim : Nat) : Int) = 1048576 := rfl
            obtain ⟨wl⟩ := ws
            match wl, rx with
            | [v], rx =>
              have hr : RVs P.B s.heap σ (List.replicate k.toNat x) (List.replicate k.toNat v).toArray.toList := RVs.replicate rx.1 _
              obtain ⟨hsz, hq⟩ := qv_newList S hr hb
              have hfold : (List.foldl (fun x1 x2 => x1 ++ x2) #[] (List.replicate (if (#[v] : Array Value).isEmpty = true then 0 else k.toNat) #[v])) = (List.replicate k.toNat v).toArray := by
                have hg : ∀ (n : Nat) (acc : Array Value), List.foldl (fun x1 x2 => x1 ++ x2) acc (List.replicate n #[v]) = acc ++ (List.replicate n v).toArray := by
                  intro n
                  induction n with
                  | zero => intro acc; simp
                  | succ n ih =>
                    intro acc
                    rw [List.replicate_succ, List.foldl_cons, ih]
                    apply Array.toList_inj.mp
                    rw [Array.toList_append, Array.toList_append, Array.toList_append]
                    simp [List.replicate_succ]
                have := hg k.toNat #[]
                simpa using this
              refine wpAny_binaryOp_repeat_ref (T := "list") (U := "int") (by decide) ⟨_, hl, rfl⟩ (fun s' => typeIs_int s' k t') noFill_list_mul F.fills_int_mul F.slot_int_rmul repeat_list F.slot_int_index.lookup
                (call_meets F.slot_int_rmul (typeIs_int s k t') F.entry_int_rmul (F.args_int_rmul_2 _ _) (int___rmul___int_list k t' a #[v] m)
                  ⟨hl, rfl, ⟨_, hl, rfl⟩, call_meets F.slot_list_mul ⟨_, hl, rfl⟩ F.entry_list_mul (F.args_list_mul_2 _ _)
                    (AutoListH.list___mul___list_int_3 a #[v] m k t' (by simp [Builtin.List.listFitsIndex]; omega) (by simp; omega) (by simp [Builtin.List.listTooLong, sizeLine]; omega))
                    ⟨hl, ?_⟩⟩)
              rw [hfold]
              exact hq
          · exact absurd rfl hb
      | _ => exact absurd rfl hb
  case int.int.Mod x y =>
    obtain ⟨t, rfl⟩ := ra; obtain ⟨t', rfl⟩ := rb
    split at hb
    · exact absurd rfl hb
    · rename_i hy
      rw [if_neg hy]
      exact mod_int hy ⟨_, _, _, rfl, .tok S _, _, rfl⟩
  case int.int.Pow x y =>
    obtain ⟨t, rfl⟩ := ra; obtain ⟨t', rfl⟩ := rb
    split at hb
    · rename_i hy
      rw [if_pos hy]
      exact pow_int_small hy.1 (by omega) hy.2.2 ⟨_, _, _, rfl, .tok S _, _, rfl⟩
    · exact absurd rfl hb
  case int.int.FloorDiv x y =>
    obtain ⟨t, rfl⟩ := ra; obtain ⟨t', rfl⟩ := rb
    split at hb
    · exact absurd rfl hb
    · rename_i hy
      rw [if_neg hy]
      exact floordiv_int hy ⟨_, _, _, rfl, .tok S _, _, rfl⟩ (.inr hroom)
end
end Mine

namespace Mine
open PySem PySem.Spec PyProof.Rows PySem.SeqAt

section
variable {w : World} {B : Bs} {σ : Sg} {hp : AHeap} {s : Shared}

theorem eqAll_fun {f : AV → AV → Option Bool} : ∀ {xs ys vs : List AV} {us : List Value} {r r' : Bool}, eqAll f xs vs = some r → eqAll f ys vs = some r' → RVs B s.heap σ xs us → RVs B s.heap σ ys us →
    (∀ x y v u b b', f x v = some b → f y v = some b' → RV B s.heap σ x u → RV B s.heap σ y u → b = b') → r = r'
  | [], [], vs, us, r, r', h, h', _, _, _ => by rw [h] at h'; exact Option.some.inj h'
  | x :: xs, y :: ys, [], u :: us, r, r', h, h', _, _, _ => by simp [eqAll] at h h'; rw [h, h']
  | x :: xs, y :: ys, v :: vs, u :: us, r, r', h, h', rx, ry, H => by
    rw [eqAll] at h h'
    cases h1 : f x v with
    | none => rw [h1] at h; cases h
    | some b =>
      cases h2 : eqAll f xs vs with
      | none => rw [h1, h2] at h; cases h
      | some c =>
        cases h3 : f y v with
        | none => rw [h3] at h'; cases h'
        | some b' =>
          cases h4 : eqAll f ys vs with
          | none => rw [h3, h4] at h'; cases h'
          | some c' =>
            rw [h1, h2] at h
            rw [h3, h4] at h'
            simp only [Option.some.injEq] at h h'
            rw [← h, ← h', H x y v u b b' h1 h3 rx.1 ry.1, eqAll_fun h2 h4 rx.2 ry.2 H]
  | [], _ :: _, _, [], _, _, _, _, _, ry, _ => ry.elim
  | [], _ :: _, _, _ :: _, _, _, _, _, rx, _, _ => rx.elim
  | _ :: _, [], _, [], _, _, _, _, rx, _, _ => rx.elim
  | _ :: _, [], _, _ :: _, _, _, _, _, _, ry, _ => ry.elim
  | _ :: _, _ :: _, _, [], _, _, _, _, rx, _, _ => rx.elim

theorem St.notTuple (S : St w B σ hp s.heap) {i : Nat} {a : Addr} {o : Nat} {ws : Array Value} {k : Nat} (hi : σ[i]? = some (a, o)) (h : ObjAt s.heap a (.type "tuple") (.seq ws k)) : False := by
  obtain ⟨ob, e, hf⟩ := S.there (List.mem_of_getElem? hi)
  have e' := e.symm.trans h
  cases e'
  exact hf (by unfold fixed; rfl)

theorem eqv_fun (S : St w B σ hp s.heap) : ∀ (n : Nat) (x y v : AV) (u : Value) (b b' : Bool), eqv hp n x v = some b → eqv hp n y v = some b' → RV B s.heap σ x u → RV B s.heap σ y u → b = b' := by
  intro n
  induction n with
  | zero => intro x y v u b b' h; simp [eqv] at h
  | succ n ih =>
    intro x y v u b b' h h' rx ry
    have H : ∀ x y v u b b', eqv hp n x v = some b → eqv hp n y v = some b' → RV B s.heap σ x u → RV B s.heap σ y u → b = b' := ih
    cases x <;> cases y <;> simp only [RV] at rx ry
    case none.none => rw [h] at h'; exact Option.some.inj h'
    case bool.bool => subst rx; cases ry; rw [h] at h'; exact Option.some.inj h'
    case int.int => obtain ⟨t, rfl⟩ := rx; obtain ⟨t', e⟩ := ry; cases e; rw [h] at h'; exact Option.some.inj h'
    case str.str a c =>
      obtain ⟨t, rfl⟩ := rx; obtain ⟨t', e⟩ := ry
      have : a = c := by simpa using (Value.str.inj e).1
      subst this
      rw [h] at h'; exact Option.some.inj h'
    case tup.tup xs ys =>
      obtain ⟨a, ws, k, rfl, oa, rx⟩ := rx; obtain ⟨c, us, k', e, ob, ry⟩ := ry
      cases e
      have := (objAt_uniq oa ob).2
      cases this
      cases v <;> simp only [eqv] at h h' <;> first | (cases h; done) | (cases h; cases h'; rfl) | (exact eqAll_fun h h' rx ry H)
    case loc.loc i j =>
      obtain ⟨a, o, rfl, e1⟩ := rx; obtain ⟨c, o', e, e2⟩ := ry
      cases e
      obtain rfl := S.inj e1 e2
      rw [h] at h'; exact Option.some.inj h'
    case loc.tup i xs =>
      obtain ⟨a, o, rfl, e1⟩ := rx; obtain ⟨c, ws, k, e, ob, _⟩ := ry
      cases e
      exact (S.notTuple e1 ob).elim
    case tup.loc xs i =>
      obtain ⟨a, o, rfl, e1⟩ := ry; obtain ⟨c, ws, k, e, ob, _⟩ := rx
      cases e
      exact (S.notTuple e1 ob).elim
    all_goals (first
      | (cases v <;> simp only [eqv] at h <;> cases h; done)
      | (cases v <;> simp only [eqv] at h' <;> cases h'; done)
      | (exfalso; first
        | (subst rx; cases ry; done)
        | (subst rx; obtain ⟨_, e⟩ := ry; cases e; done)
        | (subst ry; obtain ⟨_, e⟩ := rx; cases e; done)
        | (obtain ⟨_, rfl⟩ := rx; obtain ⟨_, e⟩ := ry; cases e; done)
        | (obtain ⟨_, rfl⟩ := rx; obtain ⟨_, _, _, e, _⟩ := ry; cases e; done)
        | (obtain ⟨_, rfl⟩ := ry; obtain ⟨_, _, _, e, _⟩ := rx; cases e; done)
        | (subst rx; obtain ⟨_, _, _, e, _⟩ := ry; cases e; done)
        | (subst ry; obtain ⟨_, _, _, e, _⟩ := rx; cases e; done)
        | (subst rx; obtain ⟨_, _, e, _⟩ := ry; cases e; done)
        | (subst ry; obtain ⟨_, _, e, _⟩ := rx; cases e; done)
        | (obtain ⟨_, rfl⟩ := rx; obtain ⟨_, _, e, _⟩ := ry; cases e; done)
        | (obtain ⟨_, rfl⟩ := ry; obtain ⟨_, _, e, _⟩ := rx; cases e; done)))

theorem findEq_spec {v : AV} : ∀ {xs : List AV} {r : Bool}, findEq hp v xs = some r → (∀ (j : Nat) x, xs[j]? = some x → ∃ b, eqv hp eqFuel x v = some b) ∧ (r = true ↔ ∃ (j : Nat) (x : AV), xs[j]? = some x ∧ eqv hp eqFuel x v = some true)
  | [], r, h => by simp [findEq] at h; subst h; simp
  | x :: xs, r, h => by
    rw [findEq] at h
    cases h1 : eqv hp eqFuel x v with
    | none => rw [h1] at h; cases h
    | some b =>
      cases h2 : findEq hp v xs with
      | none => rw [h1, h2] at h; cases h
      | some c =>
        rw [h1, h2] at h
        simp only [Option.some.injEq] at h
        obtain ⟨ih1, ih2⟩ := findEq_spec h2
        refine ⟨fun j y hy => ?_, ?_⟩
        · cases j with
          | zero => simp at hy; subst hy; exact ⟨b, h1⟩
          | succ j => simp at hy; exact ih1 j y hy
        · rw [← h, Bool.or_eq_true, ih2]
          constructor
          · rintro (rfl | ⟨j, y, e1, e2⟩)
            · exact ⟨0, x, by simp, h1⟩
            · exact ⟨j + 1, y, by simpa using e1, e2⟩
          · rintro ⟨j, y, e1, e2⟩
            cases j with
            | zero => simp at e1; subst e1; rw [h1] at e2; left; exact Option.some.inj e2
            | succ j => right; exact ⟨j, y, by simpa using e1, e2⟩

open Classical in
/-- the items of a walked thing, held against a value -/
theorem eq_items (S : St w B σ hp s.heap) {A : Around} {xs : List AV} {v : AV} {u : Value} {ws : Array Value} (hd : ∀ (j : Nat) x, xs[j]? = some x → ∃ b, eqv hp eqFuel x v = some b) (rx : RVs B s.heap σ xs ws.toList) (rv : RV B s.heap σ v u) (hu : A.units + eqFuel < cLine) :
    ∃ e : Value → Bool, (∀ y, y ∈ ws → EqAt A s y u (e y)) ∧ ∀ (j : Nat) y x, ws[j]? = some y → xs[j]? = some x → eqv hp eqFuel x v = some (e y) := by
  have key : ∀ (j : Nat) (y : Value) (x : AV), ws[j]? = some y → xs[j]? = some x → eqv hp eqFuel x v = some (decide (∃ (j : Nat) (x : AV), ws[j]? = some y ∧ xs[j]? = some x ∧ eqv hp eqFuel x v = some true)) := by
    intro j y x hy hx
    obtain ⟨b, hb⟩ := hd j x hx
    rw [hb]
    congr 1
    cases b with
    | true => exact (decide_eq_true ⟨j, x, hy, hx, hb⟩).symm
    | false =>
      refine (decide_eq_false ?_).symm
      rintro ⟨k, z, hy', hz, ht⟩
      obtain ⟨v1, e1, q1⟩ := rx.get hx
      obtain ⟨v2, e2, q2⟩ := rx.get hz
      rw [Array.getElem?_toList, hy] at e1
      rw [Array.getElem?_toList, hy'] at e2
      cases e1; cases e2
      exact absurd (eqv_fun S _ _ _ _ _ _ _ hb ht q1 q2) (by simp)
  refine ⟨fun y => decide (∃ (j : Nat) (x : AV), ws[j]? = some y ∧ xs[j]? = some x ∧ eqv hp eqFuel x v = some true), ?_, key⟩
  · intro y hy
    obtain ⟨j, hj, e⟩ := Array.mem_iff_getElem.mp hy
    have ey : ws[j]? = some y := by rw [Array.getElem?_eq_getElem hj, e]
    have hl := rx.length
    simp only [Array.length_toList] at hl
    have ex : xs[j]? = some xs[j] := List.getElem?_eq_getElem (by omega)
    obtain ⟨v1, e1, q1⟩ := rx.get ex
    rw [Array.getElem?_toList, ey] at e1
    cases e1
    exact (eqv_at S _ _ _ _ A _ _ (key j y _ ey ex) q1 rv hu).2.2

theorem any_items {xs : List AV} {v : AV} {ws : Array Value} {e : Value → Bool} {r : Bool} (h : findEq hp v xs = some r) (rx : RVs B s.heap σ xs ws.toList) (he : ∀ (j : Nat) y x, ws[j]? = some y → xs[j]? = some x → eqv hp eqFuel x v = some (e y)) : ws.any e = r := by
  obtain ⟨hd, hr⟩ := findEq_spec h
  have hl := rx.length
  simp only [Array.length_toList] at hl
  have : ws.any e = true ↔ r = true := by
    rw [hr, Array.any_eq_true]
    constructor
    · rintro ⟨j, hj, ht⟩
      have ex : xs[j]? = some xs[j] := List.getElem?_eq_getElem (by omega)
      exact ⟨j, _, ex, by rw [he j _ _ (Array.getElem?_eq_getElem hj) ex, ht]⟩
    · rintro ⟨j, x, hx, ht⟩
      have hj : j < ws.size := by have := (List.getElem?_eq_some_iff.mp hx).1; omega
      have := he j _ x (Array.getElem?_eq_getElem hj) hx
      rw [ht] at this
      exact ⟨j, hj, (Option.some.inj this).symm⟩
  cases h1 : ws.any e <;> cases h2 : r <;> simp_all
end

end Mine

namespace Mine
open PySem PySem.Spec PyProof.Rows PySem.SeqAt

section
variable {P : Par} {A : Around} {σ : Sg} {hp : AHeap} {s : Shared} {E : Value → Shared → Prop}

theorem key_tuple {B : Bs} {h : Heap} {a b : Int} {v : Value} (r : RV B h σ (Key.pair a b).av v) : ∃ c, v = .ref c ∧ IsTupleKey (intKind P.prog P.w) h [a, b] c := by
  simp only [Key.av, RV] at r
  obtain ⟨c, ws, n, rfl, o, rs⟩ := r
  refine ⟨c, rfl, _, ws, n, o, rfl, rfl, ?_⟩
  obtain ⟨wl⟩ := ws
  match wl, rs with
  | [x, y], rs =>
    simp only [RVs, RV] at rs
    obtain ⟨⟨t, rfl⟩, ⟨u, rfl⟩, _⟩ := rs
    exact .cons (by simp [intKind, Value.isInt]) (.cons (by simp [intKind, Value.isInt]) .nil)

theorem pyHash_prim {k : Key} {v : Value} (r : RV P.B s.heap σ k.av v) (hu : A.units < cLine) :
    ∃ d, ∀ (E : Value → Shared → Prop) (Q : Int → Shared → Prop), Q (keyHash P.w k) { s with toks := s.toks + d } → wpAny (model P.prog P.w) A (pyHash v) Q E s := by
  cases k with
  | int i =>
    simp only [Key.av, RV] at r
    obtain ⟨t, rfl⟩ := r
    exact ⟨1, fun E Q h => wpAny_pyHash_int h⟩
  | str x =>
    simp only [Key.av, RV] at r
    obtain ⟨t, rfl⟩ := r
    exact ⟨1, fun E Q h => wpAny_pyHash_str h⟩
  | pair a b =>
    obtain ⟨c, rfl, ht⟩ := key_tuple (P := P) r
    exact ⟨3, fun E Q h => wpAny_pyHash_tuple hu ht h⟩

theorem REs.idx {w : World} {B : Bs} {h : Heap} {f : DictEntry → Bool} {k : Key} : ∀ {ps : List (Key × AV)} {es : List DictEntry}, REs w B h σ ps es →
    (∀ p e, p ∈ ps → e.hash = keyHash w p.1 → RV B h σ p.1.av e.key → f e = (p.1 == k)) → es.findIdx? f = ps.findIdx? (fun p => p.1 == k)
  | [], [], _, _ => rfl
  | p :: ps, e :: es, r, H => by
    rw [List.findIdx?_cons, List.findIdx?_cons, H p e (.head _) r.1.1 r.1.2.1, REs.idx r.2 fun p e hp => H p e (.tail _ hp)]
  | [], _ :: _, r, _ => r.elim
  | _ :: _, [], r, _ => r.elim

theorem REs.mem {w : World} {B : Bs} {h : Heap} : ∀ {ps : List (Key × AV)} {es : List DictEntry}, REs w B h σ ps es → ∀ e ∈ es, ∃ p ∈ ps, e.hash = keyHash w p.1 ∧ RV B h σ p.1.av e.key ∧ RV B h σ p.2 e.val
  | [], [], _, e, he => nomatch he
  | p :: ps, e' :: es, r, e, he => by
    rcases List.mem_cons.mp he with rfl | he
    · exact ⟨p, .head _, r.1⟩
    · obtain ⟨q, hq, x⟩ := REs.mem r.2 e he
      exact ⟨q, .tail _ hq, x⟩
  | [], _ :: _, r, _, _ => r.elim
  | _ :: _, [], r, _, _ => r.elim

noncomputable def pairOf : Key → List Int
  | .pair a b => [a, b]
  | _ => []

theorem REs.pairs {B : Bs} {h : Heap} : ∀ {ps : List (Key × AV)} {es : List DictEntry}, REs P.w B h σ ps es → (∀ p ∈ ps, p.1.sort = 2) →
    ∃ xs : List (List Int × Addr × Value), es = xs.map (entryOfKey (tupleKind (intKind P.prog P.w))) ∧ (∀ x ∈ xs, IsTupleKey (intKind P.prog P.w) h x.1 x.2.1) ∧ xs.map (·.1) = ps.map (fun p => pairOf p.1)
  | [], [], _, _ => ⟨[], rfl, fun _ hx => (nomatch hx), rfl⟩
  | p :: ps, e :: es, r, H => by
    obtain ⟨xs, h1, h2, h3⟩ := REs.pairs r.2 fun q hq => H q (.tail _ hq)
    obtain ⟨k, v⟩ := p
    cases k with
    | int i => exact absurd (H _ (.head _)) (by simp [Key.sort])
    | str i => exact absurd (H _ (.head _)) (by simp [Key.sort])
    | pair a b =>
      obtain ⟨c, hc, ht⟩ := key_tuple (P := P) r.1.2.1
      refine ⟨([a, b], c, e.val) :: xs, ?_, ?_, ?_⟩
      · rw [List.map_cons, h1]
        congr 1
        obtain ⟨hh, hk, hv⟩ := e
        simp only [entryOfKey]
        have e1 := r.1.1
        simp only at e1 hc
        rw [e1, hc]
        rfl
      · intro x hx
        rcases List.mem_cons.mp hx with rfl | hx
        · exact ht
        · exact h2 x hx
      · simp [h3, pairOf]
  | [], _ :: _, r, _ => r.elim
  | _ :: _, [], r, _ => r.elim

theorem sortOk_iff {kvs : List (Key × AV)} {k : Key} : sortOk kvs k = true ↔ ∀ p ∈ kvs, p.1.sort = k.sort := by
  simp [sortOk, List.all_eq_true]

theorem pairOf_inj {a b : Int} {k : Key} (hk : k.sort = 2) : pairOf k = [a, b] ↔ k = .pair a b := by
  cases k <;> simp [Key.sort, pairOf] at hk ⊢

theorem findIdx_of_nodup {ps : List (Key × AV)} {k : Key} {j : Nat} {v : AV} (hn : (ps.map (·.1)).Nodup) (h : ps[j]? = some (k, v)) : ps.findIdx? (fun p => p.1 == k) = some j := by
  obtain ⟨hj, e⟩ := List.getElem?_eq_some_iff.mp h
  rw [List.findIdx?_eq_some_iff_getElem]
  refine ⟨hj, by rw [e]; simp, fun i hi => ?_⟩
  have hi' : i < ps.length := by omega
  intro q
  have q := eq_of_beq q
  have h1 : (ps.map (·.1))[i]? = some k := by rw [List.getElem?_map, List.getElem?_eq_getElem hi']; simp [q]
  have h2 : (ps.map (·.1))[j]? = some k := by rw [List.getElem?_map, h]; rfl
  have := (List.getElem?_inj (by simpa using hi') hn).mp (h1.trans h2.symm)
  omega

theorem dictFind_prim {kvs : List (Key × AV)} {es : Array DictEntry} {ep : Nat} {a : Addr} {o : Obj} (ho : s.heap.get? a = some o) (hd : o.data = .dict es ep) (re : REs P.w P.B s.heap σ kvs es.toList) (hn : (kvs.map (·.1)).Nodup)
    {k : Key} {v : Value} (r : RV P.B s.heap σ k.av v) (hs : sortOk kvs k = true) (hu : A.units < cLine) {Q : Option Nat → Shared → Prop} (h : Q (kvs.findIdx? fun p => p.1 == k) s) :
    wpAny (model P.prog P.w) A (dictFind a v (keyHash P.w k)) Q E s := by
  have hsort := sortOk_iff.mp hs
  cases k with
  | int i =>
    simp only [Key.av, RV] at r
    obtain ⟨t, rfl⟩ := r
    refine wpAny_dictFind_of (knd := intKind P.prog P.w) (k := i) (by simp [intKind, Value.isInt]) ho hd (fun e he => ?_) ?_
    · obtain ⟨p, hp, h1, h2, h3⟩ := re.mem e (Array.mem_toList_iff.mpr he)
      have := hsort p hp
      obtain ⟨kk, vv⟩ := p
      cases kk <;> simp [Key.sort] at this
      simp only [Key.av, RV] at h2
      obtain ⟨t', h2⟩ := h2
      exact ⟨_, by rw [h2]; simp [intKind, Value.isInt], h1⟩
    · have : es.findIdx? (fun e => (intKind P.prog P.w).is i e.key) = kvs.findIdx? (fun p => p.1 == Key.int i) := by
        obtain ⟨el⟩ := es
        rw [List.findIdx?_toArray]
        refine re.idx fun p e hp h1 h2 => ?_
        have := hsort p hp
        obtain ⟨kk, vv⟩ := p
        cases kk <;> simp [Key.sort] at this
        simp only [Key.av, RV] at h2
        obtain ⟨t', h2⟩ := h2
        rw [h2]
        rename_i j
        by_cases q : j = i
        · subst q; simp [intKind, Value.isInt]
        · have q1 : (j == i) = false := beq_eq_false_iff_ne.mpr q
          have q2 : (Key.int j == Key.int i) = false := beq_eq_false_iff_ne.mpr fun e => q (Key.int.inj e)
          simp [intKind, Value.isInt, q1, q2]
      rw [this]; exact h
  | str x =>
    simp only [Key.av, RV] at r
    obtain ⟨t, rfl⟩ := r
    refine wpAny_dictFind_of (knd := PySem.strKind P.prog P.w) (k := ⟨x.toArray⟩) (by simp [PySem.strKind, Value.isStrOf]) ho hd (fun e he => ?_) ?_
    · obtain ⟨p, hp, h1, h2, h3⟩ := re.mem e (Array.mem_toList_iff.mpr he)
      have := hsort p hp
      obtain ⟨kk, vv⟩ := p
      cases kk <;> simp [Key.sort] at this
      simp only [Key.av, RV] at h2
      obtain ⟨t', h2⟩ := h2
      exact ⟨_, by rw [h2]; simp [PySem.strKind, Value.isStrOf], h1⟩
    · have : es.findIdx? (fun e => (PySem.strKind P.prog P.w).is ⟨x.toArray⟩ e.key) = kvs.findIdx? (fun p => p.1 == Key.str x) := by
        obtain ⟨el⟩ := es
        rw [List.findIdx?_toArray]
        refine re.idx fun p e hp h1 h2 => ?_
        have := hsort p hp
        obtain ⟨kk, vv⟩ := p
        cases kk <;> simp [Key.sort] at this
        simp only [Key.av, RV] at h2
        obtain ⟨t', h2⟩ := h2
        rw [h2]
        rename_i j
        show ((⟨j.toArray⟩ : Str) == ⟨x.toArray⟩) = (Key.str j == Key.str x)
        rw [str_eq_iff]
        by_cases q : j = x <;> simp [q]
      rw [this]; exact h
  | pair p q =>
    obtain ⟨c, rfl, ht⟩ := key_tuple (P := P) r
    obtain ⟨xs, h1, h2, h3⟩ := re.pairs (P := P) fun p hp => (hsort p hp).trans rfl
    have hlen : xs.length = kvs.length := by have := congrArg List.length h3; simpa using this
    have hnx : (xs.map (·.1)).Nodup := by
      rw [h3]
      have : kvs.map (fun p => pairOf p.1) = (kvs.map (·.1)).map pairOf := by simp
      rw [this]
      refine List.pairwise_map.mpr (List.Pairwise.imp_of_mem ?_ hn)
      intro x y hx hy hne e
      refine hne ?_
      obtain ⟨p1, hp1, rfl⟩ := List.mem_map.mp hx
      obtain ⟨p2, hp2, rfl⟩ := List.mem_map.mp hy
      have s1 := hsort p1 hp1
      have s2 := hsort p2 hp2
      obtain ⟨k1, _⟩ := p1
      obtain ⟨k2, _⟩ := p2
      cases k1 <;> simp [Key.sort] at s1
      cases k2 <;> simp [Key.sort] at s2
      simpa [pairOf] using e
    have hat : ∀ j : Nat, (∃ w, xs[j]? = some ([p, q], w)) ↔ ∃ w, kvs[j]? = some (Key.pair p q, w) := by
      intro j
      have e := congrArg (·[j]?) h3
      simp only [List.getElem?_map] at e
      constructor
      · rintro ⟨w, hw⟩
        rw [hw] at e
        cases hk : kvs[j]? with
        | none => rw [hk] at e; cases e
        | some y =>
          rw [hk] at e
          simp only [Option.map_some, Option.some.injEq] at e
          obtain ⟨k, w'⟩ := y
          have hs' := hsort _ (List.mem_of_getElem? hk)
          have := (pairOf_inj (a := p) (b := q) (hs'.trans rfl)).mp e.symm
          exact ⟨w', by simp at this; rw [this]⟩
      · rintro ⟨w, hw⟩
        rw [hw] at e
        cases hk : xs[j]? with
        | none => rw [hk] at e; cases e
        | some y =>
          rw [hk] at e
          simp only [Option.map_some, Option.some.injEq, pairOf] at e
          obtain ⟨k, w'⟩ := y
          simp at e
          exact ⟨w', by rw [e]⟩
    refine wpAny_dictFind_heap (knd := tupleKind (intKind P.prog P.w)) (k := [p, q]) hu ht ho hd h1 h2 hnx (fun hno => ?_) (fun j w hj => ?_)
    · have : kvs.findIdx? (fun y => y.1 == Key.pair p q) = none := by
        rw [List.findIdx?_eq_none_iff]
        intro y hy
        obtain ⟨j, hj, e⟩ := List.mem_iff_getElem.mp hy
        obtain ⟨k, w⟩ := y
        simp only [beq_eq_false_iff_ne, ne_eq]
        rintro rfl
        obtain ⟨w', hw'⟩ := (hat j).mpr ⟨w, by rw [List.getElem?_eq_getElem hj, e]⟩
        exact hno j w' hw'
      rw [this] at h; exact h
    · obtain ⟨w', hw'⟩ := (hat j).mp ⟨w, hj⟩
      rw [findIdx_of_nodup hn hw'] at h
      exact h
end
end Mine

namespace Mine
open PySem PySem.Spec PyProof.Rows PySem.SeqAt

section
variable {P : Par} {A : Around} {σ : Sg} {hp : AHeap} {s : Shared} {E : Value → Shared → Prop}

theorem find_lookup {k : Key} : ∀ (kvs : List (Key × AV)), (kvs.findIdx? (fun p => p.1 == k) = none ∧ kvs.lookup k = none) ∨ ∃ i v, kvs.findIdx? (fun p => p.1 == k) = some i ∧ kvs[i]? = some (k, v) ∧ kvs.lookup k = some v
  | [] => .inl ⟨rfl, rfl⟩
  | (k', v) :: r => by
    rw [List.findIdx?_cons, List.lookup_cons]
    by_cases h : k' = k
    · subst h
      exact .inr ⟨0, v, by simp, by simp, by simp⟩
    · have h1 : (k' == k) = false := beq_eq_false_iff_ne.mpr h
      have h2 : (k == k') = false := beq_eq_false_iff_ne.mpr fun e => h e.symm
      simp only [h1, h2, Bool.false_eq_true, if_false]
      rcases find_lookup r with ⟨e1, e2⟩ | ⟨i, w, e1, e2, e3⟩
      · exact .inl ⟨by rw [e1]; rfl, e2⟩
      · exact .inr ⟨i + 1, w, by rw [e1]; rfl, by simpa using e2, e3⟩

theorem St.isDict (S : St P.w P.B σ hp s.heap) {n : Nat} {kvs : List (Key × AV)} {ep : Nat} {a : Addr} {off : Nat} (e : hp[n]? = some (.dict kvs ep)) (hs : σ[n]? = some (a, off)) :
    ∃ es, ObjAt s.heap a (.type "dict") (.dict es (off + ep)) ∧ REs P.w P.B s.heap σ kvs es.toList ∧ (kvs.map (·.1)).Nodup ∧ (∀ p ∈ kvs, ∀ q ∈ kvs, p.1.sort = q.1.sort) ∧ kvs.length ≤ sizeLine :=
  S.obj n a off _ hs e

theorem St.notMods (S : St P.w P.B σ hp s.heap) (ok : P.Ok) {n : Nat} {a : Addr} {off : Nat} (hs : σ[n]? = some (a, off)) : (a == sysModules) = false := by
  refine beq_eq_false_iff_ne.mpr fun e => ?_
  obtain ⟨o, ho⟩ := ok.mods
  have := S.new _ (List.mem_of_getElem? hs)
  simp only at this
  rw [e, ho] at this
  cases this

theorem dictGet_prim (S : St P.w P.B σ hp s.heap) {j : Nat} {kvs : List (Key × AV)} {ep : Nat} {a : Addr} {off : Nat} (hj : hp[j]? = some (.dict kvs ep)) (hs : σ[j]? = some (a, off))
    {k : Key} {v : Value} (r : RV P.B s.heap σ k.av v) (hso : sortOk kvs k = true) (hu : A.units < cLine) :
    ∃ d, ∀ (E : Value → Shared → Prop) (Q : Option Value → Shared → Prop), (kvs.lookup k = none → Q none { s with toks := s.toks + d }) → (∀ x u, kvs.lookup k = some x → RV P.B s.heap σ x u → Q (some u) { s with toks := s.toks + d }) →
      wpAny (model P.prog P.w) A (dictGet a v) Q E s := by
  obtain ⟨es, ho, re, hn, _⟩ := S.isDict hj hs
  obtain ⟨d, hh⟩ := pyHash_prim (A := A) r hu
  refine ⟨d, fun E Q h1 h2 => ?_⟩
  unfold dictGet
  refine wpAny_holding (wpAny_bind (hh _ _ (wpAny_bind (dictFind_prim (s := { s with toks := s.toks + d }) ho rfl re hn r hso hu ?_))))
  rcases find_lookup (k := k) kvs with ⟨e1, e2⟩ | ⟨i, x, e1, e2, e3⟩
  · rw [e1]
    exact wpAny_pure (h1 e2)
  · rw [e1]
    refine wpAny_bind (wpAny_dictEntries (s := { s with toks := s.toks + d }) ho rfl ?_)
    obtain ⟨en, f1, f2, f3, f4⟩ := re.get e2
    rw [Array.getElem?_toList] at f1
    rw [f1]
    exact wpAny_pure (h2 x _ e3 f4)

theorem in_dict (ok : P.Ok) (S : St P.w P.B σ hp s.heap) {j : Nat} {kvs : List (Key × AV)} {ep : Nat} {a : Addr} {off : Nat} (hj : hp[j]? = some (.dict kvs ep)) (hs : σ[j]? = some (a, off))
    {k : Key} {v : Value} (r : RV P.B s.heap σ k.av v) (hso : sortOk kvs k = true) (hu : A.units + 1 < cLine) {Q : Bool → Shared → Prop} (h : ∀ d, Q (kvs.lookup k).isSome { s with toks := s.toks + d }) :
    wpAny (model P.prog P.w) A (contains (.ref a) v) Q E s := by
  obtain ⟨es, ho, re, hn, _⟩ := S.isDict hj hs
  have hT : s.TypeIs (.ref a) "dict" := ⟨_, ho, rfl⟩
  obtain ⟨d, hh⟩ := dictGet_prim (A := A.in1) S hj hs r hso (by simpa using hu)
  unfold contains
  try with_reducible refine wpAny_holding ?_
  refine wpAny_bind (wpAny_specialOf hT slot_dict_contains.lookup ?_)
  show wpAny _ _ (if (some (Value.builtin "dict.__contains__") == some Value.none) = true then _ else _) _ E s
  rw [if_neg (by rw [beq_builtin_none]; exact Bool.false_ne_true)]
  refine wpAny_bind (wpAny_callSpecialUnlessNone?_slot (name := Str.ofString "__contains__") hT slot_dict_contains
    (wpAny_call_entry slot_dict_contains hT entry_dict_contains ?_ (args_dict_contains _ _)))
  show wpAny _ _ (dictGet a v >>= _) _ _ s
  refine wpAny_bind (hh _ _ (fun e => ?_) (fun x u e rx => ?_))
  · show wpAny _ _ (Builtin.Dict.pendingKey? a v >>= _) _ _ _
    refine wpAny_bind (wpAny_pendingKey_other (S.notMods ok hs) (wpAny_pure ⟨_, rfl, wpAny_truthy_bool ?_⟩))
    have := h d
    rw [e] at this
    exact this
  · show wpAny _ _ (ret (.bool true)) _ _ _
    refine wpAny_pure ⟨_, rfl, wpAny_truthy_bool ?_⟩
    have := h d
    rw [e] at this
    exact this

theorem key_av {a : AV} {k : Key} (h : a.key? = some k) : a = k.av := by
  unfold AV.key? at h
  split at h <;> cases h <;> rfl

theorem getItem_dict (ok : P.Ok) (S : St P.w P.B σ hp s.heap) {j : Nat} {kvs : List (Key × AV)} {ep : Nat} {a : Addr} {off : Nat} (hj : hp[j]? = some (.dict kvs ep)) (hs : σ[j]? = some (a, off))
    {k : Key} {v : Value} (r : RV P.B s.heap σ k.av v) (hso : sortOk kvs k = true) (hu : A.units + 1 < cLine) {x : AV} (hx : kvs.lookup k = some x) {Q : Value → Shared → Prop} (h : ∀ d u, RV P.B s.heap σ x u → Q u { s with toks := s.toks + d }) :
    wpAny (model P.prog P.w) A (getItem (.ref a) v) Q E s := by
  obtain ⟨es, ho, re, hn, _⟩ := S.isDict hj hs
  have hT : s.TypeIs (.ref a) "dict" := ⟨_, ho, rfl⟩
  obtain ⟨d, hh⟩ := dictGet_prim (A := A.in1) S hj hs r hso (by simpa using hu)
  unfold getItem
  try with_reducible refine wpAny_holding ?_
  refine wpAny_bind (wpAny_sequenceKey hT (by decide) ?_)
  refine wpAny_bind (wpAny_callSpecial?_slot (name := Str.ofString "__getitem__") hT slot_dict_getitem
    (wpAny_call_entry slot_dict_getitem hT entry_dict_getitem ?_ (args_dict_getitem _ _)))
  show wpAny _ _ (dictGet a v >>= _) _ _ s
  refine wpAny_bind (hh _ _ (fun e => ?_) (fun x' u e rx => ?_))
  · rw [hx] at e; cases e
  · rw [hx] at e; cases e
    exact wpAny_pure ⟨u, rfl, wpAny_pure (h d u rx)⟩

theorem REs.setAt {w : World} {B : Bs} {h : Heap} {k : Key} {x : AV} {v : Value} (rv : RV B h σ x v) : ∀ {ps : List (Key × AV)} {es : List DictEntry}, REs w B h σ ps es → ∀ {i : Nat}, ps.findIdx? (fun p => p.1 == k) = some i → (ps.map (·.1)).Nodup →
    REs w B h σ (ps.map (fun p => if p.1 == k then (p.1, x) else p)) (es.modify i fun e => { e with val := v })
  | p :: ps, e :: es, r, i, hi, hn => by
    rw [List.findIdx?_cons] at hi
    rw [List.map_cons, List.nodup_cons] at hn
    by_cases h : p.1 == k
    · rw [if_pos h] at hi
      cases hi
      have hrest : ps.map (fun p => if p.1 == k then (p.1, x) else p) = ps := by
        conv => rhs; rw [← List.map_id ps]
        refine List.map_congr_left fun q hq => ?_
        have : (q.1 == k) = false := beq_eq_false_iff_ne.mpr fun e => hn.1 (by rw [eq_of_beq h, ← e]; exact List.mem_map_of_mem (f := (·.1)) hq)
        rw [if_neg (by rw [this]; simp)]; rfl
      rw [List.map_cons, if_pos h, hrest]
      exact ⟨⟨r.1.1, r.1.2.1, rv⟩, r.2⟩
    · rw [if_neg h] at hi
      cases hj : ps.findIdx? (fun p => p.1 == k) with
      | none => rw [hj] at hi; cases hi
      | some j =>
        rw [hj] at hi
        cases hi
        rw [List.map_cons, if_neg h]
        exact ⟨r.1, REs.setAt rv r.2 hj hn.2⟩
  | [], [], _, _, hi, _ => by cases hi
  | [], _ :: _, r, _, _, _ => r.elim
  | _ :: _, [], r, _, _, _ => r.elim

theorem map_put_keys {k : Key} {x : AV} (ps : List (Key × AV)) : (ps.map (fun p => if p.1 == k then (p.1, x) else p)).map (·.1) = ps.map (·.1) := by
  rw [List.map_map]
  refine List.map_congr_left fun q _ => ?_
  simp only [Function.comp]
  split <;> rfl

theorem any_eq_lookup {k : Key} (kvs : List (Key × AV)) : kvs.any (fun p => p.1 == k) = (kvs.lookup k).isSome := by
  induction kvs with
  | nil => rfl
  | cons p r ih =>
    obtain ⟨k', v⟩ := p
    rw [List.any_cons, List.lookup_cons, ih]
    by_cases h : k' = k
    · subst h; simp
    · have h1 : (k' == k) = false := beq_eq_false_iff_ne.mpr h
      have h2 : (k == k') = false := beq_eq_false_iff_ne.mpr fun e => h e.symm
      simp [h1, h2]

/-- a key is set: the object turns, and nothing else -/
theorem dictSet_prim (S : St P.w P.B σ hp s.heap) {j : Nat} {kvs : List (Key × AV)} {ep : Nat} {a : Addr} {off : Nat} (hj : hp[j]? = some (.dict kvs ep)) (hs : σ[j]? = some (a, off))
    {k : Key} {v : Value} (r : RV P.B s.heap σ k.av v) (hso : sortOk kvs k = true) (hu : A.units < cLine) (hsz : kvs.length < sizeLim) {x : AV} {u : Value} (rx : RV P.B s.heap σ x u) {Q : Unit → Shared → Prop}
    (h : ∀ s', After P σ σ [] (hp.set j (.dict (dictPut kvs k x) (if (kvs.lookup k).isSome then ep else ep + 1))) s s' → Q () s') :
    wpAny (model P.prog P.w) A (dictSet a v u) Q E s := by
  obtain ⟨es, ho, re, hn, hone, hle⟩ := S.isDict hj hs
  obtain ⟨d, hh⟩ := pyHash_prim (A := A) r hu
  have hlen := re.length
  simp only [Array.length_toList] at hlen
  unfold dictSet
  refine wpAny_holding (wpAny_bind (hh _ _ ?_))
  unfold dictSetHashed
  refine wpAny_holding (wpAny_bind (dictFind_prim (s := { s with toks := s.toks + d }) ho rfl re hn r hso hu ?_))
  rcases find_lookup (k := k) kvs with ⟨e1, e2⟩ | ⟨i, x', e1, e2, e3⟩
  · rw [e1]
    have hs' : Heap.SameBut a s.heap (s.heap.update a (Obj.mapDictKeys fun es => es.push ⟨keyHash P.w k, v, u⟩)) := .update ..
    have hput : dictPut kvs k x = kvs ++ [(k, x)] := by unfold dictPut; rw [any_eq_lookup, e2]; rfl
    refine wpAny_bind (wpAny_rule (wpAny_updateDictKeys (s := { s with toks := s.toks + d }) ho rfl ?_ (hz := by have := sizeLim_le (Nat.le_of_lt hsz); omega)))
    obtain ⟨S', g⟩ := S.upd (X := []) hs hs' (.dict (dictPut kvs k x) (if (kvs.lookup k).isSome then ep else ep + 1)) (Heap.get?_update_self _ ho rfl) fun g => by
      refine ⟨es.push ⟨keyHash P.w k, v, u⟩, ?_, ?_, ?_, ?_, ?_⟩
      · rw [e2]
        exact Heap.get?_update_self _ ho rfl
      · rw [hput, Array.toList_push]
        exact (re.grows g).append ⟨⟨rfl, RV.grows g _ _ r, RV.grows g _ _ rx⟩, trivial⟩
      · rw [hput, List.map_append, List.nodup_append]
        refine ⟨hn, by simp, fun y hy z hz e => ?_⟩
        simp at hz; subst hz; subst e
        obtain ⟨p, hp', rfl⟩ := List.mem_map.mp hy
        have := (List.findIdx?_eq_none_iff.mp e1) p hp'
        simp at this
      · rw [hput]
        have hk := sortOk_iff.mp hso
        have : ∀ p ∈ kvs ++ [(k, x)], p.1.sort = k.sort := fun p hp' => by
          rcases List.mem_append.mp hp' with hp' | hp'
          · exact hk p hp'
          · simp at hp'; subst hp'; rfl
        exact fun p hp' q hq => (this p hp').trans (this q hq).symm
      · rw [hput, List.length_append]
        have := sizeLim_le hsz
        simpa using this
    exact h _ ⟨rfl, S', g⟩
  · rw [e1]
    have hs' : Heap.SameBut a s.heap (s.heap.update a (Obj.mapDict fun es => es.modify i fun e => { e with val := u })) := .update ..
    have hput : dictPut kvs k x = kvs.map (fun p => if p.1 == k then (p.1, x) else p) := by unfold dictPut; rw [any_eq_lookup, e3]; rfl
    refine wpAny_bind (wpAny_rule (wpAny_bind (wpAny_updateDict (s := { s with toks := s.toks + d }) ho rfl (wpAny_point ?_) (hz := by simp))))
    obtain ⟨S', g⟩ := S.upd (X := []) hs hs' (.dict (dictPut kvs k x) (if (kvs.lookup k).isSome then ep else ep + 1)) (Heap.get?_update_self _ ho rfl) fun g => by
      refine ⟨es.modify i fun e => { e with val := u }, ?_, ?_, ?_, ?_, ?_⟩
      · rw [e3]
        exact Heap.get?_update_self _ ho rfl
      · rw [hput]
        have := REs.setAt (RV.grows g _ _ rx) (re.grows g) e1 hn
        obtain ⟨el⟩ := es
        simpa using this
      · rw [hput, map_put_keys]; exact hn
      · rw [hput]
        have hk := sortOk_iff.mp hso
        have : ∀ p ∈ kvs.map (fun p => if p.1 == k then (p.1, x) else p), p.1.sort = k.sort := fun p hp' => by
          obtain ⟨q, hq, rfl⟩ := List.mem_map.mp hp'
          split <;> exact hk q hq
        exact fun p hp' q hq => (this p hp').trans (this q hq).symm
      · rw [hput, List.length_map]; exact hle
    exact h _ ⟨rfl, S', g⟩

theorem setItem_dict (S : St P.w P.B σ hp s.heap) {j : Nat} {kvs : List (Key × AV)} {ep : Nat} {a : Addr} {off : Nat} (hj : hp[j]? = some (.dict kvs ep)) (hs : σ[j]? = some (a, off))
    {k : Key} {v : Value} (r : RV P.B s.heap σ k.av v) (hso : sortOk kvs k = true) (hu : A.units + 1 < cLine) (hsz : kvs.length < sizeLim) {x : AV} {u : Value} (rx : RV P.B s.heap σ x u) {Q : Unit → Shared → Prop}
    (h : ∀ s', After P σ σ [] (hp.set j (.dict (dictPut kvs k x) (if (kvs.lookup k).isSome then ep else ep + 1))) s s' → Q () s') :
    wpAny (model P.prog P.w) A (setItem (.ref a) v u) Q E s := by
  obtain ⟨es, ho, re, hn, _⟩ := S.isDict hj hs
  have hT : s.TypeIs (.ref a) "dict" := ⟨_, ho, rfl⟩
  unfold setItem
  try with_reducible refine wpAny_holding ?_
  refine wpAny_bind (wpAny_sequenceKey hT (by decide) ?_)
  refine wpAny_bind (wpAny_callSpecial?_slot (name := Str.ofString "__setitem__") hT slot_dict_setitem
    (wpAny_call_entry slot_dict_setitem hT entry_dict_setitem ?_ (args_dict_setitem _ _ _)))
  show wpAny _ _ (Builtin.Dict.notOrdered "__setitem__" ⟨[.ref a, v, u], []⟩ >>= _) _ _ s
  refine wpAny_bind (wpAny_notOrdered_dict hT ?_)
  show wpAny _ _ (dictSet a v u >>= _) _ _ s
  exact wpAny_bind (dictSet_prim (A := A.in1) S hj hs r hso (by simpa using hu) hsz rx fun s' a => wpAny_pure ⟨.none, rfl, wpAny_pure (h s' a)⟩)
end
end Mine

namespace Mine
open PySem PySem.Spec PyProof.Rows PySem.SeqAt

noncomputable def QB (P : Par) (σ : Sg) (hp : AHeap) (s : Shared) (r : Option Bool) : Value → Shared → Prop := fun c s' => ∃ b, c = .bool b ∧ r = some b ∧ After P σ σ [] hp s s'

section
variable {P : Par} {A : Around} {σ : Sg} {hp : AHeap} {s : Shared} {E : Value → Shared → Prop}

theorem is_none_iff {a : AV} {v : Value} (ra : RV P.B s.heap σ a v) : (v == Value.none) = (match a with | .none => true | _ => false) := by
  cases a <;> simp only [RV] at ra
  case none => subst ra; rfl
  case bool => subst ra; rfl
  case int => obtain ⟨_, rfl⟩ := ra; rfl
  case str => obtain ⟨_, rfl⟩ := ra; rfl
  case tup => obtain ⟨_, _, _, rfl, _⟩ := ra; rfl
  case loc => obtain ⟨_, _, rfl, _⟩ := ra; rfl
  case exc => obtain ⟨_, _, _, rfl, _⟩ := ra; rfl
  case rng => obtain ⟨_, _, _, _, rfl, _⟩ := ra; rfl
  case scr => obtain ⟨_, _, rfl, _⟩ := ra; rfl

theorem in_prim (ok : P.Ok) (S : St P.w P.B σ hp s.heap) {n : Nat} {q : Bool} (ar : Arnd n q A) {a b : AV} {v u : Value} {r : Bool} (ra : RV P.B s.heap σ a v) (rb : RV P.B s.heap σ b u) (h : isIn hp a b = some r) :
    wpAny (model P.prog P.w) A (compareOp .In v u) (QB P σ hp s (some r)) E s ∧ wpAny (model P.prog P.w) A (compareOp .NotIn v u) (QB P σ hp s (some (!r))) E s := by
  have hu : A.in1.units + eqFuel < cLine := by have := ar.units; simp [eqFuel]; omega
  cases b <;> simp only [isIn] at h <;> try (cases h; done)
  all_goals simp only [RV] at rb
  case tup xs =>
    obtain ⟨c, ws, k, rfl, ob, rx⟩ := rb
    obtain ⟨e, h1, h2⟩ := eq_items S (A := A.in1) (findEq_spec h).1 rx ra hu
    have h3 := any_items h rx h2
    exact ⟨in_tupleAt e (isTuple_of ob) h1 ⟨r, by rw [h3], rfl, .refl S⟩, notIn_tupleAt e (isTuple_of ob) h1 ⟨!r, by rw [h3], rfl, .refl S⟩⟩
  case str y =>
    cases a <;> (try (cases h; done))
    rename_i x
    match x, h, ra with
    | [], h, _ => cases h
    | _ :: _ :: _, h, _ => cases h
    | [c], h, ra =>
      simp only [Option.some.injEq] at h
      simp only [RV] at ra
      obtain ⟨t, rfl⟩ := ra; obtain ⟨t', rfl⟩ := rb
      have hf := StrLaws.found_one ⟨y.toArray⟩ c
      simp only at hf
      rw [h] at hf
      exact ⟨PySem.P.in_str ⟨r, by rw [hf], rfl, .refl S⟩, PySem.P.notIn_str ⟨!r, by rw [hf], rfl, .refl S⟩⟩
  case loc j =>
    obtain ⟨c, o, rfl, e1⟩ := rb
    cases hj : hp[j]? with
    | none => rw [hj] at h; cases h
    | some oj =>
      cases oj <;> rw [hj] at h <;> (try (cases h; done))
      case list xs =>
        obtain ⟨ws, hl, rx⟩ := S.isList hj e1
        obtain ⟨e, h1, h2⟩ := eq_items S (A := A.in1) (findEq_spec h).1 rx ra hu
        have h3 := any_items h rx h2
        exact ⟨in_listAt e hl h1 ⟨r, by rw [h3], rfl, .refl S⟩, notIn_listAt e hl h1 ⟨!r, by rw [h3], rfl, .refl S⟩⟩
      case dict kvs ep =>
        cases hk : a.key? with
        | none => rw [hk] at h; cases h
        | some k =>
          rw [hk] at h
          dsimp only at h
          split at h
          · rename_i hso
            cases h
            have hu' : A.units + 1 < cLine := by have := ar.units; omega
            rw [key_av hk] at ra
            constructor
            · show wpAny _ _ (contains (Value.ref c) v >>= fun b => pure (Value.bool b)) _ _ _
              exact wpAny_bind (in_dict ok S hj e1 ra hso hu' fun d => wpAny_pure ⟨_, rfl, rfl, .tok S _⟩)
            · show wpAny _ _ (contains (Value.ref c) v >>= fun b => pure (Value.bool (!b))) _ _ _
              exact wpAny_bind (in_dict ok S hj e1 ra hso hu' fun d => wpAny_pure ⟨_, rfl, rfl, .tok S _⟩)
          · cases h

theorem cmp_prim (ok : P.Ok) (S : St P.w P.B σ hp s.heap) {n : Nat} {q : Bool} (ar : Arnd n q A) {op : CmpOp} {cop : COp} {a b : AV} {v u : Value} {r : Bool} (hop : compCOp op = some cop) (ra : RV P.B s.heap σ a v) (rb : RV P.B s.heap σ b u) (h : cmpAV hp cop a b = some r) :
    wpAny (model P.prog P.w) A (compareOp op v u) (QB P σ hp s (some r)) E s := by
  have hu : A.units + eqFuel < cLine := by have := ar.units; simp [eqFuel]; omega
  cases op <;> simp only [compCOp, Option.some.injEq] at hop <;> subst hop <;> simp only [cmpAV] at h
  case Eq => exact (eqv_at S _ _ _ _ A _ _ h ra rb hu).1 _ _ _ _ ⟨r, rfl, rfl, .refl S⟩
  case NotEq =>
    cases he : eqv hp eqFuel a b with
    | none => rw [he] at h; cases h
    | some k =>
      rw [he] at h
      cases h
      exact (eqv_at S _ _ _ _ A _ _ he ra rb hu).2.1 _ _ _ _ ⟨!k, rfl, rfl, .refl S⟩
  case In => exact (in_prim ok S ar ra rb h).1
  case NotIn =>
    cases he : isIn hp a b with
    | none => rw [he] at h; cases h
    | some k =>
      rw [he] at h
      cases h
      exact (in_prim ok S ar ra rb he).2
  case Is =>
    cases b <;> (try (cases h; done))
    simp only [RV] at rb
    subst rb
    refine is_none ⟨_, rfl, ?_, .refl S⟩
    rw [is_none_iff ra]
    cases a <;> simp_all
  case IsNot =>
    cases b <;> (try (cases h; done))
    simp only [RV] at rb
    subst rb
    refine isNot_none ⟨_, rfl, ?_, .refl S⟩
    rw [is_none_iff ra]
    cases a <;> simp_all
  all_goals
    cases a <;> cases b <;> simp only [cmpOrd, Option.some.injEq] at h <;> try (cases h; done)
    all_goals simp only [RV] at ra rb
    all_goals obtain ⟨t, rfl⟩ := ra
    all_goals obtain ⟨t', rfl⟩ := rb
    all_goals subst h
  case Lt.int.int => exact PySem.P.lt_int ⟨_, rfl, rfl, .refl S⟩
  case LtE.int.int => exact PySem.P.le_int ⟨_, rfl, rfl, .refl S⟩
  case Gt.int.int => exact PySem.P.gt_int ⟨_, rfl, rfl, .refl S⟩
  case GtE.int.int => exact PySem.P.ge_int ⟨_, rfl, rfl, .refl S⟩
end
end Mine

namespace Mine
open PySem PySem.Spec PyProof.Rows PySem.SeqAt

section
variable {P : Par} {A : Around} {σ : Sg} {hp : AHeap} {s : Shared} {E : Value → Shared → Prop}

theorem lim_int {n : Nat} (h : n ≤ sizeLim) : (n : Int) < 2 ^ 63 := by have : sizeLim = 1048576 := rfl; omega
theorem line_int {n : Nat} (h : n ≤ sizeLine) : (n : Int) < 2 ^ 63 := by have : sizeLine = 16777216 := rfl; omega

theorem RIs.length : ∀ {xs : List Int} {vs : List Value}, RIs xs vs → xs.length = vs.length
  | [], [], _ => rfl
  | _ :: _, _ :: _, r => by simp [RIs.length r.2]
  | [], _ :: _, r => r.elim
  | _ :: _, [], r => r.elim
theorem RIs.get : ∀ {xs : List Int} {vs : List Value}, RIs xs vs → ∀ {i : Nat} {x : Int}, xs[i]? = some x → ∃ t, vs[i]? = some (.int x t)
  | [], [], _, i, x, e => by simp at e
  | x :: xs, w :: ws, r, 0, y, e => by
    simp at e; subst e; obtain ⟨t, rfl⟩ := r.1; exact ⟨t, by simp⟩
  | x :: xs, w :: ws, r, i + 1, y, e => by
    simp at e
    obtain ⟨t, h⟩ := RIs.get r.2 e
    exact ⟨t, by simpa using h⟩
  | [], _ :: _, r, _, _, _ => r.elim
  | _ :: _, [], r, _, _, _ => r.elim
theorem RIs.rvs {B : Bs} {h : Heap} : ∀ {xs : List Int} {vs : List Value}, RIs xs vs → RVs B h σ (xs.map .int) vs
  | [], [], r => trivial
  | _ :: _, _ :: _, r => ⟨r.1, RIs.rvs r.2⟩
  | [], _ :: _, r => r.elim
  | _ :: _, [], r => r.elim

theorem len_dict_prim (ok : P.Ok) (S : St P.w P.B σ hp s.heap) {j : Nat} {kvs : List (Key × AV)} {ep : Nat} {a : Addr} {off : Nat} (hj : hp[j]? = some (.dict kvs ep)) (hs : σ[j]? = some (a, off)) {Q : Value → Shared → Prop}
    (h : ∀ t k, Q (.int kvs.length t) { s with toks := k }) : wpAny (model P.prog P.w) A (call (.builtin "len") [.ref a]) Q E s := by
  obtain ⟨es, ho, re, hn, hone, hle⟩ := S.isDict hj hs
  have hT : s.TypeIs (.ref a) "dict" := ⟨_, ho, rfl⟩
  have hlen := re.length
  simp only [Array.length_toList] at hlen
  have hfit := line_int hle
  refine Calls.call_function_entry kind_len plain_len entry_len (args_len1 _) ?_
  unfold Builtin.«len»
  refine wpAny_bind (m := oneArg "len" _) (wpAny_pure ?_)
  refine wpAny_bind (m := callSpecial? (.ref a) (Str.ofString "__len__")) (wpAny_callSpecial?_slot (name := Str.ofString "__len__") hT F.slot_dict_len
    (wpAny_call_entry F.slot_dict_len hT F.entry_dict_len ?_ (F.args_dict_len_1 _)))
  show wpAny _ _ (dictSize a >>= _) _ _ s
  unfold dictSize
  refine wpAny_bind (wpAny_bind (wpAny_dictEntries ho rfl (wpAny_pure ?_)))
  show wpAny _ _ (Builtin.Dict.pendingCount a >>= _) _ _ s
  refine wpAny_bind (wpAny_pendingCount_other (S.notMods ok hs) ?_)
  refine wpAny_ret_mkInt ?_
  rw [Nat.add_zero, ← hlen]
  refine wpAny_bind (wpAny_holding (wpAny_pure ?_))
  refine wpAny_bind (wpAny_letGo ?_)
  show wpAny _ _ (if ((kvs.length : Nat) : Int) < 0 then _ else _) _ _ _
  rw [if_neg (by omega)]
  show wpAny _ _ (if ((kvs.length : Nat) : Int) ≥ 2 ^ 63 then _ else _) _ _ _
  rw [if_neg (by omega)]
  exact wpAny_bind (wpAny_mkInt (wpAny_pure ⟨_, rfl, h _ _⟩))

theorem scr_list (S : St P.w P.B σ hp s.heap) {a : Addr} {items : Array Value} (h : P.B.h₀.IsList a items) : s.heap.IsList a items := by
  obtain ⟨o, ho, r⟩ := h
  exact ⟨o, S.base a o ho, r⟩

theorem len_prim (ok : P.Ok) (S : St P.w P.B σ hp s.heap) {a : AV} {v : Value} (ra : RV P.B s.heap σ a v) (hb : lenAV a hp ≠ .bad) : wpAny (model P.prog P.w) A (call (.builtin "len") [v]) (QV P σ s (lenAV a hp)) E s := by
  cases a <;> simp only [lenAV] at hb ⊢ <;> (try exact absurd rfl hb) <;> simp only [RV] at ra
  case str x =>
    obtain ⟨t, rfl⟩ := ra
    split at hb
    · rename_i hsz
      rw [if_pos hsz]
      have hl : (⟨x.toArray⟩ : Str).length = x.length := by simp [Str.length]
      have := lim_int hsz
      exact PySem.P.len_str (by rw [hl]; omega) ⟨_, _, _, rfl, .tok S _, s.toks + 1, by rw [hl]⟩
    · exact absurd rfl hb
  case tup xs =>
    obtain ⟨a, ws, n, rfl, o, rx⟩ := ra
    split at hb
    · rename_i hsz
      rw [if_pos hsz]
      have hl := rx.length
      simp only [Array.length_toList] at hl
      have := lim_int hsz
      exact PySem.P.len_tuple o (by omega) ⟨_, _, _, rfl, .tok S _, s.toks + 1, by rw [hl]⟩
    · exact absurd rfl hb
  case scr xs =>
    obtain ⟨a, items, rfl, hl, rx⟩ := ra
    split at hb
    · rename_i hsz
      rw [if_pos hsz]
      have hx := rx.length
      simp only [Array.length_toList] at hx
      have := lim_int hsz
      exact len_list (scr_list S hl) (by omega) ⟨_, _, _, rfl, .tok S _, s.toks + 1, by rw [hx]⟩
    · exact absurd rfl hb
  case loc j =>
    obtain ⟨a, o, rfl, e1⟩ := ra
    cases hj : hp[j]? with
    | none => rw [hj] at hb; exact absurd rfl hb
    | some oj =>
      rw [hj] at hb
      cases oj <;> first | exact absurd rfl hb | skip
      case list xs =>
        obtain ⟨ws, k, hl, rx⟩ := S.isL hj e1
        have hx := rx.length
        simp only [Array.length_toList] at hx
        have := line_int (S.isLen hj e1)
        exact len_list (isList_of hl) (by omega) ⟨_, _, _, rfl, .tok S _, s.toks + 1, by rw [hx]⟩
      case dict kvs ep => exact len_dict_prim ok S hj e1 fun t k => ⟨_, _, _, rfl, .tok S _, _, rfl⟩
      case set ks =>
        obtain ⟨es, ep, tb, ho, h1, h2, h3⟩ := S.obj j a o _ e1 hj
        have := line_int h3
        exact call_len_set ho ⟨rfl, rfl, rfl⟩ rfl h2 (by omega) ⟨_, _, _, rfl, .tok S _, s.toks + 1, by rw [h1]⟩

theorem idx_seq {α : Type} {xs : List α} {k : Int} {x : α} (h : idx? xs k = some x) : ∃ j, seqIndex? k xs.length = some j ∧ xs[j]? = some x ∧ -(xs.length : Int) ≤ k ∧ k < xs.length ∧ (0 ≤ k → j = k.toNat) ∧ (k < 0 → j = (k + xs.length).toNat) := by
  unfold idx? at h
  split at h
  · rename_i h0
    have hlt := (List.getElem?_eq_some_iff.mp h).1
    refine ⟨k.toNat, ?_, h, by omega, by omega, fun _ => rfl, fun h => by omega⟩
    unfold seqIndex?
    have h1 : ¬ k < 0 := by omega
    have h2 : k < (xs.length : Int) := by omega
    simp [h1, h0, h2]
  · split at h
    · rename_i h0 h1
      have hlt := (List.getElem?_eq_some_iff.mp h).1
      refine ⟨(k + xs.length).toNat, ?_, h, by omega, by omega, fun h => by omega, fun _ => rfl⟩
      unfold seqIndex?
      have h2 : k < 0 := by omega
      have h3 : k + (xs.length : Int) < (xs.length : Int) := by omega
      simp [h2, h1, h3]
    · cases h

theorem sub_prim (ok : P.Ok) (S : St P.w P.B σ hp s.heap) {n : Nat} {q : Bool} (ar : Arnd n q A) {a b : AV} {v u : Value} (ra : RV P.B s.heap σ a v) (rb : RV P.B s.heap σ b u) (hb : subAV a b hp ≠ .bad) : wpAny (model P.prog P.w) A (getItem v u) (QV P σ s (subAV a b hp)) E s := by
  have hu' : A.units + 1 < cLine := by have := ar.units; omega
  cases a <;> first | (exfalso; apply hb; cases b <;> rfl; done) | skip
  case tup xs =>
    cases b <;> first | (exfalso; apply hb; rfl; done) | skip
    rename_i k
    simp only [subAV] at hb ⊢
    simp only [RV] at ra rb
    obtain ⟨a, ws, m, rfl, o, rx⟩ := ra
    obtain ⟨t, rfl⟩ := rb
    split at hb
    · rename_i hsz
      rw [if_pos hsz]
      cases hi : idx? xs k with
      | none => rw [hi] at hb; exact absurd rfl hb
      | some x =>
        obtain ⟨j, h1, h2, h3, h4, _⟩ := idx_seq hi
        have hl := rx.length
        simp only [Array.length_toList] at hl
        obtain ⟨w, e, rw'⟩ := rx.get h2
        rw [Array.getElem?_toList] at e
        have := lim_int hsz
        exact getItem_tuple (isTuple_of o) (by omega) (by omega) (by rw [← hl]; exact h1) e ⟨_, _, _, rfl, .refl S, rw'⟩
    · exact absurd rfl hb
  case str xs =>
    cases b <;> first | (exfalso; apply hb; rfl; done) | skip
    rename_i k
    simp only [subAV] at hb ⊢
    simp only [RV] at ra rb
    obtain ⟨t, rfl⟩ := ra
    obtain ⟨t', rfl⟩ := rb
    split at hb
    · rename_i hsz
      rw [if_pos hsz]
      cases hi : idx? xs k with
      | none => rw [hi] at hb; exact absurd rfl hb
      | some x =>
        obtain ⟨j, h1, h2, h3, h4, _⟩ := idx_seq hi
        have := lim_int hsz
        have hr : (decide (k < -(2 ^ 63 : Int)) || decide (k ≥ 2 ^ 63)) = false := by
          have a1 : ¬ k < -(2 ^ 63 : Int) := by omega
          have a2 : ¬ k ≥ 2 ^ 63 := by omega
          rw [decide_eq_false a1, decide_eq_false a2]; rfl
        refine PySem.P.getItem_str (c := x) hr ?_ ⟨_, _, _, rfl, .tok S _, s.toks, rfl⟩
        have hl : (⟨xs.toArray⟩ : Str).length = xs.length := by simp [Str.length]
        rw [hl, h1]
        simpa using h2
    · exact absurd rfl hb
  case scr xs =>
    cases b <;> first | (exfalso; apply hb; rfl; done) | skip
    rename_i k
    simp only [subAV] at hb ⊢
    simp only [RV] at ra rb
    obtain ⟨a, items, rfl, hl, rx⟩ := ra
    obtain ⟨t', rfl⟩ := rb
    split at hb
    · rename_i hsz
      rw [if_pos hsz]
      cases hi : idx? xs k with
      | none => rw [hi] at hb; exact absurd rfl hb
      | some x =>
        obtain ⟨j, h1, h2, h3, h4, h5, h6⟩ := idx_seq hi
        have hlen := rx.length
        simp only [Array.length_toList] at hlen
        obtain ⟨t, e⟩ := rx.get h2
        rw [Array.getElem?_toList] at e
        have := lim_int hsz
        by_cases h0 : 0 ≤ k
        · exact wpAny_getItem_list (scr_list S hl) h0 (by omega) (by rw [← h5 h0]; exact e) ⟨_, _, _, rfl, .refl S, _, rfl⟩
        · exact wpAny_getItem_list_neg (scr_list S hl) (by omega) (by omega) (by omega) (by rw [← hlen, ← h6 (by omega)]; exact e) ⟨_, _, _, rfl, .refl S, _, rfl⟩
    · exact absurd rfl hb
  case loc j =>
    simp only [RV] at ra
    obtain ⟨a, o, rfl, e1⟩ := ra
    simp only [subAV] at hb ⊢
    cases hj : hp[j]? with
    | none => rw [hj] at hb; exact absurd rfl hb
    | some oj =>
      rw [hj] at hb
      cases oj <;> first | (exfalso; apply hb; cases b <;> rfl; done) | skip
      case list xs =>
        cases b <;> first | (exfalso; apply hb; rfl; done) | skip
        rename_i k
        dsimp only at hb ⊢
        simp only [RV] at rb
        obtain ⟨t', rfl⟩ := rb
        cases hi : idx? xs k with
        | none => rw [hi] at hb; exact absurd rfl hb
        | some x =>
          obtain ⟨ws, m, hl, rx⟩ := S.isL hj e1
          obtain ⟨i, h1, h2, h3, h4, h5, h6⟩ := idx_seq hi
          have hlen := rx.length
          simp only [Array.length_toList] at hlen
          obtain ⟨w, e, rw'⟩ := rx.get h2
          rw [Array.getElem?_toList] at e
          have := line_int (S.isLen hj e1)
          by_cases h0 : 0 ≤ k
          · exact wpAny_getItem_list (isList_of hl) h0 (by omega) (by rw [← h5 h0]; exact e) ⟨_, _, _, rfl, .refl S, rw'⟩
          · exact wpAny_getItem_list_neg (isList_of hl) (by omega) (by omega) (by omega) (by rw [← hlen, ← h6 (by omega)]; exact e) ⟨_, _, _, rfl, .refl S, rw'⟩
      case dict kvs ep =>
        dsimp only at hb ⊢
        cases hk : b.key? with
        | none => rw [hk] at hb; exfalso; apply hb; cases b <;> rfl
        | some k =>
          rw [hk] at hb
          dsimp only at hb ⊢
          split at hb
          · rename_i hso
            rw [if_pos hso]
            cases hx : kvs.lookup k with
            | none => rw [hx] at hb; exact absurd rfl hb
            | some x =>
              rw [key_av hk] at rb
              exact getItem_dict ok S hj e1 rb hso hu' hx fun d w rw' => ⟨_, _, _, rfl, .tok S _, rw'⟩
          · exact absurd rfl hb
end
end Mine

namespace Mine
open PySem PySem.Spec PyProof.Rows PySem.SeqAt

section
variable {P : Par} {A : Around} {σ : Sg} {hp : AHeap} {s : Shared} {E : Value → Shared → Prop}

theorem clamp_clip (n : Nat) (i : Int) : clampIdx n i = clipAt n i := by
  have h := clipAt_cast n i
  unfold clampIdx
  split
  · rename_i h0
    rw [if_pos h0] at h
    omega
  · rename_i h0
    rw [if_neg h0] at h
    omega
theorem clip_full (n : Nat) : clipAt n (n : Int) = n := by rw [clipAt_nat]; omega
theorem clip_zero (n : Nat) : clipAt n 0 = 0 := by have := clipAt_nat n 0; simpa using this

noncomputable def partOf : AV → Option Int
  | .int i => some i
  | _ => none
theorem part_is {a : AV} {v : Value} {n : Int} (r : RV P.B s.heap σ a v) (h : loOf a = some n) : IsPart v (partOf a) ∧ ∃ p : Option (Int × Tok), v = partValue p ∧ p.map (·.1) = partOf a := by
  cases a <;> simp [loOf] at h <;> simp only [RV] at r
  · subst r; exact ⟨.none, none, rfl, rfl⟩
  · obtain ⟨t, rfl⟩ := r; exact ⟨.int _ _, some (_, t), rfl, rfl⟩
theorem hi_lo {a : AV} {n : Nat} {m : Int} (h : hiOf n a = some m) : ∃ k, loOf a = some k := by
  cases a <;> simp [hiOf] at h <;> exact ⟨_, rfl⟩
theorem lo_part {n : Nat} {a : AV} {m : Int} (h : loOf a = some m) : (partOf a).elim 0 (clipAt n) = clampIdx n m := by
  cases a <;> simp [loOf] at h <;> subst h
  · rw [clamp_clip]; simp [partOf, clip_zero]
  · rw [clamp_clip]; rfl
theorem hi_part {n : Nat} {a : AV} {m : Int} (h : hiOf n a = some m) : (partOf a).elim n (clipAt n) = clampIdx n m := by
  cases a <;> simp [hiOf] at h <;> subst h
  · rw [clamp_clip]; simp [partOf, clip_full]
  · rw [clamp_clip]; rfl

theorem cut_eq {α : Type} (xs : List α) (lo hi : Int) : cutList xs lo hi = (xs.drop (clampIdx xs.length lo)).take (clampIdx xs.length hi - clampIdx xs.length lo) := by
  unfold cutList
  rw [List.drop_take]

theorem RVs.cut {B : Bs} {h : Heap} {xs : List AV} {vs : List Value} (r : RVs B h σ xs vs) (lo hi : Int) : RVs B h σ (cutList xs lo hi) ((vs.drop (clampIdx xs.length lo)).take (clampIdx xs.length hi - clampIdx xs.length lo)) := by
  rw [cut_eq]
  exact (r.drop _).take _

theorem str_pick (x : List Nat) (lo hi : Option Int) : (Builtin.Str.strSliceIndices lo hi 1 x.length).filterMap ((⟨x.toArray⟩ : Str).cps[·]?) = (x.drop (lo.elim 0 (clipAt x.length))).take (hi.elim x.length (clipAt x.length) - lo.elim 0 (clipAt x.length)) := by
  have h : Builtin.Str.strSliceIndices lo hi 1 x.length = sliceRange (lo.elim 0 (clipAt x.length) : Nat) (hi.elim x.length (clipAt x.length) : Nat) 1 := by
    unfold Builtin.Str.strSliceIndices
    cases lo <;> cases hi <;> simp [clipAt_cast]
  rw [h, sliceRange_one, pick_run]

theorem slice_prim (S : St P.w P.B σ hp s.heap) {a lo hi : AV} {v vl vu : Value} (ra : RV P.B s.heap σ a v) (rl : RV P.B s.heap σ lo vl) (rh : RV P.B s.heap σ hi vu) (hb : sliceAV a lo hi hp ≠ .bad) :
    wpAny (model P.prog P.w) A (getItem v (.ref s.heap.objs.size)) (QV P σ s (sliceAV a lo hi hp)) E { s with heap := s.heap.push { cls := .type "slice", data := .fields #[vl, vu, .none] } } := by
  have S₁ := S.push { cls := .type "slice", data := .fields #[vl, vu, .none] }
  have a₁ : After P σ σ [] hp s { s with heap := s.heap.push { cls := .type "slice", data := .fields #[vl, vu, .none] } } := ⟨rfl, S₁, .push _⟩
  cases a <;> simp only [sliceAV] at hb ⊢ <;> (try exact absurd rfl hb) <;> simp only [RV] at ra
  case str x =>
    obtain ⟨t, rfl⟩ := ra
    by_cases hxl : x.length ≤ sizeLim
    case neg => rw [if_neg hxl] at hb; exact absurd rfl hb
    rw [if_pos hxl] at hb ⊢
    cases hl : loOf lo with
    | none => rw [hl] at hb; exact absurd rfl hb
    | some m =>
      cases hh : hiOf x.length hi with
      | none => rw [hl, hh] at hb; exact absurd rfl hb
      | some k =>
        obtain ⟨_, p, rfl, hp1⟩ := part_is rl hl
        obtain ⟨k', hk'⟩ := hi_lo hh
        obtain ⟨_, q, rfl, hq1⟩ := part_is rh hk'
        dsimp only
        have hlen : (⟨x.toArray⟩ : Str).length = x.length := by simp [Str.length]
        refine wpAny_getItem_str_slice (l := p) (u := q) (st := none) ⟨_, Heap.get?_push_size _ rfl, rfl, rfl⟩ rfl ?_
        unfold sliceMade slicePicked
        rw [hp1, hq1, hlen]
        have hpick := str_pick x (partOf lo) (partOf hi)
        rw [lo_part hl, hi_part hh, ← cut_eq] at hpick
        split
        · rename_i hw
          simp only [Option.map_none, Option.getD_none, beq_self_eq_true, Bool.true_and, beq_iff_eq] at hw
          have hidx : cutList x m k = x := by
            rw [cut_eq]
            rw [cut_eq] at hpick
            have hle : (Builtin.Str.strSliceIndices (partOf lo) (partOf hi) 1 x.length).length = x.length := hw
            have hs : Builtin.Str.strSliceIndices (partOf lo) (partOf hi) 1 x.length = (List.range (clampIdx x.length k - clampIdx x.length m)).map (clampIdx x.length m + ·) := by
              rw [← lo_part (n := x.length) hl, ← hi_part hh, ← sliceRange_one]
              unfold Builtin.Str.strSliceIndices
              cases partOf lo <;> cases partOf hi <;> simp [clipAt_cast]
            rw [hs] at hle
            simp only [List.length_map, List.length_range] at hle
            have hc : clampIdx x.length k ≤ x.length := by unfold clampIdx; split <;> omega
            have h0 : clampIdx x.length m = 0 := by
              by_cases hz : x.length = 0
              · have : clampIdx x.length m ≤ x.length := by unfold clampIdx; split <;> omega
                omega
              · omega
            rw [h0] at hle ⊢
            rw [List.drop_zero, List.take_of_length_le (by omega)]
          show QV P σ s _ _ _
          exact ⟨_, _, _, rfl, a₁, t, by rw [hidx]⟩
        · have hsz : (⟨(cutList x m k).toArray⟩ : Str).length ≤ sizeLine := by
            have h1 : (cutList x m k).length ≤ x.length := by rw [cut_eq]; simp; omega
            have h2 := sizeLim_le hxl
            simp only [Str.length, List.size_toArray]
            omega
          simp only [Option.map_none, Option.getD_none]
          rw [hpick]
          exact ⟨hsz, _, _, _, rfl, a₁.trans (.tok S₁ _), _, rfl⟩
  case scr xs =>
    obtain ⟨a, items, rfl, hl0, rx⟩ := ra
    by_cases hxl : xs.length ≤ sizeLim
    case neg => rw [if_neg hxl] at hb; exact absurd rfl hb
    rw [if_pos hxl] at hb ⊢
    cases hl : loOf lo with
    | none => rw [hl] at hb; exact absurd rfl hb
    | some m =>
      cases hh : hiOf xs.length hi with
      | none => rw [hl, hh] at hb; exact absurd rfl hb
      | some k =>
        rw [hl, hh] at hb
        obtain ⟨ip, _⟩ := part_is rl hl
        obtain ⟨k', hk'⟩ := hi_lo hh
        obtain ⟨iq, _⟩ := part_is rh hk'
        dsimp only at hb ⊢
        have hlen := rx.length
        simp only [Array.length_toList] at hlen
        have hr : RVs P.B (s.heap.push { cls := .type "slice", data := .fields #[vl, vu, .none] }) σ ((cutList xs m k).map .int) (slicePick items (partOf lo) (partOf hi) none).toList := by
          rw [slicePick_plain]
          simp only
          rw [← hlen, lo_part hl, hi_part hh]
          have := RVs.cut (B := P.B) (h := s.heap.push { cls := .type "slice", data := .fields #[vl, vu, .none] }) (σ := σ) rx.rvs m k
          rw [List.length_map] at this
          have e : cutList (xs.map AV.int) m k = (cutList xs m k).map AV.int := by unfold cutList; rw [List.length_map, ← List.map_take, ← List.map_drop]
          rw [e] at this
          exact this
        obtain ⟨hsz, hq⟩ := qv_newList (s := { s with heap := s.heap.push { cls := .type "slice", data := .fields #[vl, vu, .none] } }) S₁ hr hb
        exact wpAny_getItem_list_slice (scr_list (s := { s with heap := s.heap.push { cls := .type "slice", data := .fields #[vl, vu, .none] } }) S₁ hl0) (.new ..) ip iq .none (by simp) (hq.lift a₁) (by have := sizeLim_le hxl; omega)
  case loc j =>
    obtain ⟨a, o, rfl, e1⟩ := ra
    cases hj : hp[j]? with
    | none => rw [hj] at hb; exact absurd rfl hb
    | some oj =>
      rw [hj] at hb
      cases oj <;> first | (exact absurd rfl hb) | skip
      rename_i xs
      dsimp only at hb ⊢
      cases hl : loOf lo with
      | none => rw [hl] at hb; exact absurd rfl hb
      | some m =>
        cases hh : hiOf xs.length hi with
        | none => rw [hl, hh] at hb; exact absurd rfl hb
        | some k =>
          rw [hl, hh] at hb
          obtain ⟨ip, _⟩ := part_is rl hl
          obtain ⟨k', hk'⟩ := hi_lo hh
          obtain ⟨iq, _⟩ := part_is rh hk'
          dsimp only at hb ⊢
          obtain ⟨ws, n, hL, rx⟩ := St.isL (s := { s with heap := s.heap.push { cls := .type "slice", data := .fields #[vl, vu, .none] } }) S₁ hj e1
          have hlen := rx.length
          simp only [Array.length_toList] at hlen
          have hr : RVs P.B (s.heap.push { cls := .type "slice", data := .fields #[vl, vu, .none] }) σ (cutList xs m k) (slicePick ws (partOf lo) (partOf hi) none).toList := by
            rw [slicePick_plain]
            simp only
            rw [← hlen, lo_part hl, hi_part hh]
            exact rx.cut m k
          obtain ⟨hsz, hq⟩ := qv_newList (s := { s with heap := s.heap.push { cls := .type "slice", data := .fields #[vl, vu, .none] } }) S₁ hr hb
          have hs := S.isLen hj e1
          exact wpAny_getItem_list_slice (isList_of hL) (.new ..) ip iq .none (by simp) (hq.lift a₁) (by omega)
end
end Mine

namespace Mine
open PySem PySem.Spec PyProof.Rows PySem.SeqAt

noncomputable def tyName : Ty → String
  | .int => "int" | .bool => "bool" | .str => "str" | .tuple => "tuple" | .list => "list" | .valueError => "ValueError" | .own _ => ""

section
variable {P : Par} {A : Around} {σ : Sg} {hp : AHeap} {s : Shared} {E : Value → Shared → Prop}

theorem isi_prim (S : St P.w P.B σ hp s.heap) {a : AV} {v : Value} {t : Ty} {r : Bool} (ra : RV P.B s.heap σ a v) (ht : plainTy t = true) (h : isTy hp a t = some r) :
    wpAny (model P.prog P.w) A (call (.builtin "isinstance") [v, .type (tyName t)]) (QB P σ hp s (some r)) E s := by
  have q0 : ∀ b, QB P σ hp s (some b) (.bool b) s := fun b => ⟨b, rfl, rfl, .refl S⟩
  have q1 : ∀ b k, QB P σ hp s (some b) (.bool b) { s with toks := k } := fun b k => ⟨b, rfl, rfl, .tok S _⟩
  cases t <;> first | (cases ht; done) | skip
  all_goals (cases a <;> simp only [isTy] at h <;> first | (cases h; done) | skip)
  all_goals simp only [RV] at ra
  case int.int => obtain ⟨_, rfl⟩ := ra; cases h; exact IsiPair.int_int (q0 _)
  case int.bool => subst ra; cases h; exact IsiPair.bool_int (q0 _)
  case int.str => obtain ⟨_, rfl⟩ := ra; cases h; exact IsiPair.str_int (q1 _ _)
  case int.tup => obtain ⟨_, _, _, rfl, o, _⟩ := ra; cases h; exact IsiPair.tuple_int o rfl (q1 _ _)
  case bool.int => obtain ⟨_, rfl⟩ := ra; cases h; exact IsiPair.int_bool (q1 _ _)
  case bool.bool => subst ra; cases h; exact IsiPair.bool_bool (q0 _)
  case bool.str => obtain ⟨_, rfl⟩ := ra; cases h; exact IsiPair.str_bool (q1 _ _)
  case bool.tup => obtain ⟨_, _, _, rfl, o, _⟩ := ra; cases h; exact IsiPair.tuple_bool o rfl (q1 _ _)
  case str.int => obtain ⟨_, rfl⟩ := ra; cases h; exact IsiPair.int_str (q1 _ _)
  case str.bool => subst ra; cases h; exact IsiPair.bool_str (q1 _ _)
  case str.str => obtain ⟨_, rfl⟩ := ra; cases h; exact IsiPair.str_str (q0 _)
  case str.tup => obtain ⟨_, _, _, rfl, o, _⟩ := ra; cases h; exact IsiPair.tuple_str o rfl (q1 _ _)
  case tuple.int => obtain ⟨_, rfl⟩ := ra; cases h; exact IsiPair.int_tuple (q1 _ _)
  case tuple.bool => subst ra; cases h; exact IsiPair.bool_tuple (q1 _ _)
  case tuple.str => obtain ⟨_, rfl⟩ := ra; cases h; exact IsiPair.str_tuple (q1 _ _)
  case tuple.tup => obtain ⟨_, _, _, rfl, o, _⟩ := ra; cases h; exact IsiPair.tuple_tuple o rfl (q0 _)
  case list.int => obtain ⟨_, rfl⟩ := ra; cases h; exact IsiPair.int_list (q1 _ _)
  case list.bool => subst ra; cases h; exact IsiPair.bool_list (q1 _ _)
  case list.str => obtain ⟨_, rfl⟩ := ra; cases h; exact IsiPair.str_list (q1 _ _)
  case list.tup => obtain ⟨_, _, _, rfl, o, _⟩ := ra; cases h; exact IsiPair.tuple_list o rfl (q1 _ _)
  all_goals
    rename_i j
    obtain ⟨c, o, rfl, e1⟩ := ra
    cases hj : hp[j]? with
    | none => rw [hj] at h; cases h
    | some oj =>
      rw [hj] at h
      cases oj <;> first | (cases h; done) | skip
      all_goals cases h
      · obtain ⟨ws, k, hl, _⟩ := S.isL hj e1
        first | exact IsiPair.list_int hl rfl (q1 _ _) | exact IsiPair.list_bool hl rfl (q1 _ _) | exact IsiPair.list_str hl rfl (q1 _ _) | exact IsiPair.list_tuple hl rfl (q1 _ _) | exact IsiPair.list_list hl rfl (q0 _)
      · obtain ⟨es, hl, _⟩ := S.isDict hj e1
        first | exact IsiPair.dict_int hl rfl (q1 _ _) | exact IsiPair.dict_bool hl rfl (q1 _ _) | exact IsiPair.dict_str hl rfl (q1 _ _) | exact IsiPair.dict_tuple hl rfl (q1 _ _) | exact IsiPair.dict_list hl rfl (q1 _ _)

theorem range_prim (S : St P.w P.B σ hp s.heap) {n : Nat} {q : Bool} (ok : P.Ok) (ar : Arnd n q A) {as : List AV} {vs : List Value} {r : AV} (ra : RVs P.B s.heap σ as vs) (h : rangeOf as = some r) :
    wpAny (model P.prog P.w) A (call (.type "range") vs) (QV P σ s (.ok r hp)) E s := by
  have push : ∀ (o : Obj) (k : Nat), After P σ σ [] hp s { s with heap := s.heap.push o, toks := k } := fun o k => ⟨rfl, S.push o, .push o⟩
  obtain ⟨f, outer, hf1, hf2, hf3, hf4, hf5⟩ := ar.frames
  have hroom : PylongRoom (model P.prog P.w) A s := PylongRoom.of (ok.noLimit S) (by have := ar.depth; show A.depth + 100 < recursionLimit; omega) (SeerAt.of (ok.noSeer S) ok.tree hf1 hf2 hf3 hf4 hf5)
  unfold rangeOf at h
  split at h
  · split at h
    · cases h
      match vs, ra with
      | [v], ra =>
        simp only [RVs, RV] at ra
        obtain ⟨⟨t, rfl⟩, _⟩ := ra
        exact call_range_1 ⟨_, _, _, rfl, push _ _, _, _, _, _, rfl, IsRange.new ..⟩
    · cases h
  · split at h
    · cases h
      match vs, ra with
      | [v, u], ra =>
        simp only [RVs, RV] at ra
        obtain ⟨⟨t, rfl⟩, ⟨t', rfl⟩, _⟩ := ra
        exact call_range_2 ⟨_, _, _, rfl, push _ _, _, _, _, _, rfl, IsRange.new ..⟩
    · cases h
  · split at h
    · rename_i hs
      cases h
      match vs, ra with
      | [v, u, w], ra =>
        simp only [RVs, RV] at ra
        obtain ⟨⟨t, rfl⟩, ⟨t', rfl⟩, ⟨t'', rfl⟩, _⟩ := ra
        obtain ⟨rfl, _⟩ := hs
        exact call_range_3 (by decide) ⟨_, _, _, rfl, push _ _, _, _, _, _, rfl, IsRange.new ..⟩ (.inr hroom)
    · cases h
  · cases h

theorem occ_idx {x : List Nat} {c i : Nat} (h : x.findIdx? (· == c) = some i) : ∃ rest, Builtin.Str.occurrences ⟨x.toArray⟩ ⟨#[c]⟩ 0 (⟨x.toArray⟩ : Str).length 1 = i :: rest := by
  obtain ⟨hi, he, hn⟩ := List.findIdx?_eq_some_iff_getElem.mp h
  have hat : ∀ j, StrLaws.At (⟨x.toArray⟩ : Str) ⟨#[c]⟩ (⟨x.toArray⟩ : Str).length j ↔ x[j]? = some c := fun j => by
    have := StrLaws.subAt_one (⟨x.toArray⟩ : Str) c j
    simpa [StrLaws.At] using this
  have hc : x[i]? = some c := by rw [List.getElem?_eq_getElem hi, eq_of_beq he]
  rcases StrLaws.occ_head (⟨x.toArray⟩ : Str) ⟨#[c]⟩ 1 (Nat.le_refl 1) with ⟨_, h0⟩ | ⟨k, r, e, ha, hb⟩
  · exact absurd ((hat i).mpr hc) (h0 i)
  · have hk : k = i := by
      rcases Nat.lt_trichotomy k i with hlt | heq | hgt
      · have h1 := (hat k).mp ha
        obtain ⟨hk, e'⟩ := List.getElem?_eq_some_iff.mp h1
        have := hn k hlt
        rw [e'] at this
        simp at this
      · exact heq
      · exact absurd ((hat i).mpr hc) (hb i hgt)
    subst hk
    exact ⟨r, e⟩

theorem append_prim (S : St P.w P.B σ hp s.heap) {j : Nat} {xs : List AV} {a : Addr} {off : Nat} (hj : hp[j]? = some (.list xs)) (e1 : σ[j]? = some (a, off)) (hsz : xs.length < sizeLim) {x : AV} {v : Value} (rx : RV P.B s.heap σ x v) :
    ∃ ws n, ws.size ≤ sizeLine ∧ IsL s.heap a ws n ∧ After P σ σ [] (hp.set j (.list (xs ++ [x]))) s { s with heap := s.heap.update a (Obj.mapSeq fun xs => xs.push v) } := by
  obtain ⟨ws, n, hl, r⟩ := S.isL hj e1
  have hlen := r.length
  simp only [Array.length_toList] at hlen
  have hs' : Heap.SameBut a s.heap (s.heap.update a (Obj.mapSeq fun xs => xs.push v)) := .update ..
  obtain ⟨S', g⟩ := S.upd (X := []) e1 hs' (.list (xs ++ [x])) (IsL.update hl _) fun g =>
    ⟨ws.push v, _, IsL.update hl _, by rw [Array.toList_push]; exact (RVs.grows g _ _ r).append ⟨RV.grows g _ _ rx, trivial⟩, by rw [List.length_append]; exact sizeLim_le hsz⟩
  exact ⟨ws, n, by have := sizeLim_le (Nat.le_of_lt hsz); omega, hl, rfl, S', g⟩

theorem setItem_list_prim (S : St P.w P.B σ hp s.heap) {j : Nat} {xs : List AV} {a : Addr} {off : Nat} (hj : hp[j]? = some (.list xs)) (e1 : σ[j]? = some (a, off)) {k : Int} {t : Tok} (h0 : 0 ≤ k) (hk : k < xs.length) {x : AV} {v : Value} (rx : RV P.B s.heap σ x v) {Q : Unit → Shared → Prop}
    (h : ∀ s', After P σ σ [] (hp.set j (.list (xs.set k.toNat x))) s s' → Q () s') : wpAny (model P.prog P.w) A (setItem (.ref a) (.int k t) v) Q E s := by
  obtain ⟨ws, n, hl, r⟩ := S.isL hj e1
  have hlen := r.length
  simp only [Array.length_toList] at hlen
  have hline := S.isLen hj e1
  have hfit := line_int hline
  have hT : s.TypeIs (.ref a) "list" := ⟨_, hl, rfl⟩
  unfold setItem
  try with_reducible refine wpAny_holding ?_
  refine wpAny_bind (wpAny_sequenceKey hT (by decide) ?_)
  refine wpAny_bind (wpAny_callSpecial?_slot (name := Str.ofString "__setitem__") hT slot_list_setitem
    (wpAny_call_entry slot_list_setitem hT entry_list_setitem ?_ (args_list_setitem _ _ _)))
  show wpAny _ _ (Builtin.List.listSubscript? (.int k t) >>= _) _ _ s
  refine wpAny_bind (wpAny_listSubscript_int (fitsIndex_of h0 (by omega)) ?_)
  obtain ⟨i, rfl⟩ := Int.eq_ofNat_of_zero_le h0
  have hi : i < ws.size := by omega
  show wpAny _ _ ((seqItemAt a i >>= fun r => pure (r.map (i, ·))) >>= _) _ _ s
  refine wpAny_bind (wpAny_bind (wpAny_seqItemAt hl rfl (wpAny_pure ?_)))
  rw [Array.getElem?_eq_getElem hi]
  show wpAny _ _ (setSeqItemAt a i v >>= _) _ _ s
  have hs' : Heap.SameBut a s.heap (s.heap.update a (Obj.mapSeq (·.setIfInBounds i v))) := .update ..
  obtain ⟨S', g⟩ := S.upd (X := []) e1 hs' (.list (xs.set (i : Int).toNat x)) (IsL.update hl _) fun g =>
    ⟨ws.setIfInBounds i v, _, IsL.update hl _, by
      rw [Array.toList_setIfInBounds]
      exact RVs.set (RV.grows g _ _ rx) (RVs.grows g _ _ r) i, by rw [List.length_set]; exact hline⟩
  refine wpAny_bind (wpAny_setSeqItemAt hl rfl ?_)
  first
    | exact wpAny_bind (wpAny_pure (wpAny_pure ⟨.none, rfl, wpAny_pure (h _ ⟨rfl, S', g⟩)⟩))
    | exact wpAny_pure ⟨.none, rfl, wpAny_pure (h _ ⟨rfl, S', g⟩)⟩
end
end Mine

namespace Mine
open PySem PySem.Spec PyProof.Rows PySem.SeqAt

section
variable {P : Par}

theorem seqV {γ : Type} {A : Around} {σ₀ σ : Sg} {s₀ s : Shared} {hp : AHeap} {m : Sem Value} {r : Res AV} {f : AV → AHeap → Res γ} {G : Res γ → Value → Shared → Prop} (l₀ : Low P s₀) (a₀ : After P σ₀ σ [] hp s₀ s)
    (h : wpAny (model P.prog P.w) A m (QV P σ s r) (EV P σ s r) s) (hb : r.bind f ≠ .bad)
    (hk : ∀ av hp' σ' v s', After P σ₀ σ' [] hp' s₀ s' → After P σ σ' [] hp' s s' → RV P.B s'.heap σ' av v → f av hp' ≠ .bad → G (f av hp') v s') :
    wpAny (model P.prog P.w) A m (G (r.bind f)) (EV P σ₀ s₀ (r.bind f)) s :=
  wpAny_mono h (fun v s' ⟨av, hp', σ', e, a, rv⟩ => by subst e; exact hk av hp' σ' v s' (a₀.trans a) a rv hb) (fun _ _ q => (q.bind).lift l₀ a₀)

theorem seqVs {γ : Type} {A : Around} {σ₀ σ : Sg} {s₀ s : Shared} {hp : AHeap} {m : Sem (List Value)} {r : Res (List AV)} {f : List AV → AHeap → Res γ} {G : Res γ → List Value → Shared → Prop} (l₀ : Low P s₀) (a₀ : After P σ₀ σ [] hp s₀ s)
    (h : wpAny (model P.prog P.w) A m (QVs P σ s r) (EV P σ s r) s) (hb : r.bind f ≠ .bad)
    (hk : ∀ av hp' σ' v s', After P σ₀ σ' [] hp' s₀ s' → After P σ σ' [] hp' s s' → RVs P.B s'.heap σ' av v → f av hp' ≠ .bad → G (f av hp') v s') :
    wpAny (model P.prog P.w) A m (G (r.bind f)) (EV P σ₀ s₀ (r.bind f)) s :=
  wpAny_mono h (fun v s' ⟨av, hp', σ', e, a, rv⟩ => by subst e; exact hk av hp' σ' v s' (a₀.trans a) a rv hb) (fun _ _ q => (q.bind).lift l₀ a₀)

variable {cx : Cx}

theorem sim_glob {x : Str} {pos : Pos} (hg : cx.isGlob x = true) (hx : cx.consts.contains x = true) : SimE P cx (.Name x pos) (.glob x) := by
  intro c n env A σ l hp s C I hb
  obtain ⟨hd, _⟩ := glob_plain hg
  obtain ⟨v, av, e1, e2, rv⟩ := C.g x hx
  rw [evalX, e2]
  refine wpAny_Name ?_ hd
  rw [loadName_read I.fr.kind (I.fr.glob x hg)]
  have hn : s.heap.Ns env.globals P.mg := by rw [I.fr.globals]; exact C.ok.g.keeps I.st.base
  exact Calls.loadGlobal_global hn e1 ⟨av, hp, σ, rfl, .refl I.st, rv _ _⟩

theorem sim_bin {l r : Expr} {op : Operator} {bop : BOp} {xl xr : X} {pos : Pos} (hop : compBOp op = some bop) (hl : SimE P cx l xl) (hr : SimE P cx r xr) : SimE P cx (.BinOp l op r pos) (.bin bop xl xr) := by
  intro c n env A σ loc hp s C I hb
  rw [evalX] at hb ⊢
  refine wpAny_BinOp (seqV (G := fun R a s₁ => wpAny (model P.prog P.w) A (eval r env) (fun b s₂ => wpAny (model P.prog P.w) A (binaryOp op a b) (QV P σ s R) (EV P σ s R) s₂) (EV P σ s R) s₁) I.low (.refl I.st) (hl c n env A σ loc hp s C I (bind_ok hb)) hb ?_)
  intro av hp₁ σ₁ v s₁ a₁ _ rv hb
  have I₁ := I.after a₁
  refine seqV (G := fun R b s₂ => wpAny (model P.prog P.w) A (binaryOp op v b) (QV P σ s R) (EV P σ s R) s₂) I.low a₁ (hr c n env A σ₁ loc hp₁ s₁ C I₁ (bind_ok hb)) hb ?_
  intro bv hp₂ σ₂ u s₂ a₂ a₁₂ ru hb
  exact wpAny_mono (bin_prim C.ok a₂.st I.ar hop (RV.grows a₁₂.gr _ _ rv) ru hb) (fun _ _ q => q.lift a₂) (fun _ _ q => q)

theorem sim_neg {x : Expr} {xx : X} {pos : Pos} (hx : SimE P cx x xx) : SimE P cx (.UnaryOp .USub x pos) (.neg xx) := by
  intro c n env A σ loc hp s C I hb
  rw [evalX] at hb ⊢
  refine wpAny_UnaryOp (seqV (G := fun R a s₁ => wpAny (model P.prog P.w) A (unaryOp .USub a) (QV P σ s R) (EV P σ s R) s₁) I.low (.refl I.st) (hx c n env A σ loc hp s C I (bind_ok hb)) hb ?_)
  intro av hp₁ σ₁ v s₁ a₁ _ rv hb
  cases av <;> first | (exact absurd rfl hb) | skip
  simp only [RV] at rv
  obtain ⟨t, rfl⟩ := rv
  exact PySem.P.neg_int (QV.lift a₁ ⟨_, _, _, rfl, .tok a₁.st _, _, rfl⟩)

theorem sim_not {x : Expr} {xx : X} {pos : Pos} (hx : SimE P cx x xx) : SimE P cx (.UnaryOp .Not x pos) (.not xx) := by
  intro c n env A σ loc hp s C I hb
  rw [evalX] at hb ⊢
  refine wpAny_UnaryOp (seqV (G := fun R a s₁ => wpAny (model P.prog P.w) A (unaryOp .Not a) (QV P σ s R) (EV P σ s R) s₁) I.low (.refl I.st) (hx c n env A σ loc hp s C I (bind_ok hb)) hb ?_)
  intro av hp₁ σ₁ v s₁ a₁ _ rv hb
  cases av <;> first | (exact absurd rfl hb) | skip
  simp only [RV] at rv
  subst rv
  exact not_value (wpAny_truthy_bool (QV.lift a₁ ⟨_, _, _, rfl, .refl a₁.st, rfl⟩))

noncomputable def SimB (P : Par) (cx : Cx) (op : BoolOp) (es : List Expr) (x : X) : Prop :=
  ∀ c n env A σ l hp s pos, Sims P cx c n → Inv P cx c n env A σ l hp s → evalX c x l hp ≠ .bad →
    wpAny (model P.prog P.w) A (boolOp pos op (evalEach es env)) (QV P σ s (evalX c x l hp)) (EV P σ s (evalX c x l hp)) s

theorem sim_boolop {op : BoolOp} {es : List Expr} {x : X} {pos : Pos} (h : SimB P cx op es x) : SimE P cx (.BoolOp op es pos) x := by
  intro c n env A σ loc hp s C I hb
  rw [arm_eval_BoolOp]
  exact h c n env A σ loc hp s pos C I hb
theorem simB_one {op : BoolOp} {e : Expr} {x : X} (h : SimE P cx e x) : SimB P cx op [e] x := by
  intro c n env A σ loc hp s pos C I hb
  exact h c n env A σ loc hp s C I hb
theorem simB_and {e e' : Expr} {es : List Expr} {x y : X} (h : SimE P cx e x) (hr : SimB P cx .And (e' :: es) y) : SimB P cx .And (e :: e' :: es) (.and x y) := by
  intro c n env A σ loc hp s pos C I hb
  rw [evalX] at hb ⊢
  show wpAny _ _ (eval e env >>= fun v => standAt pos >>= fun _ => holding [v] (truthy v) >>= fun t => match BoolOp.And, t with | .And, false | .Or, true => pure v | _, _ => boolOp pos .And (evalEach (e' :: es) env)) _ _ _
  refine wpAny_bind (seqV (G := fun R v s₁ => wpAny (model P.prog P.w) A (standAt pos >>= fun _ => holding [v] (truthy v) >>= fun t => match BoolOp.And, t with | .And, false | .Or, true => pure v | _, _ => boolOp pos .And (evalEach (e' :: es) env)) (QV P σ s R) (EV P σ s R) s₁) I.low (.refl I.st) (h c n env A σ loc hp s C I (bind_ok hb)) hb ?_)
  intro av hp₁ σ₁ v s₁ a₁ _ rv hb
  cases av <;> first | (exact absurd rfl hb) | skip
  rename_i b
  simp only [RV] at rv
  subst rv
  refine wpAny_bind (wpAny_standAt (wpAny_bind (wpAny_holding (wpAny_truthy_bool ?_))))
  cases b with
  | false => exact wpAny_pure (QV.lift a₁ ⟨_, _, _, rfl, .refl a₁.st, rfl⟩)
  | true => exact wpAny_mono (hr c n env A σ₁ loc hp₁ s₁ pos C (I.after a₁) hb) (fun _ _ q => q.lift a₁) (fun _ _ q => q.lift I.low a₁)
theorem simB_or {e e' : Expr} {es : List Expr} {x y : X} (h : SimE P cx e x) (hr : SimB P cx .Or (e' :: es) y) : SimB P cx .Or (e :: e' :: es) (.or x y) := by
  intro c n env A σ loc hp s pos C I hb
  rw [evalX] at hb ⊢
  show wpAny _ _ (eval e env >>= fun v => standAt pos >>= fun _ => holding [v] (truthy v) >>= fun t => match BoolOp.Or, t with | .And, false | .Or, true => pure v | _, _ => boolOp pos .Or (evalEach (e' :: es) env)) _ _ _
  refine wpAny_bind (seqV (G := fun R v s₁ => wpAny (model P.prog P.w) A (standAt pos >>= fun _ => holding [v] (truthy v) >>= fun t => match BoolOp.Or, t with | .And, false | .Or, true => pure v | _, _ => boolOp pos .Or (evalEach (e' :: es) env)) (QV P σ s R) (EV P σ s R) s₁) I.low (.refl I.st) (h c n env A σ loc hp s C I (bind_ok hb)) hb ?_)
  intro av hp₁ σ₁ v s₁ a₁ _ rv hb
  cases av <;> first | (exact absurd rfl hb) | skip
  rename_i b
  simp only [RV] at rv
  subst rv
  refine wpAny_bind (wpAny_standAt (wpAny_bind (wpAny_holding (wpAny_truthy_bool ?_))))
  cases b with
  | true => exact wpAny_pure (QV.lift a₁ ⟨_, _, _, rfl, .refl a₁.st, rfl⟩)
  | false => exact wpAny_mono (hr c n env A σ₁ loc hp₁ s₁ pos C (I.after a₁) hb) (fun _ _ q => q.lift a₁) (fun _ _ q => q.lift I.low a₁)

theorem notMarks {op : CmpOp} {r : Expr} {x : X} (h : compE cx r = some x) : behindInMarks op r = false := by
  unfold behindInMarks
  split
  · simp [compE] at h
  · rfl

theorem sim_cmp {l r : Expr} {op : CmpOp} {cop : COp} {xl xr : X} {pos : Pos} (hop : compCOp op = some cop) (hm : behindInMarks op r = false) (hl : SimE P cx l xl) (hr : SimE P cx r xr) : SimE P cx (.Compare l [op] [r] pos) (.cmp cop xl xr) := by
  intro c n env A σ loc hp s C I hb
  rw [evalX] at hb ⊢
  refine wpAny_Compare1 (seqV (G := fun R a s₁ => wpAny (model P.prog P.w) A (eval r env) (fun b s₂ => wpAny (model P.prog P.w) A (compareOp op a b) (QV P σ s R) (EV P σ s R) s₂) (EV P σ s R) s₁) I.low (.refl I.st) (hl c n env A σ loc hp s C I (bind_ok hb)) hb ?_) hm
  intro av hp₁ σ₁ v s₁ a₁ _ rv hb
  have I₁ := I.after a₁
  refine seqV (G := fun R b s₂ => wpAny (model P.prog P.w) A (compareOp op v b) (QV P σ s R) (EV P σ s R) s₂) I.low a₁ (hr c n env A σ₁ loc hp₁ s₁ C I₁ (bind_ok hb)) hb ?_
  intro bv hp₂ σ₂ u s₂ a₂ a₁₂ ru hb
  cases hc : cmpAV hp₂ cop av bv with
  | none => rw [hc] at hb; exact absurd rfl hb
  | some k =>
    refine wpAny_mono (cmp_prim C.ok a₂.st I.ar hop (RV.grows a₁₂.gr _ _ rv) ru hc) (fun w s₃ q => ?_) (fun _ _ q => q)
    obtain ⟨b, rfl, e, a₃⟩ := q
    cases e
    exact ⟨_, _, _, rfl, a₂.trans a₃, rfl⟩
end
end Mine

namespace Mine
open PySem PySem.Spec PyProof.Rows PySem.SeqAt

theorem not_starred {cx : Cx} {e : Expr} {x : X} (h : compE cx e = some x) : ∀ env rest, starEach (e :: rest) env = (false, eval e env) :: starEach rest env := by
  intro env rest
  cases e <;> first | rfl | (simp [compE] at h)

section
variable {P : Par} {cx : Cx}

theorem sim_cmp2 {l m r : Expr} {o1 o2 : CmpOp} {c1 c2 : COp} {xl xm xr : X} {pos : Pos} (h1 : compCOp o1 = some c1) (h2 : compCOp o2 = some c2) (hm : behindInMarks o2 r = false) (hl : SimE P cx l xl) (hmm : SimE P cx m xm) (hr : SimE P cx r xr) :
    SimE P cx (.Compare l [o1, o2] [m, r] pos) (.cmp2 c1 c2 xl xm xr) := by
  intro c n env A σ loc hp s C I hb
  rw [evalX] at hb ⊢
  rw [arm_eval_Compare]
  have hmark : markedEach [o1, o2] [m, r] (evalEach [m, r] env) = [eval m env, eval r env] := by
    show [eval m env, markedBehindIn o2 r (eval r env)] = _
    rw [markedBehindIn_of_false hm]
  rw [hmark]
  refine wpAny_bind (seqV (G := fun R a s₁ => wpAny (model P.prog P.w) A (compareChain pos a [o1, o2] [eval m env, eval r env]) (QV P σ s R) (EV P σ s R) s₁) I.low (.refl I.st) (hl c n env A σ loc hp s C I (bind_ok hb)) hb ?_)
  intro av hp₁ σ₁ v s₁ a₁ _ rv hb
  have I₁ := I.after a₁
  rw [compareChain]
  · refine wpAny_bind (wpAny_holding (seqV (G := fun R b s₂ => wpAny (model P.prog P.w) A (standAt pos >>= fun _ => holding [v, b] (compareOp o1 v b) >>= fun cc => release [v, b] [cc] >>= fun _ => holding [cc, b] (truthy cc) >>= fun t => if t = true then compareChain pos b [o2] [eval r env] else pure cc) (QV P σ s R) (EV P σ s R) s₂) I.low a₁ (hmm c n env A σ₁ loc hp₁ s₁ C I₁ (bind_ok hb)) hb ?_))
    intro bv hp₂ σ₂ u s₂ a₂ a₁₂ ru hb
    have I₂ := I.after a₂
    cases hc : cmpAV hp₂ c1 av bv with
    | none => rw [hc] at hb; exact absurd rfl hb
    | some k =>
      rw [hc] at hb
      refine wpAny_bind (wpAny_standAt (wpAny_bind (wpAny_holding (wpAny_mono (cmp_prim C.ok a₂.st I.ar h1 (RV.grows a₁₂.gr _ _ rv) ru hc) (fun w s₃ q => ?_) (fun _ _ q => q)))))
      obtain ⟨b, rfl, e, a₃⟩ := q
      cases e
      refine wpAny_bind (wpAny_release (wpAny_bind (wpAny_holding (wpAny_truthy_bool ?_))))
      cases k with
      | false => exact wpAny_pure (QV.lift (a₂.trans a₃) ⟨_, _, _, rfl, .refl a₃.st, rfl⟩)
      | true =>
        rw [if_pos rfl]
        have I₃ := I₂.after a₃
        dsimp only at hb ⊢
        rw [compareChain]
        refine wpAny_bind (wpAny_holding (seqV (G := fun R z s₄ => wpAny (model P.prog P.w) A (standAt pos >>= fun _ => operate [u, z] (compareOp o2 u z)) (QV P σ s R) (EV P σ s R) s₄) I.low (a₂.trans a₃) (hr c n env A σ₂ loc hp₂ s₃ C I₃ (bind_ok hb)) hb ?_))
        intro zv hp₄ σ₄ z s₄ a₄ a₃₄ rz hb
        cases hc2 : cmpAV hp₄ c2 bv zv with
        | none => rw [hc2] at hb; exact absurd rfl hb
        | some k2 =>
          refine wpAny_bind (wpAny_standAt (wpAny_operating (wpAny_mono (cmp_prim C.ok a₄.st I.ar h2 (RV.grows a₃₄.gr _ _ (RV.grows a₃.gr _ _ ru)) rz hc2) (fun w s₅ q => ?_) (fun _ _ q => q))))
          obtain ⟨b, rfl, e, a₅⟩ := q
          cases e
          exact ⟨_, _, _, rfl, a₄.trans a₅, rfl⟩
  · simp

theorem simEs_nil : SimEs P cx [] .nil := by
  intro c n env A σ loc hp s pos C I hb
  exact wpAny_items_nil ⟨[], hp, σ, rfl, .refl I.st, trivial⟩
theorem simEs_cons {e : Expr} {es : List Expr} {x : X} {xs : Xs} (hs : ∀ env rest, starEach (e :: rest) env = (false, eval e env) :: starEach rest env) (h : SimE P cx e x) (hr : SimEs P cx es xs) : SimEs P cx (e :: es) (.cons x xs) := by
  intro c n env A σ loc hp s pos C I hb
  rw [evalXs] at hb ⊢
  refine wpAny_items_cons (seqV (G := fun R v s₁ => wpAny (model P.prog P.w) A (spliced (backTo pos (starEach es env))) (fun vs s₂ => QVs P σ s R (v :: vs) s₂) (EV P σ s R) s₁) I.low (.refl I.st) (h c n env A σ loc hp s C I (bind_ok hb)) hb ?_) (hs env es)
  intro av hp₁ σ₁ v s₁ a₁ _ rv hb
  refine seqVs (G := fun R vs s₂ => QVs P σ s R (v :: vs) s₂) I.low a₁ (hr c n env A σ₁ loc hp₁ s₁ pos C (I.after a₁) (bind_ok hb)) hb ?_
  intro avs hp₂ σ₂ vs s₂ a₂ a₁₂ rvs hb
  exact ⟨_, _, _, rfl, a₂, RV.grows a₁₂.gr _ _ rv, rvs⟩

theorem sim_tup {es : List Expr} {xs : Xs} {k : Nat} {pos : Pos} (h : SimEs P cx es xs) : SimE P cx (.Tuple es k pos) (.tup xs) := by
  intro c n env A σ loc hp s C I hb
  rw [evalX] at hb ⊢
  refine wpAny_Tuple (seqVs (G := fun R vs s₁ => vs.length ≤ sizeLine ∧ QV P σ s R (.ref s₁.heap.objs.size) { s₁ with heap := s₁.heap.push { cls := .type "tuple", data := .seq vs.toArray } }) I.low (.refl I.st) (h c n env A σ loc hp s pos C I (bind_ok hb)) hb ?_)
  intro avs hp₁ σ₁ vs s₁ a₁ _ rv hb
  have hl := rv.length
  split at hb
  · rename_i hsz
    rw [if_pos hsz]
    have S₂ := a₁.st.push { cls := .type "tuple", data := .seq vs.toArray }
    have g₂ : Grows σ₁ σ₁ [] s₁.heap (s₁.heap.push { cls := .type "tuple", data := .seq vs.toArray }) := .push _
    exact ⟨hl ▸ sizeLim_le hsz, _, _, _, rfl, a₁.trans ⟨rfl, S₂, g₂⟩, s₁.heap.objs.size, vs.toArray, 0, rfl, Heap.get?_push_size _ rfl, RVs.grows g₂ _ _ rv⟩
  · exact absurd rfl hb

theorem sim_list {es : List Expr} {xs : Xs} {pos : Pos} (h : SimEs P cx es xs) : SimE P cx (.List es pos) (.list xs) := by
  intro c n env A σ loc hp s C I hb
  rw [evalX] at hb ⊢
  refine wpAny_List (seqVs (G := fun R vs s₁ => vs.length ≤ sizeLine ∧ QV P σ s R (.ref s₁.heap.objs.size) { s₁ with heap := s₁.heap.push { cls := .type "list", data := .seq vs.toArray } }) I.low (.refl I.st) (h c n env A σ loc hp s pos C I (bind_ok hb)) hb ?_)
  intro avs hp₁ σ₁ vs s₁ a₁ _ rv hb
  obtain ⟨h1, h2⟩ := qv_newList (ws := vs.toArray) a₁.st rv hb
  exact ⟨by simpa using h1, h2.lift a₁⟩

/-- the types whose items are looked at -/
theorem rv_type {σ : Sg} {hp : AHeap} {s : Shared} (S : St P.w P.B σ hp s.heap) {a : AV} {v : Value} (ra : RV P.B s.heap σ a v)
    (h : (∃ x, a = .str x) ∨ (∃ x, a = .tup x) ∨ (∃ x, a = .scr x) ∨ ∃ j, a = .loc j ∧ ((∃ xs, hp[j]? = some (.list xs)) ∨ ∃ kvs ep, hp[j]? = some (.dict kvs ep))) :
    ∃ T id, s.TypeIs v T ∧ typeLookup (.type T) "__getitem__" = pure (some (.builtin id)) := by
  rcases h with ⟨x, rfl⟩ | ⟨x, rfl⟩ | ⟨x, rfl⟩ | ⟨j, rfl, ⟨xs, hj⟩ | ⟨kvs, ep, hj⟩⟩ <;> simp only [RV] at ra
  · obtain ⟨t, rfl⟩ := ra; exact ⟨"str", _, rfl, F.slot_str_getitem.lookup⟩
  · obtain ⟨b, ws, k, rfl, o, _⟩ := ra; exact ⟨"tuple", _, ⟨_, o, rfl⟩, F.slot_tuple_getitem.lookup⟩
  · obtain ⟨b, items, rfl, hl, _⟩ := ra; exact ⟨"list", _, (scr_list S hl).typeIs, slot_list_getitem.lookup⟩
  · obtain ⟨b, o, rfl, e1⟩ := ra
    obtain ⟨ws, k, hl, _⟩ := S.isL hj e1
    exact ⟨"list", _, ⟨_, hl, rfl⟩, slot_list_getitem.lookup⟩
  · obtain ⟨b, o, rfl, e1⟩ := ra
    obtain ⟨es, hl, _⟩ := S.isDict hj e1
    exact ⟨"dict", _, ⟨_, hl, rfl⟩, slot_dict_getitem.lookup⟩
theorem sub_kind {a i : AV} {hp : AHeap} (hb : subAV a i hp ≠ .bad) : (∃ x, a = .str x) ∨ (∃ x, a = .tup x) ∨ (∃ x, a = .scr x) ∨ ∃ j, a = .loc j ∧ ((∃ xs, hp[j]? = some (.list xs)) ∨ ∃ kvs ep, hp[j]? = some (.dict kvs ep)) := by
  cases a <;> first | (exfalso; apply hb; cases i <;> rfl; done) | skip
  · exact .inl ⟨_, rfl⟩
  · exact .inr (.inl ⟨_, rfl⟩)
  · rename_i j
    refine .inr (.inr (.inr ⟨j, rfl, ?_⟩))
    simp only [subAV] at hb
    cases hj : hp[j]? with
    | none => rw [hj] at hb; exact absurd rfl hb
    | some oj =>
      rw [hj] at hb
      cases oj <;> first | (exfalso; apply hb; cases i <;> rfl; done) | skip
      · exact .inl ⟨_, rfl⟩
      · exact .inr ⟨_, _, rfl⟩
  · exact .inr (.inr (.inl ⟨_, rfl⟩))
theorem slice_kind {a lo hi : AV} {hp : AHeap} (hb : sliceAV a lo hi hp ≠ .bad) : (∃ x, a = .str x) ∨ (∃ x, a = .tup x) ∨ (∃ x, a = .scr x) ∨ ∃ j, a = .loc j ∧ ((∃ xs, hp[j]? = some (.list xs)) ∨ ∃ kvs ep, hp[j]? = some (.dict kvs ep)) := by
  cases a <;> first | (exfalso; apply hb; rfl; done) | skip
  · exact .inl ⟨_, rfl⟩
  · rename_i j
    refine .inr (.inr (.inr ⟨j, rfl, ?_⟩))
    simp only [sliceAV] at hb
    cases hj : hp[j]? with
    | none => rw [hj] at hb; exact absurd rfl hb
    | some oj =>
      rw [hj] at hb
      cases oj <;> first | (exfalso; apply hb; rfl; done) | skip
      exact .inl ⟨_, rfl⟩
  · exact .inr (.inr (.inl ⟨_, rfl⟩))

theorem sub_tail {A : Around} {E : Value → Shared → Prop} {s : Shared} {value slice : Expr} {o i : Value} {T id : String} {Q : Value → Shared → Prop} (hT : s.TypeIs o T)
    (hl : typeLookup (.type T) "__getitem__" = pure (some (.builtin id))) (h : wpAny (model P.prog P.w) A (getItem o i) Q E s) :
    wpAny (model P.prog P.w) A (subscriptTail value slice o i) Q E s := by
  unfold subscriptTail
  refine wpAny_bind ?_
  rw [getitemInPython_of_ne hT.not_modules]
  refine wpAny_bind (wpAny_specialOf hT hl ?_)
  have tail : ∀ l : List Value, wpAny (model P.prog P.w) A (operate l (getItem o i)) (fun r s₃ => wpAny (model P.prog P.w) A (letTemporaryGo value o r >>= fun _ => pure r) Q E s₃) E s := fun l =>
    wpAny_operating (wpAny_mono h (fun r s₃ hr => wpAny_bind (wpAny_letTemporaryGo (wpAny_pure hr))) fun _ _ x => x)
  refine wpAny_pure ?_
  refine wpAny_bind ?_
  unfold subscripted
  split
  · exact tail _
  · rename_i hh; cases hh
  · exact tail _

theorem sim_sub {o i : Expr} {xo xi : X} {pos : Pos} (ho : SimE P cx o xo) (hi : SimE P cx i xi) : SimE P cx (.Subscript o i pos) (.sub xo xi) := by
  intro c n env A σ loc hp s C I hb
  rw [evalX] at hb ⊢
  refine Subscript_ (seqV (G := fun R v s₁ => wpAny (model P.prog P.w) A (eval i env) (fun u s₂ => wpAny (model P.prog P.w) A (subscriptTail o i v u) (QV P σ s R) (EV P σ s R) s₂) (EV P σ s R) s₁) I.low (.refl I.st) (ho c n env A σ loc hp s C I (bind_ok hb)) hb ?_)
  intro av hp₁ σ₁ v s₁ a₁ _ rv hb
  refine seqV (G := fun R u s₂ => wpAny (model P.prog P.w) A (subscriptTail o i v u) (QV P σ s R) (EV P σ s R) s₂) I.low a₁ (hi c n env A σ₁ loc hp₁ s₁ C (I.after a₁) (bind_ok hb)) hb ?_
  intro bv hp₂ σ₂ u s₂ a₂ a₁₂ ru hb
  have rv' := RV.grows a₁₂.gr _ _ rv
  obtain ⟨T, id, hT, hl⟩ := rv_type a₂.st rv' (sub_kind hb)
  exact sub_tail hT hl (wpAny_mono (sub_prim C.ok a₂.st I.ar rv' ru hb) (fun _ _ q => q.lift a₂) (fun _ _ q => q))

theorem sim_part {o : Option Expr} {x : X} (hn : o = none → x = .none) (h : ∀ e, o = some e → SimE P cx e x) :
    ∀ c n env A σ l hp s, Sims P cx c n → Inv P cx c n env A σ l hp s → evalX c x l hp ≠ .bad → wpAny (model P.prog P.w) A (evalPart o env) (QV P σ s (evalX c x l hp)) (EV P σ s (evalX c x l hp)) s := by
  intro c n env A σ l hp s C I hb
  cases o with
  | none =>
    rw [hn rfl, evalX]
    exact wpAny_evalPart_none ⟨_, _, _, rfl, .refl I.st, rfl⟩
  | some e => exact wpAny_evalPart_some (h e rfl c n env A σ l hp s C I hb)

theorem sim_slice {o : Expr} {lo hi : Option Expr} {xo xl xh : X} {p pos : Pos} (ho : SimE P cx o xo) (hln : lo = none → xl = .none) (hl : ∀ e, lo = some e → SimE P cx e xl) (hhn : hi = none → xh = .none) (hh : ∀ e, hi = some e → SimE P cx e xh) :
    SimE P cx (.Subscript o (.Slice lo hi none p) pos) (.slice xo xl xh) := by
  intro c n env A σ loc hp s C I hb
  rw [evalX] at hb ⊢
  refine Subscript_ (seqV (G := fun R v s₁ => wpAny (model P.prog P.w) A (eval (.Slice lo hi none p) env) (fun u s₂ => wpAny (model P.prog P.w) A (subscriptTail o (.Slice lo hi none p) v u) (QV P σ s R) (EV P σ s R) s₂) (EV P σ s R) s₁) I.low (.refl I.st) (ho c n env A σ loc hp s C I (bind_ok hb)) hb ?_)
  intro av hp₁ σ₁ v s₁ a₁ _ rv hb
  refine wpAny_Slice (seqV (G := fun R vl s₂ => wpAny (model P.prog P.w) A (evalPart hi env) (fun vh s₃ => wpAny (model P.prog P.w) A (evalPart none env) (fun st s₄ => (fun u s₅ => wpAny (model P.prog P.w) A (subscriptTail o (.Slice lo hi none p) v u) (QV P σ s R) (EV P σ s R) s₅) (.ref s₄.heap.objs.size) { s₄ with heap := s₄.heap.push { cls := .type "slice", data := .fields #[vl, vh, st] } }) (EV P σ s R) s₃) (EV P σ s R) s₂) I.low a₁ (sim_part hln hl c n env A σ₁ loc hp₁ s₁ C (I.after a₁) (bind_ok hb)) hb ?_)
  intro lv hp₂ σ₂ vl s₂ a₂ a₁₂ rl hb
  refine seqV (G := fun R vh s₃ => wpAny (model P.prog P.w) A (evalPart none env) (fun st s₄ => (fun u s₅ => wpAny (model P.prog P.w) A (subscriptTail o (.Slice lo hi none p) v u) (QV P σ s R) (EV P σ s R) s₅) (.ref s₄.heap.objs.size) { s₄ with heap := s₄.heap.push { cls := .type "slice", data := .fields #[vl, vh, st] } }) (EV P σ s R) s₃) I.low a₂ (sim_part hhn hh c n env A σ₂ loc hp₂ s₂ C (I.after a₂) (bind_ok hb)) hb ?_
  intro hv hp₃ σ₃ vh s₃ a₃ a₂₃ rh hb
  refine wpAny_evalPart_none ?_
  have rv' := RV.grows a₂₃.gr _ _ (RV.grows a₁₂.gr _ _ rv)
  have rl' := RV.grows a₂₃.gr _ _ rl
  have S₄ := a₃.st.push { cls := .type "slice", data := .fields #[vl, vh, .none] }
  have g₄ : Grows σ₃ σ₃ [] s₃.heap (s₃.heap.push { cls := .type "slice", data := .fields #[vl, vh, .none] }) := .push _
  obtain ⟨T, id, hT, hlk⟩ := rv_type (s := { s₃ with heap := s₃.heap.push { cls := .type "slice", data := .fields #[vl, vh, .none] } }) S₄ (RV.grows g₄ _ _ rv') (slice_kind hb)
  exact sub_tail hT hlk (wpAny_mono (slice_prim a₃.st rv' rl' rh hb) (fun _ _ q => q.lift a₃) (fun _ _ q => q))
end
end Mine

namespace Mine
open PySem PySem.Spec PyProof.Rows PySem.SeqAt

theorem plain_es {cx : Cx} : ∀ {es : List Expr} {xs : Xs}, compEs cx es = some xs → ∀ env pos, (backTo pos (starEach es env)).any (·.1) = false
  | [], _, _, _, _ => rfl
  | e :: es, xs, h, env, pos => by
    simp only [compEs, Option.bind_eq_bind, Option.bind_eq_some_iff] at h
    obtain ⟨x, hx, ys, hy, _⟩ := h
    rw [not_starred hx env es]
    show (false || (backTo pos (starEach es env)).any (·.1)) = false
    rw [plain_es hy env pos]; rfl

section
variable {P : Par} {cx : Cx}

theorem evalArgs_es {A : Around} {E : Value → Shared → Prop} {s : Shared} {env : Env} {f : Value} {es : List Expr} {pos : Pos} {Q : Args → Shared → Prop} (hp : (backTo pos (starEach es env)).any (·.1) = false)
    (h : wpAny (model P.prog P.w) A (spliced (backTo pos (starEach es env))) (fun vs s' => Q ⟨vs, []⟩ s') E s) : wpAny (model P.prog P.w) A (evalArgs f true (backTo pos (starEach es env)) []) Q E s := by
  cases hb : backTo pos (starEach es env) with
  | nil =>
    rw [hb] at h
    unfold evalArgs
    show wpAny _ _ (spliced [] >>= _) Q E s
    refine wpAny_bind (wpAny_mono h (fun vs s' h' => ?_) fun _ _ x => x)
    refine wpAny_holding ?_
    exact wpAny_bind (wpAny_pure (wpAny_bind (wpAny_pure (wpAny_pure h'))))
  | cons p r =>
    obtain ⟨b, t⟩ := p
    rw [hb] at hp h
    simp only [List.any_cons, Bool.or_eq_false_iff] at hp
    have : b = false := hp.1
    subst this
    exact Calls.evalArgs_plain h

theorem load_glob {A : Around} {E : Value → Shared → Prop} {c : Ctx} {n : Nat} {env : Env} {σ : Sg} {l : Locs} {hp : AHeap} {s : Shared} (C : Sims P cx c n) (I : Inv P cx c n env A σ l hp s) {x : Str} {pos : Pos} (hg : cx.isGlob x = true) {v : Value} (hv : P.mg x = some v) {Q : Value → Shared → Prop} (h : Q v s) :
    wpAny (model P.prog P.w) A (eval (.Name x pos) env) Q E s := by
  obtain ⟨hd, _⟩ := glob_plain hg
  refine wpAny_Name ?_ hd
  rw [loadName_read I.fr.kind (I.fr.glob x hg)]
  have hn : s.heap.Ns env.globals P.mg := by rw [I.fr.globals]; exact C.ok.g.keeps I.st.base
  exact Calls.loadGlobal_global hn hv h
theorem load_blt {A : Around} {E : Value → Shared → Prop} {c : Ctx} {n : Nat} {env : Env} {σ : Sg} {l : Locs} {hp : AHeap} {s : Shared} (C : Sims P cx c n) (I : Inv P cx c n env A σ l hp s) {x : Str} {pos : Pos} (hg : cx.isGlob x = true) {v : Value} (hv : (x, v) ∈ bltPairs) {Q : Value → Shared → Prop} (h : Q v s) :
    wpAny (model P.prog P.w) A (eval (.Name x pos) env) Q E s := by
  obtain ⟨hd, _⟩ := glob_plain hg
  refine wpAny_Name ?_ hd
  rw [loadName_read I.fr.kind (I.fr.glob x hg)]
  have hn : s.heap.Ns env.globals P.mg := by rw [I.fr.globals]; exact C.ok.g.keeps I.st.base
  have hb : s.heap.Ns env.builtins P.mb := by rw [I.fr.builtins]; exact C.ok.b.keeps I.st.base
  obtain ⟨h1, h2⟩ := C.ok.blt x v hv
  exact Calls.loadGlobal_builtin hn h1 hb h2 h

theorem call_eq {f : Str} {p pos : Pos} {es : List Expr} {env : Env} : eval (.Call (.Name f p) es [] pos) env = (eval (.Name f p) env >>= fun fv => callWith pos fv [] (backTo pos (starEach es env)) []) := rfl

theorem sim_call {f : Str} {es : List Expr} {xs : Xs} {p pos : Pos} (hg : cx.isGlob f = true) (hf : cx.funs.contains f = true) (hc : compEs cx es = some xs) (h : SimEs P cx es xs) : SimE P cx (.Call (.Name f p) es [] pos) (.call f xs) := by
  intro c n env A σ loc hp s C I hb
  rw [evalX] at hb ⊢
  rw [call_eq]
  obtain ⟨a, o, fd, hm, ho, hd, hcall⟩ := C.f f hf
  refine wpAny_bind (load_glob C I hg hm (Calls.callWith_function (o := o) (fd := fd) (evalArgs_es (plain_es hc env pos) (seqVs (G := fun R vs s₁ => (s₁.heap.get? a = some o ∧ o.data = .func fd) ∧ wpAny (model P.prog P.w) A (call (.ref a) ([] ++ vs) []) (QV P σ s R) (EV P σ s R) s₁) I.low (.refl I.st) (h c n env A σ loc hp s pos C I (bind_ok hb)) hb ?_))))
  intro avs hp₁ σ₁ vs s₁ a₁ _ rv hb
  refine ⟨⟨a₁.st.base a o ho, hd⟩, ?_⟩
  exact wpAny_mono (hcall c.q avs vs σ₁ hp₁ s₁ A a₁.st (I.low.after a₁) rv I.ar.toC hb) (fun _ _ q => q.lift a₁) (fun _ _ q => q.lift I.low a₁)

theorem sim_len {es : List Expr} {xs : Xs} {p pos : Pos} (hg : cx.isGlob "len" = true) (hc : compEs cx es = some xs) (h : SimEs P cx es xs) : SimE P cx (.Call (.Name "len" p) es [] pos) (.bi .len xs) := by
  intro c n env A σ loc hp s C I hb
  rw [evalX] at hb ⊢
  rw [if_neg (by decide)] at hb ⊢
  rw [call_eq]
  refine wpAny_bind (load_blt C I hg (v := .builtin "len") (by simp [bltPairs]) (Calls.callWith_builtin (plain_es hc env pos) (evalArgs_es (plain_es hc env pos) (seqVs (G := fun R vs s₁ => wpAny (model P.prog P.w) A (call (.builtin "len") ([] ++ vs) []) (QV P σ s R) (EV P σ s R) s₁) I.low (.refl I.st) (h c n env A σ loc hp s pos C I (bind_ok hb)) hb ?_))))
  intro avs hp₁ σ₁ vs s₁ a₁ _ rv hb
  match avs, vs, rv, hb with
  | [av], [v], rv, hb => exact wpAny_mono (len_prim C.ok a₁.st rv.1 hb) (fun _ _ q => q.lift a₁) (fun _ _ q => q)
  | [], _, _, hb => exact absurd rfl hb
  | _ :: _ :: _, _, _, hb => exact absurd rfl hb

theorem sim_range {es : List Expr} {xs : Xs} {p pos : Pos} (hg : cx.isGlob "range" = true) (hc : compEs cx es = some xs) (h : SimEs P cx es xs) : SimE P cx (.Call (.Name "range" p) es [] pos) (.range xs) := by
  intro c n env A σ loc hp s C I hb
  rw [evalX] at hb ⊢
  rw [call_eq]
  refine wpAny_bind (load_blt C I hg (v := .type "range") (by simp [bltPairs]) (PySem.callWith_type (plain_es hc env pos) (evalArgs_es (plain_es hc env pos) (seqVs (G := fun R vs s₁ => wpAny (model P.prog P.w) A (call (.type "range") ([] ++ vs) []) (QV P σ s R) (EV P σ s R) s₁) I.low (.refl I.st) (h c n env A σ loc hp s pos C I (bind_ok hb)) hb ?_))))
  intro avs hp₁ σ₁ vs s₁ a₁ _ rv hb
  cases hr : rangeOf avs with
  | none => rw [hr] at hb; exact absurd rfl hb
  | some r => exact wpAny_mono (range_prim a₁.st C.ok I.ar rv hr) (fun _ _ q => q.lift a₁) (fun _ _ q => q)

/-- isinstance against a built-in class -/
theorem sim_isi {e : Expr} {x : X} {t : Ty} {T : Str} {p q pos : Pos} (hg : cx.isGlob "isinstance" = true) (hgT : cx.isGlob T = true) (hT : (T, Value.type (tyName t)) ∈ bltPairs) (ht : plainTy t = true) (hs : ∀ env rest, starEach (e :: rest) env = (false, eval e env) :: starEach rest env) (h : SimE P cx e x) :
    SimE P cx (.Call (.Name "isinstance" p) [e, .Name T q] [] pos) (.isi x [t]) := by
  intro c n env A σ loc hp s C I hb
  rw [evalX] at hb ⊢
  rw [if_neg (by simp [tysSup, ht])] at hb ⊢
  rw [call_eq]
  have hplain : (backTo pos (starEach [e, .Name T q] env)).any (·.1) = false := by
    rw [hs]; rfl
  refine wpAny_bind (load_blt C I hg (v := .builtin "isinstance") (by simp [bltPairs]) (Calls.callWith_builtin hplain (evalArgs_es hplain ?_)))
  refine wpAny_items_cons (seqV (G := fun R v s₁ => wpAny (model P.prog P.w) A (spliced (backTo pos (starEach [.Name T q] env))) (fun vs s₂ => wpAny (model P.prog P.w) A (call (.builtin "isinstance") ([] ++ (v :: vs)) []) (QV P σ s R) (EV P σ s R) s₂) (EV P σ s R) s₁) I.low (.refl I.st) (h c n env A σ loc hp s C I (bind_ok hb)) hb ?_) (hs env _)
  intro av hp₁ σ₁ v s₁ a₁ _ rv hb
  refine wpAny_items_cons (load_blt C (I.after a₁) hgT hT (wpAny_items_nil ?_))
  simp only [isTys] at hb ⊢
  cases hr : isTy hp₁ av t with
  | none => rw [hr] at hb; exact absurd rfl hb
  | some r =>
    refine wpAny_mono (isi_prim a₁.st rv ht hr) (fun w s₂ qb => ?_) (fun _ _ q => q)
    obtain ⟨b, rfl, e2, a₂⟩ := qb
    cases e2
    cases r <;> exact ⟨_, _, _, rfl, a₁.trans a₂, rfl⟩
end
end Mine

namespace Mine
open PySem PySem.Spec PyProof.Rows PySem.SeqAt

theorem base_plain {o : Expr} (h : notSuper o = true) (attr : Str) (env : Env) (whole : Sem Value) : attributeBase o attr env whole = whole := by
  unfold attributeBase
  split
  · simp [notSuper] at h
  · rfl

section
variable {P : Par} {cx : Cx}

theorem few_es {es : List Expr} {xs : Xs} (hc : compEs cx es = some xs) (hl : es.length < 20) (env : Env) (pos : Pos) : ((backTo pos (starEach es env)).all (fun x => !x.1) && (backToKw pos (keywordEach [] env)).all (fun x => x.1.isSome)
      && decide (es.length + ([] : List Keyword).length + (if ([] : List Keyword).isEmpty then 0 else 1) < 30)) = true := by
  have h1 := plain_es hc env pos
  have h2 : (backTo pos (starEach es env)).all (fun x => !x.1) = true := by
    rw [List.all_eq_true]
    intro x hx
    have := List.any_eq_false.mp h1 x hx
    simpa using this
  rw [h2]
  simp [backToKw, keywordEach]
  omega

theorem meth_gen {c : Ctx} {n : Nat} {env : Env} {A : Around} {σ : Sg} {loc : Locs} {hp : AHeap} {s : Shared} (I : Inv P cx c n env A σ loc hp s) {o : Expr} {es : List Expr} {xs : Xs} {name : Str} {ap pos : Pos} {T id : String}
    (pa : PlainAttrs T) (slot : Slot T name id) (hty : typeOf (.builtin id) = pure (.type "method_descriptor")) (hns : notSuper o = true) (hc : compEs cx es = some xs) (hl : es.length < 20) (hline : (ap.endLine == pos.line) = true)
    {r : Res AV} {f : AV → AHeap → Res AV} (ho : wpAny (model P.prog P.w) A (eval o env) (QV P σ s r) (EV P σ s r) s) (hb : r.bind f ≠ .bad)
    (hk : ∀ av hp' σ' v s', r = .ok av hp' → After P σ σ' [] hp' s s' → RV P.B s'.heap σ' av v → f av hp' ≠ .bad →
      s'.TypeIs v T ∧ (∀ a, v = .ref a → ∃ ob, s'.heap.get? a = some ob ∧ ob.dict = none) ∧
      wpAny (model P.prog P.w) A (evalArgs (.builtin id) true (backTo pos (starEach es env)) []) (fun a s₁ => wpAny (model P.prog P.w) A (call (.builtin id) ([v] ++ a.pos) a.kw) (QV P σ s (f av hp')) (EV P σ s (f av hp')) s₁) (EV P σ s (f av hp')) s') :
    wpAny (model P.prog P.w) A (eval (.Call (.Attribute o name ap) es [] pos) env) (QV P σ s (r.bind f)) (EV P σ s (r.bind f)) s := by
  refine wpAny_Call_method (base_plain hns _ _ _) (few_es hc hl env pos) hline pa slot hty (wpAny_mono ho (fun v s' ⟨av, hp', σ', e, a, rv⟩ => ?_) fun _ _ q => q.bind)
  subst e
  obtain ⟨h1, h2, h3⟩ := hk av hp' σ' v s' rfl a rv hb
  exact ⟨h1, h2, Calls.callWith_builtin (plain_es hc env pos) h3⟩

theorem bmOk_list {m : BM} {v : AV} {h : AHeap} (hm : m = .append) (hb : bmOk m v h = true) : ∃ j xs, v = .loc j ∧ h[j]? = some (.list xs) := by
  unfold bmOk at hb
  split at hb
  · subst hm; cases hb
  · split at hb
    · exact ⟨_, _, rfl, by assumption⟩
    · cases hb
    · cases hb
  · cases hb

theorem sim_append {o : Expr} {es : List Expr} {xo : X} {xs : Xs} {ap pos : Pos} (hns : notSuper o = true) (hc : compEs cx es = some xs) (hl : es.length < 20) (hline : (ap.endLine == pos.line) = true) (ho : SimE P cx o xo) (hes : SimEs P cx es xs) :
    SimE P cx (.Call (.Attribute o "append" ap) es [] pos) (.bm .append xo xs) := by
  intro c n env A σ loc hp s C I hb
  rw [evalX] at hb ⊢
  rw [if_neg (by decide)] at hb ⊢
  refine meth_gen I F.plainAttrs_list F.slot_list_append F.type_list_append hns hc hl hline (ho c n env A σ loc hp s C I (bind_ok hb)) hb ?_
  intro av hp₁ σ₁ v s₁ hr a₁ rv hb
  have I₁ := I.after a₁
  split at hb
  · rename_i hk
    rw [if_pos hk]
    obtain ⟨j, ys, rfl, hj⟩ := bmOk_list rfl hk
    simp only [RV] at rv
    obtain ⟨a, off, rfl, e1⟩ := rv
    obtain ⟨ws, m, hL, _⟩ := a₁.st.isL hj e1
    refine ⟨⟨_, hL, rfl⟩, fun b e => ?_, ?_⟩
    · cases e; exact ⟨_, hL, rfl⟩
    refine evalArgs_es (plain_es hc env pos) (seqVs (G := fun R vs s₂ => wpAny (model P.prog P.w) A (call (.builtin "list.append") ([Value.ref a] ++ vs) []) (QV P σ s R) (EV P σ s R) s₂) I.low a₁ (hes c n env A σ₁ loc hp₁ s₁ pos C I₁ (bind_ok hb)) hb ?_)
    intro avs hp₂ σ₂ vs s₂ a₂ a₁₂ rvs hb
    have e2 := a₁₂.gr.look e1
    match avs, vs, rvs, hb with
    | [], _, _, hb => exact absurd rfl hb
    | _ :: _ :: _, _, _, hb => exact absurd rfl hb
    | [x], [u], rvs, hb =>
      simp only [bmAV, appendAV, indexAV] at hb ⊢
      cases hj2 : hp₂[j]? with
      | none => rw [hj2] at hb; exact absurd rfl hb
      | some oj =>
        rw [hj2] at hb
        cases oj <;> first | exact absurd rfl hb | skip
        rename_i zs
        dsimp only at hb ⊢
        split at hb
        · rename_i hsz
          rw [if_pos hsz]
          obtain ⟨us, m', h1, h2, h3⟩ := append_prim a₂.st hj2 e2 hsz rvs.1
          exact call_meets F.slot_list_append ⟨_, h2, rfl⟩ F.entry_list_append (F.args_list_append_2 _ _) (list_append a us m' u h1) ⟨h2, _, _, _, rfl, a₂.trans h3, rfl⟩
        · exact absurd rfl hb
  · exact absurd rfl hb

theorem sim_index {o : Expr} {es : List Expr} {xo : X} {xs : Xs} {ap pos : Pos} (hns : notSuper o = true) (hc : compEs cx es = some xs) (hl : es.length < 20) (hline : (ap.endLine == pos.line) = true) (ho : SimE P cx o xo) (hes : SimEs P cx es xs) :
    SimE P cx (.Call (.Attribute o "index" ap) es [] pos) (.bm .index xo xs) := by
  intro c n env A σ loc hp s C I hb
  rw [evalX] at hb ⊢
  rw [if_neg (by decide)] at hb ⊢
  have hstr : ∀ (hT : ∀ av hp', evalX c xo loc hp = .ok av hp' → ∃ x, av = .str x), wpAny (model P.prog P.w) A (eval (.Call (.Attribute o "index" ap) es [] pos) env) (QV P σ s ((evalX c xo loc hp).bind fun v h => if bmOk .index v h then (evalXs c xs loc h).bind fun vs h => bmAV .index v vs h else .bad)) (EV P σ s ((evalX c xo loc hp).bind fun v h => if bmOk .index v h then (evalXs c xs loc h).bind fun vs h => bmAV .index v vs h else .bad)) s := by
    intro hT
    refine meth_gen I F.plainAttrs_str F.slot_str_index F.type_str_index hns hc hl hline (ho c n env A σ loc hp s C I (bind_ok hb)) hb ?_
    intro av hp₁ σ₁ v s₁ hr a₁ rv hb
    have I₁ := I.after a₁
    obtain ⟨x, rfl⟩ := hT _ _ hr
    simp only [RV] at rv
    obtain ⟨t, rfl⟩ := rv
    refine ⟨rfl, fun b e => (nomatch e), ?_⟩
    rw [if_pos (show bmOk .index (.str x) hp₁ = true from rfl)] at hb ⊢
    refine evalArgs_es (plain_es hc env pos) (seqVs (G := fun R vs s₂ => wpAny (model P.prog P.w) A (call (.builtin "str.index") ([Value.str ⟨x.toArray⟩ t] ++ vs) []) (QV P σ s R) (EV P σ s R) s₂) I.low a₁ (hes c n env A σ₁ loc hp₁ s₁ pos C I₁ (bind_ok hb)) hb ?_)
    intro avs hp₂ σ₂ vs s₂ a₂ a₁₂ rvs hb
    match avs, vs, rvs, hb with
    | [], _, _, hb => exact absurd rfl hb
    | y :: z :: r, _, _, hb => exact absurd (by simp [bmAV, indexAV]) hb
    | [y], [u], rvs, hb =>
      cases y <;> first | (exfalso; apply hb; rfl; done) | skip
      rename_i y
      match y, rvs, hb with
      | [], _, hb => exact absurd rfl hb
      | _ :: _ :: _, _, hb => exact absurd rfl hb
      | [k], rvs, hb =>
        simp only [bmAV, appendAV, indexAV] at hb ⊢
        simp only [RVs, RV] at rvs
        obtain ⟨⟨t', rfl⟩, _⟩ := rvs
        cases hi : x.findIdx? (· == k) with
        | none => rw [hi] at hb; exact absurd rfl hb
        | some i =>
          obtain ⟨rest, hocc⟩ := occ_idx hi
          exact SC.index hocc ⟨_, _, _, rfl, a₂.trans (.tok a₂.st _), _, rfl⟩
  cases hr : evalX c xo loc hp with
  | bad => rw [hr] at hb; exact absurd rfl hb
  | ex e h' => rw [← hr]; exact hstr fun av hp' e' => by rw [hr] at e'; cases e'
  | ok av hp' =>
    have hb' := hb
    rw [hr] at hb'
    cases av <;> first | (exact absurd rfl hb'; done) | skip
    · rw [← hr]; exact hstr fun av hp' e' => by rw [hr] at e'; cases e'; exact ⟨_, rfl⟩
    · rename_i j
      exfalso; apply hb'
      show (if bmOk .index (.loc j) hp' = true then _ else _) = _
      rw [if_neg]
      simp only [bmOk]
      split <;> simp
end
end Mine

namespace Mine
open PySem PySem.Spec PyProof.Rows PySem.SeqAt

noncomputable def FX (env : Env) : List Addr := env.locals :: env.cells.map (·.2)

noncomputable def RF (B : Bs) (h : Heap) (σ : Sg) : Flow → PySem.Flow → Prop
  | .next, f => f = .next
  | .cont, f => f = .cont
  | .ret av, f => ∃ v, f = .ret v ∧ RV B h σ av v

noncomputable def QS (P : Par) (env : Env) (cx : Cx) (σ : Sg) (s : Shared) (r : SR) : PySem.Flow → Shared → Prop := fun f s' => ∃ fl l' hp' σ', r = .ok fl l' hp' ∧ After P σ σ' (FX env) hp' s s' ∧ RF P.B s'.heap σ' fl f ∧ Frm P s'.heap σ' env cx l'
noncomputable def ES (P : Par) (env : Env) (cx : Cx) (σ : Sg) (s : Shared) (r : SR) : Value → Shared → Prop := fun e s' => ∃ c l' hp' σ', r = .ex c l' hp' ∧ After P σ σ' (FX env) hp' s s' ∧ Fly P s.heap s'.heap e c ∧ Frm P s'.heap σ' env cx l'

section
variable {P : Par} {cx : Cx} {env : Env} {A : Around} {E : Value → Shared → Prop} {σ : Sg} {l : Locs} {hp : AHeap} {s : Shared}

theorem Frm.nsObj (f : Frm P s.heap σ env cx l) : ∃ o es ep, s.heap.get? env.locals = some o ∧ o.data = .dict es ep := by
  obtain ⟨m, ⟨o, es, ep, ho, hd, _⟩, _⟩ := f.names
  exact ⟨o, es, ep, ho, hd⟩
theorem Frm.cell_ne (f : Frm P s.heap σ env cx l) {p : Str × Addr} (hp : p ∈ env.cells) : p.2 ≠ env.locals := fun e => by
  obtain ⟨o, v, ho, hd⟩ := f.cells p hp
  obtain ⟨o', es, ep, ho', hd'⟩ := f.nsObj
  rw [e, ho'] at ho
  cases ho
  rw [hd'] at hd
  cases hd

theorem slot_len (f : Frm P s.heap σ env cx l) {x : Str} {i : Nat} (hx : cx.slot x = some i) : i < l.length := by rw [f.len]; exact f.lt x i hx

theorem slotW_slot {cx : Cx} {x : Str} {i : Nat} (h : cx.slotW x = some i) : cx.slot x = some i := by
  unfold Cx.slotW at h
  split at h
  · exact h
  · exact h
  · cases h

/-- a local name is bound -/
theorem store_prim (S : St P.w P.B σ hp s.heap) (f : Frm P s.heap σ env cx l) {x : Str} {i : Nat} {av : AV} {v : Value} (hw : cx.slotW x = some i) (rv : RV P.B s.heap σ av v) {Q : Unit → Shared → Prop}
    (h : ∀ s', After P σ σ (FX env) hp s s' → Frm P s'.heap σ env cx (l.set i (some av)) → RV P.B s'.heap σ av v → Q () s') : wpAny (model P.prog P.w) A (storeName env x v) Q E s := by
  obtain ⟨m, hn, hm⟩ := f.names
  have hx := slotW_slot hw
  have hfree := f.wr x i hw
  have hil := slot_len f hx
  have hget : ∀ y j, cx.slot y = some j → y ≠ x → (l.set i (some av))[j]? = l[j]? := fun y j hy hne => by
    rw [List.getElem?_set_ne]
    intro e; subst e; exact hne (f.inj y x i hy hx)
  rcases hm x i hx with ⟨hk, _⟩ | ⟨hk, c, ov, hc, hi, _⟩
  · refine wpAny_storeName_local hk hn (fun h' hn' hs => ?_) (by rw [f.kind]; rfl)
    obtain ⟨o, es, ep, ho, hd⟩ := f.nsObj
    obtain ⟨o₁, _, _, ho₁, _⟩ := id hn'
    obtain ⟨S', g⟩ := S.sameBut (X := FX env) hs (fun o' ho' => by rw [ho] at ho'; cases ho'; unfold fixed; rw [hd]; simp) f.out.1 f.new.1 (by simp [FX]) ho₁
    have hcell : ∀ p ∈ env.cells, h'.get? p.2 = s.heap.get? p.2 := fun p hp => hs.2 p.2 (f.cell_ne hp)
    refine h { s with heap := h', toks := s.toks + 1 } ⟨rfl, S', g⟩ ⟨f.kind, by rw [List.length_set]; exact f.len, f.inj, f.lt, f.glob, f.wr, ⟨_, hn', fun y j hy => ?_⟩, f.out, f.new, f.globals, f.builtins, fun p hp => ?_, f.apart⟩ (RV.grows g _ _ rv)
    · by_cases hyx : y = x
      · subst hyx
        rw [hx] at hy; cases hy
        refine .inl ⟨hk, fun av' e => ?_⟩
        rw [List.getElem?_set_self hil] at e
        cases e
        exact ⟨v, by simp, RV.grows g _ _ rv⟩
      · rw [hget y j hy hyx]
        rcases hm y j hy with ⟨hk', hv⟩ | ⟨hk', c, ov, hc, hi, hv⟩
        · exact .inl ⟨hk', fun av' e => let ⟨u, h1, h2⟩ := hv av' e; ⟨u, by rw [if_neg hyx]; exact h1, RV.grows g _ _ h2⟩⟩
        · obtain ⟨oc, hoc, hdc⟩ := hi
          exact .inr ⟨hk', c, ov, hc, ⟨oc, (hcell (y, c) (mem_of_lookup' hc)).trans hoc, hdc⟩, fun av' e => let ⟨u, h1, h2⟩ := hv av' e; ⟨u, h1, RV.grows g _ _ h2⟩⟩
    · obtain ⟨oc, vc, hoc, hdc⟩ := f.cells p hp
      exact ⟨oc, vc, (hcell p hp).trans hoc, hdc⟩
  · rcases hk with hk | hk
    · refine wpAny_storeName_cell f.kind hk hc hi fun h' hi' hs => ?_
      have hmem := mem_of_lookup' hc
      obtain ⟨oc, hoc, hdc⟩ := hi
      obtain ⟨o₁, ho₁, _⟩ := id hi'
      obtain ⟨S', g⟩ := S.sameBut (X := FX env) hs (fun o' ho' => by rw [hoc] at ho'; cases ho'; unfold fixed; rw [hdc]; simp) (f.out.2 _ hmem) (f.new.2 _ hmem) (by simp only [FX, List.mem_cons, List.mem_map]; exact .inr ⟨_, hmem, rfl⟩) ho₁
      have hloc : h'.get? env.locals = s.heap.get? env.locals := hs.2 _ (Ne.symm (f.cell_ne hmem))
      obtain ⟨o, es, ep, ho, hd, hrest⟩ := hn
      refine h { s with heap := h' } ⟨rfl, S', g⟩ ⟨f.kind, by rw [List.length_set]; exact f.len, f.inj, f.lt, f.glob, f.wr, ⟨m, ⟨o, es, ep, hloc.trans ho, hd, hrest⟩, fun y j hy => ?_⟩, f.out, f.new, f.globals, f.builtins, fun p hp => ?_, f.apart⟩ (RV.grows g _ _ rv)
      · by_cases hyx : y = x
        · subst hyx
          rw [hx] at hy; cases hy
          refine .inr ⟨.inl hk, c, some v, hc, hi', fun av' e => ?_⟩
          rw [List.getElem?_set_self hil] at e
          cases e
          exact ⟨v, rfl, RV.grows g _ _ rv⟩
        · rw [hget y j hy hyx]
          rcases hm y j hy with ⟨hk', hv⟩ | ⟨hk', c', ov', hc', hi₂, hv⟩
          · exact .inl ⟨hk', fun av' e => let ⟨u, h1, h2⟩ := hv av' e; ⟨u, h1, RV.grows g _ _ h2⟩⟩
          · have hne : c' ≠ c := fun e => hyx (f.apart (y, c') (mem_of_lookup' hc') (x, c) hmem e)
            obtain ⟨oc', hoc', hdc'⟩ := hi₂
            exact .inr ⟨hk', c', ov', hc', ⟨oc', (hs.2 c' hne).trans hoc', hdc'⟩, fun av' e => let ⟨u, h1, h2⟩ := hv av' e; ⟨u, h1, RV.grows g _ _ h2⟩⟩
      · by_cases e : p.2 = c
        · obtain ⟨o', ho', hd'⟩ := hi'
          exact ⟨o', _, e ▸ ho', hd'⟩
        · obtain ⟨oc', vc, hoc', hdc'⟩ := f.cells p hp
          exact ⟨oc', vc, (hs.2 p.2 e).trans hoc', hdc'⟩
    · exact absurd hk hfree
end
end Mine

namespace Mine
open PySem PySem.Spec PyProof.Rows PySem.SeqAt

noncomputable def QT (P : Par) (σ : Sg) (s : Shared) (r : Res AV) : Bool → Shared → Prop := fun b s' => ∃ hp' σ', r = .ok (.bool b) hp' ∧ After P σ σ' [] hp' s s'
noncomputable def BoolR (r : Res AV) : Prop := ∀ av h, r = .ok av h → ∃ b, av = .bool b

noncomputable def SimT (P : Par) (cx : Cx) (e : Expr) (x : X) : Prop :=
  ∀ c n env A σ l hp s, Sims P cx c n → Inv P cx c n env A σ l hp s → evalX c x l hp ≠ .bad → BoolR (evalX c x l hp) →
    wpAny (model P.prog P.w) A (isTrue e env (eval e env)) (QT P σ s (evalX c x l hp)) (EV P σ s (evalX c x l hp)) s
noncomputable def SimTs (P : Par) (cx : Cx) (op : BoolOp) (es : List Expr) (x : X) : Prop :=
  ∀ c n env A σ l hp s, Sims P cx c n → Inv P cx c n env A σ l hp s → evalX c x l hp ≠ .bad → BoolR (evalX c x l hp) →
    wpAny (model P.prog P.w) A (allTrue op es env) (QT P σ s (evalX c x l hp)) (EV P σ s (evalX c x l hp)) s

noncomputable def valTest : Expr → Bool
  | .UnaryOp .Not _ _ | .BoolOp .. | .IfExp .. | .Compare .. => false
  | _ => true

section
variable {P : Par} {cx : Cx}

theorem QT.lift {σ σ' : Sg} {hp' : AHeap} {s s' : Shared} {r : Res AV} {v : Bool} {s'' : Shared} (a : After P σ σ' [] hp' s s') (q : QT P σ' s' r v s'') : QT P σ s r v s'' := by
  obtain ⟨hp, σ₂, e, b⟩ := q
  exact ⟨hp, σ₂, e, a.trans b⟩

theorem simT_val {e : Expr} {x : X} (hv : valTest e = true) (h : SimE P cx e x) : SimT P cx e x := by
  intro c n env A σ l hp s C I hb hr
  refine wpAny_isTrue_value (wpAny_mono (h c n env A σ l hp s C I hb) (fun v s' ⟨av, hp', σ', e, a, rv⟩ => ?_) fun _ _ q => q) (by cases e <;> first | rfl | (cases hv; done) | (rename_i op _ _; cases op <;> first | rfl | (cases hv; done)))
  obtain ⟨b, rfl⟩ := hr av hp' e
  simp only [RV] at rv
  subst rv
  exact wpAny_truthy_bool ⟨hp', σ', e, a⟩

theorem boolR_bind {r : Res AV} {f : AV → AHeap → Res AV} (h : BoolR (r.bind f)) {av : AV} {hp : AHeap} (e : r = .ok av hp) : BoolR (f av hp) := by
  subst e; exact h

theorem simT_not {x : Expr} {xx : X} {pos : Pos} (hx : SimT P cx x xx) : SimT P cx (.UnaryOp .Not x pos) (.not xx) := by
  intro c n env A σ loc hp s C I hb hr
  rw [evalX] at hb hr ⊢
  have hbr : BoolR (evalX c xx loc hp) := fun av h e => by
    rw [e] at hb
    cases av <;> first | exact ⟨_, rfl⟩ | exact absurd rfl hb
  refine wpAny_isTrue_Not (wpAny_mono (hx c n env A σ loc hp s C I (bind_ok hb) hbr) (fun b s' ⟨hp', σ', e, a⟩ => ?_) fun _ _ q => q.bind)
  rw [e]
  exact ⟨hp', σ', rfl, a⟩

theorem simT_boolop {op : BoolOp} {es : List Expr} {x : X} {pos : Pos} (h : SimTs P cx op es x) : SimT P cx (.BoolOp op es pos) x := by
  intro c n env A σ loc hp s C I hb hr
  exact wpAny_isTrue_BoolOp (h c n env A σ loc hp s C I hb hr)
theorem simTs_one {op : BoolOp} {e : Expr} {x : X} (h : SimT P cx e x) : SimTs P cx op [e] x := by
  intro c n env A σ loc hp s C I hb hr
  have hh := h c n env A σ loc hp s C I hb hr
  cases op with
  | And =>
    refine wpAny_allTrue_And_cons (wpAny_mono hh (fun b s' q => ?_) fun _ _ q => q)
    cases b with
    | true => rw [if_pos rfl]; exact wpAny_allTrue_And_nil q
    | false => exact q
  | Or =>
    refine wpAny_allTrue_Or_cons (wpAny_mono hh (fun b s' q => ?_) fun _ _ q => q)
    cases b with
    | true => exact q
    | false => exact wpAny_allTrue_Or_nil q
theorem simTs_and {e : Expr} {es : List Expr} {x y : X} (h : SimT P cx e x) (hr : SimTs P cx .And es y) : SimTs P cx .And (e :: es) (.and x y) := by
  intro c n env A σ loc hp s C I hb hbr
  rw [evalX] at hb hbr ⊢
  have hb1 : BoolR (evalX c x loc hp) := fun av h e => by
    rw [e] at hb
    cases av <;> first | exact ⟨_, rfl⟩ | exact absurd rfl hb
  refine wpAny_allTrue_And_cons (wpAny_mono (h c n env A σ loc hp s C I (bind_ok hb) hb1) (fun b s' ⟨hp', σ', e, a⟩ => ?_) fun _ _ q => q.bind)
  rw [e] at hb hbr ⊢
  cases b with
  | true =>
    rw [if_pos rfl]
    exact wpAny_mono (hr c n env A σ' loc hp' s' C (I.after a) hb hbr) (fun _ _ q => q.lift a) (fun _ _ q => q.lift I.low a)
  | false => exact ⟨hp', σ', rfl, a⟩
theorem simTs_or {e : Expr} {es : List Expr} {x y : X} (h : SimT P cx e x) (hr : SimTs P cx .Or es y) : SimTs P cx .Or (e :: es) (.or x y) := by
  intro c n env A σ loc hp s C I hb hbr
  rw [evalX] at hb hbr ⊢
  have hb1 : BoolR (evalX c x loc hp) := fun av h e => by
    rw [e] at hb
    cases av <;> first | exact ⟨_, rfl⟩ | exact absurd rfl hb
  refine wpAny_allTrue_Or_cons (wpAny_mono (h c n env A σ loc hp s C I (bind_ok hb) hb1) (fun b s' ⟨hp', σ', e, a⟩ => ?_) fun _ _ q => q.bind)
  rw [e] at hb hbr ⊢
  cases b with
  | false =>
    exact wpAny_mono (hr c n env A σ' loc hp' s' C (I.after a) hb hbr) (fun _ _ q => q.lift a) (fun _ _ q => q.lift I.low a)
  | true => exact ⟨hp', σ', rfl, a⟩

theorem simT_cmp {l r : Expr} {op : CmpOp} {cop : COp} {xl xr : X} {pos : Pos} (hop : compCOp op = some cop) (hm : behindInMarks op r = false) (hl : SimE P cx l xl) (hr : SimE P cx r xr) : SimT P cx (.Compare l [op] [r] pos) (.cmp cop xl xr) := by
  intro c n env A σ loc hp s C I hb hbr
  rw [evalX] at hb hbr ⊢
  refine wpAny_isTrue_Compare1 (seqV (G := fun R a s₁ => wpAny (model P.prog P.w) A (eval r env) (fun b s₂ => wpAny (model P.prog P.w) A (compareOp op a b) (fun c s₃ => wpAny (model P.prog P.w) A (truthy c) (QT P σ s R) (EV P σ s R) s₃) (EV P σ s R) s₂) (EV P σ s R) s₁) I.low (.refl I.st) (hl c n env A σ loc hp s C I (bind_ok hb)) hb ?_) hm
  intro av hp₁ σ₁ v s₁ a₁ _ rv hb
  refine seqV (G := fun R b s₂ => wpAny (model P.prog P.w) A (compareOp op v b) (fun c s₃ => wpAny (model P.prog P.w) A (truthy c) (QT P σ s R) (EV P σ s R) s₃) (EV P σ s R) s₂) I.low a₁ (hr c n env A σ₁ loc hp₁ s₁ C (I.after a₁) (bind_ok hb)) hb ?_
  intro bv hp₂ σ₂ u s₂ a₂ a₁₂ ru hb
  cases hc : cmpAV hp₂ cop av bv with
  | none => rw [hc] at hb; exact absurd rfl hb
  | some k =>
    refine wpAny_mono (cmp_prim C.ok a₂.st I.ar hop (RV.grows a₁₂.gr _ _ rv) ru hc) (fun w s₃ q => ?_) (fun _ _ q => q)
    obtain ⟨b, rfl, e, a₃⟩ := q
    cases e
    exact wpAny_truthy_bool ⟨_, _, rfl, a₂.trans a₃⟩

theorem simT_cmp2 {l m r : Expr} {o1 o2 : CmpOp} {c1 c2 : COp} {xl xm xr : X} {pos : Pos} (h1 : compCOp o1 = some c1) (h2 : compCOp o2 = some c2) (hm : behindInMarks o2 r = false) (hl : SimE P cx l xl) (hmm : SimE P cx m xm) (hr : SimE P cx r xr) :
    SimT P cx (.Compare l [o1, o2] [m, r] pos) (.cmp2 c1 c2 xl xm xr) := by
  intro c n env A σ loc hp s C I hb hbr
  rw [evalX] at hb hbr ⊢
  show wpAny _ _ (eval l env >>= fun a => testChain pos a [o1, o2] (markedEach [o1, o2] [m, r] (evalEach [m, r] env))) _ _ _
  have hmark : markedEach [o1, o2] [m, r] (evalEach [m, r] env) = [eval m env, eval r env] := by
    show [eval m env, markedBehindIn o2 r (eval r env)] = _
    rw [markedBehindIn_of_false hm]
  rw [hmark]
  refine wpAny_bind (seqV (G := fun R a s₁ => wpAny (model P.prog P.w) A (testChain pos a [o1, o2] [eval m env, eval r env]) (QT P σ s R) (EV P σ s R) s₁) I.low (.refl I.st) (hl c n env A σ loc hp s C I (bind_ok hb)) hb ?_)
  intro av hp₁ σ₁ v s₁ a₁ _ rv hb
  have I₁ := I.after a₁
  rw [testChain]
  · refine wpAny_bind (wpAny_holding (seqV (G := fun R b s₂ => wpAny (model P.prog P.w) A (standAt pos >>= fun _ => holding [v, b] (compareOp o1 v b) >>= fun cc => release [v, b] [cc] >>= fun _ => holding [cc, b] (truthy cc) >>= fun t => if t = true then testChain pos b [o2] [eval r env] else pure false) (QT P σ s R) (EV P σ s R) s₂) I.low a₁ (hmm c n env A σ₁ loc hp₁ s₁ C I₁ (bind_ok hb)) hb ?_))
    intro bv hp₂ σ₂ u s₂ a₂ a₁₂ ru hb
    have I₂ := I.after a₂
    cases hc : cmpAV hp₂ c1 av bv with
    | none => rw [hc] at hb; exact absurd rfl hb
    | some k =>
      rw [hc] at hb
      refine wpAny_bind (wpAny_standAt (wpAny_bind (wpAny_holding (wpAny_mono (cmp_prim C.ok a₂.st I.ar h1 (RV.grows a₁₂.gr _ _ rv) ru hc) (fun w s₃ q => ?_) (fun _ _ q => q)))))
      obtain ⟨b, rfl, e, a₃⟩ := q
      cases e
      refine wpAny_bind (wpAny_release (wpAny_bind (wpAny_holding (wpAny_truthy_bool ?_))))
      cases k with
      | false => exact wpAny_pure ⟨_, _, rfl, a₂.trans a₃⟩
      | true =>
        rw [if_pos rfl]
        have I₃ := I₂.after a₃
        dsimp only at hb ⊢
        rw [testChain]
        refine wpAny_bind (wpAny_holding (seqV (G := fun R z s₄ => wpAny (model P.prog P.w) A (standAt pos >>= fun _ => operate [u, z] (compareOp o2 u z) >>= fun cc => holding [cc] (truthy cc)) (QT P σ s R) (EV P σ s R) s₄) I.low (a₂.trans a₃) (hr c n env A σ₂ loc hp₂ s₃ C I₃ (bind_ok hb)) hb ?_))
        intro zv hp₄ σ₄ z s₄ a₄ a₃₄ rz hb
        cases hc2 : cmpAV hp₄ c2 bv zv with
        | none => rw [hc2] at hb; exact absurd rfl hb
        | some k2 =>
          refine wpAny_bind (wpAny_standAt (wpAny_bind (wpAny_operating (wpAny_mono (cmp_prim C.ok a₄.st I.ar h2 (RV.grows a₃₄.gr _ _ (RV.grows a₃.gr _ _ ru)) rz hc2) (fun w s₅ q => ?_) (fun _ _ q => q)))))
          obtain ⟨b, rfl, e, a₅⟩ := q
          cases e
          exact wpAny_holding (wpAny_truthy_bool ⟨_, _, rfl, a₄.trans a₅⟩)
  · simp
end
end Mine

namespace Mine
open PySem PySem.Spec PyProof.Rows PySem.SeqAt

noncomputable def IterAt (P : Par) (h : Heap) (σ : Sg) (it : Addr) (src : AV) (i : Nat) (e : Option Nat) : Prop := match src with
  | .rng a b s => IsRangeIter h it (a + s * i) ((rngLen a b s : Int) - i) s
  | .scr xs => ∃ a items, P.B.h₀.IsList a items ∧ RIs xs items.toList ∧ h.IsListIter it a i
  | .tup xs => ∃ a ws n, ObjAt h a (.type "tuple") (.seq ws n) ∧ RVs P.B h σ xs ws.toList ∧ h.IsTupleIter it a i
  | .str x => ∃ t, (x.toArray.all (· < 128) = true ∧ h.IsStrIter it "str_ascii_iterator" ⟨x.toArray⟩ t i) ∨ (x.toArray.all (· < 128) = false ∧ h.IsStrIter it "str_iterator" ⟨x.toArray⟩ t i)
  | .loc j => ∃ a off, σ[j]? = some (a, off) ∧ e = none ∧ h.IsListIter it a i
  | _ => False

noncomputable def iterClass (T : String) : Prop := T ≠ "range" ∧ T ≠ "frame"
noncomputable def IterObj (h : Heap) (it : Addr) : Prop := ∃ o T fs, h.get? it = some o ∧ o.cls = .type T ∧ iterClass T ∧ o.data = .fields fs
theorem IterObj.notFixed {h : Heap} {it : Addr} (x : IterObj h it) : ∃ o, h.get? it = some o ∧ ¬ fixed o := by
  obtain ⟨o, T, fs, ho, hc, ht, hd⟩ := x
  refine ⟨o, ho, ?_⟩
  unfold fixed
  rw [hd]
  dsimp only
  rw [hc]
  rintro (e | ⟨a, e⟩)
  · cases e; exact ht.1 rfl
  · cases e

section
variable {P : Par} {cx : Cx} {A : Around} {E : Value → Shared → Prop} {σ : Sg} {hp : AHeap} {s : Shared}

theorem IterAt.obj {h : Heap} {it : Addr} {src : AV} {i : Nat} {e : Option Nat} (x : IterAt P h σ it src i e) : IterObj h it := by
  cases src <;> simp only [IterAt] at x
  case rng => exact ⟨_, _, _, x, rfl, ⟨by decide, by decide⟩, rfl⟩
  case scr => obtain ⟨_, _, _, _, o, h1, h2, h3⟩ := x; exact ⟨o, _, _, h1, h2, ⟨by decide, by decide⟩, h3⟩
  case tup => obtain ⟨_, _, _, _, _, o, h1, h2, h3⟩ := x; exact ⟨o, _, _, h1, h2, ⟨by decide, by decide⟩, h3⟩
  case str =>
    obtain ⟨t, ⟨_, o, h1, h2, h3⟩ | ⟨_, o, h1, h2, h3⟩⟩ := x
    · exact ⟨o, _, _, h1, h2, ⟨by decide, by decide⟩, h3⟩
    · exact ⟨o, _, _, h1, h2, ⟨by decide, by decide⟩, h3⟩
  case loc => obtain ⟨_, _, _, _, o, h1, h2, h3⟩ := x; exact ⟨o, _, _, h1, h2, ⟨by decide, by decide⟩, h3⟩

/-- the iterator stands where it stood -/
theorem IterAt.keep {h h' : Heap} {σ' : Sg} {X : List Addr} {it : Addr} {src : AV} {i : Nat} {e : Option Nat} (g : Grows σ σ' X h h') (hq : h'.get? it = h.get? it) (x : IterAt P h σ it src i e) : IterAt P h' σ' it src i e := by
  cases src <;> simp only [IterAt] at x ⊢
  case rng => exact hq.trans x
  case scr => obtain ⟨a, items, h1, h2, o, h3, h4⟩ := x; exact ⟨a, items, h1, h2, o, hq.trans h3, h4⟩
  case tup => obtain ⟨a, ws, n, h1, h2, o, h3, h4⟩ := x; exact ⟨a, ws, n, objAt_fix g h1 (fun _ hc hd => fixed_tuple hc hd), RVs.grows g _ _ h2, o, hq.trans h3, h4⟩
  case str =>
    obtain ⟨t, ⟨h0, o, h1, h2⟩ | ⟨h0, o, h1, h2⟩⟩ := x
    · exact ⟨t, .inl ⟨h0, o, hq.trans h1, h2⟩⟩
    · exact ⟨t, .inr ⟨h0, o, hq.trans h1, h2⟩⟩
  case loc => obtain ⟨a, off, h1, h2, o, h3, h4⟩ := x; exact ⟨a, off, g.look h1, h2, o, hq.trans h3, h4⟩

/-- one new object that is not followed turns, and other new things come -/
theorem After.extBut {σ' : Sg} {X : List Addr} {s₀ : Shared} {h' : Heap} {t : Nat} {it : Addr} (a : After P σ σ' X hp s₀ s) (hs : Heap.ExtBut it s.heap h') (h0 : s₀.heap.get? it = none) (hσ : it ∉ σ'.map (·.1)) (hb : P.B.h₀.get? it = none) (ho : IterObj s.heap it) :
    After P σ σ' X hp s₀ { s with heap := h', toks := t } ∧ (∀ x v, RV P.B s.heap σ' x v → RV P.B h' σ' x v) ∧ (∀ b o, b ≠ it → s.heap.get? b = some o → h'.get? b = some o) := by
  obtain ⟨o, e, hf⟩ := ho.notFixed
  have hne : ∀ b ob, s.heap.get? b = some ob → fixed ob → b ≠ it := fun b ob e' f q => by subst q; rw [e] at e'; cases e'; exact hf f
  -- as if the iterator might turn
  have hx : ∀ x v, RV P.B s.heap σ' x v → RV P.B h' σ' x v := by
    have hfix : ∀ b ob, s.heap.get? b = some ob → fixed ob → h'.get? b = some ob := fun b ob e' f => hs b ob (hne b ob e' f) e'
    have : Grows σ' σ' (it :: []) s.heap (if (h'.get? it).isSome then h' else h') → True := fun _ => trivial
    intro x v r
    exact RV.fixes (fun b ob e' f => hfix b ob e' f) x v r
  refine ⟨⟨by rw [a.ctl], ?_, ?_⟩, hx, fun b o hb' e' => hs b o hb' e'⟩
  · refine ⟨a.st.len, a.st.nd, fun n b off ob e1 e2 => ?_, fun b ob e' => ?_, a.st.new⟩
    · have hbi : b ≠ it := fun q => by subst q; exact hσ (List.mem_map_of_mem (f := (·.1)) (List.mem_of_getElem? e1))
      obtain ⟨o', e3, _⟩ := a.st.there (List.mem_of_getElem? e1)
      exact RO.fixes (fun b ob e' f => hs b ob (hne b ob e' f) e') ((hs b o' hbi e3).trans e3.symm) (a.st.obj n b off ob e1 e2)
    · have hbi : b ≠ it := fun q => by subst q; rw [hb] at e'; cases e'
      exact hs b ob hbi (a.st.base b ob e')
  · refine ⟨a.gr.ext, fun b ob e' f => ?_, fun b ob e' h1 h2 => ?_, fun b ob e' => ?_⟩
    · have hbi : b ≠ it := fun q => by subst q; rw [h0] at e'; cases e'
      exact hs b ob hbi (a.gr.fix b ob e' f)
    · have hbi : b ≠ it := fun q => by subst q; rw [h0] at e'; cases e'
      have nn := a.gr.oth b ob e' h1 h2
      obtain ⟨o', e1, _⟩ := nn.get
      rw [e1] at nn
      show Near ob (h'.get? b)
      rw [hs b o' hbi e1]; exact nn
    · have hbi : b ≠ it := fun q => by subst q; rw [h0] at e'; cases e'
      obtain ⟨o', e1⟩ := a.gr.ex b ob e'
      exact ⟨o', hs b o' hbi e1⟩

theorem rng_len {a b c : Int} (hc : c = 1 ∨ c = -1) : Builtin.Range.rangeSize a b c = (rngLen a b c : Int) := by
  unfold Builtin.Range.rangeSize rngLen
  rcases hc with rfl | rfl
  · simp
    split <;> omega
  · simp
    split <;> omega

theorem rng_small {a b c : Int} (hc : c = 1 ∨ c = -1) (ha : a.natAbs ≤ sizeLim) (hb : b.natAbs ≤ sizeLim) : Builtin.Range.small a b c = true := by
  have hl : sizeLim = 1048576 := rfl
  have hr := rng_len (a := a) (b := b) hc
  have hlen : rngLen a b c ≤ 3000000 := by unfold rngLen; rcases hc with rfl | rfl <;> simp <;> omega
  unfold Builtin.Range.small
  rw [hr]
  have f : ∀ x : Int, -(2 ^ 40) ≤ x → x ≤ 2 ^ 40 → Builtin.Range.rangeFitsLong x = true := fun x h1 h2 => by
    unfold Builtin.Range.rangeFitsLong
    rw [Bool.and_eq_true]
    exact ⟨decide_eq_true (by omega), decide_eq_true (by omega)⟩
  rw [f a (by omega) (by omega), f b (by omega) (by omega), f c (by rcases hc with rfl | rfl <;> omega) (by rcases hc with rfl | rfl <;> omega), f _ (by omega) (by omega)]
  simp only [Bool.true_and, Bool.or_eq_true]
  right
  rcases hc with rfl | rfl
  · simp [f b (by omega) (by omega)]
  · simp [f b (by omega) (by omega)]

theorem iter_prim (S : St P.w P.B σ hp s.heap) {src : AV} {v : Value} {xs : List AV} (ra : RV P.B s.heap σ src v) (hi : itemsAV src hp = some xs) {Q : Value → Shared → Prop}
    (h : ∀ it s', s.heap.get? it = none → it ∉ σ.map (·.1) → P.B.h₀.get? it = none → After P σ σ [] hp s s' → IterAt P s'.heap σ it src 0 (epochOf src hp) → Q (.ref it) s') : wpAny (model P.prog P.w) A (pyIter v) Q E s := by
  have hnew : s.heap.get? s.heap.objs.size = none := by
    cases hq : s.heap.get? s.heap.objs.size with
    | none => rfl
    | some o' => exact absurd (Heap.lt_size hq) (Nat.lt_irrefl _)
  have push : ∀ (o : Obj), After P σ σ [] hp s { s with heap := s.heap.push o } := fun o => ⟨rfl, S.push o, .push o⟩
  have fin : ∀ (o : Obj), IterAt P (s.heap.push o) σ s.heap.objs.size src 0 (epochOf src hp) → Q (.ref s.heap.objs.size) { s with heap := s.heap.push o } := fun o hit =>
    h s.heap.objs.size _ hnew S.fresh S.base.fresh (push o) hit
  cases src <;> simp only [itemsAV] at hi <;> first | (cases hi; done) | skip
  all_goals simp only [RV] at ra
  case str x =>
    obtain ⟨t, rfl⟩ := ra
    cases ha : x.toArray.all (· < 128) with
    | true => exact wpAny_pyIter_ascii ha (fin _ ⟨t, .inl ⟨ha, _, Heap.get?_push_size _ rfl, rfl, rfl⟩⟩)
    | false => exact wpAny_pyIter_wide ha (fin _ ⟨t, .inr ⟨ha, _, Heap.get?_push_size _ rfl, rfl, rfl⟩⟩)
  case tup ys =>
    obtain ⟨a, ws, n, rfl, o, rx⟩ := ra
    have g := (push { cls := .type "tuple_iterator", data := .fields #[.ref a, .int 0 0] }).gr
    exact wpAny_pyIter_tuple (isTuple_of o) (fin _ ⟨a, ws, n, Heap.get?_push_of_some _ o, RVs.grows g _ _ rx, _, Heap.get?_push_size _ rfl, rfl, rfl⟩)
  case loc j =>
    obtain ⟨a, off, rfl, e1⟩ := ra
    cases hj : hp[j]? with
    | none => rw [hj] at hi; cases hi
    | some oj =>
      rw [hj] at hi
      cases oj <;> first | (cases hi; done) | skip
      obtain ⟨ws, k, hl, _⟩ := S.isL hj e1
      refine wpAny_pyIter_list (isList_of hl) (fin _ ⟨a, off, e1, ?_, _, Heap.get?_push_size _ rfl, rfl, rfl⟩)
      simp [epochOf, hj]
  case rng a b c =>
    split at hi
    · rename_i hc
      obtain ⟨r, t, u, x, rfl, hr⟩ := ra
      refine wpAny_pyIter_range hr (rng_small hc.1 hc.2.1 hc.2.2) (fin _ ?_)
      rw [rng_len hc.1]
      have : IsRangeIter (s.heap.push { cls := .type "range_iterator", data := .fields #[rawInt a, rawInt (rngLen a b c), rawInt c] }) s.heap.objs.size a (rngLen a b c) c := Heap.get?_push_size _ rfl
      simpa [IterAt] using this
    · cases hi
  case scr ys =>
    obtain ⟨a, items, rfl, hl, rx⟩ := ra
    exact wpAny_pyIter_list (scr_list S hl) (fin _ ⟨a, items, hl, rx, _, Heap.get?_push_size _ rfl, rfl, rfl⟩)

theorem next_prim (S : St P.w P.B σ hp s.heap) {src : AV} {it : Addr} {i : Nat} {e : Option Nat} {r : Option AV} (hh : A.handled = none) (hit : IterAt P s.heap σ it src i e) (hn : nextAt src e i hp = some r) {Q : Option Value → Shared → Prop}
    (hend : r = none → ∀ h', Heap.ExtBut it s.heap h' → Q none { s with heap := h' })
    (hitem : ∀ av v h' t, r = some av → RV P.B s.heap σ av v → Heap.ExtBut it s.heap h' → (∀ (g : ∀ b o, s.heap.get? b = some o → fixed o → h'.get? b = some o), IterAt P h' σ it src (i + 1) e) → Q (some v) { s with heap := h', toks := t }) :
    wpAny (model P.prog P.w) A (pyNext (.ref it)) Q E s := by
  unfold nextAt at hn
  cases hx : itemsAV src hp with
  | none => rw [hx] at hn; cases hn
  | some xs =>
    rw [hx] at hn
    dsimp only at hn
    split at hn
    · rename_i hep
      simp only [Option.some.injEq] at hn
      cases src <;> simp only [itemsAV] at hx <;> first | (cases hx; done) | skip
      all_goals simp only [IterAt] at hit
      case str x =>
        cases hx
        rw [List.getElem?_map] at hn
        obtain ⟨t, ⟨ha, hI⟩ | ⟨ha, hI⟩⟩ := hit
        · cases hc : x[i]? with
          | none =>
            rw [hc] at hn
            exact wpAny_pyNext_ascii_end hh hI (by simpa using hc) (fun h' hs => hend hn.symm h' hs)
          | some c =>
            rw [hc] at hn
            exact wpAny_pyNext_ascii_item hI (c := c) (by simpa using hc) (fun h' hI' hs => hitem (.str [c]) _ h' _ hn.symm ⟨_, rfl⟩ hs.extBut fun _ => ⟨t, .inl ⟨ha, hI'⟩⟩)
        · cases hc : x[i]? with
          | none =>
            rw [hc] at hn
            exact wpAny_pyNext_wide_end hh hI (by simpa using hc) (fun h' hs => hend hn.symm h' hs)
          | some c =>
            rw [hc] at hn
            exact wpAny_pyNext_wide_item hI (c := c) (by simpa using hc) (fun h' hI' hs => hitem (.str [c]) _ h' _ hn.symm ⟨_, rfl⟩ hs.extBut fun _ => ⟨t, .inr ⟨ha, hI'⟩⟩)
      case tup ys =>
        cases hx
        obtain ⟨a, ws, n, o, rx, hI⟩ := hit
        cases hc : xs[i]? with
        | none =>
          rw [hc] at hn
          have hl := rx.length
          simp only [Array.length_toList] at hl
          have : ws[i]? = none := by
            have := List.getElem?_eq_none_iff.mp hc
            exact Array.getElem?_eq_none_iff.mpr (by omega)
          exact wpAny_pyNext_tuple_end hh hI (isTuple_of o) this (fun h' hs => hend hn.symm h' hs)
        | some av =>
          rw [hc] at hn
          obtain ⟨v, e1, rv⟩ := rx.get hc
          rw [Array.getElem?_toList] at e1
          refine wpAny_pyNext_tuple_item hI (isTuple_of o) e1 (fun h' hI' hs => hitem av v h' s.toks hn.symm rv hs.extBut fun g => ⟨a, ws, n, g a _ o (fixed_tuple rfl rfl), ?_, hI'⟩)
          exact RVs.fixes g _ _ rx
      case loc j =>
        obtain ⟨a, off, e1, he, hI⟩ := hit
        cases hj : hp[j]? with
        | none => rw [hj] at hx; cases hx
        | some oj =>
          rw [hj] at hx
          cases oj <;> first | (cases hx; done) | skip
          cases hx
          obtain ⟨ws, k, hl, rx⟩ := S.isL hj e1
          have hlen := rx.length
          simp only [Array.length_toList] at hlen
          cases hc : xs[i]? with
          | none =>
            rw [hc] at hn
            have : ws[i]? = none := by
              have := List.getElem?_eq_none_iff.mp hc
              exact Array.getElem?_eq_none_iff.mpr (by omega)
            exact wpAny_pyNext_list_end hh hI (isList_of hl) this (fun h' hs => hend hn.symm h' hs)
          | some av =>
            rw [hc] at hn
            obtain ⟨v, e2, rv⟩ := rx.get hc
            rw [Array.getElem?_toList] at e2
            exact wpAny_pyNext_list_item hI (isList_of hl) e2 (fun h' hI' hs => hitem av v h' s.toks hn.symm rv hs.extBut fun g => ⟨a, off, e1, he, hI'⟩)
      case rng a b c =>
        split at hx
        · rename_i hc
          cases hx
          have hlen : (rngItems a b c).length = rngLen a b c := by simp [rngItems]
          cases hci : (rngItems a b c)[i]? with
          | none =>
            rw [hci] at hn
            have := List.getElem?_eq_none_iff.mp hci
            exact wpAny_pyNext_range_end hh hit (by omega) (fun h' hs => hend hn.symm h' hs)
          | some av =>
            rw [hci] at hn
            have hlt := (List.getElem?_eq_some_iff.mp hci).1
            have hav : av = .int (a + c * i) := by
              unfold rngItems at hci
              rw [List.getElem?_map, List.getElem?_range (by omega)] at hci
              simpa using hci.symm
            subst hav
            refine wpAny_pyNext_range_item hit (by omega) (fun h' hI' hs => hitem _ _ h' _ hn.symm ⟨_, rfl⟩ hs.extBut fun g => ?_)
            show IsRangeIter h' it (a + c * ((i + 1 : Nat) : Int)) ((rngLen a b c : Int) - ((i + 1 : Nat) : Int)) c
            have h1 : a + c * ((i + 1 : Nat) : Int) = a + c * i + c := by rw [Int.natCast_add, Int.mul_add]; simp; omega
            have h2 : (rngLen a b c : Int) - ((i + 1 : Nat) : Int) = (rngLen a b c : Int) - i - 1 := by omega
            rw [h1, h2]
            exact hI'
        · cases hx
      case scr ys =>
        cases hx
        obtain ⟨a, items, hl, rx, hI⟩ := hit
        rw [List.getElem?_map] at hn
        have hlen := rx.length
        simp only [Array.length_toList] at hlen
        cases hc : ys[i]? with
        | none =>
          rw [hc] at hn
          have : items[i]? = none := by
            have := List.getElem?_eq_none_iff.mp hc
            exact Array.getElem?_eq_none_iff.mpr (by omega)
          exact wpAny_pyNext_list_end hh hI (scr_list S hl) this (fun h' hs => hend hn.symm h' hs)
        | some k =>
          rw [hc] at hn
          obtain ⟨t, e2⟩ := rx.get hc
          rw [Array.getElem?_toList] at e2
          exact wpAny_pyNext_list_item hI (scr_list S hl) e2 (fun h' hI' hs => hitem (.int k) _ h' s.toks hn.symm ⟨_, rfl⟩ hs.extBut fun g => ⟨a, items, hl, rx, hI'⟩)
    · cases hn
end
end Mine

namespace Mine
open PySem PySem.Spec PyProof.Rows PySem.SeqAt

noncomputable def SimSt (P : Par) (cx : Cx) (st : Stmt) (x : S) : Prop :=
  ∀ c n env A σ l hp s, Sims P cx c n → Inv P cx c n env A σ l hp s → execS c x l hp ≠ .bad →
    wpAny (model P.prog P.w) A (exec st env) (QS P env cx σ s (execS c x l hp)) (ES P env cx σ s (execS c x l hp)) s
noncomputable def SimSs (P : Par) (cx : Cx) (st : List Stmt) (x : Ss) : Prop :=
  ∀ c n env A σ l hp s, Sims P cx c n → Inv P cx c n env A σ l hp s → execSs c x l hp ≠ .bad →
    wpAny (model P.prog P.w) A (execs st env) (QS P env cx σ s (execSs c x l hp)) (ES P env cx σ s (execSs c x l hp)) s

section
variable {P : Par} {cx : Cx} {env : Env} {A : Around} {σ σ' : Sg} {l l' : Locs} {hp hp' : AHeap} {s s' : Shared} {c : Ctx} {n : Nat}

theorem Inv.afterX (I : Inv P cx c n env A σ l hp s) (a : After P σ σ' (FX env) hp' s s') (f : Frm P s'.heap σ' env cx l') : Inv P cx c n env A σ' l' hp' s' :=
  ⟨a.st, f, I.ar, trivial⟩
theorem QS.lift {r : SR} {f : PySem.Flow} {s'' : Shared} (a : After P σ σ' (FX env) hp' s s') (q : QS P env cx σ' s' r f s'') : QS P env cx σ s r f s'' := by
  obtain ⟨fl, l', h2, σ₂, e, b, rf, fr⟩ := q
  exact ⟨fl, l', h2, σ₂, e, a.trans b, rf, fr⟩
theorem ES.lift {r : SR} {v : Value} {s'' : Shared} (a : After P σ σ' (FX env) hp' s s') (q : ES P env cx σ' s' r v s'') : ES P env cx σ s r v s'' := by
  obtain ⟨c, l', h2, σ₂, e, b, f, fr⟩ := q
  exact ⟨c, l', h2, σ₂, e, a.trans b, f.le a.gr.ex, fr⟩
theorem After.toX {X : List Addr} (a : After P σ σ' [] hp' s s') : After P σ σ' X hp' s s' := a.more fun _ h => nomatch h

theorem st_ok {α : Type} {r : Res α} {f : α → AHeap → SR} (h : r.st l f ≠ .bad) : r ≠ .bad := fun e => h (by rw [e]; rfl)

theorem EV.toS {α : Type} (I : Inv P cx c n env A σ l hp s) {r : Res α} {f : α → AHeap → SR} {e : Value} (q : EV P σ s r e s') : ES P env cx σ s (r.st l f) e s' := by
  obtain ⟨c', h2, σ₂, e', b, fl⟩ := q
  rw [e']
  exact ⟨c', l, h2, σ₂, rfl, b.toX, fl, I.fr.after b⟩

theorem seqS {A : Around} {m : Sem Value} {r : Res AV} {f : AV → AHeap → SR} {G : SR → Value → Shared → Prop} (I : Inv P cx c n env A σ l hp s)
    (h : wpAny (model P.prog P.w) A m (QV P σ s r) (EV P σ s r) s) (hb : r.st l f ≠ .bad)
    (hk : ∀ av hp' σ' v s', After P σ σ' [] hp' s s' → RV P.B s'.heap σ' av v → f av hp' ≠ .bad → G (f av hp') v s') :
    wpAny (model P.prog P.w) A m (G (r.st l f)) (ES P env cx σ s (r.st l f)) s :=
  wpAny_mono h (fun v s' ⟨av, hp', σ', e, a, rv⟩ => by subst e; exact hk av hp' σ' v s' a rv hb) (fun _ _ q => q.toS I)

theorem not_inter (I : Inv P cx c n env A σ l hp s) : interactive env = false := by
  unfold interactive; rw [I.fr.kind]; rfl

theorem swaps_no {e : Expr} {t : Option Expr} {k : Nat} (h : isComp e = false) : swapsWith e t k env = pure false := by
  unfold swapsWith
  cases e <;> first | rfl | (cases h; done)

theorem simSt_expr {e : Expr} {x : X} {pos : Pos} (hc : isComp e = false) (h : SimE P cx e x) : SimSt P cx (.Expr e pos) (.expr x) := by
  intro c n env A σ l hp s C I hb
  rw [execS] at hb ⊢
  refine wpAny_Expr_any (seqS (G := fun R v s' => QS P env cx σ s R .next s') I (h c n env A σ l hp s C I (st_ok hb)) hb ?_) (not_inter I) (swaps_no hc)
  intro av hp' σ' v s' a rv hb
  exact ⟨_, _, _, _, rfl, a.toX, rfl, I.fr.after a⟩

theorem simSt_ret {e : Expr} {x : X} {pos : Pos} (h : SimE P cx e x) : SimSt P cx (.Return (some e) pos) (.ret x) := by
  intro c n env A σ l hp s C I hb
  rw [execS] at hb ⊢
  refine wpAny_Return_some (seqS (G := fun R v s' => QS P env cx σ s R (.ret v) s') I (h c n env A σ l hp s C I (st_ok hb)) hb ?_)
  intro av hp' σ' v s' a rv hb
  exact ⟨_, _, _, _, rfl, a.toX, ⟨v, rfl, rv⟩, I.fr.after a⟩
theorem simSt_ret0 {pos : Pos} : SimSt P cx (.Return none pos) (.ret .none) := by
  intro c n env A σ l hp s C I hb
  rw [execS, evalX]
  exact wpAny_Return_none ⟨_, _, _, _, rfl, .refl I.st, ⟨_, rfl, rfl⟩, I.fr⟩
theorem simSt_pass {pos : Pos} : SimSt P cx (.Pass pos) .pass := by
  intro c n env A σ l hp s C I hb
  rw [execS]
  exact wpAny_Pass ⟨_, _, _, _, rfl, .refl I.st, rfl, I.fr⟩
theorem simSt_cont {pos : Pos} : SimSt P cx (.Continue pos) .cont := by
  intro c n env A σ l hp s C I hb
  rw [execS]
  exact wpAny_Continue ⟨_, _, _, _, rfl, .refl I.st, rfl, I.fr⟩

theorem simSt_asg {y : Str} {i : Nat} {e : Expr} {x : X} {p pos : Pos} (hw : cx.slotW y = some i) (hc : isComp e = false) (h : SimE P cx e x) : SimSt P cx (.Assign [.Name y p] e pos) (.asg (.one i) x) := by
  intro c n env A σ l hp s C I hb
  rw [execS] at hb ⊢
  rw [if_neg (by simp [Tgt.isMany])] at hb ⊢
  refine wpAny_Assign_Name (seqS (G := fun R v s' => wpAny (model P.prog P.w) A (storeName env y v) (fun _ => QS P env cx σ s R .next) (ES P env cx σ s R) s') I (h c n env A σ l hp s C I (st_ok hb)) hb ?_) (swaps_no hc)
  intro av hp' σ' v s' a rv hb
  refine store_prim a.st (I.fr.after a) hw rv fun s'' a2 fr _ => ?_
  exact ⟨_, _, _, _, rfl, a.toX.trans a2, rfl, fr⟩

theorem simSt_if {t : Expr} {x : X} {b o : List Stmt} {xb xo : Ss} {pos : Pos} (ht : SimT P cx t x) (hb : SimSs P cx b xb) (ho : SimSs P cx o xo) : SimSt P cx (.If t b o pos) (.iff x xb xo) := by
  intro c n env A σ l hp s C I hbad
  rw [execS] at hbad ⊢
  have hbr : BoolR (evalX c x l hp) := fun av h e => by
    rw [e] at hbad
    cases av <;> first | exact ⟨_, rfl⟩ | exact absurd rfl hbad
  refine wpAny_If (wpAny_mono (ht c n env A σ l hp s C I (st_ok hbad) hbr) (fun k s' ⟨hp', σ', e, a⟩ => ?_) fun _ _ q => q.toS I)
  rw [e] at hbad ⊢
  have I' := I.after a
  cases k with
  | true =>
    rw [if_pos rfl]
    exact wpAny_mono (hb c n env A σ' l hp' s' C I' hbad) (fun _ _ q => q.lift a.toX) (fun _ _ q => q.lift a.toX)
  | false =>
    exact wpAny_mono (ho c n env A σ' l hp' s' C I' hbad) (fun _ _ q => q.lift a.toX) (fun _ _ q => q.lift a.toX)

theorem simSs_nil : SimSs P cx [] .nil := by
  intro c n env A σ l hp s C I hb
  exact wpAny_execs_nil ⟨_, _, _, _, rfl, .refl I.st, rfl, I.fr⟩
theorem simSs_cons {st : Stmt} {sts : List Stmt} {x : S} {xs : Ss} (h : SimSt P cx st x) (hr : SimSs P cx sts xs) : SimSs P cx (st :: sts) (.cons x xs) := by
  intro c n env A σ l hp s C I hb
  rw [execSs] at hb ⊢
  have h1 : execS c x l hp ≠ .bad := fun e => by rw [e] at hb; exact hb rfl
  refine wpAny_execs_cons (wpAny_mono (h c n env A σ l hp s C I h1) (fun f s' q => ?_) (fun e s' q => ?_))
  · obtain ⟨fl, l', hp', σ', e, a, rf, fr⟩ := q
    rw [e] at hb ⊢
    cases fl with
    | next =>
      simp only [RF] at rf
      subst rf
      exact wpAny_mono (hr c n env A σ' l' hp' s' C (I.afterX a fr) hb) (fun _ _ q => q.lift a) (fun _ _ q => q.lift a)
    | cont =>
      simp only [RF] at rf
      subst rf
      exact ⟨_, _, _, _, rfl, a, rfl, fr⟩
    | ret av =>
      obtain ⟨v, rfl, rv⟩ := rf
      exact ⟨_, _, _, _, rfl, a, ⟨v, rfl, rv⟩, fr⟩
  · obtain ⟨c', l', hp', σ', e', a, fl, fr⟩ := q
    rw [e']
    exact ⟨_, _, _, _, rfl, a, fl, fr⟩

theorem folded_ok {e : Expr} {x : X} (h : compE cx e = some x) (v : Value) : foldedSetIterable e env v = pure v := by
  unfold foldedSetIterable
  split
  · simp [compE] at h
  · rfl

theorem frm_iter (f : Frm P s.heap σ env cx l) {it : Addr} (h : IterObj s.heap it) : it ∉ FX env := by
  obtain ⟨o, T, fs, ho, hc, _, hd⟩ := h
  intro hm
  simp only [FX, List.mem_cons, List.mem_map] at hm
  rcases hm with rfl | ⟨p, hp, rfl⟩
  · obtain ⟨o', es, ep, ho', hd'⟩ := f.nsObj
    rw [ho] at ho'; cases ho'; rw [hd] at hd'; cases hd'
  · obtain ⟨o', v, ho', hd'⟩ := f.cells p hp
    rw [ho] at ho'; cases ho'; rw [hd] at hd'; cases hd'

theorem Frm.extBut {h' : Heap} {it : Addr} (f : Frm P s.heap σ env cx l) (h : IterObj s.heap it) (hx : ∀ x v, RV P.B s.heap σ x v → RV P.B h' σ x v) (hk : ∀ b o, b ≠ it → s.heap.get? b = some o → h'.get? b = some o) : Frm P h' σ env cx l := by
  have hn := frm_iter f h
  simp only [FX, List.mem_cons, List.mem_map, not_or, not_exists, not_and] at hn
  obtain ⟨m, ⟨o, es, ep, ho, hd, hr⟩, hm⟩ := f.names
  refine ⟨f.kind, f.len, f.inj, f.lt, f.glob, f.wr, ⟨m, ⟨o, es, ep, hk _ o (fun e => hn.1 e.symm) ho, hd, hr⟩, fun x i hxs => ?_⟩, f.out, f.new, f.globals, f.builtins, fun p hp => ?_, f.apart⟩
  · rcases hm x i hxs with ⟨hk', hv⟩ | ⟨hk', c, ov, hc, ⟨oc, hoc, hdc⟩, hv⟩
    · exact .inl ⟨hk', fun av e => let ⟨u, h1, h2⟩ := hv av e; ⟨u, h1, hx _ _ h2⟩⟩
    · exact .inr ⟨hk', c, ov, hc, ⟨oc, hk _ oc (fun e => hn.2 _ (mem_of_lookup' hc) e) hoc, hdc⟩, fun av e => let ⟨u, h1, h2⟩ := hv av e; ⟨u, h1, hx _ _ h2⟩⟩
  · obtain ⟨o', v, ho', hd'⟩ := f.cells p hp
    exact ⟨o', v, hk _ o' (fun e => hn.2 p hp e) ho', hd'⟩

theorem simSt_for {y : Str} {i : Nat} {e : Expr} {x : X} {p pos : Pos} {b : List Stmt} {xb : Ss} (hw : cx.slotW y = some i) (hce : compE cx e = some x) (h : SimE P cx e x) (hbody : SimSs P cx b xb) : SimSt P cx (.For (.Name y p) e b [] pos) (.forr (.one i) x xb) := by
  intro c n env A σ l hp s C I hb
  rw [execS] at hb ⊢
  have hq : c.q = false := by
    cases hcq : c.q with
    | false => rfl
    | true => rw [hcq] at hb; exact absurd rfl hb
  rw [hq] at hb ⊢
  simp only [Tgt.isMany, Bool.or_self, Bool.false_eq_true, if_false] at hb ⊢
  have hh := I.ar.handled hq
  refine wpAny_For (seqS (G := fun R v s₁ => wpAny (model P.prog P.w) A (pyIter v) (fun it s₂ => codeAny (model P.prog P.w) A (.forLoop (.Name y p) it b [] env) (fun r s' => match r with | .ok f => QS P env cx σ s R f s' | .error e => cameBackBy (model P.prog P.w) A env (ES P env cx σ s R) e s') s₂) (ES P env cx σ s R) s₁) I (h c n env A σ l hp s C I (st_ok hb)) hb ?_) (fun v => folded_ok hce v)
  intro src hp₁ σ₁ v s₁ a₁ rv hb
  -- the items must be there for the loop to be good
  have hitems : ∃ xs, itemsAV src hp₁ = some xs := by
    cases hi : itemsAV src hp₁ with
    | some xs => exact ⟨xs, rfl⟩
    | none =>
      exfalso; apply hb
      cases hf : c.fuel with
      | zero => rfl
      | succ f => simp only [forLoop, nextAt, hi]
  obtain ⟨xs, hi⟩ := hitems
  refine iter_prim a₁.st rv hi fun it s₂ hn0 hnσ hnb a₂ hit => ?_
  generalize hR : forLoop (.one i) (fun l h => execSs c xb l h) src (epochOf src hp₁) c.fuel 0 l hp₁ = R at hb ⊢
  have hn₀ : s.heap.get? it = none := by
    cases hq : s.heap.get? it with
    | none => rfl
    | some o => obtain ⟨o', e'⟩ := a₁.gr.ex _ o hq; rw [hn0] at e'; cases e'
  refine codeAny_forLoop (fun f s' => ∃ k l' hp' σ', forLoop (.one i) (fun l h => execSs c xb l h) src (epochOf src hp₁) f k l' hp' = R ∧ After P σ σ' (FX env) hp' s s' ∧ Frm P s'.heap σ' env cx l' ∧ IterAt P s'.heap σ' it src k (epochOf src hp₁) ∧ it ∉ σ'.map (·.1)) ?_ c.fuel
    ⟨0, l, hp₁, σ₁, hR, (a₁.trans a₂).toX, (I.fr.after (a₁.trans a₂)), hit, by
      exact hnσ⟩
  rintro f s' ⟨k, l', hp', σ', hR', a, fr, hit, hnσ'⟩
  have ho := hit.obj
  cases f with
  | zero => exact absurd hR'.symm hb
  | succ f =>
    rw [forLoop] at hR'
    cases hnx : nextAt src (epochOf src hp₁) k hp' with
    | none => rw [hnx] at hR'; exact absurd hR'.symm hb
    | some r =>
      rw [hnx] at hR'
      refine next_prim a.st hh hit hnx (fun er h' hs => ?_) (fun av u h' t er ru hs hit' => ?_)
      · subst er
        dsimp only at hR'
        obtain ⟨a', hx', hk'⟩ := a.extBut (t := s'.toks) hs hn₀ hnσ' hnb ho
        refine wpAny_execs_nil ?_
        rw [← hR']
        exact ⟨_, _, _, _, rfl, a', rfl, fr.extBut ho hx' hk'⟩
      · subst er
        dsimp only at hR'
        simp only [setTgt] at hR'
        obtain ⟨a', hx', hk'⟩ := a.extBut (t := t) hs hn₀ hnσ' hnb ho
        have hit2 := hit' fun b o e f => hk' b o (fun q => by
          subst q
          obtain ⟨o2, e2, hf2⟩ := ho.notFixed
          rw [e2] at e; cases e; exact hf2 f) e
        have fr' := fr.extBut ho hx' hk'
        refine wpAny_assign_Name (store_prim (s := { s' with heap := h', toks := t }) a'.st fr' hw (hx' _ _ ru) fun s₃ a₃ fr₃ _ => ?_)
        -- the iterator is not touched
        have hit3 : IterAt P s₃.heap σ' it src (k + 1) (epochOf src hp₁) ∧ IterObj s₃.heap it := by
          obtain ⟨o, T, fs, ho', hc', ht', hd'⟩ := hit2.obj
          have nn := a₃.gr.oth it o ho' hnσ' (frm_iter (s := { s' with heap := h', toks := t }) fr' hit2.obj)
          have : s₃.heap.get? it = some o := by
            rcases nn with nn | ⟨hcf, _⟩
            · exact nn
            · rw [hc'] at hcf; cases hcf; exact absurd rfl ht'.2
          exact ⟨hit2.keep a₃.gr (this.trans ho'.symm), o, T, fs, this, hc', ht', hd'⟩
        have a4 := a'.trans a₃
        have hbody' : execSs c xb (l'.set i (some av)) hp' ≠ .bad := fun e => by rw [e] at hR'; exact hb hR'.symm
        refine wpAny_mono (hbody c n env A σ' (l'.set i (some av)) hp' s₃ C ⟨a4.st, fr₃, I.ar, trivial⟩ hbody') (fun fl s₄ q => ?_) (fun e s₄ q => ?_)
        · obtain ⟨fl', l₄, hp₄, σ₄, e4, a₄, rf, fr₄⟩ := q
          rw [e4] at hR'
          have next : forLoop (.one i) (fun l h => execSs c xb l h) src (epochOf src hp₁) f (k + 1) l₄ hp₄ = R → ∃ m, m < f + 1 ∧ ∃ k l' hp' σ', forLoop (.one i) (fun l h => execSs c xb l h) src (epochOf src hp₁) m k l' hp' = R ∧ After P σ σ' (FX env) hp' s s₄ ∧ Frm P s₄.heap σ' env cx l' ∧ IterAt P s₄.heap σ' it src k (epochOf src hp₁) ∧ it ∉ σ'.map (·.1) := fun hn => by
            obtain ⟨o, T, fs, ho', hc', ht', hd'⟩ := hit3.2
            have nn := a₄.gr.oth it o ho' hnσ' (frm_iter fr₃ hit3.2)
            have : s₄.heap.get? it = some o := by
              rcases nn with nn | ⟨hcf, _⟩
              · exact nn
              · rw [hc'] at hcf; cases hcf; exact absurd rfl ht'.2
            exact ⟨f, Nat.lt_succ_self f, k + 1, l₄, hp₄, σ₄, hn, a4.trans a₄, fr₄, hit3.1.keep a₄.gr (this.trans ho'.symm), not_mem_grown a₄.gr ho' hnσ'⟩
          cases fl' with
          | next => simp only [RF] at rf; subst rf; exact next hR'
          | cont => simp only [RF] at rf; subst rf; exact next hR'
          | ret av =>
            obtain ⟨v, rfl, rv⟩ := rf
            show QS P env cx σ s R (.ret v) s₄
            rw [← hR']
            exact ⟨_, _, _, _, rfl, a4.trans a₄, ⟨v, rfl, rv⟩, fr₄⟩
        · obtain ⟨c', l₄, hp₄, σ₄, e4, _⟩ := q
          rw [e4] at hR'
          exact absurd hR'.symm hb
end
end Mine

namespace Mine
open PySem PySem.Spec PyProof.Rows PySem.SeqAt

section
theorem lookup_zip {α : Type} : ∀ {ps : List Str} {vs : List α}, ps.Nodup → ∀ {i : Nat} {x : Str} {v : α}, ps[i]? = some x → vs[i]? = some v → (ps.zip vs).lookup x = some v
  | [], _, _, i, x, v, h, _ => by simp at h
  | _ :: _, [], _, i, x, v, _, h => by simp at h
  | p :: ps, w :: ws, nd, 0, x, v, h, h' => by
    simp at h h'; subst h; subst h'
    simp [List.lookup]
  | p :: ps, w :: ws, nd, i + 1, x, v, h, h' => by
    simp only [List.getElem?_cons_succ] at h h'
    have hne : (x == p) = false := by
      rw [beq_eq_false_iff_ne]
      intro e; subst e
      exact (List.nodup_cons.mp nd).1 (List.mem_of_getElem? h)
    simp only [List.zip_cons_cons, List.lookup, hne]
    exact lookup_zip (List.nodup_cons.mp nd).2 h h'

theorem filterMap_zip {α : Type} : ∀ {ps : List Str} {vs : List α}, ps.Nodup → ps.length = vs.length → ∀ (f : Str → Option α), (∀ x v, (x, v) ∈ ps.zip vs → f x = some v) → ps.filterMap (fun n => (f n).map (n, ·)) = ps.zip vs
  | [], [], _, _, _, _ => rfl
  | [], _ :: _, _, h, _, _ => by simp at h
  | _ :: _, [], _, h, _, _ => by simp at h
  | p :: ps, v :: vs, nd, hl, f, hf => by
    have h1 : f p = some v := hf p v (by simp)
    simp only [List.filterMap_cons, h1, Option.map_some, List.zip_cons_cons]
    rw [filterMap_zip (List.nodup_cons.mp nd).2 (by simpa using hl) f fun x v hm => hf x v (by simp [hm])]

theorem lookup_of_mem {α : Type} : ∀ {l : List (Str × α)}, (l.map (·.1)).Nodup → ∀ {x : Str} {v : α}, (x, v) ∈ l → l.lookup x = some v
  | [], _, _, _, h => nomatch h
  | (k, w) :: r, nd, x, v, h => by
    simp only [List.map_cons, List.nodup_cons] at nd
    rcases List.mem_cons.mp h with e | h2
    · cases e; simp
    · have hne : (x == k) = false := by
        rw [beq_eq_false_iff_ne]
        intro e; subst e
        exact nd.1 (List.mem_map.mpr ⟨(x, v), h2, rfl⟩)
      simp only [List.lookup, hne]
      exact lookup_of_mem nd.2 h2

theorem bind_plain {fd : FuncData} {vals : List Value} (h1 : fd.params.posonlyargs = []) (h2 : fd.params.kwonlyargs = []) (h3 : fd.params.vararg = none) (h4 : fd.params.kwarg = none) (h5 : fd.defaults = .none)
    (nd : (fd.params.args.map (·.arg)).Nodup) (hl : (fd.params.args.map (·.arg)).length = vals.length) : bindArgs fd ⟨vals, []⟩ = pure ((fd.params.args.map (·.arg)).zip vals) := by
  have hz : (((fd.params.args.map (·.arg)).zip vals).map (·.1)).Nodup := by
    rw [List.map_fst_zip (Nat.le_of_eq hl)]; exact nd
  have hm : (fd.params.args.map (·.arg)).filter (fun n => (((fd.params.args.map (·.arg)).zip vals).lookup n).isNone) = [] := by
    rw [List.filter_eq_nil_iff]
    intro x hx
    obtain ⟨i, hi, e⟩ := List.mem_iff_getElem.mp hx
    have := lookup_zip (vs := vals) nd (i := i) (x := x) (v := vals[i]'(hl ▸ hi)) (by rw [List.getElem?_eq_getElem hi, e]) (by rw [List.getElem?_eq_getElem])
    rw [this]; simp
  have hf := filterMap_zip nd hl (fun n => ((fd.params.args.map (·.arg)).zip vals).lookup n) fun x v hm => lookup_of_mem hz hm
  generalize hps : fd.params.args.map (·.arg) = ps at *
  unfold bindArgs
  have hs : seqItems? Value.none = pure none := rfl
  have hpb : ∀ {α β : Type} (x : α) (f : α → Sem β), (pure x >>= f) = f x := fun _ _ => rfl
  have hng : ¬ (vals.length > ps.length) := by omega
  simp only [h1, h2, h3, h4, h5, hps, hs, List.map_nil, List.nil_append, List.append_nil, List.forIn_nil, hpb, Option.getD_none, List.toList_toArray, List.length_nil, Nat.zero_sub, Nat.sub_zero, List.drop_zero, List.take_length, hm, List.zip_nil_right]
  rw [if_neg (by simp; omega)]
  exact congrArg pure hf
end

section
theorem cells_nodup : ∀ (names : List (Str × NameKind)) (n : Nat) (acc : List (Str × Addr)), (acc.map (·.1)).Nodup → (names.map (·.1)).Nodup → (∀ x ∈ names, x.1 ∉ acc.map (·.1)) → ((cellsFrom n names acc).map (·.1)).Nodup
  | [], _, _, h, _, _ => h
  | (x, k) :: r, n, acc, h, h2, h3 => by
    simp only [List.map_cons, List.nodup_cons] at h2
    unfold cellsFrom
    split
    · refine cells_nodup r _ _ ?_ h2.2 fun y hy => ?_
      · simp only [List.map_cons, List.nodup_cons]
        exact ⟨h3 (x, k) List.mem_cons_self, h⟩
      · simp only [List.map_cons, List.mem_cons, not_or]
        exact ⟨fun e => h2.1 (e ▸ List.mem_map_of_mem hy), h3 y (List.mem_cons_of_mem _ hy)⟩
    · exact cells_nodup r _ _ h h2.2 fun y hy => h3 y (List.mem_cons_of_mem _ hy)
theorem cells_has : ∀ (names : List (Str × NameKind)) (n : Nat) (acc : List (Str × Addr)) (x : Str), (names.lookup x = some .cell ∨ (acc.lookup x).isSome = true) → ((cellsFrom n names acc).lookup x).isSome = true
  | [], _, _, _, h => h.elim (fun e => by simp at e) id
  | (y, k) :: r, n, acc, x, h => by
    unfold cellsFrom
    split
    · rename_i hk
      refine cells_has r _ _ x ?_
      cases hxy : x == y with
      | true => exact .inr (by simp [List.lookup, hxy])
      | false =>
        refine h.imp (fun e => ?_) fun e => ?_
        · simpa only [List.lookup, hxy] using e
        · simpa only [List.lookup, hxy] using e
    · rename_i hk
      refine cells_has r _ _ x (h.imp (fun e => ?_) id)
      cases hxy : x == y with
      | true => simp only [List.lookup, hxy] at e; cases e; exact absurd rfl hk
      | false => simpa only [List.lookup, hxy] using e

theorem bindL_skip {k : Str → Option NameKind} {x : Str} : ∀ {bs : List (Str × Value)} {m : Str → Option Value}, x ∉ bs.map (·.1) → bindL k bs m x = m x
  | [], _, _ => rfl
  | (n, v) :: r, m, h => by
    simp only [List.map_cons, List.mem_cons, not_or] at h
    unfold bindL
    rw [bindL_skip h.2]
    split
    · exact if_neg h.1
    · rfl
theorem bindC_skip {k : Str → Option NameKind} {x : Str} : ∀ {bs : List (Str × Value)} {m : Str → Option Value}, x ∉ bs.map (·.1) → bindC k bs m x = m x
  | [], _, _ => rfl
  | (n, v) :: r, m, h => by
    simp only [List.map_cons, List.mem_cons, not_or] at h
    unfold bindC
    rw [bindC_skip h.2]
    split
    · rfl
    · exact if_neg h.1
theorem bindL_at {k : Str → Option NameKind} {x : Str} (hk : k x = some .local) {v : Value} : ∀ {bs : List (Str × Value)} {m : Str → Option Value}, (bs.map (·.1)).Nodup → (x, v) ∈ bs → bindL k bs m x = some v
  | [], _, _, h => nomatch h
  | (n, w) :: r, m, nd, h => by
    simp only [List.map_cons, List.nodup_cons] at nd
    unfold bindL
    rcases List.mem_cons.mp h with e | h2
    · cases e
      rw [bindL_skip nd.1, if_pos hk]; exact if_pos rfl
    · exact bindL_at hk nd.2 h2
theorem bindC_at {k : Str → Option NameKind} {x : Str} (hk : ¬ k x = some .local) {v : Value} : ∀ {bs : List (Str × Value)} {m : Str → Option Value}, (bs.map (·.1)).Nodup → (x, v) ∈ bs → bindC k bs m x = some v
  | [], _, _, h => nomatch h
  | (n, w) :: r, m, nd, h => by
    simp only [List.map_cons, List.nodup_cons] at nd
    unfold bindC
    rcases List.mem_cons.mp h with e | h2
    · cases e
      rw [bindC_skip nd.1, if_neg hk]; exact if_pos rfl
    · exact bindC_at hk nd.2 h2

theorem zipIdx_lookup : ∀ {ns : List Str} {k : Nat} {x : Str} {i : Nat}, (ns.zipIdx k).lookup x = some i → k ≤ i ∧ ns[i - k]? = some x
  | [], _, _, _, h => by simp at h
  | n :: ns, k, x, i, h => by
    simp only [List.zipIdx_cons, List.lookup] at h
    split at h
    · rename_i hb
      cases h
      rw [beq_iff_eq] at hb
      subst hb
      exact ⟨Nat.le_refl _, by simp⟩
    · obtain ⟨h1, h2⟩ := zipIdx_lookup h
      refine ⟨by omega, ?_⟩
      rw [show i - k = (i - (k + 1)) + 1 by omega]
      simpa using h2

theorem grows_keep {σ : Sg} {X : List Addr} {h h' : Heap} (hk : ∀ b o, h.get? b = some o → h'.get? b = some o) : Grows σ σ X h h' :=
  ⟨⟨[], by simp, fun _ hp => nomatch hp⟩, fun c o e _ => hk c o e, fun c o e _ _ => by rw [hk c o e]; exact .refl, fun c o e => ⟨o, hk c o e⟩⟩
theorem St.keep {w : World} {B : Bs} {σ : Sg} {hp : AHeap} {h h' : Heap} (S : St w B σ hp h) (hk : ∀ b o, h.get? b = some o → h'.get? b = some o) : St w B σ hp h' :=
  S.step (X := []) (grows_keep hk) (fun p hp => by obtain ⟨ob, e, _⟩ := S.there hp; rw [hk _ _ e, e]) fun b o e => hk b o (S.base b o e)
end

/-- the frame that a call lays -/
theorem frm_call {P : Par} {σ : Sg} {hp : AHeap} {s s₁ : Shared} {funs consts excs : List Str} {params : Arguments} {scope : Scope} {fd : FuncData} {a : Addr} {avs : List AV} {vs : List Value}
    (S : St P.w P.B σ hp s.heap) (rv : RVs P.B s.heap σ avs vs) (hs : fd.scope = scope) (hok : defOk params scope = true) (hl : avs.length = (params.args.map (·.arg)).length) (hg : fd.globals = mainGlobals) (hb : fd.builtins = builtinsNs)
    (x : InCallC s (callEnvC fd s.heap.objs.size a).locals (bindL (callEnvC fd s.heap.objs.size a).kindOf ((params.args.map (·.arg)).zip vs) fun _ => none) (callEnvC fd s.heap.objs.size a).cells
        (bindC (callEnvC fd s.heap.objs.size a).kindOf ((params.args.map (·.arg)).zip vs) fun _ => none) s₁) :
    Frm P s₁.heap σ (callEnvC fd s.heap.objs.size a) { sc := scope, loc := (slotNames (params.args.map (·.arg)) scope).zipIdx, n := (slotNames (params.args.map (·.arg)) scope).length, funs := funs, consts := consts, excs := excs }
      (avs.map some ++ List.replicate ((slotNames (params.args.map (·.arg)) scope).length - (params.args.map (·.arg)).length) none) := by
  subst hs
  have hlv := rv.length
  simp only [defOk, Bool.and_eq_true, Bool.not_eq_true', decide_eq_true_eq, List.isEmpty_iff, Option.isNone_iff_eq_none, beq_iff_eq] at hok
  obtain ⟨⟨⟨⟨⟨⟨⟨⟨⟨⟨ho1, ho2⟩, ho3⟩, ho4⟩, hk⟩, hgen⟩, hco⟩, hnp⟩, hnn⟩, hfree⟩, hpar⟩ := hok
  generalize hps : params.args.map (·.arg) = ps at *
  have hkind : (callEnvC fd s.heap.objs.size a).kindOf = fun x => fd.scope.names.lookup x := rfl
  have hcells : (callEnvC fd s.heap.objs.size a).cells = cellsFrom (s.heap.objs.size + 1) fd.scope.names [] := rfl
  have hlocals : (callEnvC fd s.heap.objs.size a).locals = s.heap.objs.size := rfl
  have hcn : ((cellsFrom (s.heap.objs.size + 1) fd.scope.names []).map (·.1)).Nodup := cells_nodup _ _ _ (by simp) hnn (by simp)
  have hzn : ((ps.zip vs).map (·.1)).Nodup := by rw [List.map_fst_zip (by omega)]; exact hnp
  have hns : ∃ r, slotNames ps fd.scope = ps ++ r := ⟨_, rfl⟩
  obtain ⟨r, hns⟩ := hns
  have hsl : ∀ (cx : Cx) y i, cx.sc = fd.scope → cx.loc = (slotNames ps fd.scope).zipIdx → cx.slot y = some i → (slotNames ps fd.scope)[i]? = some y ∧ ((fd.scope.names.lookup y = some .local) ∨ fd.scope.names.lookup y = some .cell) := by
    intro cx y i e1 e2 h
    unfold Cx.slot at h
    rw [e1, e2] at h
    split at h
    · rename_i k hk'
      split at h
      · rename_i hkk
        refine ⟨by simpa using (zipIdx_lookup h).2, ?_⟩
        have hnf : k ≠ .free := by
          have := List.all_eq_true.mp hfree _ (mem_of_lookup' hk')
          simpa using this
        simp only [Bool.and_eq_true] at hkk
        have := hkk.1
        cases k <;> simp [isLocKind] at this hnf <;> simp [hk']
      · cases h
    · cases h
  have hfar : ∀ c, s.heap.objs.size ≤ c → s.heap.get? c = none := fun c hc => by
    cases hq : s.heap.get? c with
    | none => rfl
    | some o => exact absurd (Heap.lt_size hq) (Nat.not_lt.mpr hc)
  have hout : ∀ c, s.heap.objs.size ≤ c → c ∉ σ.map (·.1) ∧ P.B.h₀.get? c = none := fun c hc => by
    refine ⟨fun hm => ?_, ?_⟩
    · obtain ⟨p, hp, rfl⟩ := List.mem_map.mp hm
      obtain ⟨ob, e, _⟩ := S.there hp
      rw [hfar _ hc] at e; cases e
    · cases hq : P.B.h₀.get? c with
      | none => rfl
      | some o => have := S.base c o hq; rw [hfar _ hc] at this; cases this
  have hval : ∀ (i : Nat) (y : Str) (av : AV), (slotNames ps fd.scope)[i]? = some y → (avs.map some ++ List.replicate ((slotNames ps fd.scope).length - ps.length) none)[i]? = some (some av) → ∃ v, (y, v) ∈ ps.zip vs ∧ RV P.B s₁.heap σ av v := by
    intro i y av h1 h2
    have hi : i < avs.length := by
      by_cases hi : i < avs.length
      · exact hi
      · rw [List.getElem?_append_right (by simpa using Nat.not_lt.mp hi), List.getElem?_replicate] at h2
        split at h2 <;> cases h2
    rw [List.getElem?_append_left (by simpa using hi), List.getElem?_map] at h2
    obtain ⟨av', e, e'⟩ := Option.map_eq_some_iff.mp h2
    cases e'
    obtain ⟨v, hv, r'⟩ := rv.get e
    rw [hns, List.getElem?_append_left (by omega)] at h1
    refine ⟨v, ?_, RV.grows (grows_keep (X := []) x.toInCall.keep) _ _ r'⟩
    apply List.mem_of_getElem? (i := i)
    rw [List.getElem?_zip_eq_some]
    exact ⟨h1, hv⟩
  refine ⟨hk, ?_, fun y z i h1 h2 => ?_, fun y i h => ?_, fun y h => ?_, fun y i h => ?_, ⟨_, x.toInCall.ns, fun y i h => ?_⟩, ⟨(hout _ (Nat.le_refl _)).1, fun p hp => ?_⟩, ⟨(hout _ (Nat.le_refl _)).2, fun p hp => ?_⟩, hg, hb, fun p hp => ?_, fun p hp q hq e => ?_⟩
  · simp only [List.length_append, List.length_map, List.length_replicate, hns]; omega
  · have e1 := (hsl _ y i rfl rfl h1).1
    have e2 := (hsl _ z i rfl rfl h2).1
    rw [e1] at e2; exact Option.some.inj e2
  · have e1 := (hsl _ y i rfl rfl h).1
    exact (List.getElem?_eq_some_iff.mp e1).1
  · simp only [Cx.isGlob, Bool.and_eq_true, beq_iff_eq] at h
    exact h.1
  · have e1 := (hsl _ y i rfl rfl (slotW_slot h)).2
    show fd.scope.names.lookup y ≠ _
    rcases e1 with e1 | e1 <;> rw [e1] <;> simp
  · obtain ⟨h1, h2⟩ := hsl _ y i rfl rfl h
    rcases h2 with h2 | h2
    · refine .inl ⟨h2, fun av e => ?_⟩
      obtain ⟨v, hm, r'⟩ := hval i y av h1 e
      exact ⟨v, bindL_at (k := (callEnvC fd s.heap.objs.size a).kindOf) h2 hzn hm, r'⟩
    · obtain ⟨c, hc⟩ := Option.isSome_iff_exists.mp (cells_has fd.scope.names (s.heap.objs.size + 1) [] y (.inl h2))
      refine .inr ⟨.inl h2, c, _, hc, x.cell y c hc, fun av e => ?_⟩
      obtain ⟨v, hm, r'⟩ := hval i y av h1 e
      exact ⟨v, bindC_at (k := (callEnvC fd s.heap.objs.size a).kindOf) (by show ¬ fd.scope.names.lookup y = _; rw [h2]; simp) hzn hm, r'⟩
  · exact (hout _ (Nat.le_of_lt (x.above p.1 p.2 hp))).1
  · exact (hout _ (Nat.le_of_lt (x.above p.1 p.2 hp))).2
  · obtain ⟨o, ho, hd⟩ := x.cell p.1 p.2 (lookup_of_mem hcn hp)
    exact ⟨o, _, ho, hd⟩
  · exact name_of_addr x.apart (c := p.2) hp (by rw [e]; exact hq)
end Mine

namespace Mine
open PySem PySem.Spec PyProof.Rows PySem.SeqAt

section
variable {P : Par} {cx : Cx}

theorem simE_bad {e : Expr} {x : X} (h : ∀ c l hp, evalX c x l hp = .bad) : SimE P cx e x := fun c n env A σ l hp s _ _ hb => absurd (h c l hp) hb

theorem compTy_name {e : Expr} {t : Ty} (h : compTy cx e = some t) (ht : plainTy t = true) : ∃ T q, e = .Name T q ∧ cx.isGlob T = true ∧ (T, Value.type (tyName t)) ∈ bltPairs := by
  unfold compTy at h
  split at h
  · rename_i x q
    split at h
    · cases h
    · rename_i hg
      have hg : cx.isGlob x = true := by simpa using hg
      refine ⟨x, q, rfl, hg, ?_⟩
      split at h
      · rename_i hx; rw [beq_iff_eq] at hx; subst hx; cases h; simp [bltPairs, tyName]
      split at h
      · rename_i hx; rw [beq_iff_eq] at hx; subst hx; cases h; simp [bltPairs, tyName]
      split at h
      · rename_i hx; rw [beq_iff_eq] at hx; subst hx; cases h; simp [bltPairs, tyName]
      split at h
      · rename_i hx; rw [beq_iff_eq] at hx; subst hx; cases h; simp [bltPairs, tyName]
      split at h
      · rename_i hx; rw [beq_iff_eq] at hx; subst hx; cases h; simp [bltPairs, tyName]
      split at h
      · cases h; cases ht
      split at h
      · cases h; cases ht
      · cases h
  · cases h

theorem lookup_bm {m : Str} {b : BM} (h : bmTable.lookup m = some b) : (bmSup b = false) ∨ (b = .append ∧ m = "append") ∨ (b = .index ∧ m = "index") := by
  have := mem_of_lookup' h
  simp only [bmTable, List.mem_cons, Prod.mk.injEq, List.not_mem_nil, or_false] at this
  rcases this with ⟨rfl, rfl⟩ | ⟨rfl, rfl⟩ | ⟨rfl, rfl⟩ | ⟨rfl, rfl⟩ | ⟨rfl, rfl⟩ | ⟨rfl, rfl⟩ | ⟨rfl, rfl⟩ | ⟨rfl, rfl⟩ | ⟨rfl, rfl⟩ <;> first | exact .inl rfl | exact .inr (.inl ⟨rfl, rfl⟩) | exact .inr (.inr ⟨rfl, rfl⟩)
theorem lookup_bi {m : Str} {b : BI} (h : biTable.lookup m = some b) : (biSup b = false) ∨ (b = .len ∧ m = "len") := by
  have := mem_of_lookup' h
  simp only [biTable, List.mem_cons, Prod.mk.injEq, List.not_mem_nil, or_false] at this
  rcases this with ⟨rfl, rfl⟩ | ⟨rfl, rfl⟩ | ⟨rfl, rfl⟩ | ⟨rfl, rfl⟩ | ⟨rfl, rfl⟩ | ⟨rfl, rfl⟩ | ⟨rfl, rfl⟩ | ⟨rfl, rfl⟩ <;> first | exact .inl rfl | exact .inr ⟨rfl, rfl⟩

theorem valTest_or (e : Expr) : valTest e = true ∨ (∃ x p, e = .UnaryOp .Not x p) ∨ (∃ op vs p, e = .BoolOp op vs p) ∨ (∃ a b c p, e = .IfExp a b c p) ∨ ∃ l ops cs p, e = .Compare l ops cs p := by
  cases e <;> try (exact .inl rfl)
  · exact .inr (.inr (.inl ⟨_, _, _, rfl⟩))
  · rename_i op _ _
    cases op <;> first | exact .inl rfl | exact .inr (.inl ⟨_, _, rfl⟩)
  · exact .inr (.inr (.inr (.inl ⟨_, _, _, _, rfl⟩)))
  · exact .inr (.inr (.inr (.inr ⟨_, _, _, _, rfl⟩)))

theorem sim_isi_of {as : List Expr} {y : X} {ts : List Ty} {q p : Pos} (hg : cx.isGlob "isinstance" = true) (hy : compHead cx as = some y) (hts : compTyArgs cx as = some ts) (H : ∀ e ∈ as, ∀ y, compE cx e = some y → SimE P cx e y) :
    SimE P cx (.Call (.Name "isinstance" q) as [] p) (.isi y ts) := by
  by_cases hsup : tysSup ts = true
  · match as, hy, hts, H with
    | [], hy, _, _ => simp [compHead] at hy
    | [_], _, hts, _ => simp [compTyArgs] at hts
    | _ :: _ :: _ :: _, _, hts, _ => simp [compTyArgs] at hts
    | [e, te], hy, hts, H =>
      simp only [compHead] at hy
      simp only [compTyArgs] at hts
      match ts, hsup, hts with
      | [], hsup, _ => cases hsup
      | _ :: _ :: _, hsup, _ => cases hsup
      | [t], hsup, hts =>
        simp only [tysSup] at hsup
        unfold compTyArg at hts
        split at hts
        · rename_i es _ _ _
          split at hts
          · cases hts
          · rename_i hl
            exfalso
            match es, hts, hl with
            | [], hts, _ => simp [compTys] at hts
            | [_], _, hl => simp at hl
            | a :: b :: r, hts, _ =>
              simp only [compTys, Option.bind_eq_bind, Option.bind_eq_some_iff, Option.pure_def, Option.some.injEq] at hts
              obtain ⟨_, _, _, ⟨_, _, _, _, rfl⟩, hts⟩ := hts
              simp at hts
        · simp only [Option.bind_eq_bind, Option.bind_eq_some_iff, Option.pure_def, Option.some.injEq] at hts
          obtain ⟨t', ht', e'⟩ := hts
          cases e'
          obtain ⟨T, q', rfl, hgT, hT⟩ := compTy_name ht' hsup
          exact sim_isi hg hgT hT hsup (not_starred hy) (H e (by simp) y hy)
  · refine simE_bad fun c l hp => ?_
    rw [evalX, if_pos (by simpa using hsup)]

theorem compEs_cons {es : List Expr} {x : X} {xs : Xs} (h : compEs cx es = some (.cons x xs)) : ∃ e r, es = e :: r ∧ compE cx e = some x ∧ compEs cx r = some xs := by
  cases es with
  | nil => simp [compEs] at h
  | cons e r =>
    simp only [compEs, Option.bind_eq_bind, Option.bind_eq_some_iff, Option.pure_def, Option.some.injEq] at h
    obtain ⟨a, ha, b, hb, e'⟩ := h
    cases e'
    exact ⟨e, r, rfl, ha, hb⟩
theorem compEs_nil {es : List Expr} (h : compEs cx es = some .nil) : es = [] := by
  cases es with
  | nil => rfl
  | cons e r =>
    simp only [compEs, Option.bind_eq_bind, Option.bind_eq_some_iff, Option.pure_def, Option.some.injEq] at h
    obtain ⟨a, ha, b, hb, e'⟩ := h
    cases e'

theorem sim_const {v : Const} {k : Nat} {p : Pos} {x : X} (h : compConst v = some x) : SimE P cx (.Constant v k p) x := by
  cases v <;> simp only [compConst] at h <;> cases h
  · exact sim_none
  · exact sim_bool
  · exact sim_int
  · exact sim_str
theorem sim_name {y : Str} {p : Pos} {x : X} (h : compName cx y = some x) : SimE P cx (.Name y p) x := by
  unfold compName at h
  split at h
  · cases h; exact sim_loc (by assumption)
  · split at h
    · rename_i hg
      cases h
      rw [Bool.and_eq_true] at hg
      exact sim_glob hg.1 hg.2
    · cases h
theorem sim_un {op : UnaryOp} {e : Expr} {y : X} {p : Pos} {x : X} (h : compUn op y = some x) (hy : SimE P cx e y) : SimE P cx (.UnaryOp op e p) x := by
  cases op <;> simp only [compUn] at h <;> cases h
  · exact sim_not hy
  · exact sim_neg hy

/-- the two kinds of comparison -/
theorem compCmp_or {ops : List CmpOp} {l : Expr} {rs : List Expr} {xl : X} {xr : Xs} {x : X} {p : Pos} (hrs : compEs cx rs = some xr) (h : compCmp1 ops xl xr = some x) :
    (∃ op o r y, ops = [op] ∧ rs = [r] ∧ compCOp op = some o ∧ compE cx r = some y ∧ x = .cmp o xl y) ∨
    (∃ op1 op2 o1 o2 m r y z, ops = [op1, op2] ∧ rs = [m, r] ∧ compCOp op1 = some o1 ∧ compCOp op2 = some o2 ∧ compE cx m = some y ∧ compE cx r = some z ∧ x = .cmp2 o1 o2 xl y z) := by
  unfold compCmp1 at h
  split at h
  · split at h
    · split at h
      · cases h
        obtain ⟨e, r, rfl, h1, h2⟩ := compEs_cons hrs
        cases compEs_nil h2
        exact .inl ⟨_, _, _, _, rfl, rfl, by assumption, h1, rfl⟩
      · cases h
    · cases h
  · split at h
    · split at h
      · cases h
        obtain ⟨e, r, rfl, h1, h2⟩ := compEs_cons hrs
        obtain ⟨e', r', rfl, h3, h4⟩ := compEs_cons h2
        cases compEs_nil h4
        exact .inr ⟨_, _, _, _, _, _, _, _, rfl, rfl, by assumption, by assumption, h1, h3, rfl⟩
      · cases h
    · cases h
  · cases h

theorem sim_callE {f : Str} {as : List Expr} {xs : Xs} {x : X} {q p : Pos} (hg : cx.isGlob f = true) (hxs : compEs cx as = some xs) (hS : SimEs P cx as xs) (h : compCall cx f xs = some x) : SimE P cx (.Call (.Name f q) as [] p) x := by
  unfold compCall at h
  split at h
  · rename_i hf
    cases h
    exact sim_call hg hf hxs hS
  split at h
  · cases h
    exact simE_bad fun c l hp => by rw [evalX]
  split at h
  · rename_i hf
    rw [beq_iff_eq] at hf
    subst hf
    cases h
    exact sim_range hg hxs hS
  split at h
  · rename_i b hlk
    cases h
    rcases lookup_bi hlk with hn | ⟨rfl, rfl⟩
    · exact simE_bad fun c l hp => by rw [evalX, if_pos (by simp [hn])]
    · exact sim_len hg hxs hS
  · cases h
theorem sim_methE {o : Expr} {m : Str} {b : BM} {as : List Expr} {xo : X} {xs : Xs} {ap p : Pos} (hok : ¬ (!(ap.endLine == p.line && notSuper o && decide (as.length < 20))) = true) (hlk : bmTable.lookup m = some b) (hxs : compEs cx as = some xs) (hS : SimEs P cx as xs) (hO : SimE P cx o xo) :
    SimE P cx (.Call (.Attribute o m ap) as [] p) (.bm b xo xs) := by
  have hok : ((ap.endLine == p.line) = true ∧ notSuper o = true) ∧ as.length < 20 := by simpa using hok
  rcases lookup_bm hlk with hn | ⟨rfl, rfl⟩ | ⟨rfl, rfl⟩
  · exact simE_bad fun c l hp => by rw [evalX, if_pos (by simp [hn])]
  · exact sim_append hok.1.2 hxs hok.2 hok.1.1 hO hS
  · exact sim_index hok.1.2 hxs hok.2 hok.1.1 hO hS
theorem sim_sliceE {o : Expr} {lo hi : Option Expr} {xo xl xh : X} {q p : Pos} (ho : SimE P cx o xo) (hl : compO cx lo = some xl) (hh : compO cx hi = some xh) (H1 : ∀ e, lo = some e → compE cx e = some xl → SimE P cx e xl) (H2 : ∀ e, hi = some e → compE cx e = some xh → SimE P cx e xh) :
    SimE P cx (.Subscript o (.Slice lo hi none q) p) (.slice xo xl xh) := by
  refine sim_slice ho (fun e => ?_) (fun e he => ?_) (fun e => ?_) (fun e he => ?_)
  · subst e; simpa [compO] using hl.symm
  · subst he; simp only [compO] at hl; exact H1 e rfl hl
  · subst e; simpa [compO] using hh.symm
  · subst he; simp only [compO] at hh; exact H2 e rfl hh
theorem opt_bind {α β : Type} {a : Option α} {f : α → Option β} {b : β} (h : (a >>= f) = some b) : ∃ x, a = some x ∧ f x = some b := Option.bind_eq_some_iff.mp h
theorem opt_pure {α : Type} {a b : α} (h : (pure a : Option α) = some b) : a = b := Option.some.inj h

theorem simB_of (op : BoolOp) : ∀ (es : List Expr) (x : X), (∀ e ∈ es, ∀ y, compE cx e = some y → SimE P cx e y) → compBool cx op es = some x → SimB P cx op es x
  | [], x, _, h => by simp [compBool] at h
  | [e], x, H, h => by simp only [compBool] at h; exact simB_one (H e (by simp) x h)
  | e :: e' :: r, x, H, h => by
    simp only [compBool] at h
    obtain ⟨a, ha, h⟩ := opt_bind h
    obtain ⟨b, hb, h⟩ := opt_bind h
    have hb' : compBool cx op (e' :: r) = some b := by
      cases r <;> simpa [compBool] using hb
    have hR := simB_of op (e' :: r) b (fun e he => H e (List.mem_cons_of_mem _ he)) hb'
    cases op with
    | And => cases opt_pure h; exact simB_and (H e List.mem_cons_self a ha) hR
    | Or => cases opt_pure h; exact simB_or (H e List.mem_cons_self a ha) hR
theorem simEs_of' : ∀ (es : List Expr) (xs : Xs), (∀ e ∈ es, ∀ y, compE cx e = some y → SimE P cx e y) → compEs cx es = some xs → SimEs P cx es xs
  | [], xs, _, h => by simp only [compEs] at h; cases h; exact simEs_nil
  | e :: r, xs, H, h => by
    simp only [compEs] at h
    obtain ⟨a, ha, h⟩ := opt_bind h
    obtain ⟨b, hb, h⟩ := opt_bind h
    cases opt_pure h
    exact simEs_cons (not_starred ha) (H e List.mem_cons_self a ha) (simEs_of' r b (fun e he => H e (List.mem_cons_of_mem _ he)) hb)

theorem size_mem {e : Expr} {es : List Expr} {n : Nat} (h : e ∈ es) (hn : sizeOf es < n) : sizeOf e < n := Nat.lt_trans (List.sizeOf_lt_of_mem h) hn

theorem simE_at (n : Nat) (IH : ∀ e, sizeOf e < n → ∀ y, compE cx e = some y → SimE P cx e y) (e : Expr) (hn : sizeOf e ≤ n) (x : X) (h : compE cx e = some x) : SimE P cx e x := by
  unfold compE at h
  split at h
  · exact sim_const h
  · exact sim_name h
  · rename_i l op r p
    obtain ⟨b, hb, h⟩ := opt_bind h
    obtain ⟨xl, hl, h⟩ := opt_bind h
    obtain ⟨xr, hr, h⟩ := opt_bind h
    cases opt_pure h
    exact sim_bin hb (IH l (by simp at hn; omega) xl hl) (IH r (by simp at hn; omega) xr hr)
  · rename_i op y p
    obtain ⟨xl, hl, h⟩ := opt_bind h
    exact sim_un h (IH y (by simp at hn; omega) xl hl)
  · exact sim_boolop (simB_of _ _ _ (fun e he => IH e (size_mem he (by simp at hn; omega))) h)
  · rename_i l ops rs p
    obtain ⟨xl, hl, h⟩ := opt_bind h
    obtain ⟨xr, hr, h⟩ := opt_bind h
    have hL := IH l (by simp at hn; omega) xl hl
    have hR : ∀ e ∈ rs, ∀ y, compE cx e = some y → SimE P cx e y := fun e he => IH e (size_mem he (by simp at hn; omega))
    rcases compCmp_or (l := l) (p := p) hr h with ⟨op, o, r, y, rfl, rfl, h1, h2, rfl⟩ | ⟨op1, op2, o1, o2, m, r, y, z, rfl, rfl, h1, h2, h3, h4, rfl⟩
    · exact sim_cmp h1 (notMarks h2) hL (hR r (by simp) y h2)
    · exact sim_cmp2 h1 h2 (notMarks h4) hL (hR m (by simp) y h3) (hR r (by simp) z h4)
  · rename_i f as ks p
    split at h
    · split at h
      · rename_i f q
        split at h
        · cases h
        · rename_i hg
          have hg : cx.isGlob f = true := by simpa using hg
          split at h
          · rename_i hf
            cases beq_iff_eq.mp hf
            obtain ⟨y, hy, h⟩ := opt_bind h
            obtain ⟨ts, hts, h⟩ := opt_bind h
            cases opt_pure h
            exact sim_isi_of hg hy hts fun e he => IH e (size_mem he (by simp at hn; omega))
          · obtain ⟨xs, hxs, h⟩ := opt_bind h
            exact sim_callE hg hxs (simEs_of' as xs (fun e he => IH e (size_mem he (by simp at hn; omega))) hxs) h
      · rename_i o m ap
        split at h
        · cases h
        · rename_i hok
          split at h
          · rename_i b hlk
            obtain ⟨xo, ho, h⟩ := opt_bind h
            obtain ⟨xs, hxs, h⟩ := opt_bind h
            cases opt_pure h
            exact sim_methE hok hlk hxs (simEs_of' as xs (fun e he => IH e (size_mem he (by simp at hn; omega))) hxs) (IH o (by simp at hn; omega) xo ho)
          · split at h
            · obtain ⟨xo, ho, h⟩ := opt_bind h
              obtain ⟨xs, hxs, h⟩ := opt_bind h
              cases opt_pure h
              exact simE_bad fun c l hp => by rw [evalX]
            · cases h
      · cases h
    · cases h
  · split at h
    · obtain ⟨xo, ho, h⟩ := opt_bind h
      obtain ⟨k, hk, h⟩ := opt_bind h
      cases opt_pure h
      exact simE_bad fun c l hp => by rw [evalX]
    · cases h
  · rename_i o i p
    split at h
    · rename_i lo hi st q
      split at h
      · obtain ⟨xo, ho, h⟩ := opt_bind h
        obtain ⟨xl, hl, h⟩ := opt_bind h
        obtain ⟨xh, hh, h⟩ := opt_bind h
        cases opt_pure h
        exact sim_sliceE (IH o (by simp at hn; omega) xo ho) hl hh (fun e he hc => by subst he; exact IH e (by simp at hn; omega) xl hc) (fun e he hc => by subst he; exact IH e (by simp at hn; omega) xh hc)
      · cases h
    · obtain ⟨xo, ho, h⟩ := opt_bind h
      obtain ⟨xi, hi, h⟩ := opt_bind h
      cases opt_pure h
      exact sim_sub (IH o (by simp at hn; omega) xo ho) (IH i (by simp at hn; omega) xi hi)
  · rename_i es k p
    obtain ⟨xs, hxs, h⟩ := opt_bind h
    cases opt_pure h
    exact sim_tup (simEs_of' es xs (fun e he => IH e (size_mem he (by simp at hn; omega))) hxs)
  · rename_i es p
    obtain ⟨xs, hxs, h⟩ := opt_bind h
    cases opt_pure h
    exact sim_list (simEs_of' es xs (fun e he => IH e (size_mem he (by simp at hn; omega))) hxs)
  · cases h

theorem simE_of (e : Expr) (x : X) (h : compE cx e = some x) : SimE P cx e x := by
  have key : ∀ n e, sizeOf e < n → ∀ y, compE cx e = some y → SimE P cx e y := by
    intro n
    induction n with
    | zero => intro e he; omega
    | succ n ih => intro e he y hy; exact simE_at n ih e (by omega) y hy
  exact key (sizeOf e + 1) e (by omega) x h
end
end Mine

namespace Mine
open PySem PySem.Spec PyProof.Rows PySem.SeqAt

section
variable {P : Par} {cx : Cx}

mutual
theorem simT_of (e : Expr) (x : X) (h : compE cx e = some x) : SimT P cx e x := by
  rcases valTest_or e with hv | ⟨y, p, rfl⟩ | ⟨op, vs, p, rfl⟩ | ⟨a, b, c, p, rfl⟩ | ⟨l, ops, cs, p, rfl⟩
  · exact simT_val hv (simE_of e x h)
  · simp only [compE] at h
    obtain ⟨xl, hl, h⟩ := opt_bind h
    simp only [compUn] at h
    cases h
    exact simT_not (simT_of y xl hl)
  · simp only [compE] at h
    exact simT_boolop (simTs_of op vs x h)
  · simp [compE] at h
  · simp only [compE] at h
    obtain ⟨xl, hl, h⟩ := opt_bind h
    obtain ⟨xr, hr, h⟩ := opt_bind h
    have hL := simE_of (P := P) l xl hl
    rcases compCmp_or (l := l) (p := p) hr h with ⟨op, o, r, y, rfl, rfl, h1, h2, rfl⟩ | ⟨op1, op2, o1, o2, m, r, y, z, rfl, rfl, h1, h2, h3, h4, rfl⟩
    · exact simT_cmp h1 (notMarks h2) hL (simE_of r y h2)
    · exact simT_cmp2 h1 h2 (notMarks h4) hL (simE_of m y h3) (simE_of r z h4)
termination_by sizeOf e
theorem simTs_of (op : BoolOp) (es : List Expr) (x : X) (h : compBool cx op es = some x) : SimTs P cx op es x := by
  match es, h with
  | [], h => simp [compBool] at h
  | [e], h => simp only [compBool] at h; exact simTs_one (simT_of e x h)
  | e :: e' :: r, h =>
    simp only [compBool] at h
    obtain ⟨a, ha, h⟩ := opt_bind h
    obtain ⟨b, hb, h⟩ := opt_bind h
    have hb' : compBool cx op (e' :: r) = some b := by
      cases r <;> simpa [compBool] using hb
    cases op with
    | And => cases opt_pure h; exact simTs_and (simT_of e a ha) (simTs_of .And (e' :: r) b hb')
    | Or => cases opt_pure h; exact simTs_or (simT_of e a ha) (simTs_of .Or (e' :: r) b hb')
termination_by sizeOf es
end

theorem simSt_bad {e : Stmt} {x : S} (h : ∀ c l hp, execS c x l hp = .bad) : SimSt P cx e x := fun c n env A σ l hp s _ _ hb => absurd (h c l hp) hb

theorem simSt_asgE {ts : List Expr} {v : Expr} {y : X} {x : S} {p : Pos} (h : compAsg cx ts (isComp v) y = some x) (hv : SimE P cx v y) : SimSt P cx (.Assign ts v p) x := by
  unfold compAsg at h
  split at h
  · split at h
    · split at h
      · cases h
      · rename_i hc
        obtain ⟨i, hi, h⟩ := opt_bind h
        cases opt_pure h
        exact simSt_asg hi (by simpa using hc) hv
    · obtain ⟨i, hi, h⟩ := opt_bind h
      cases opt_pure h
      exact simSt_bad fun c l hp => by rw [execS]; rfl
    · obtain ⟨i, hi, h⟩ := opt_bind h
      obtain ⟨j, hj, h⟩ := opt_bind h
      cases opt_pure h
      exact simSt_bad fun c l hp => by rw [execS]
    · obtain ⟨i, hi, h⟩ := opt_bind h
      obtain ⟨j, hj, h⟩ := opt_bind h
      cases opt_pure h
      exact simSt_bad fun c l hp => by rw [execS]
    · cases h
  · cases h
theorem simSt_forE {t it : Expr} {tg : Tgt} {y : X} {b : List Stmt} {xb : Ss} {p : Pos} (htg : compTgt cx t = some tg) (hy : compE cx it = some y) (hB : SimSs P cx b xb) : SimSt P cx (.For t it b [] p) (.forr tg y xb) := by
  unfold compTgt at htg
  split at htg
  · obtain ⟨i, hi, h⟩ := opt_bind htg
    cases opt_pure h
    exact simSt_for hi hy (simE_of it y hy) hB
  · obtain ⟨i, hi, h⟩ := opt_bind htg
    cases opt_pure h
    exact simSt_bad fun c l hp => by rw [execS, if_pos (by simp [Tgt.isMany])]
  · cases htg

mutual
theorem simSt_of (st : Stmt) (x : S) (h : compS cx st = some x) : SimSt P cx st x := by
  unfold compS at h
  split at h
  · split at h
    · cases h
    · rename_i hc
      obtain ⟨y, hy, h⟩ := opt_bind h
      cases opt_pure h
      exact simSt_expr (by simpa using hc) (simE_of _ y hy)
  · split at h
    · obtain ⟨y, hy, h⟩ := opt_bind h
      cases opt_pure h
      exact simSt_ret (simE_of _ y hy)
    · cases h; exact simSt_ret0
  · obtain ⟨y, hy, h⟩ := opt_bind h
    exact simSt_asgE h (simE_of _ y hy)
  · rename_i t a b p
    obtain ⟨xt, ht, h⟩ := opt_bind h
    obtain ⟨xa, ha, h⟩ := opt_bind h
    obtain ⟨xb, hb, h⟩ := opt_bind h
    cases opt_pure h
    exact simSt_if (simT_of t xt ht) (simSs_of a xa ha) (simSs_of b xb hb)
  · split at h
    · obtain ⟨i, hi, h⟩ := opt_bind h
      obtain ⟨y, hy, h⟩ := opt_bind h
      cases opt_pure h
      exact simSt_bad fun c l hp => by rw [execS]
    · cases h
  · rename_i t it b o p
    split at h
    · rename_i ho
      cases List.isEmpty_iff.mp ho
      obtain ⟨tg, htg, h⟩ := opt_bind h
      obtain ⟨y, hy, h⟩ := opt_bind h
      obtain ⟨xb, hb, h⟩ := opt_bind h
      cases opt_pure h
      exact simSt_forE htg hy (simSs_of b xb hb)
    · cases h
  · cases h; exact simSt_cont
  · cases h; exact simSt_pass
  · cases h
termination_by sizeOf st
theorem simSs_of (sts : List Stmt) (xs : Ss) (h : compSs cx sts = some xs) : SimSs P cx sts xs := by
  match sts, h with
  | [], h => simp only [compSs] at h; cases h; exact simSs_nil
  | st :: r, h =>
    simp only [compSs] at h
    obtain ⟨a, ha, h⟩ := opt_bind h
    obtain ⟨b, hb, h⟩ := opt_bind h
    cases opt_pure h
    exact simSs_cons (simSt_of st a ha) (simSs_of r b hb)
termination_by sizeOf sts
end

/-- a function of the program, as the base holds it -/
structure FnAt (P : Par) (prog : Prog) (funs consts excs : List Str) (f : Str) : Prop where
  get : ∃ a o params body scope pm cd doc d, P.mg f = some (.ref a) ∧ P.B.h₀.get? a = some o ∧ o.data = .func (Calls.docDef f params body scope pm cd doc) ∧ P.B.h₀.CodeRec cd f ∧
    prog.defs.lookup f = some d ∧ compDef funs consts excs params body scope = some d

theorem semF_sim {prog : Prog} {funs consts excs : List Str} (ok : P.Ok) (hf : ∀ f, funs.contains f = true → FnAt P prog funs consts excs f)
    (hg : ∀ x, consts.contains x = true → ∃ v av, P.mg x = some v ∧ prog.consts.lookup x = some av ∧ ∀ h σ, RV P.B h σ av v) :
    ∀ n q fuel, FSim P funs ⟨q, semF prog n, fun x => prog.consts.lookup x, fuel⟩ n
  | 0, q, fuel, f, hc => by
    obtain ⟨a, o, params, body, scope, pm, cd, doc, d, h1, h2, h3, h4, h5, h6⟩ := (hf f hc).get
    exact ⟨a, o, _, h1, h2, h3, fun q avs vs σ hp s A S _ rv ar hb => absurd rfl hb⟩
  | n + 1, q, fuel, f, hc => by
    obtain ⟨a, o, params, body, scope, pm, cd, doc, d, h1, h2, h3, h4, h5, h6⟩ := (hf f hc).get
    refine ⟨a, o, _, h1, h2, h3, fun q avs vs σ hp s A S _ rv ar hb => ?_⟩
    have ih := semF_sim ok hf hg n q fuelOf
    simp only [semF, h5] at hb ⊢
    unfold compDef at h6
    simp only at h6
    split at h6
    · simp at h6
    · rename_i hok
      have hok : defOk params scope = true := by simpa using hok
      simp only [Option.bind_eq_bind, Option.bind_eq_some_iff, Option.pure_def, Option.some.injEq, Option.bind_some] at h6
      obtain ⟨xb, hxb, rfl⟩ := h6
      unfold runDef at hb ⊢
      split at hb
      · rename_i hlen
        rw [if_pos hlen]
        simp only at hb hlen ⊢
        have hok' := hok
        simp only [defOk, Bool.and_eq_true, Bool.not_eq_true', decide_eq_true_eq, List.isEmpty_iff, Option.isNone_iff_eq_none, beq_iff_eq] at hok'
        obtain ⟨⟨⟨⟨⟨⟨⟨⟨⟨⟨ho1, ho2⟩, ho3⟩, ho4⟩, hk⟩, hgen⟩, hco⟩, hnp⟩, hnn⟩, hfree⟩, hpar⟩ := hok'
        have hlv := rv.length
        refine wpAny_call (codeAny_call_cells (fd := Calls.docDef f params body scope pm cd doc) (body := body) (binds := (params.args.map (·.arg)).zip vs) (by have := ar.depth; omega) (S.base a o h2) h3 (ok.noLimit S) (h4.keeps S.base) rfl
          (bind_plain (fd := Calls.docDef f params body scope pm cd doc) ho1 ho2 ho3 ho4 rfl hnp (by show (params.args.map (·.arg)).length = _; omega)) rfl (fun x hx => ?_) (fun s₁ x => ?_) hco hgen hk)
        · have hmem : x.1 ∈ params.args.map (·.arg) := (List.of_mem_zip (a := x.1) (b := x.2) hx).1
          have := List.all_eq_true.mp hpar _ hmem
          simp only [Bool.or_eq_true, beq_iff_eq] at this
          rcases this with e | e
          · exact .inl e
          · exact .inr ⟨e, cells_has _ _ _ _ (.inl e)⟩
        · have fr := frm_call (funs := funs) (consts := consts) (excs := excs) (scope := scope) S rv rfl hok hlen rfl rfl x
          obtain ⟨h', tk, rfl, hkeep⟩ := x.done
          have a₁ : After P σ σ [] hp s { s with heap := h', toks := tk } := ⟨rfl, S.keep hkeep, grows_keep hkeep⟩
          obtain ⟨outer, hfr⟩ := ar.frames
          have ar' : Arnd n q (A.deeper (callEnvC (Calls.docDef f params body scope pm cd doc) s.heap.objs.size a)) :=
            ⟨⟨_, outer, Around.frames_deeper hfr, hgen, hco, rfl, rfl⟩, by have := ar.depth; show A.depth + 1 + n + 150 < _; omega, by have := ar.units; show A.units + 3 + 100 * n + 100 < _; omega, fun e => ar.handled e⟩
          have hbd : execSs ⟨q, semF prog n, fun x => prog.consts.lookup x, fuelOf⟩ xb (avs.map some ++ List.replicate ((slotNames (params.args.map (·.arg)) scope).length - (params.args.map (·.arg)).length) none) hp ≠ .bad := fun e => by
            rw [e] at hb; exact hb rfl
          refine wpAny_mono (simSs_of body xb hxb ⟨q, semF prog n, fun x => prog.consts.lookup x, fuelOf⟩ n _ _ σ _ hp _ ⟨ok, ih, hg⟩ ⟨a₁.st, fr, ar', trivial⟩ hbd) (fun fl s' Q => ?_) (fun e s' Q => ?_)
          · obtain ⟨fl', l', hp', σ', e, a₂, rf, _⟩ := Q
            rw [e] at hb ⊢
            have hout : ∀ b ∈ FX (callEnvC (Calls.docDef f params body scope pm cd doc) s.heap.objs.size a), b ∈ ([] : List Addr) ∨ s.heap.get? b = none := fun b hb => .inr <| by
              have hge : s.heap.objs.size ≤ b := by
                simp only [FX, List.mem_cons, List.mem_map] at hb
                rcases hb with rfl | ⟨p, hp, rfl⟩
                · exact Nat.le_refl _
                · exact Nat.le_of_lt (x.above p.1 p.2 hp)
              cases hq : s.heap.get? b with
              | none => rfl
              | some o => exact absurd (Heap.lt_size hq) (Nat.not_lt.mpr hge)
            have a₃ := a₁.toX.trans a₂
            have a₄ : After P σ σ' [] hp' s s' := ⟨a₃.ctl, a₃.st, a₃.gr.drop hout⟩
            cases fl' with
            | next => simp only [RF] at rf; subst rf; exact ⟨_, _, _, rfl, a₄, rfl⟩
            | cont => exact absurd rfl hb
            | ret av => obtain ⟨v, rfl, rv'⟩ := rf; exact ⟨_, _, _, rfl, a₄, rv'⟩
          · obtain ⟨c', l', hp', σ', e', _⟩ := Q
            rw [e'] at hb
            exact absurd rfl hb
      · exact absurd rfl hb
end
end Mine

namespace Mine
open PySem PySem.Spec PySem.W PyProof.Rows PySem.SeqAt

/-- the plain constants at the top -/
noncomputable def cstsOf (p : Program) : List (Str × AV) := ((valNames p).filter fun x => !startupNames.contains x).filterMap fun x => match valOf p x with
  | some (.int i) => some (x, .int i)
  | some (.str s) => some (x, .str s.cps.toList)
  | _ => none
noncomputable def compFuns (p : Program) (funs consts excs : List Str) : List Str → Option (List (Str × FDef))
  | [] => some []
  | f :: r => match (recsOf p).find? (fun d => d.name == f) with
    | none => none
    | some d => match compDef funs consts excs d.params d.body d.scope, compFuns p funs consts excs r with
      | some x, some xs => some ((f, x) :: xs)
      | _, _ => none
noncomputable def compView (p : Program) (funs excs : List Str) : Option Prog :=
  match compFuns p funs ((cstsOf p).map (·.1)) excs funs with
  | some ds => some ⟨ds, cstsOf p⟩
  | none => none

theorem compFuns_at {p : Program} {funs consts excs : List Str} : ∀ {fs : List Str} {ds : List (Str × FDef)}, compFuns p funs consts excs fs = some ds → ∀ f ∈ fs, ∃ d ∈ recsOf p, d.name = f ∧ ∃ x, compDef funs consts excs d.params d.body d.scope = some x ∧ ds.lookup f = some x
  | [], _, _, _, h => nomatch h
  | g :: r, ds, h, f, hf => by
    unfold compFuns at h
    split at h
    · cases h
    · rename_i d hd
      split at h
      · rename_i x xs hx hxs
        cases h
        have hn : d.name = g := by simpa using List.find?_some hd
        by_cases e : f = g
        · subst e
          exact ⟨d, List.mem_of_find?_eq_some hd, hn, x, hx, by simp⟩
        · have hf' : f ∈ r := by
            rcases List.mem_cons.mp hf with h | h
            · exact absurd h e
            · exact h
          obtain ⟨d', h1, h2, x', h3, h4⟩ := compFuns_at hxs f hf'
          refine ⟨d', h1, h2, x', h3, ?_⟩
          have : (f == g) = false := beq_eq_false_iff_ne.mpr e
          simp only [List.lookup, this, h4]
      · cases h

theorem bootB : ∀ x v, (x, v) ∈ bltPairs → bootBuiltins x = some v ∧ x ≠ "__name__" := by
  intro x v h
  simp only [bltPairs, List.mem_cons, Prod.mk.injEq, List.not_mem_nil, or_false] at h
  rcases h with ⟨rfl, rfl⟩ | ⟨rfl, rfl⟩ | ⟨rfl, rfl⟩ | ⟨rfl, rfl⟩ | ⟨rfl, rfl⟩ | ⟨rfl, rfl⟩ | ⟨rfl, rfl⟩ | ⟨rfl, rfl⟩ | ⟨rfl, rfl⟩ | ⟨rfl, rfl⟩ | ⟨rfl, rfl⟩ | ⟨rfl, rfl⟩ | ⟨rfl, rfl⟩ <;> exact ⟨by rfl, by decide⟩

noncomputable def freeOk (p : Program) (loose : List Str) : Bool := bltPairs.all fun x => !startupNames.contains x.1 && !loose.contains x.1 && !((recsOf p).map (·.name)).contains x.1 && !((litsOf p).map (·.1)).contains x.1 && !((clssOf p loose).map (·.name)).contains x.1

section
variable {prog view : Program} {loose : List Str} {mean : ExcName → Option Value} {w : World} {mg mb : Str → Option Value} {h : Heap}

theorem ok_of_top (T : Top view loose mean mg mb h) (hi : importsNone view = true) (ht : prog.given.tree = none) (hf : freeOk view loose = true) (nests : Addr) (exc : Str → Addr) : Par.Ok ⟨prog, w, ⟨h, nests, exc⟩, mg, mb⟩ := by
  refine ⟨fun x v hm => ?_, T.g, T.b, T.nolimit, T.seer hi, ht, ?_⟩
  · obtain ⟨h1, h2⟩ := bootB x v hm
    have := List.all_eq_true.mp hf _ hm
    simp only [Bool.and_eq_true, Bool.not_eq_true', List.contains_eq_mem, decide_eq_false_iff_not] at this
    obtain ⟨⟨⟨⟨a, b⟩, c⟩, d⟩, e⟩ := this
    exact ⟨T.free x a b c d e, (T.builtins x h2).trans h1⟩
  · obtain ⟨mm, ⟨o, _, _, ho, _⟩, _⟩ := (T.seer hi).mods
    exact ⟨o, ho⟩

theorem fns_of_top (T : Top view loose mean mg mb h) {funs excs : List Str} {pr : Prog} (hc : compView view funs excs = some pr) (nests : Addr) (exc : Str → Addr) :
    (∀ f, funs.contains f = true → FnAt ⟨prog, w, ⟨h, nests, exc⟩, mg, mb⟩ pr funs ((cstsOf view).map (·.1)) excs f) ∧
    (∀ x, ((cstsOf view).map (·.1)).contains x = true → ∃ v av, mg x = some v ∧ pr.consts.lookup x = some av ∧ ∀ h' σ, RV ⟨h, nests, exc⟩ h' σ av v) := by
  unfold compView at hc
  split at hc
  · rename_i ds hds
    cases hc
    refine ⟨fun f hf => ?_, fun x hx => ?_⟩
    · obtain ⟨d, hd, rfl, x, hx, hl⟩ := compFuns_at hds f (by simpa using hf)
      obtain ⟨a, o, pm, code, doc, h1, h2, h3, h4⟩ := T.fn d hd
      exact ⟨⟨a, o, d.params, d.body, d.scope, pm, code, doc, x, h1, h2, h3, h4, hl, hx⟩⟩
    · have hx' : x ∈ (cstsOf view).map (·.1) := by simpa using hx
      have : ∃ av, (cstsOf view).lookup x = some av := by
        cases hq : (cstsOf view).lookup x with
        | some av => exact ⟨av, rfl⟩
        | none =>
          obtain ⟨p, hp, e⟩ := List.mem_map.mp hx'
          have := List.lookup_eq_none_iff.mp hq p hp
          simp [e] at this
      obtain ⟨av, hav⟩ := this
      have hm := mem_of_lookup' hav
      unfold cstsOf at hm
      obtain ⟨y, hy, hyv⟩ := List.mem_filterMap.mp hm
      split at hyv
      · rename_i i hv
        cases hyv
        obtain ⟨v, hmg, hr⟩ := T.const _ _ hv
        refine ⟨v, _, hmg, hav, fun h' σ => ?_⟩
        cases hr h'
        exact ⟨_, rfl⟩
      · rename_i s hv
        cases hyv
        obtain ⟨v, hmg, hr⟩ := T.const _ _ hv
        refine ⟨v, _, hmg, hav, fun h' σ => ?_⟩
        cases hr h'
        exact ⟨_, rfl⟩
      · cases hyv
  · cases hc

theorem ris_of : ∀ {vs : List Value} {xs : List Int}, IntsAre vs xs → RIs xs vs
  | _, _, .nil => by simp [RIs]
  | _, _, .cons n t r => ⟨⟨t, rfl⟩, ris_of r⟩

/-- the law's call, from its caller -/
theorem law_call (T : Top view loose mean mg mb h) {s₁ : Shared} (hs : s₁.heap = h) (hi : importsNone view = true) (ht : prog.given.tree = none) (hf : freeOk view loose = true) {funs excs : List Str} {pr : Prog} (hc : compView view funs excs = some pr)
    (hl : funs.contains "law" = true) {fa : Addr} (hfa : mg "law" = some (.ref fa)) {a : Addr} {vs : List Value} {xs : List Int} (hL : h.IsList a vs.toArray) (hI : IntsAre vs xs) {hp : AHeap}
    (hrun : semF pr 16 false "law" [.scr xs] [] = .ok (.bool true) hp) {Q : Value → Shared → Prop} {E : Value → Shared → Prop}
    (k : ∀ s', (∀ b o, s₁.heap.get? b = some o → s'.heap.get? b = some o) → s'.os = s₁.os → s'.gens = s₁.gens → Q (.bool true) s') :
    wpAny (model prog w) callerA (call (.ref fa) [.ref a]) Q E s₁ := by
  subst hs
  let P : Par := ⟨prog, w, ⟨s₁.heap, 0, fun _ => 0⟩, mg, mb⟩
  have ok : P.Ok := ok_of_top T hi ht hf 0 fun _ => 0
  obtain ⟨h1, h2⟩ := fns_of_top (prog := prog) (w := w) T hc 0 fun _ => 0
  obtain ⟨fa', o, fd, e1, e2, e3, hcall⟩ := semF_sim (P := P) ok h1 h2 16 false 0 "law" hl
  have : fa' = fa := by
    have e1' : mg "law" = some (.ref fa') := e1
    rw [hfa] at e1'; cases e1'; rfl
  subst this
  have S : St P.w P.B [] [] s₁.heap := ⟨rfl, by simp, fun n a off o e => by simp at e, fun b o e => e, fun p hp => nomatch hp⟩
  have rv : RVs P.B s₁.heap [] [.scr xs] [.ref a] := by
    simp only [RVs, RV, and_true]
    exact ⟨a, _, rfl, hL, by simpa using ris_of hI⟩
  refine wpAny_mono (hcall false [.scr xs] [.ref a] [] [] s₁ callerA S trivial rv ⟨⟨[], rfl⟩, by decide, by decide, fun _ => rfl⟩ (by show semF pr 16 false "law" _ _ ≠ _; rw [hrun]; simp)) (fun v s' q => ?_) (fun e s' q => ?_)
  · obtain ⟨av, hp', σ', er, af, r⟩ := q
    have er' : semF pr 16 false "law" [.scr xs] [] = .ok av hp' := er
    rw [hrun] at er'
    cases er'
    simp only [RV] at r
    subst r
    exact k s' af.st.base (by rw [af.ctl]) (by rw [af.ctl])
  · obtain ⟨c, hp', σ', er, _⟩ := q
    have er' : semF pr 16 false "law" [.scr xs] [] = .ex c hp' := er
    rw [hrun] at er'
    cases er'
end
end Mine

namespace Mine
open PySem

/-! equations that run the small language -/
noncomputable def SR.seq (r : SR) (k : Locs → AHeap → SR) : SR := match r with
  | .ok .next l h => k l h
  | r => r
noncomputable def condS (v : AV) (x y : SR) : SR := match v with
  | .bool true => x
  | .bool false => y
  | _ => .bad
noncomputable def condV (v : AV) (x y : Res AV) : Res AV := match v with
  | .bool true => x
  | .bool false => y
  | _ => .bad
noncomputable def optB (o : Option Bool) (h : AHeap) : Res AV := match o with
  | some r => .ok (.bool r) h
  | none => .bad
noncomputable def cmp2V (o : Option Bool) (h : AHeap) (k : Res AV) : Res AV := match o with
  | some true => k
  | some false => .ok (.bool false) h
  | none => .bad
noncomputable def notAV (v : AV) (h : AHeap) : Res AV := match v with
  | .bool b => .ok (.bool !b) h
  | _ => .bad
noncomputable def optV (o : Option AV) (h : AHeap) : Res AV := match o with
  | some r => .ok r h
  | none => .bad
noncomputable def locV (o : Option (Option AV)) (h : AHeap) : Res AV := match o with
  | some (some r) => .ok r h
  | _ => .bad
noncomputable def retR (r : SR) : Res AV := match r with
  | .ok (.ret v) _ h => .ok v h
  | .ok .next _ h => .ok .none h
  | .ok .cont _ _ => .bad
  | .ex _ _ _ => .bad
  | .bad => .bad
section
variable {α β : Type} {a : α} {h : AHeap} {l : Locs} {c : Ctx}
theorem bok {f : α → AHeap → Res β} : (Res.ok a h).bind f = f a h := rfl
theorem sok {f : α → AHeap → SR} : (Res.ok a h).st l f = f a h := rfl
theorem seq_next {k : Locs → AHeap → SR} : (SR.ok .next l h).seq k = k l h := rfl
theorem seq_ret {k : Locs → AHeap → SR} {v : AV} : (SR.ok (.ret v) l h).seq k = .ok (.ret v) l h := rfl
theorem seq_cont {k : Locs → AHeap → SR} : (SR.ok .cont l h).seq k = .ok .cont l h := rfl
theorem cond_t {x y : SR} : condS (.bool true) x y = x := rfl
theorem cond_f {x y : SR} : condS (.bool false) x y = y := rfl
theorem condV_t {x y : Res AV} : condV (.bool true) x y = x := rfl
theorem condV_f {x y : Res AV} : condV (.bool false) x y = y := rfl
theorem condS_if {p : Prop} [Decidable p] {x y : SR} : condS (.bool (decide p)) x y = if p then x else y := by
  by_cases hp : p <;> simp [hp, condS]
theorem optB_some {b : Bool} : optB (some b) h = .ok (.bool b) h := rfl
theorem optV_some {b : AV} : optV (some b) h = .ok b h := rfl
theorem locV_some {b : AV} : locV (some (some b)) h = .ok b h := rfl
theorem notAV_bool {b : Bool} : notAV (.bool b) h = .ok (.bool !b) h := rfl
theorem retR_ret {v : AV} : retR (.ok (.ret v) l h) = .ok v h := rfl
theorem retR_next : retR (.ok .next l h) = .ok .none h := rfl

theorem ss_nil : execSs c .nil l h = .ok .next l h := by rw [execSs]
theorem ss_cons {s : S} {r : Ss} : execSs c (.cons s r) l h = (execS c s l h).seq fun l h => execSs c r l h := by rw [execSs]; rfl
theorem s_expr {x : X} : execS c (.expr x) l h = (evalX c x l h).st l fun _ h => .ok .next l h := by rw [execS]
theorem s_ret {x : X} : execS c (.ret x) l h = (evalX c x l h).st l fun v h => .ok (.ret v) l h := by rw [execS]
theorem s_asg {i : Nat} {x : X} : execS c (.asg (.one i) x) l h = (evalX c x l h).st l fun v h => .ok .next (l.set i (some v)) h := by rw [execS]; rfl
theorem s_iff {t : X} {x y : Ss} : execS c (.iff t x y) l h = (evalX c t l h).st l fun v h => condS v (execSs c x l h) (execSs c y l h) := by rw [execS]; rfl
theorem s_for {i : Nat} {it : X} {b : Ss} (hq : c.q = false) : execS c (.forr (.one i) it b) l h = (evalX c it l h).st l fun src h => forLoop (.one i) (fun l h => execSs c b l h) src (epochOf src h) c.fuel 0 l h := by
  rw [execS, hq]; rfl
theorem s_cont : execS c .cont l h = .ok .cont l h := by rw [execS]
theorem s_pass : execS c .pass l h = .ok .next l h := by rw [execS]
theorem x_none : evalX c .none l h = .ok .none h := by rw [evalX]
theorem x_bool {b : Bool} : evalX c (.bool b) l h = .ok (.bool b) h := by rw [evalX]
theorem x_int {b : Int} : evalX c (.int b) l h = .ok (.int b) h := by rw [evalX]
theorem x_str {b : List Nat} : evalX c (.str b) l h = .ok (.str b) h := by rw [evalX]
theorem x_loc {i : Nat} : evalX c (.loc i) l h = locV l[i]? h := by rw [evalX]; rfl
theorem x_glob {x : Str} : evalX c (.glob x) l h = optV (c.G x) h := by rw [evalX]; rfl
theorem x_bin {op : BOp} {x y : X} : evalX c (.bin op x y) l h = (evalX c x l h).bind fun x h => (evalX c y l h).bind fun y h => binAV op x y h := by rw [evalX]
theorem x_neg {x : X} : evalX c (.neg x) l h = (evalX c x l h).bind negAV := by rw [evalX]
theorem x_not {x : X} : evalX c (.not x) l h = (evalX c x l h).bind notAV := by rw [evalX]; rfl
theorem x_and {x y : X} : evalX c (.and x y) l h = (evalX c x l h).bind fun v h => condV v (evalX c y l h) (.ok (.bool false) h) := by rw [evalX]; rfl
theorem x_or {x y : X} : evalX c (.or x y) l h = (evalX c x l h).bind fun v h => condV v (.ok (.bool true) h) (evalX c y l h) := by
  rw [evalX]; congr 1; funext v h
  cases v <;> try rfl
  rename_i b; cases b <;> rfl
theorem x_cmp {op : COp} {x y : X} : evalX c (.cmp op x y) l h = (evalX c x l h).bind fun x h => (evalX c y l h).bind fun y h => optB (cmpAV h op x y) h := by rw [evalX]; rfl
theorem cmp2V_t {k : Res AV} : cmp2V (some true) h k = k := rfl
theorem cmp2V_f {k : Res AV} : cmp2V (some false) h k = .ok (.bool false) h := rfl
theorem x_cmp2 {o1 o2 : COp} {x y z : X} : evalX c (.cmp2 o1 o2 x y z) l h = (evalX c x l h).bind fun x h => (evalX c y l h).bind fun y h => cmp2V (cmpAV h o1 x y) h ((evalX c z l h).bind fun z h => optB (cmpAV h o2 y z) h) := by rw [evalX]; rfl
theorem x_call {f : Str} {as : Xs} : evalX c (.call f as) l h = (evalXs c as l h).bind fun vs h => c.F c.q f vs h := by rw [evalX]
theorem x_len {as : Xs} : evalX c (.bi .len as) l h = (evalXs c as l h).bind fun vs h => biAV .len vs h := by rw [evalX]; rfl
theorem x_isi {x : X} {t : Ty} (ht : plainTy t = true) : evalX c (.isi x [t]) l h = (evalX c x l h).bind fun v h => optB (isTy h v t) h := by
  rw [evalX, if_neg (by simp [tysSup, ht])]; rfl
theorem x_append {o : X} {as : Xs} : evalX c (.bm .append o as) l h = (evalX c o l h).bind fun v h => if bmOk .append v h then (evalXs c as l h).bind fun vs h => bmAV .append v vs h else .bad := by rw [evalX]; rfl
theorem x_index {o : X} {as : Xs} : evalX c (.bm .index o as) l h = (evalX c o l h).bind fun v h => if bmOk .index v h then (evalXs c as l h).bind fun vs h => bmAV .index v vs h else .bad := by rw [evalX]; rfl
theorem x_sub {x y : X} : evalX c (.sub x y) l h = (evalX c x l h).bind fun x h => (evalX c y l h).bind fun y h => subAV x y h := by rw [evalX]
theorem x_slice {x y z : X} : evalX c (.slice x y z) l h = (evalX c x l h).bind fun x h => (evalX c y l h).bind fun y h => (evalX c z l h).bind fun z h => sliceAV x y z h := by rw [evalX]
theorem x_list {as : Xs} : evalX c (.list as) l h = (evalXs c as l h).bind fun vs h => newList vs h := by rw [evalX]
theorem x_range {as : Xs} : evalX c (.range as) l h = (evalXs c as l h).bind fun vs h => optV (rangeOf vs) h := by rw [evalX]; rfl
theorem xs_nil : evalXs c .nil l h = .ok [] h := by rw [evalXs]
theorem xs_cons {x : X} {xs : Xs} : evalXs c (.cons x xs) l h = (evalX c x l h).bind fun v h => (evalXs c xs l h).bind fun vs h => .ok (v :: vs) h := by rw [evalXs]

theorem b_add {x y : Int} : binAV .add (.int x) (.int y) h = .ok (.int (x + y)) h := rfl
theorem b_sub {x y : Int} : binAV .sub (.int x) (.int y) h = .ok (.int (x - y)) h := rfl
theorem b_mulL {x y : Int} (hx : x.natAbs < 2 ^ 64) : binAV .mul (.int x) (.int y) h = .ok (.int (x * y)) h := by
  have : mulOk x y = true := by simp only [mulOk, Bool.or_eq_true, decide_eq_true_eq]; exact .inl hx
  simp only [binAV, binI, this, if_true]
theorem b_mulR {x y : Int} (hx : y.natAbs < 2 ^ 64) : binAV .mul (.int x) (.int y) h = .ok (.int (x * y)) h := by
  have : mulOk x y = true := by simp only [mulOk, Bool.or_eq_true, decide_eq_true_eq]; exact .inr hx
  simp only [binAV, binI, this, if_true]
theorem b_div {x y : Int} (hy : y ≠ 0) : binAV .div (.int x) (.int y) h = .ok (.int (x.fdiv y)) h := by simp only [binAV, binI]; rw [if_neg hy]
theorem b_mod {x y : Int} (hy : y ≠ 0) : binAV .mod (.int x) (.int y) h = .ok (.int (x.fmod y)) h := by simp only [binAV, binI]; rw [if_neg hy]
theorem b_adds {x y : List Nat} (hl : x.length + y.length ≤ sizeLim) : binAV .add (.str x) (.str y) h = .ok (.str (x ++ y)) h := by simp only [binAV, addS]; rw [if_pos hl]
theorem c_lt {x y : Int} : cmpAV h .lt (.int x) (.int y) = some (decide (x < y)) := rfl
theorem c_le {x y : Int} : cmpAV h .le (.int x) (.int y) = some (decide (x ≤ y)) := rfl
theorem c_gt {x y : Int} : cmpAV h .gt (.int x) (.int y) = some (decide (y < x)) := rfl
theorem c_ge {x y : Int} : cmpAV h .ge (.int x) (.int y) = some (decide (y ≤ x)) := rfl
theorem c_eqi {x y : Int} : cmpAV h .eq (.int x) (.int y) = some (decide (x = y)) := rfl
theorem c_nei {x y : Int} : cmpAV h .ne (.int x) (.int y) = some (!decide (x = y)) := rfl
theorem c_eqb {x y : Bool} : cmpAV h .eq (.bool x) (.bool y) = some (x == y) := rfl
theorem c_neb {x y : Bool} : cmpAV h .ne (.bool x) (.bool y) = some (!(x == y)) := rfl
theorem c_eqs {x y : List Nat} : cmpAV h .eq (.str x) (.str y) = some (decide (x = y)) := rfl
theorem c_in1 {x : Nat} {y : List Nat} : cmpAV h .isin (.str [x]) (.str y) = some (decide (x ∈ y)) := rfl
theorem c_notin1 {x : Nat} {y : List Nat} : cmpAV h .notin (.str [x]) (.str y) = some (!decide (x ∈ y)) := rfl
theorem len_str {x : List Nat} (hl : x.length ≤ sizeLim) : biAV .len [.str x] h = .ok (.int x.length) h := by simp only [biAV, lenAV]; rw [if_pos hl]
theorem len_scr {x : List Int} (hl : x.length ≤ sizeLim) : biAV .len [.scr x] h = .ok (.int x.length) h := by simp only [biAV, lenAV]; rw [if_pos hl]
theorem idx_nat {γ : Type} {xs : List γ} {k : Int} (hk : 0 ≤ k) : idx? xs k = xs[k.toNat]? := by unfold idx?; rw [if_pos hk]
theorem sub_str {x : List Nat} {k : Int} {d : Nat} (hl : x.length ≤ sizeLim) (hk : 0 ≤ k) (hd : x[k.toNat]? = some d) : subAV (.str x) (.int k) h = .ok (.str [d]) h := by
  simp only [subAV]; rw [if_pos hl, idx_nat hk, hd]
theorem sub_scr {x : List Int} {k : Int} {d : Int} (hl : x.length ≤ sizeLim) (hk : 0 ≤ k) (hd : x[k.toNat]? = some d) : subAV (.scr x) (.int k) h = .ok (.int d) h := by
  simp only [subAV]; rw [if_pos hl, idx_nat hk, hd]
theorem sub_list {n : Nat} {x : List AV} {k : Int} {d : AV} (hh : h[n]? = some (.list x)) (hk : 0 ≤ k) (hd : x[k.toNat]? = some d) : subAV (.loc n) (.int k) h = .ok d h := by
  simp only [subAV, hh, idx_nat hk, hd]
theorem index_str {x : List Nat} {d i : Nat} (hi : x.findIdx? (· == d) = some i) : bmAV .index (.str x) [.str [d]] h = .ok (.int i) h := by simp only [bmAV, indexAV, hi]
theorem slice_hi {x : List Nat} {k : Int} (hl : x.length ≤ sizeLim) : sliceAV (.str x) .none (.int k) h = .ok (.str (cutList x 0 k)) h := by
  simp only [sliceAV]; rw [if_pos hl]; rfl
theorem slice_lo {x : List Nat} {k : Int} (hl : x.length ≤ sizeLim) : sliceAV (.str x) (.int k) .none h = .ok (.str (cutList x k x.length)) h := by
  simp only [sliceAV]; rw [if_pos hl]; rfl
theorem newList_ok {vs : List AV} (hl : vs.length ≤ sizeLim) : newList vs h = .ok (.loc h.length) (h ++ [.list vs]) := by
  unfold newList; rw [if_pos hl]
theorem get_new {o : AObj} : (h ++ [o])[h.length]? = some o := by simp
theorem bmOk_str {x : List Nat} : bmOk .index (.str x) h = true := rfl
end
theorem run_def {c : Ctx} {d : FDef} {as : List AV} {h : AHeap} (hl : as.length = d.params) : runDef c d as h = retR (execSs c d.body (as.map some ++ List.replicate (d.slots - d.params) none) h) := by
  unfold runDef; rw [if_pos hl]; rfl
end Mine

namespace Mine
open PySem

theorem forLoop_inv {i : Nat} {body : Locs → AHeap → SR} {src : AV} {e : Option Nat} {items : List AV} (I : Nat → Locs → AHeap → Prop) (R : AV → AHeap → Prop)
    (hn : ∀ k l h, I k l h → nextAt src e k h = some items[k]?)
    (step : ∀ k v l h, items[k]? = some v → I k l h → ∃ fl l' h', body (l.set i (some v)) h = .ok fl l' h' ∧ (((fl = .next ∨ fl = .cont) ∧ I (k + 1) l' h') ∨ ∃ r, fl = .ret r ∧ R r h')) :
    ∀ f k l h, items.length < f + k → k ≤ items.length → I k l h →
      (∃ l' h', forLoop (.one i) body src e f k l h = .ok .next l' h' ∧ I items.length l' h') ∨ ∃ r l' h', forLoop (.one i) body src e f k l h = .ok (.ret r) l' h' ∧ R r h'
  | 0, k, l, h, h1, h2, _ => by omega
  | f + 1, k, l, h, h1, h2, hI => by
    unfold forLoop
    rw [hn k l h hI]
    by_cases hk : k < items.length
    · obtain ⟨fl, l', h', hb, hc⟩ := step k items[k] l h (List.getElem?_eq_getElem hk) hI
      rw [List.getElem?_eq_getElem hk]
      simp only [setTgt, hb]
      rcases hc with ⟨hfl, hI'⟩ | ⟨r, rfl, hR⟩
      · rcases hfl with rfl | rfl
        · exact forLoop_inv I R hn step f (k + 1) l' h' (by omega) (by omega) hI'
        · exact forLoop_inv I R hn step f (k + 1) l' h' (by omega) (by omega) hI'
      · exact .inr ⟨r, l', h', rfl, hR⟩
    · have e : k = items.length := by omega
      subst e
      rw [List.getElem?_eq_none (Nat.le_refl _)]
      exact .inl ⟨l, h, rfl, hI⟩

/-- a loop that runs through -/
theorem forLoop_all {i : Nat} {body : Locs → AHeap → SR} {src : AV} {e : Option Nat} {items : List AV} (I : Nat → Locs → AHeap → Prop)
    (hn : ∀ k l h, I k l h → nextAt src e k h = some items[k]?)
    (step : ∀ k v l h, items[k]? = some v → I k l h → ∃ fl l' h', body (l.set i (some v)) h = .ok fl l' h' ∧ (fl = .next ∨ fl = .cont) ∧ I (k + 1) l' h')
    {f : Nat} {l : Locs} {h : AHeap} (hf : items.length < f) (hI : I 0 l h) : ∃ l' h', forLoop (.one i) body src e f 0 l h = .ok .next l' h' ∧ I items.length l' h' := by
  rcases forLoop_inv I (fun _ _ => False) hn (fun k v l h e hI => let ⟨fl, l', h', a, b, c⟩ := step k v l h e hI; ⟨fl, l', h', a, .inl ⟨b, c⟩⟩) f 0 l h (by omega) (by omega) hI with h1 | ⟨_, _, _, _, h1⟩
  · exact h1
  · exact h1.elim

abbrev Prog.has (p : Prog) (f : Str) (d : FDef) : Prop := p.defs.lookup f = some d
theorem semF_at {p : Prog} {n : Nat} {q : Bool} {f : Str} {as : List AV} {h : AHeap} {d : FDef} (hl : p.has f d) : semF p (n + 1) q f as h = runDef ⟨q, semF p n, fun x => p.consts.lookup x, fuelOf⟩ d as h := by
  have : p.defs.lookup f = some d := hl
  simp only [semF, this]

theorem run_at {p : Prog} {n : Nat} {q : Bool} {f : Str} {as : List AV} {h : AHeap} {d : FDef} (hl : p.has f d) (ha : as.length = d.params) :
    ∃ F, 50000 ≤ F ∧ semF p (n + 1) q f as h = retR (execSs ⟨q, semF p n, fun x => p.consts.lookup x, F⟩ d.body (as.map some ++ List.replicate (d.slots - d.params) none) h) :=
  ⟨fuelOf, by unfold fuelOf; omega, by rw [semF_at hl, run_def ha]⟩

theorem epoch_str {x : List Nat} {h : AHeap} : epochOf (.str x) h = none := rfl
theorem epoch_rng {a b c : Int} {h : AHeap} : epochOf (.rng a b c) h = none := rfl
theorem epoch_scr {x : List Int} {h : AHeap} : epochOf (.scr x) h = none := rfl
theorem next_str {x : List Nat} {k : Nat} {h : AHeap} : nextAt (.str x) none k h = some (x.map fun c => AV.str [c])[k]? := by
  simp [nextAt, itemsAV, epochOf]
theorem next_rng {b : Int} {k : Nat} {h : AHeap} (hb : b.natAbs ≤ sizeLim) : nextAt (.rng 0 b 1) none k h = some (rngItems 0 b 1)[k]? := by
  simp [nextAt, itemsAV, epochOf, hb]
theorem rng_up (b : Int) : rngItems 0 b 1 = (List.range b.toNat).map fun (k : Nat) => AV.int k := by
  simp [rngItems, rngLen]

noncomputable def cellAt (xs : List Int) (k : Nat) : Int := xs.getD k 0
noncomputable def mixF (c k : Int) : Int := ((c + 7919 * k + 11) * 48271).fmod 2147483647
noncomputable def mixed (c k : Int) : Int := (mixF c k * mixF c k + 40692 * mixF c k).fmod 2147483399
noncomputable def signs : List Nat := [97, 98, 99, 100, 101, 102, 103, 104, 105, 106, 107, 108, 109, 110, 111, 112, 113, 114, 115, 116, 117, 118, 119, 120, 121, 122, 48, 49, 50, 51, 52, 53, 54, 55, 56, 57]
noncomputable def signAt (c : Int) (k : Nat) : Nat := signs.getD (((mixed c k).fdiv 31).fmod 36).toNat 97
noncomputable def textF (c : Int) (n : Nat) : List Nat := (List.range n).map (signAt c)

theorem fmod_bound (a : Int) {m : Int} (hm : 0 < m) : 0 ≤ a.fmod m ∧ a.fmod m < m := by
  rw [Int.fmod_eq_emod_of_nonneg _ (Int.le_of_lt hm)]
  exact ⟨Int.emod_nonneg _ (Int.ne_of_gt hm), Int.emod_lt_of_pos _ hm⟩
theorem mixed_bound (c k : Int) : 0 ≤ mixed c k ∧ mixed c k < 2147483399 := fmod_bound _ (by decide)
theorem fdiv_nonneg' {a b : Int} (ha : 0 ≤ a) (hb : 0 < b) : 0 ≤ a.fdiv b := by
  rw [Int.fdiv_eq_ediv_of_nonneg _ (Int.le_of_lt hb)]
  exact Int.ediv_nonneg ha (Int.le_of_lt hb)
theorem signAt_mem (c : Int) (k : Nat) : signAt c k ∈ signs := by
  unfold signAt
  rw [List.getD_eq_getElem?_getD]
  cases h : signs[(((mixed c k).fdiv 31).fmod 36).toNat]? with
  | none => simp [signs]
  | some x => exact List.mem_of_getElem? h
theorem textF_length (c : Int) (n : Nat) : (textF c n).length = n := by simp [textF]
theorem textF_mem {c : Int} {n : Nat} {x : Nat} (h : x ∈ textF c n) : x ∈ signs := by
  obtain ⟨k, _, rfl⟩ := List.mem_map.mp h
  exact signAt_mem c k

noncomputable def d_law_cell_at : FDef := ⟨2, 2,
  (.cons (.iff (.cmp .lt (.loc 1) (.bi .len (.cons (.loc 0) .nil)))
    (.cons (.ret (.sub (.loc 0) (.loc 1)))
    .nil)
    .nil)
  (.cons (.ret (.int 0))
  .nil))⟩
noncomputable def d_law_mixed : FDef := ⟨2, 3,
  (.cons (.asg (.one 2) (.bin .mod (.bin .mul (.bin .add (.bin .add (.loc 0) (.bin .mul (.int 7919) (.loc 1))) (.int 11)) (.int 48271)) (.int 2147483647)))
  (.cons (.ret (.bin .mod (.bin .add (.bin .mul (.loc 2) (.loc 2)) (.bin .mul (.int 40692) (.loc 2))) (.int 2147483399)))
  .nil))⟩
noncomputable def b_law_text_1 : Ss :=
  (.cons (.asg (.one 3) (.bin .add (.loc 3) (.sub (.loc 2) (.bin .mod (.bin .div (.call "_law_mixed" (.cons (.loc 0) (.cons (.loc 4) .nil))) (.int 31)) (.int 36)))))
  .nil)
noncomputable def d_law_text : FDef := ⟨2, 5,
  (.cons (.asg (.one 2) (.str signs))
  (.cons (.asg (.one 3) (.str []))
  (.cons (.forr (.one 4) (.range (.cons (.loc 1) .nil)) b_law_text_1)
  (.cons (.ret (.loc 3))
  .nil))))⟩

section
variable {p : Prog} {n : Nat} {q : Bool} {h : AHeap}

theorem run_cell_at (hp : p.has "_law_cell_at" d_law_cell_at) {xs : List Int} (hl : xs.length ≤ 63) (k : Nat) : semF p (n + 1) q "_law_cell_at" [.scr xs, .int k] h = .ok (.int (cellAt xs k)) h := by
  obtain ⟨F, hF, e⟩ := run_at (n := n) (q := q) (h := h) hp (as := [.scr xs, .int k]) rfl
  rw [e]
  have hs : xs.length ≤ sizeLim := Nat.le_trans hl (by decide)
  simp only [d_law_cell_at, ss_cons, ss_nil, s_iff, s_ret, x_cmp, x_loc, x_len, xs_cons, xs_nil, x_sub, x_int, List.map_cons, List.map_nil, List.cons_append, List.nil_append, List.getElem?_cons_zero, List.getElem?_cons_succ, locV_some, bok, sok, len_scr hs, c_lt, optB_some, condS_if]
  by_cases hk : k < xs.length
  · rw [if_pos (by omega), sub_scr hs (by omega) (d := cellAt xs k) (by simp [cellAt, hk]), sok, seq_ret, seq_ret, retR_ret]
  · rw [if_neg (by omega), seq_next, seq_ret, retR_ret, cellAt, List.getD_eq_getElem?_getD, List.getElem?_eq_none (by omega)]
    rfl

theorem run_mixed (hp : p.has "_law_mixed" d_law_mixed) (c k : Int) : semF p (n + 1) q "_law_mixed" [.int c, .int k] h = .ok (.int (mixed c k)) h := by
  obtain ⟨F, hF, e⟩ := run_at (n := n) (q := q) (h := h) hp (as := [.int c, .int k]) rfl
  rw [e]
  have hb := fmod_bound ((c + 7919 * k + 11) * 48271) (m := 2147483647) (by decide)
  have hm : ((c + 7919 * k + 11) * 48271).fmod 2147483647 = mixF c k := rfl
  rw [hm] at hb
  simp only [d_law_mixed, ss_cons, ss_nil, s_asg, s_ret, x_bin, x_loc, x_int, List.map_cons, List.map_nil, List.cons_append, List.nil_append, List.replicate, List.set, List.getElem?_cons_zero, List.getElem?_cons_succ, locV_some, bok, sok, b_add, b_mulL (x := 7919) (by decide), b_mulR (y := 48271) (by decide), b_mod (y := 2147483647) (by decide), seq_next, hm]
  rw [b_mulL (by omega), bok, b_mulL (by decide), bok, b_add, bok, b_mod (by decide), sok, seq_ret, retR_ret]
  rfl

theorem signs_len : signs.length = 36 := by decide
theorem signs_fit : signs.length ≤ sizeLim := by rw [signs_len]; unfold sizeLim; omega

theorem loop_text (hp : p.has "_law_mixed" d_law_mixed) (c : Int) (m : Nat) (hm : m ≤ 1000) {F f : Nat} (hf : m < f) :
    ∃ l' h', forLoop (.one 4) (fun l h => execSs ⟨false, semF p (n + 1), fun x => p.consts.lookup x, F⟩ b_law_text_1 l h) (.rng 0 m 1) none f 0 [some (.int c), some (.int m), some (.str signs), some (.str []), none] h = .ok .next l' h' ∧
      h' = h ∧ ∃ v4, l' = [some (.int c), some (.int m), some (.str signs), some (.str (textF c m)), v4] := by
  obtain ⟨l', h', e, hI⟩ := forLoop_all (i := 4) (src := .rng 0 m 1) (e := none) (items := rngItems 0 m 1)
    (body := fun l h => execSs ⟨false, semF p (n + 1), fun x => p.consts.lookup x, F⟩ b_law_text_1 l h)
    (fun k l h' => h' = h ∧ ∃ v4, l = [some (.int c), some (.int m), some (.str signs), some (.str (textF c k)), v4])
    (fun k l h' _ => next_rng (by simp only [sizeLim]; omega)) (fun k v l h' hv ⟨eh, v4, el⟩ => by
      subst eh; subst el
      rw [rng_up, List.getElem?_map] at hv
      obtain ⟨k', hk', rfl⟩ := Option.map_eq_some_iff.mp hv
      have hkk : k' = k := by
        rw [List.getElem?_range] at hk'
        · exact (Option.some.inj hk').symm
        · by_cases hlt : k < (m : Int).toNat
          · exact hlt
          · rw [List.getElem?_eq_none (by simpa using hlt)] at hk'; cases hk'
      subst hkk
      have hkm : k' < m := by
        have := List.getElem?_eq_some_iff.mp hk'
        simpa using this.1
      have hmb := mixed_bound c k'
      have h36 := fmod_bound ((mixed c k').fdiv 31) (m := 36) (by decide)
      have hidx : signs[(((mixed c k').fdiv 31).fmod 36).toNat]? = some (signAt c k') := by
        unfold signAt
        rw [List.getD_eq_getElem?_getD]
        have : (((mixed c k').fdiv 31).fmod 36).toNat < signs.length := by rw [signs_len]; omega
        rw [List.getElem?_eq_getElem this]; rfl
      refine ⟨.next, [some (.int c), some (.int m), some (.str signs), some (.str (textF c (k' + 1))), some (.int k')], h', ?_, .inl rfl, rfl, some (.int k'), rfl⟩
      have hlen : (textF c k').length + [signAt c k'].length ≤ sizeLim := by rw [textF_length, List.length_singleton]; unfold sizeLim; omega
      simp only [b_law_text_1, ss_cons, ss_nil, s_asg, x_bin, x_sub, x_loc, x_call, xs_cons, xs_nil, x_int, List.set, List.getElem?_cons_succ, List.getElem?_cons_zero, locV_some, bok, sok, run_mixed hp, b_div (y := 31) (by decide), b_mod (y := 36) (by decide), sub_str signs_fit h36.1 hidx, b_adds hlen, seq_next]
      simp [textF, List.range_succ]) (f := f) (l := [some (.int c), some (.int m), some (.str signs), some (.str []), none]) (h := h) (by
        rw [rng_up, List.length_map, List.length_range]; omega) ⟨rfl, none, by simp [textF]⟩
  refine ⟨l', h', e, ?_⟩
  rw [rng_up, List.length_map, List.length_range, Int.toNat_natCast] at hI
  exact hI

theorem run_text (hp : p.has "_law_mixed" d_law_mixed) (hp2 : p.has "_law_text" d_law_text) (c : Int) (m : Nat) (hm : m ≤ 1000) : semF p (n + 2) false "_law_text" [.int c, .int m] h = .ok (.str (textF c m)) h := by
  obtain ⟨F, hF, e⟩ := run_at (n := n + 1) (q := false) (h := h) hp2 (as := [.int c, .int m]) rfl
  rw [e]
  have hr : rangeOf [.int (m : Int)] = some (.rng 0 m 1) := by
    show (if (m : Int).natAbs ≤ sizeLim then _ else _) = _
    rw [if_pos (by unfold sizeLim; omega)]
  simp only [d_law_text, ss_cons, ss_nil, s_asg, s_ret, s_for, x_range, xs_cons, xs_nil, x_loc, x_str, List.map_cons, List.map_nil, List.cons_append, List.nil_append, List.replicate, List.set, List.getElem?_cons_zero, List.getElem?_cons_succ, locV_some, bok, sok, seq_next, hr, optV_some, epoch_rng]
  obtain ⟨l', h', e, rfl, v4, rfl⟩ := loop_text (n := n) (h := h) hp c m hm (F := F) (f := F) (by omega)
  rw [e, seq_next]
  simp only [List.getElem?_cons_succ, List.getElem?_cons_zero, locV_some, sok, seq_ret, retR_ret]
end
end Mine

namespace Mine
open PySem

noncomputable def b_is_name_1 : Ss :=
  (.cons (.iff (.cmp .notin (.loc 1) (.glob "SIGNS"))
    (.cons (.ret (.bool false))
    .nil)
    .nil)
  .nil)
noncomputable def d_is_name : FDef := ⟨1, 2,
  (.cons (.iff (.or (.not (.isi (.loc 0) [.str])) (.not (.cmp2 .le .le (.int 1) (.bi .len (.cons (.loc 0) .nil)) (.glob "MOST_SIGNS"))))
    (.cons (.ret (.bool false))
    .nil)
    .nil)
  (.cons (.forr (.one 1) (.loc 0) b_is_name_1)
  (.cons (.ret (.bool true))
  .nil)))⟩
noncomputable def b_home_1 : Ss :=
  (.cons (.asg (.one 3) (.bin .mod (.bin .add (.bin .add (.bin .mul (.loc 3) (.loc 1)) (.bm .index (.glob "SIGNS") (.cons (.loc 4) .nil))) (.int 1)) (.loc 2)))
  .nil)
noncomputable def d_home : FDef := ⟨3, 5,
  (.cons (.asg (.one 3) (.int 0))
  (.cons (.forr (.one 4) (.loc 0) b_home_1)
  (.cons (.ret (.loc 3))
  .nil)))⟩
noncomputable def d_law_spoilt : FDef := ⟨2, 5,
  (.cons (.asg (.one 2) (.str [32, 33, 34, 35, 36, 38, 39, 40, 41, 42, 43, 44, 45, 46, 47, 58, 59, 60, 61, 62, 63, 64, 65, 66, 67, 68, 69, 70, 71, 72, 73, 74, 75, 76, 77, 78, 79, 80, 81, 82, 83, 84, 85, 86, 87, 88, 89, 90, 91, 92, 93, 94, 95, 96, 123, 124, 125, 126, 10, 9]))
  (.cons (.asg (.one 3) (.bin .mod (.loc 1) (.bin .add (.bi .len (.cons (.loc 0) .nil)) (.int 1))))
  (.cons (.asg (.one 4) (.sub (.loc 2) (.bin .mod (.bin .div (.loc 1) (.int 17)) (.bi .len (.cons (.loc 2) .nil)))))
  (.cons (.ret (.bin .add (.bin .add (.slice (.loc 0) .none (.loc 3)) (.loc 4)) (.slice (.loc 0) (.bin .add (.loc 3) (.bin .mod (.bin .div (.loc 1) (.int 1700)) (.int 2))) .none)))
  .nil))))⟩
noncomputable def d_law_of : FDef := ⟨2, 2,
  (.cons (.ret (.sub (.list (.cons (.int 1) (.cons (.int 2) (.cons (.loc 1) (.cons (.bin .add (.int 1) (.bin .mod (.bin .div (.loc 0) (.int 5)) (.loc 1))) (.cons (.bin .add (.int 1) (.bin .mod (.bin .div (.loc 0) (.int 5)) (.loc 1))) .nil)))))) (.bin .mod (.loc 0) (.int 5))))
  .nil)⟩
noncomputable def b_law_1 : Ss :=
  (.cons (.iff (.cmp .notin (.loc 3) (.str signs))
    (.cons (.asg (.one 2) (.bool false))
    .nil)
    .nil)
  .nil)
noncomputable def b_law_2 : Ss :=
  (.cons (.asg (.one 9) (.bin .mod (.bin .add (.bin .add (.bin .mul (.loc 9) (.loc 6)) (.bm .index (.loc 8) (.cons (.loc 3) .nil))) (.int 1)) (.loc 7)))
  .nil)
noncomputable def d_law : FDef := ⟨1, 11,
  (.cons (.asg (.one 1) (.call "_law_text" (.cons (.call "_law_cell_at" (.cons (.loc 0) (.cons (.int 0) .nil))) (.cons (.bin .mod (.call "_law_cell_at" (.cons (.loc 0) (.cons (.int 1) .nil))) (.int 15)) .nil))))
  (.cons (.iff (.cmp .eq (.bin .mod (.call "_law_cell_at" (.cons (.loc 0) (.cons (.int 2) .nil))) (.int 2)) (.int 1))
    (.cons (.asg (.one 1) (.call "_law_spoilt" (.cons (.loc 1) (.cons (.call "_law_mixed" (.cons (.call "_law_cell_at" (.cons (.loc 0) (.cons (.int 2) .nil))) (.cons (.int 1) .nil))) .nil))))
    .nil)
    .nil)
  (.cons (.asg (.one 2) (.and (.cmp .le (.int 1) (.bi .len (.cons (.loc 1) .nil))) (.cmp .le (.bi .len (.cons (.loc 1) .nil)) (.int 12))))
  (.cons (.forr (.one 3) (.loc 1) b_law_1)
  (.cons (.asg (.one 4) (.call "is_name" (.cons (.loc 1) .nil)))
  (.cons (.iff (.or (.not (.isi (.loc 4) [.bool])) (.cmp .ne (.loc 4) (.loc 2)))
    (.cons (.ret (.bool false))
    .nil)
    .nil)
  (.cons (.asg (.one 5) (.call "_law_text" (.cons (.call "_law_cell_at" (.cons (.loc 0) (.cons (.int 3) .nil))) (.cons (.bin .add (.int 1) (.bin .mod (.call "_law_cell_at" (.cons (.loc 0) (.cons (.int 4) .nil))) (.int 12))) .nil))))
  (.cons (.asg (.one 6) (.call "_law_of" (.cons (.call "_law_mixed" (.cons (.call "_law_cell_at" (.cons (.loc 0) (.cons (.int 5) .nil))) (.cons (.int 2) .nil))) (.cons (.int 1000000) .nil))))
  (.cons (.asg (.one 7) (.call "_law_of" (.cons (.call "_law_mixed" (.cons (.call "_law_cell_at" (.cons (.loc 0) (.cons (.int 6) .nil))) (.cons (.int 3) .nil))) (.cons (.int 1000) .nil))))
  (.cons (.asg (.one 8) (.str signs))
  (.cons (.asg (.one 9) (.int 0))
  (.cons (.forr (.one 3) (.loc 5) b_law_2)
  (.cons (.asg (.one 10) (.call "home" (.cons (.loc 5) (.cons (.loc 6) (.cons (.loc 7) .nil)))))
  (.cons (.ret (.and (.isi (.loc 10) [.int]) (.and (.not (.isi (.loc 10) [.bool])) (.cmp .eq (.loc 10) (.loc 9)))))
  .nil))))))))))))))⟩
noncomputable def prog01 : Prog := ⟨[("is_name", d_is_name), ("home", d_home), ("_law_cell_at", d_law_cell_at), ("_law_mixed", d_law_mixed), ("_law_text", d_law_text), ("_law_spoilt", d_law_spoilt), ("_law_of", d_law_of), ("law", d_law)],
  [("SIGNS", .str signs), ("MOST_SIGNS", .int 12)]⟩
abbrev Prog.hasC (p : Prog) (f : Str) (d : AV) : Prop := p.consts.lookup f = some d
section
variable {p : Prog} {n : Nat} {q : Bool} {h : AHeap}

theorem cut_len {x : List Nat} {a b : Int} : (cutList x a b).length ≤ x.length := by
  simp only [cutList, List.length_drop, List.length_take]; omega

theorem run_spoilt (hp : p.has "_law_spoilt" d_law_spoilt) {t : List Nat} {c : Int} (hl : t.length ≤ 1000) : ∃ t', semF p (n + 1) q "_law_spoilt" [.str t, .int c] h = .ok (.str t') h ∧ t'.length ≤ 2 * t.length + 1 := by
  obtain ⟨F, hF, e⟩ := run_at (n := n) (q := q) (h := h) hp (as := [.str t, .int c]) rfl
  rw [e]
  have hs : t.length ≤ sizeLim := by unfold sizeLim; omega
  generalize ho : ([32, 33, 34, 35, 36, 38, 39, 40, 41, 42, 43, 44, 45, 46, 47, 58, 59, 60, 61, 62, 63, 64, 65, 66, 67, 68, 69, 70, 71, 72, 73, 74, 75, 76, 77, 78, 79, 80, 81, 82, 83, 84, 85, 86, 87, 88, 89, 90, 91, 92, 93, 94, 95, 96, 123, 124, 125, 126, 10, 9] : List Nat) = ot
  have hol : ot.length = 60 := by subst ho; rfl
  have hos : ot.length ≤ sizeLim := by unfold sizeLim; omega
  have h1 : ((t.length : Int) + 1) ≠ 0 := by omega
  have h2 : (ot.length : Int) ≠ 0 := by omega
  have hb := fmod_bound (c.fdiv 17) (m := ot.length) (by omega)
  have hd : ∃ d, ot[((c.fdiv 17).fmod ot.length).toNat]? = some d := ⟨_, List.getElem?_eq_getElem (by omega)⟩
  obtain ⟨d, hd⟩ := hd
  have e1 : (cutList t 0 (c.fmod (t.length + 1))).length + [d].length ≤ sizeLim := by
    have := cut_len (x := t) (a := 0) (b := c.fmod (t.length + 1))
    rw [List.length_singleton]; unfold sizeLim; omega
  have e2 : (cutList t 0 (c.fmod (t.length + 1)) ++ [d]).length + (cutList t (c.fmod (t.length + 1) + (c.fdiv 1700).fmod 2) t.length).length ≤ sizeLim := by
    have := cut_len (x := t) (a := 0) (b := c.fmod (t.length + 1))
    have := cut_len (x := t) (a := c.fmod (t.length + 1) + (c.fdiv 1700).fmod 2) (b := t.length)
    rw [List.length_append, List.length_singleton]; unfold sizeLim; omega
  refine ⟨(cutList t 0 (c.fmod (t.length + 1)) ++ [d]) ++ cutList t (c.fmod (t.length + 1) + (c.fdiv 1700).fmod 2) t.length, ?_, ?_⟩
  · simp only [d_law_spoilt, ho, ss_cons, ss_nil, s_asg, s_ret, x_bin, x_loc, x_int, x_str, x_len, x_sub, x_slice, x_none, xs_cons, xs_nil, List.map_cons, List.map_nil, List.cons_append, List.nil_append, List.replicate, List.set, List.getElem?_cons_zero, List.getElem?_cons_succ, locV_some, bok, sok, b_add, len_str hs, len_str hos, b_mod h1, b_mod h2, b_mod (y := 2) (by decide), b_div (y := 17) (by decide), b_div (y := 1700) (by decide), sub_str hos hb.1 hd, slice_hi hs, slice_lo hs, b_adds e1, b_adds e2, seq_next, seq_ret, retR_ret]
  · have := cut_len (x := t) (a := 0) (b := c.fmod (t.length + 1))
    have := cut_len (x := t) (a := c.fmod (t.length + 1) + (c.fdiv 1700).fmod 2) (b := t.length)
    simp only [List.length_append, List.length_singleton]; omega

theorem run_of (hp : p.has "_law_of" d_law_of) {c m : Int} (hm : 0 < m) : ∃ v h', semF p (n + 1) q "_law_of" [.int c, .int m] h = .ok (.int v) h' ∧ 1 ≤ v ∧ v ≤ m + 2 := by
  obtain ⟨F, hF, e⟩ := run_at (n := n) (q := q) (h := h) hp (as := [.int c, .int m]) rfl
  rw [e]
  have hb := fmod_bound c (m := 5) (by decide)
  have hb2 := fmod_bound (c.fdiv 5) (m := m) hm
  have hm0 : m ≠ 0 := by omega
  have hlen : ([.int 1, .int 2, .int m, .int (1 + (c.fdiv 5).fmod m), .int (1 + (c.fdiv 5).fmod m)] : List AV).length ≤ sizeLim := by
    show 5 ≤ _; unfold sizeLim; omega
  have hv : ∃ v, ([.int 1, .int 2, .int m, .int (1 + (c.fdiv 5).fmod m), .int (1 + (c.fdiv 5).fmod m)] : List AV)[(c.fmod 5).toNat]? = some (.int v) ∧ 1 ≤ v ∧ v ≤ m + 2 := by
    have : (c.fmod 5).toNat = 0 ∨ (c.fmod 5).toNat = 1 ∨ (c.fmod 5).toNat = 2 ∨ (c.fmod 5).toNat = 3 ∨ (c.fmod 5).toNat = 4 := by omega
    rcases this with e | e | e | e | e <;> rw [e]
    · exact ⟨1, rfl, by omega, by omega⟩
    · exact ⟨2, rfl, by omega, by omega⟩
    · exact ⟨m, rfl, by omega, by omega⟩
    · exact ⟨_, rfl, by omega, by omega⟩
    · exact ⟨_, rfl, by omega, by omega⟩
  obtain ⟨v, hv, hv1, hv2⟩ := hv
  refine ⟨v, h ++ [.list [.int 1, .int 2, .int m, .int (1 + (c.fdiv 5).fmod m), .int (1 + (c.fdiv 5).fmod m)]], ?_, hv1, hv2⟩
  · simp only [d_law_of, ss_cons, ss_nil, s_ret, x_bin, x_loc, x_int, x_sub, x_list, xs_cons, xs_nil, List.map_cons, List.map_nil, List.cons_append, List.nil_append, List.replicate, List.getElem?_cons_zero, List.getElem?_cons_succ, locV_some, bok, sok, b_add, b_mod hm0, b_mod (y := 5) (by decide), b_div (y := 5) (by decide), newList_ok hlen, sub_list get_new hb.1 hv, seq_next, seq_ret, retR_ret]

noncomputable def good (t : List Nat) : Bool := t.all fun x => decide (x ∈ signs)
theorem good_take {t : List Nat} {k : Nat} (hk : k < t.length) : good (t.take (k + 1)) = (good (t.take k) && decide (t[k] ∈ signs)) := by
  unfold good
  rw [List.take_add_one, List.getElem?_eq_getElem hk, Option.toList_some, List.all_append, List.all_cons, List.all_nil, Bool.and_true]

theorem str_item {t : List Nat} {k : Nat} {v : AV} (hv : (t.map fun c => AV.str [c])[k]? = some v) : ∃ hk : k < t.length, v = .str [t[k]] := by
  rw [List.getElem?_map] at hv
  obtain ⟨x, hx, rfl⟩ := Option.map_eq_some_iff.mp hv
  obtain ⟨hk, rfl⟩ := List.getElem?_eq_some_iff.mp hx
  exact ⟨hk, rfl⟩

theorem run_is_name (hp : p.has "is_name" d_is_name) (hS : p.hasC "SIGNS" (.str signs)) (hM : p.hasC "MOST_SIGNS" (.int 12)) {t : List Nat} (hl : t.length ≤ 1000) :
    semF p (n + 1) false "is_name" [.str t] h = .ok (.bool (decide (1 ≤ t.length) && decide (t.length ≤ 12) && good t)) h := by
  obtain ⟨F, hF, e⟩ := run_at (n := n) (q := false) (h := h) hp (as := [.str t]) rfl
  rw [e]
  have hs : t.length ≤ sizeLim := by unfold sizeLim; omega
  have hS' : p.consts.lookup ("SIGNS" : Str) = some (.str signs) := hS
  have hM' : p.consts.lookup ("MOST_SIGNS" : Str) = some (.int 12) := hM
  have hty : isTy h (.str t) .str = some true := rfl
  simp only [d_is_name, ss_cons, ss_nil, s_iff, s_ret, s_for, x_or, x_not, x_isi (t := .str) rfl, x_cmp2, x_bool, x_loc, x_int, x_len, x_glob, xs_cons, xs_nil, List.map_cons, List.map_nil, List.cons_append, List.nil_append, List.replicate, List.getElem?_cons_zero, List.getElem?_cons_succ, locV_some, bok, sok, hty, optB_some, notAV_bool, Bool.not_true, condV_f, len_str hs, c_le, hM', optV_some, epoch_str]
  by_cases h1 : (1 : Int) ≤ t.length
  · rw [decide_eq_true h1]
    by_cases h2 : (t.length : Int) ≤ 12
    · rw [decide_eq_true h2, decide_eq_true (by omega), decide_eq_true (by omega)]
      simp only [cmp2V_t, bok, notAV_bool, Bool.not_true, sok, cond_f, seq_next, Bool.true_and, List.getElem?_cons_zero, locV_some, epoch_str]
      rcases forLoop_inv (i := 1) (src := .str t) (e := none) (items := t.map fun c => AV.str [c]) (body := fun l h => execSs ⟨false, semF p n, fun x => p.consts.lookup x, F⟩ b_is_name_1 l h)
        (fun k l h' => h' = h ∧ good (t.take k) = true ∧ l.length = 2) (fun r h' => h' = h ∧ r = .bool false ∧ good t = false)
        (fun k l h' _ => next_str) (fun k v l h' hv ⟨eh, hg, hl2⟩ => by
          subst eh
          obtain ⟨hk, rfl⟩ := str_item hv
          have hl1 : (l.set 1 (some (AV.str [t[k]])))[1]? = some (some (.str [t[k]])) := List.getElem?_set_self (by omega)
          by_cases hm : t[k] ∈ signs
          · refine ⟨.next, l.set 1 (some (.str [t[k]])), h', ?_, .inl ⟨.inl rfl, rfl, by rw [good_take hk, hg, decide_eq_true hm]; rfl, by simpa using hl2⟩⟩
            simp only [b_is_name_1, ss_cons, ss_nil, s_iff, s_ret, x_cmp, x_loc, x_glob, x_bool, hl1, locV_some, bok, sok, hS', optV_some, c_notin1, decide_eq_true hm, Bool.not_true, optB_some, cond_f, seq_next]
          · refine ⟨.ret (.bool false), l.set 1 (some (.str [t[k]])), h', ?_, .inr ⟨_, rfl, rfl, rfl, ?_⟩⟩
            · simp only [b_is_name_1, ss_cons, ss_nil, s_iff, s_ret, x_cmp, x_loc, x_glob, x_bool, hl1, locV_some, bok, sok, hS', optV_some, c_notin1, decide_eq_false hm, Bool.not_false, optB_some, cond_t, seq_ret]
            · unfold good
              rw [List.all_eq_false]
              exact ⟨t[k], List.getElem_mem hk, by simpa using hm⟩) F 0 [some (.str t), none] h (by simp only [List.length_map]; omega) (Nat.zero_le _) ⟨rfl, rfl, rfl⟩ with ⟨l', h', e2, rfl, hg, _⟩ | ⟨r, l', h', e2, rfl, rfl, hg⟩
      · rw [e2]
        rw [List.length_map, List.take_length] at hg
        simp only [seq_next, seq_ret, retR_ret, hg]
      · rw [e2, hg]
        simp only [seq_ret, retR_ret]
    · rw [decide_eq_false h2, decide_eq_false (by omega : ¬ t.length ≤ 12)]
      simp only [cmp2V_t, bok, notAV_bool, Bool.not_false, sok, cond_t, seq_ret, retR_ret, Bool.and_false, Bool.false_and]
  · rw [decide_eq_false h1, decide_eq_false (by omega : ¬ 1 ≤ t.length)]
    simp only [cmp2V_f, bok, notAV_bool, Bool.not_false, sok, cond_t, seq_ret, retR_ret, Bool.false_and]

noncomputable def posOf (c : Nat) : Nat := (signs.findIdx? (· == c)).getD 0
theorem posOf_at {c : Nat} (hc : c ∈ signs) : signs.findIdx? (· == c) = some (posOf c) := by
  unfold posOf
  cases hq : signs.findIdx? (· == c) with
  | some i => rfl
  | none =>
    rw [List.findIdx?_eq_none_iff] at hq
    have := hq c hc
    simp at this
noncomputable def homeStep (times count : Int) (acc : Int) (c : Nat) : Int := (acc * times + posOf c + 1).fmod count
noncomputable def homeOf (t : List Nat) (times count : Int) : Int := t.foldl (homeStep times count) 0
theorem home_take {t : List Nat} {times count : Int} {k : Nat} (hk : k < t.length) : homeOf (t.take (k + 1)) times count = homeStep times count (homeOf (t.take k) times count) t[k] := by
  unfold homeOf
  rw [List.take_add_one, List.getElem?_eq_getElem hk, Option.toList_some, List.foldl_append, List.foldl_cons, List.foldl_nil]

theorem run_home (hp : p.has "home" d_home) (hS : p.hasC "SIGNS" (.str signs)) {t : List Nat} (hl : t.length ≤ 1000) (hg : ∀ x ∈ t, x ∈ signs) {times count : Int} (ht : times.natAbs < 2 ^ 64) (hc : 0 < count) :
    semF p (n + 1) false "home" [.str t, .int times, .int count] h = .ok (.int (homeOf t times count)) h := by
  obtain ⟨F, hF, e⟩ := run_at (n := n) (q := false) (h := h) hp (as := [.str t, .int times, .int count]) rfl
  rw [e]
  have hS' : p.consts.lookup ("SIGNS" : Str) = some (.str signs) := hS
  have hc0 : count ≠ 0 := by omega
  simp only [d_home, ss_cons, ss_nil, s_asg, s_ret, s_for, x_loc, x_int, List.map_cons, List.map_nil, List.cons_append, List.nil_append, List.replicate, List.set, List.getElem?_cons_zero, List.getElem?_cons_succ, locV_some, bok, sok, seq_next, epoch_str]
  obtain ⟨l', h', e2, rfl, v4, rfl⟩ := forLoop_all (i := 4) (src := .str t) (e := none) (items := t.map fun c => AV.str [c]) (body := fun l h => execSs ⟨false, semF p n, fun x => p.consts.lookup x, F⟩ b_home_1 l h)
    (fun k l h' => h' = h ∧ ∃ v4, l = [some (.str t), some (.int times), some (.int count), some (.int (homeOf (t.take k) times count)), v4])
    (fun k l h' _ => next_str) (fun k v l h' hv ⟨eh, v4, el⟩ => by
      subst eh; subst el
      obtain ⟨hk, rfl⟩ := str_item hv
      refine ⟨.next, [some (.str t), some (.int times), some (.int count), some (.int (homeOf (t.take (k + 1)) times count)), some (.str [t[k]])], h', ?_, .inl rfl, rfl, _, rfl⟩
      simp only [b_home_1, ss_cons, ss_nil, s_asg, x_bin, x_loc, x_glob, x_int, x_index, xs_cons, xs_nil, List.set, List.getElem?_cons_zero, List.getElem?_cons_succ, locV_some, bok, sok, b_mulR ht, hS', optV_some, bmOk_str, if_true, index_str (posOf_at (hg _ (List.getElem_mem hk))), b_add, b_mod hc0, seq_next]
      rw [home_take hk]
      rfl) (f := F) (l := [some (.str t), some (.int times), some (.int count), some (.int 0), none]) (h := h) (by rw [List.length_map]; omega) ⟨rfl, none, rfl⟩
  rw [e2, seq_next]
  simp only [List.length_map, List.take_length, List.getElem?_cons_zero, List.getElem?_cons_succ, locV_some, sok, seq_ret, retR_ret]

theorem loop_due {t : List Nat} {b : Bool} {c : Ctx} {vs : Locs} {F : Nat} (hF : t.length < F) {v0 v1 : Option AV} :
    ∃ v3, forLoop (.one 3) (fun l h => execSs c b_law_1 l h) (.str t) none F 0 (v0 :: v1 :: some (.bool b) :: none :: vs) h = .ok .next (v0 :: v1 :: some (.bool (b && good t)) :: v3 :: vs) h := by
  obtain ⟨l', h', e2, rfl, v4, rfl⟩ := forLoop_all (i := 3) (src := .str t) (e := none) (items := t.map fun c => AV.str [c]) (body := fun l h => execSs c b_law_1 l h)
    (fun k l h' => h' = h ∧ ∃ v3, l = v0 :: v1 :: some (.bool (b && good (t.take k))) :: v3 :: vs)
    (fun k l h' _ => next_str) (fun k v l h' hv ⟨eh, v4, el⟩ => by
      subst eh; subst el
      obtain ⟨hk, rfl⟩ := str_item hv
      refine ⟨.next, v0 :: v1 :: some (.bool (b && good (t.take (k + 1)))) :: some (.str [t[k]]) :: vs, h', ?_, .inl rfl, rfl, _, rfl⟩
      by_cases hm : t[k] ∈ signs
      · simp only [b_law_1, ss_cons, ss_nil, s_iff, s_asg, x_cmp, x_loc, x_str, x_bool, List.set, List.getElem?_cons_zero, List.getElem?_cons_succ, locV_some, bok, sok, c_notin1, decide_eq_true hm, Bool.not_true, optB_some, cond_f, seq_next, good_take hk, Bool.and_true]
      · simp only [b_law_1, ss_cons, ss_nil, s_iff, s_asg, x_cmp, x_loc, x_str, x_bool, List.set, List.getElem?_cons_zero, List.getElem?_cons_succ, locV_some, bok, sok, c_notin1, decide_eq_false hm, Bool.not_false, optB_some, cond_t, seq_next, good_take hk, Bool.and_false]) (f := F) (l := v0 :: v1 :: some (.bool b) :: none :: vs) (h := h) (by rw [List.length_map]; omega) ⟨rfl, none, by simp [good]⟩
  refine ⟨v4, ?_⟩
  rw [e2, List.length_map, List.take_length]

theorem loop_home {t : List Nat} {c : Ctx} {F : Nat} (hF : t.length < F) {v0 v1 v2 v3 v4 v5 v10 : Option AV} (hg : ∀ x ∈ t, x ∈ signs) {times count : Int} (ht : times.natAbs < 2 ^ 64) (hc : 0 < count) :
    ∃ v3', forLoop (.one 3) (fun l h => execSs c b_law_2 l h) (.str t) none F 0 [v0, v1, v2, v3, v4, v5, some (.int times), some (.int count), some (.str signs), some (.int 0), v10] h = .ok .next [v0, v1, v2, v3', v4, v5, some (.int times), some (.int count), some (.str signs), some (.int (homeOf t times count)), v10] h := by
  have hc0 : count ≠ 0 := by omega
  obtain ⟨l', h', e2, rfl, v4', rfl⟩ := forLoop_all (i := 3) (src := .str t) (e := none) (items := t.map fun c => AV.str [c]) (body := fun l h => execSs c b_law_2 l h)
    (fun k l h' => h' = h ∧ ∃ v3, l = [v0, v1, v2, v3, v4, v5, some (.int times), some (.int count), some (.str signs), some (.int (homeOf (t.take k) times count)), v10])
    (fun k l h' _ => next_str) (fun k v l h' hv ⟨eh, v4', el⟩ => by
      subst eh; subst el
      obtain ⟨hk, rfl⟩ := str_item hv
      refine ⟨.next, [v0, v1, v2, some (.str [t[k]]), v4, v5, some (.int times), some (.int count), some (.str signs), some (.int (homeOf (t.take (k + 1)) times count)), v10], h', ?_, .inl rfl, rfl, _, rfl⟩
      simp only [b_law_2, ss_cons, ss_nil, s_asg, x_bin, x_loc, x_glob, x_int, x_index, xs_cons, xs_nil, List.set, List.getElem?_cons_zero, List.getElem?_cons_succ, locV_some, bok, sok, b_mulR ht, bmOk_str, if_true, index_str (posOf_at (hg _ (List.getElem_mem hk))), b_add, b_mod hc0, seq_next]
      rw [home_take hk]
      rfl) (f := F) (l := [v0, v1, v2, v3, v4, v5, some (.int times), some (.int count), some (.str signs), some (.int 0), v10]) (h := h) (by rw [List.length_map]; omega) ⟨rfl, v3, rfl⟩
  refine ⟨v4', ?_⟩
  rw [e2, List.length_map, List.take_length]

theorem mod_nat (a : Int) {m : Nat} (hm : 0 < m) : ∃ k : Nat, k < m ∧ a.fmod m = (k : Int) := by
  have := fmod_bound a (m := m) (by omega)
  exact ⟨(a.fmod m).toNat, by omega, by omega⟩

theorem run_cell (hp : p.has "_law_cell_at" d_law_cell_at) {xs : List Int} (hl : xs.length ≤ 63) {k : Nat} {i : Int} (hi : i = k) : semF p (n + 1) q "_law_cell_at" [.scr xs, .int i] h = .ok (.int (cellAt xs k)) h := by
  subst hi; exact run_cell_at hp hl k

theorem pc : prog01.has "_law_cell_at" d_law_cell_at := rfl
theorem pm : prog01.has "_law_mixed" d_law_mixed := rfl
theorem pt : prog01.has "_law_text" d_law_text := rfl
theorem ps : prog01.has "_law_spoilt" d_law_spoilt := rfl
theorem po : prog01.has "_law_of" d_law_of := rfl
theorem pn : prog01.has "is_name" d_is_name := rfl
theorem ph : prog01.has "home" d_home := rfl
theorem cS : prog01.hasC "SIGNS" (.str signs) := rfl
theorem cM : prog01.hasC "MOST_SIGNS" (.int 12) := rfl

theorem law_first {xs : List Int} (hl : xs.length ≤ 63) (F : Nat) (rest : Ss) : ∃ t, t.length ≤ 1000 ∧ execSs ⟨false, semF prog01 15, fun x => prog01.consts.lookup x, F⟩
  (.cons (.asg (.one 1) (.call "_law_text" (.cons (.call "_law_cell_at" (.cons (.loc 0) (.cons (.int 0) .nil))) (.cons (.bin .mod (.call "_law_cell_at" (.cons (.loc 0) (.cons (.int 1) .nil))) (.int 15)) .nil))))
  (.cons (.iff (.cmp .eq (.bin .mod (.call "_law_cell_at" (.cons (.loc 0) (.cons (.int 2) .nil))) (.int 2)) (.int 1))
    (.cons (.asg (.one 1) (.call "_law_spoilt" (.cons (.loc 1) (.cons (.call "_law_mixed" (.cons (.call "_law_cell_at" (.cons (.loc 0) (.cons (.int 2) .nil))) (.cons (.int 1) .nil))) .nil))))
    .nil)
    .nil) rest)) [some (.scr xs), none, none, none, none, none, none, none, none, none, none] [] =
    execSs ⟨false, semF prog01 15, fun x => prog01.consts.lookup x, F⟩ rest [some (.scr xs), some (.str t), none, none, none, none, none, none, none, none, none] [] := by
  obtain ⟨k1, hk1, e1⟩ := mod_nat (cellAt xs 1) (m := 15) (by omega)
  have e1' : (cellAt xs 1).fmod 15 = (k1 : Int) := e1
  have c0 := run_cell (n := 14) (q := false) (h := []) pc hl (k := 0) (i := 0) rfl
  have c1 := run_cell (n := 14) (q := false) (h := []) pc hl (k := 1) (i := 1) rfl
  have c2 := run_cell (n := 14) (q := false) (h := []) pc hl (k := 2) (i := 2) rfl
  have t1 := run_text (n := 13) (h := []) pm pt (cellAt xs 0) k1 (by omega)
  have m2 := run_mixed (n := 14) (q := false) (h := []) pm (cellAt xs 2) 1
  obtain ⟨t', s1, hs1⟩ := run_spoilt (n := 14) (q := false) (h := []) ps (t := textF (cellAt xs 0) k1) (c := mixed (cellAt xs 2) 1) (by rw [textF_length]; omega)
  rw [textF_length] at hs1
  by_cases hc : (cellAt xs 2).fmod 2 = 1
  · refine ⟨t', by omega, ?_⟩
    simp only [ss_cons, ss_nil, s_asg, s_iff, x_call, x_bin, x_cmp, xs_cons, xs_nil, x_loc, x_int, List.set, List.getElem?_cons_zero, List.getElem?_cons_succ, locV_some, bok, sok, c0, c1, c2, e1', t1, m2, s1, b_mod (y := 15) (by decide), b_mod (y := 2) (by decide), c_eqi, optB_some, hc, decide_true, cond_t, seq_next]
  · refine ⟨textF (cellAt xs 0) k1, by rw [textF_length]; omega, ?_⟩
    simp only [ss_cons, ss_nil, s_asg, s_iff, x_call, x_bin, x_cmp, xs_cons, xs_nil, x_loc, x_int, List.set, List.getElem?_cons_zero, List.getElem?_cons_succ, locV_some, bok, sok, c0, c1, c2, e1', t1, m2, s1, b_mod (y := 15) (by decide), b_mod (y := 2) (by decide), c_eqi, optB_some, decide_eq_false hc, cond_f, seq_next]

theorem run01 (xs : List Int) (hl : xs.length ≤ 63) : ∃ hp, semF prog01 16 false "law" [.scr xs] [] = .ok (.bool true) hp := by
  obtain ⟨F, hF, e⟩ := run_at (p := prog01) (n := 15) (q := false) (h := []) (f := "law") (d := d_law) rfl (as := [.scr xs]) rfl
  rw [e]
  simp only [d_law, List.map_cons, List.map_nil, List.cons_append, List.nil_append, List.replicate]
  obtain ⟨t, ht, e2⟩ := law_first hl F _
  rw [e2]
  clear e e2
  have hts : t.length ≤ sizeLim := by unfold sizeLim; omega
  obtain ⟨v3, ed⟩ := loop_due (h := []) (t := t) (b := (decide (1 ≤ t.length) && decide (t.length ≤ 12))) (c := ⟨false, semF prog01 15, fun x => prog01.consts.lookup x, F⟩) (F := F) (by omega) (v0 := some (.scr xs)) (v1 := some (.str t)) (vs := [none, none, none, none, none, none, none])
  have en := run_is_name (n := 14) (h := []) pn cS cM ht
  have hty : isTy [] (.bool (decide (1 ≤ t.length) && decide (t.length ≤ 12) && good t)) .bool = some true := rfl
  obtain ⟨k4, hk4, e4⟩ := mod_nat (cellAt xs 4) (m := 12) (by omega)
  have e4' : (1 : Int) + (cellAt xs 4).fmod 12 = ((1 + k4 : Nat) : Int) := by rw [show (cellAt xs 4).fmod 12 = (k4 : Int) from e4]; omega
  have c3 := run_cell (n := 14) (q := false) (h := []) pc hl (k := 3) (i := 3) rfl
  have c4 := run_cell (n := 14) (q := false) (h := []) pc hl (k := 4) (i := 4) rfl
  have c5 := run_cell (n := 14) (q := false) (h := []) pc hl (k := 5) (i := 5) rfl
  have t2 := run_text (n := 13) (h := []) pm pt (cellAt xs 3) (1 + k4) (by omega)
  have m5 := run_mixed (n := 14) (q := false) (h := []) pm (cellAt xs 5) 2
  obtain ⟨times, h1, eo1, ha1, hb1⟩ := run_of (n := 14) (q := false) (h := []) po (c := mixed (cellAt xs 5) 2) (m := 1000000) (by decide)
  have c6 := run_cell (n := 14) (q := false) (h := h1) pc hl (k := 6) (i := 6) rfl
  have m6 := run_mixed (n := 14) (q := false) (h := h1) pm (cellAt xs 6) 3
  obtain ⟨count, h2, eo2, ha2, hb2⟩ := run_of (n := 14) (q := false) (h := h1) po (c := mixed (cellAt xs 6) 3) (m := 1000) (by decide)
  have hlen : (textF (cellAt xs 3) (1 + k4)).length ≤ 1000 := by rw [textF_length]; omega
  obtain ⟨v3', eh⟩ := loop_home (h := h2) (t := textF (cellAt xs 3) (1 + k4)) (c := ⟨false, semF prog01 15, fun x => prog01.consts.lookup x, F⟩) (F := F) (by omega) (v0 := some (.scr xs)) (v1 := some (.str t))
    (v2 := some (.bool (decide (1 ≤ t.length) && decide (t.length ≤ 12) && good t))) (v3 := v3) (v4 := some (.bool (decide (1 ≤ t.length) && decide (t.length ≤ 12) && good t))) (v5 := some (.str (textF (cellAt xs 3) (1 + k4)))) (v10 := none) (fun x hx => textF_mem hx) (times := times) (count := count) (by omega) (by omega)
  have er := run_home (n := 14) (h := h2) ph cS hlen (fun x hx => textF_mem hx) (times := times) (count := count) (by omega) (by omega)
  have ty1 : isTy h2 (.int (homeOf (textF (cellAt xs 3) (1 + k4)) times count)) .int = some true := rfl
  have ty2 : isTy h2 (.int (homeOf (textF (cellAt xs 3) (1 + k4)) times count)) .bool = some false := rfl
  have l1 : decide ((1 : Int) ≤ t.length) = decide (1 ≤ t.length) := decide_eq_decide.mpr (by omega)
  have l2 : decide ((t.length : Int) ≤ 12) = decide (t.length ≤ 12) := decide_eq_decide.mpr (by omega)
  have dueE : (condV (.bool (decide (1 ≤ t.length))) (.ok (.bool (decide (t.length ≤ 12))) []) (.ok (.bool false) []) : Res AV) = .ok (.bool (decide (1 ≤ t.length) && decide (t.length ≤ 12))) [] := by
    cases decide (1 ≤ t.length) <;> rfl
  refine ⟨h2, ?_⟩
  simp only [ss_cons, ss_nil, s_asg, s_iff, s_ret, s_for, x_call, x_bin, x_cmp, x_and, x_or, x_not, x_bool, x_str, x_len, x_isi (t := .bool) rfl, x_isi (t := .int) rfl, xs_cons, xs_nil, x_loc, x_int, List.set, List.getElem?_cons_zero, List.getElem?_cons_succ, locV_some, bok, sok, len_str hts, c_le, l1, l2, optB_some, dueE, seq_next, epoch_str, ed, en, hty, notAV_bool, Bool.not_true, condV_f, c_neb, beq_self_eq_true, cond_f, c3, c4, c5, e4', t2, m5, eo1, c6, m6, eo2, eh, er, ty1, ty2, Bool.not_false, condV_t, c_eqi, decide_true, b_add, b_mod (y := 12) (by decide), seq_ret, retR_ret]
end
end Mine

open PySem PySem.W PyProof.Rows Mine
set_option maxRecDepth 100000 in
set_option maxHeartbeats 8000000 in
theorem PySem.Challenge.cw_uf040007_01_holds : PySem.Challenge.rw_uf040007_01.Holds := by
  w_on; o_law; k_head
  case hw => w_witness2
  intro w s₀ s₁ mg mb G Y fa o pm cd doc dV kV ho hd hcd hD hmg hg args vals as hpre hlay hrd hwl hlo
  refine Ground.open G ?_
  intro T B D TE TW
  clear hd hD hcd G Y
  wrow_args hpre hlay hrd hwl hlo
  rename_i xs _ _ _ _ _ _ _ a vs _ hL _ _ _ hI _ hlen _
  obtain ⟨hp, hrun⟩ := Mine.run01 xs (by omega)
  refine Mine.law_call T rfl (by decide +kernel) rfl (by decide +kernel) (funs := ["is_name", "home", "_law_cell_at", "_law_mixed", "_law_text", "_law_spoilt", "_law_of", "law"]) (excs := []) (pr := Mine.prog01) (by rfl) (by decide +kernel) hmg hL hI hrun ?_
  intro s' hk ho hgen
  exact GoodW.toG ⟨.inl ⟨_, .bool true, [], rfl, raisesW_false (by wrow_none_raised), .bool true, by wrow_post, by simp⟩, hk, ho, hgen.trans hg⟩

