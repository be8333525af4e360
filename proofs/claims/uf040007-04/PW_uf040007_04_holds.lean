import PyProof.Rows.All
import Open.Line
import Open.FastRun
import Open.FastT9
import KE.KSortTup
import KE.KDictSum
import PySem.Challenge.RW_uf040007_04
set_option Elab.async false
set_option linter.unusedVariables false
set_option linter.unusedSimpArgs false
set_option genSizeOfSpec false
namespace Mine
open PySem PySem.W PyProof.Rows
noncomputable def q04 : Program := view PySem.Challenge.pw_uf040007_04 [0,2,3,4,5,6,7,8,9,10,11,13,14,15,16,18,19,20,21,22,23,24,26,27,28,29,30,31,32,33,34,35,36,37]
theorem left04 : LeftO PySem.Challenge.pw_uf040007_04 q04 [] (fun s => xlAt q04 [] s && recOk (RowW.records (OpenRow.toRowW PySem.Challenge.rw_uf040007_04.row)) s) (Hook.obs Hook.none) (Hook.val Hook.none) 7028 := by
  intro w
  unfold openEnds fencedOpening topFrom
  rw [PySem.W.Fast.te14364793385576792824, PySem.W.Fast.te10274390034422433532, PySem.W.Fast.te14082659384304107361, PySem.W.Fast.te1435165496053646825, PySem.W.Fast.te14289696077712309145, PySem.W.Fast.te8920871248978507458, PySem.W.Fast.te4187177175401517315]
  kernel_rfl
end Mine

set_option genSizeOf false
set_option genSizeOfSpec false
set_option genInjectivity false
namespace Mine
open PySem

/-- abstract values -/
inductive AV where
  | none
  | bool (b : Bool)
  | int (i : Int)
  | str (s : List Nat)
  | tup (vs : List AV)
  | loc (n : Nat)
  | rng (a b s : Int)
  | scr (xs : List Int)

set_option genInjectivity true in
inductive Key where
  | str (s : List Nat)
  | pair (a b : Int)
  deriving DecidableEq

/-- lists, dicts, instances, their names -/
inductive AObj where
  | list (vs : List AV)
  | dict (kvs : List (Key × AV)) (ep : Nat)
  | inst (k : Nat)
  | ns (fs : List (Str × AV))

abbrev AHeap := List AObj
abbrev Locs := List (Option AV)

inductive Res (α : Type) where
  | ok (a : α) (h : AHeap)
  | bad

inductive COp where
  | eq | ne | lt | le | gt | ge | isin | notin
inductive BOp where
  | add | sub | mul | div | mod
inductive BI where
  | len | sorted | list
inductive BM where
  | append | get | index
inductive Ty where
  | int | bool | str | tuple | list

mutual
inductive X where
  | none
  | bool (b : Bool)
  | int (i : Int)
  | str (s : List Nat)
  | loc (i : Nat)
  | bin (op : BOp) (l r : X)
  | neg (x : X)
  | not (x : X)
  | and (l r : X)
  | or (l r : X)
  | cmp (op : COp) (l r : X)
  | cmp2 (o1 o2 : COp) (l m r : X)
  | isn (b : Bool) (x : X)
  | call (f : Str) (as : Xs)
  | bi (b : BI) (as : Xs)
  | isi (x : X) (t : Ty)
  | new (as : Xs)
  | im (m : Str) (o : X) (as : Xs)
  | bm (m : BM) (o : X) (as : Xs)
  | attr (a : Str) (o : X)
  | sub (o i : X)
  | slice (o lo hi : X)
  | tup (es : Xs)
  | list (es : Xs)
  | dict0
  | range (as : Xs)
  /-- a comprehension: what it gives, how many names, which one, of what, if what -/
  | comp (e : X) (k j : Nat) (it : X) (cs : Xs)
inductive Xs where
  | nil
  | cons (x : X) (xs : Xs)
end

mutual
inductive S where
  | expr (x : X)
  | ret (x : X)
  | asg (i : Nat) (x : X)
  | setitem (o k x : X)
  | setattr (a : Str) (o x : X)
  | iff (c : X) (a b : Ss)
  | whil (c : X) (b : Ss)
  | forr (i : Nat) (it : X) (b : Ss)
  | raise
inductive Ss where
  | nil
  | cons (s : S) (r : Ss)
end

structure FDef where
  params : Nat
  slots : Nat
  body : Ss

end Mine

namespace Mine
open PySem

structure Cx where
  sc : Scope
  loc : List (Str × Nat)
  n : Nat
  funs : List Str
  meths : List Str
  attrs : List Str
  cls : Str
  consts : List (Str × Const)

noncomputable def isLocKind : NameKind → Bool
  | .local | .cell | .free => true
  | _ => false

noncomputable def plainName (x : Str) : Bool := x != ("__debug__" : Str) && x != ("__classdict__" : Str)
noncomputable def Cx.slot (c : Cx) (x : Str) : Option Nat :=
  match c.sc.names.lookup x with
  | some k => if isLocKind k && plainName x then c.loc.lookup x else none
  | none => none
noncomputable def Cx.isGlob (c : Cx) (x : Str) : Bool := c.sc.names.lookup x == some .globalImplicit && plainName x

noncomputable def Cx.slotW (c : Cx) (x : Str) : Option Nat :=
  match c.sc.names.lookup x with
  | some .local | some .cell => c.slot x
  | _ => none
noncomputable def isComp : Expr → Bool
  | .ListComp .. | .SetComp .. | .DictComp .. | .GeneratorExp .. => true
  | _ => false

noncomputable def compBOp : Operator → Option BOp
  | .Add => some .add | .Sub => some .sub | .Mult => some .mul | .FloorDiv => some .div | .Mod => some .mod
  | _ => none
noncomputable def compCOp : CmpOp → Option COp
  | .Eq => some .eq | .NotEq => some .ne | .Lt => some .lt | .LtE => some .le | .Gt => some .gt | .GtE => some .ge
  | .In => some .isin | .NotIn => some .notin
  | _ => none

noncomputable def biOf (x : Str) : Option BI := if x == ("len" : Str) then some .len else if x == ("sorted" : Str) then some .sorted else if x == ("list" : Str) then some .list else none
noncomputable def tyOf (x : Str) : Option Ty := if x == ("int" : Str) then some .int else if x == ("bool" : Str) then some .bool else if x == ("str" : Str) then some .str else if x == ("tuple" : Str) then some .tuple else if x == ("list" : Str) then some .list else none

noncomputable def tgtName : Expr → Option Str
  | .Name x _ => some x
  | _ => none
noncomputable def compTy (c : Cx) (e : Expr) : Option Ty := (tgtName e).bind fun x => if c.isGlob x then tyOf x else none
/-- the block of a comprehension: its own names behind those of the function -/
noncomputable def ownNames (scope : Scope) : List Str := scope.names.filterMap fun p => if p.2 == .local && p.1 != (".0" : Str) then some p.1 else none
noncomputable def innerCx (c : Cx) (scope : Scope) : Cx :=
  { c with sc := scope, loc := (ownNames scope).zipIdx c.n ++ c.loc, n := c.n + (ownNames scope).length }
/-- the block's names: each once; its own, those of the function's cells, those of the top -/
noncomputable def innerName (c : Cx) (p : Str × NameKind) : Bool := match p.2 with
  | .local => p.1 != (".0" : Str) || (c.loc.lookup p.1).isNone
  | .free => c.sc.names.lookup p.1 == some .cell && (c.slot p.1).isSome
  | .globalImplicit => true
  | _ => false
noncomputable def innerOk (c : Cx) (scope : Scope) : Bool :=
  scope.kind == .function && decide (scope.names.map (·.1)).Nodup && scope.names.all (innerName c)

noncomputable def compTyArgs (c : Cx) (as : List Expr) : Option Ty := match as with
  | [] => none
  | _ :: r => match r with
    | [] => none
    | t :: r => match r with
      | [] => compTy c t
      | _ => none
noncomputable def newOf (as : Xs) : Option X := match as with
  | .nil => none
  | as => some (.new as)
noncomputable def compCall (c : Cx) (f : Str) (as : Xs) : Option X :=
  if c.funs.contains f && !c.meths.contains f then some (.call f as)
  else if f == c.cls then newOf as
  else if f == ("range" : Str) then some (.range as)
  else match biOf f with
    | some b => some (.bi b as)
    | none => none

noncomputable def notSuper : Expr → Bool
  | .Name .. => true
  | .Subscript .. => true
  | .Attribute .. => true
  | .Call f _ _ _ => match f with
    | .Attribute .. => true
    | _ => false
  | _ => false
noncomputable def bmOf (x : Str) : Option BM := if x == ("append" : Str) then some .append else if x == ("get" : Str) then some .get else if x == ("index" : Str) then some .index else none
noncomputable def compMeth (c : Cx) (m : Str) (o : X) (as : Xs) : Option X :=
  if c.funs.contains m && c.meths.contains m then some (.im m o as)
  else match bmOf m with
    | some b => some (.bm b o as)
    | none => none

noncomputable def compConst : Const → Option X
  | .none => some .none
  | .bool b => some (.bool b)
  | .int i => some (.int i)
  | .str s => some (.str s.cps.toList)
  | _ => none
noncomputable def compName (c : Cx) (x : Str) : Option X :=
  match c.slot x with
  | some i => some (.loc i)
  | none => if c.isGlob x then (c.consts.lookup x).bind compConst else none
noncomputable def compUn (op : UnaryOp) (x : X) : Option X := match op with
  | .USub => some (.neg x)
  | .Not => some (.not x)
  | _ => none
noncomputable def isNone : Expr → Bool
  | .Constant v _ _ => match v with
    | .none => true
    | _ => false
  | _ => false
noncomputable def isnOf : CmpOp → Option Bool
  | .Is => some true
  | .IsNot => some false
  | _ => none
noncomputable def compIsn (ops : List CmpOp) (rs : List Expr) (l : X) : Option X := match ops with
  | [] => none
  | op :: r => match r with
    | [] => match rs with
      | [] => none
      | e :: q => match q with
        | [] => if isNone e then (isnOf op).map fun b => .isn b l else none
        | _ => none
    | _ => none
noncomputable def compCmp1 (ops : List CmpOp) (l : X) (rs : Xs) : Option X := match ops with
  | [] => none
  | op :: ops => match rs with
    | .nil => none
    | .cons r rs => match ops with
      | [] => match rs with
        | .nil => (compCOp op).map fun o => .cmp o l r
        | _ => none
      | op2 :: ops => match ops with
        | [] => match rs with
          | .nil => none
          | .cons r2 rs => match rs with
            | .nil => do return .cmp2 (← compCOp op) (← compCOp op2) l r r2
            | _ => none
        | _ => none
noncomputable def compBool (f : Expr → Option X) (op : BoolOp) : List Expr → Option X
  | [] => none
  | x :: r => match r with
    | [] => f x
    | _ => do
      let a ← f x
      let b ← compBool f op r
      return match op with | .And => .and a b | .Or => .or a b
noncomputable def compEs (f : Expr → Option X) : List Expr → Option Xs
  | [] => some .nil
  | e :: r => do return .cons (← f e) (← compEs f r)
noncomputable def compHead (f : Expr → Option X) : List Expr → Option X
  | [] => none
  | e :: _ => f e
noncomputable def compPart (f : Expr → Option X) : Option Expr → Option X
  | none => some .none
  | some e => f e
noncomputable def asTgt : Expr → Option Str
  | .Name x _ => some x
  | _ => none
/-- a list comprehension of one clause -/
noncomputable def compLC (f : Cx → Expr → Option X) (c : Cx) (elt : Expr) (gens : List Comprehension) (scope : Scope) : Option X := match gens with
  | [] => none
  | g :: r => match r with
    | [] => if g.is_async == 0 && innerOk c scope && decide (g.ifs.length ≤ 1) then do
        let x ← asTgt g.target
        if scope.names.lookup x == some .local then do
          return .comp (← f (innerCx c scope) elt) (ownNames scope).length (← (innerCx c scope).slotW x) (← f c g.iter) (← compEs (f (innerCx c scope)) g.ifs)
        else none
      else none
    | _ => none
noncomputable def stepE (f : Cx → Expr → Option X) (c : Cx) : Expr → Option X
  | .Constant v _ _ => compConst v
  | .Name x _ => compName c x
  | .BinOp l op r _ => do return .bin (← compBOp op) (← f c l) (← f c r)
  | .UnaryOp op x _ => do compUn op (← f c x)
  | .BoolOp op vs _ => compBool (f c) op vs
  | .Compare l ops rs _ => do
    let x ← f c l
    match compIsn ops rs x with
    | some y => some y
    | none => do compCmp1 ops x (← compEs (f c) rs)
  | .Call g as ks pos => match ks with
    | [] => match g with
      | .Name g _ => if !c.isGlob g then none
        else if g == ("isinstance" : Str) then do return .isi (← compHead (f c) as) (← compTyArgs c as)
        else do compCall c g (← compEs (f c) as)
      | .Attribute o m ap => if !(ap.endLine == pos.line && notSuper o && decide (as.length < 20)) then none
        else do compMeth c m (← f c o) (← compEs (f c) as)
      | _ => none
    | _ => none
  | .Attribute o a _ => if c.attrs.contains a && notSuper o then do return .attr a (← f c o) else none
  | .Subscript o i _ => match i with
    | .Slice lo hi st _ => match st with
      | none => do return .slice (← f c o) (← compPart (f c) lo) (← compPart (f c) hi)
      | _ => none
    | i => do return .sub (← f c o) (← f c i)
  | .Tuple es _ _ => do return .tup (← compEs (f c) es)
  | .List es _ => do return .list (← compEs (f c) es)
  | .Dict ks vs _ => if ks.isEmpty && vs.isEmpty then some .dict0 else none
  | .ListComp elt gens scope _ => compLC f c elt gens scope
  | _ => none
noncomputable def compE : Nat → Cx → Expr → Option X
  | 0, _, _ => none
  | n + 1, c, e => stepE (compE n) c e
noncomputable def deep : Nat := 30

/-- the name that a comprehension is put into: a local one of the function's, on its row, none of its own -/
noncomputable def putOk (c : Cx) (y : Str) (py : Pos) (v : Expr) : Bool := match v with
  | .ListComp _ _ scope pos => c.sc.names.lookup y == some .local && py.line == pos.line && !(scope.names.any fun p => p.1 == y && (p.2 == .local || p.2 == .cell))
  | _ => true
noncomputable def tgtOf (c : Cx) (t : Expr) : Option Nat := (tgtName t).bind c.slotW
noncomputable def compAsg (c : Cx) (ts : List Expr) (v : Expr) : Option S := match ts with
  | [t] => match t with
    | .Name x p => if putOk c x p v then do return .asg (← c.slotW x) (← compE deep c v) else none
    | .Subscript o k _ => if isComp v then none else do return .setitem (← compE deep c o) (← compE deep c k) (← compE deep c v)
    | .Attribute o a _ => if c.attrs.contains a && notSuper o && !isComp v then do return .setattr a (← compE deep c o) (← compE deep c v) else none
    | _ => none
  | _ => none
noncomputable def compSs (g : Stmt → Option S) : List Stmt → Option Ss
  | [] => some .nil
  | s :: r => do return .cons (← g s) (← compSs g r)
noncomputable def stepS (g : Stmt → Option S) (c : Cx) : Stmt → Option S
  | .Expr x _ => if isComp x then none else do return .expr (← compE deep c x)
  | .Return v _ => match v with
    | some x => do return .ret (← compE deep c x)
    | none => none
  | .Assign ts v _ => compAsg c ts v
  | .If t a b _ => do return .iff (← compE deep c t) (← compSs g a) (← compSs g b)
  | .While t b o _ => if o.isEmpty then do return .whil (← compE deep c t) (← compSs g b) else none
  | .For t it b o _ => if o.isEmpty then do return .forr (← tgtOf c t) (← compE deep c it) (← compSs g b) else none
  | .Raise _ _ _ => some .raise
  | _ => none
noncomputable def compS : Nat → Cx → Stmt → Option S
  | 0, _, _ => none
  | n + 1, c, s => stepS (compS n c) c s

noncomputable def slotNames (ps : List Str) (sc : Scope) : List Str :=
  ps ++ sc.names.filterMap fun p => if isLocKind p.2 && !ps.contains p.1 then some p.1 else none

/-- a plain function: named parameters alone, no name of an outer function -/
noncomputable def defOk (args : Arguments) (sc : Scope) : Bool :=
  args.posonlyargs.isEmpty && args.kwonlyargs.isEmpty && args.vararg.isNone && args.kwarg.isNone && sc.kind == .function && !sc.isGenerator && !sc.isCoroutine &&
  decide (args.args.map (·.arg)).Nodup && decide (sc.names.map (·.1)).Nodup && sc.names.all (fun p => p.2 != .free) &&
  (args.args.map (·.arg)).all (fun x => sc.names.lookup x == some .local || sc.names.lookup x == some .cell)
/-- what the functions of a text share -/
structure Sh where
  funs : List Str
  meths : List Str
  attrs : List Str
  cls : Str
  consts : List (Str × Const)
noncomputable def defCx (sh : Sh) (ps : List Str) (sc : Scope) : Cx := { sc := sc, loc := (slotNames ps sc).zipIdx, n := (slotNames ps sc).length, funs := sh.funs, meths := sh.meths, attrs := sh.attrs, cls := sh.cls, consts := sh.consts }
noncomputable def compDef (sh : Sh) (args : Arguments) (body : List Stmt) (sc : Scope) : Option FDef := do
  let ps := args.args.map (·.arg)
  let ns := slotNames ps sc
  if !defOk args sc then none
  let b ← compSs (compS deep (defCx sh ps sc)) body
  return ⟨ps.length, ns.length, b⟩

abbrev Prog := List (Str × FDef)

end Mine

namespace Mine
open PySem

noncomputable def sizeLim : Nat := 2 ^ 20

namespace Res
noncomputable def bind {α β : Type} (r : Res α) (f : α → AHeap → Res β) : Res β := match r with
  | .ok a h => f a h
  | .bad => .bad
end Res

noncomputable def Key.av : Key → AV
  | .str s => .str s
  | .pair a b => .tup [.int a, .int b]
noncomputable def AV.key? : AV → Option Key
  | .str s => some (.str s)
  | .tup xs => match xs with
    | [.int a, .int b] => some (.pair a b)
    | _ => Option.none
  | _ => Option.none
noncomputable def Key.sort : Key → Bool
  | .str _ => false
  | .pair _ _ => true
noncomputable def sortOk (kvs : List (Key × AV)) (k : Key) : Bool := kvs.all fun p => p.1.sort == k.sort

/-- == of two values -/
noncomputable def eqAll (f : AV → AV → Option Bool) : List AV → List AV → Option Bool
  | [], [] => some true
  | x :: xs, y :: ys => match f x y, eqAll f xs ys with
    | some b, some r => some (b && r)
    | _, _ => none
  | _, _ => some false
noncomputable def listAt (h : AHeap) (n : Nat) : Option (List AV) := match h[n]? with
  | some o => match o with
    | .list xs => some xs
    | _ => none
  | none => none
noncomputable def dictAt (h : AHeap) (n : Nat) : Option (List (Key × AV) × Nat) := match h[n]? with
  | some o => match o with
    | .dict kvs ep => some (kvs, ep)
    | _ => none
  | none => none
noncomputable def eqL (f : AV → AV → Option Bool) (a b : Option (List AV)) : Option Bool := match a, b with
  | some xs, some ys => if xs.length = ys.length then eqAll f xs ys else some false
  | _, _ => none
noncomputable def eqv (h : AHeap) : Nat → AV → AV → Option Bool
  | 0, _, _ => none
  | n + 1, a, b => match a with
    | .none => match b with
      | .none => some true
      | _ => none
    | .int x => match b with
      | .int y => some (decide (x = y))
      | _ => none
    | .str x => match b with
      | .str y => some (decide (x = y))
      | _ => none
    | .tup xs => match b with
      | .tup ys => eqAll (eqv h n) xs ys
      | _ => none
    | .loc i => match b with
      | .loc j => eqL (eqv h n) (listAt h i) (listAt h j)
      | _ => none
    | _ => none
noncomputable def eqFuel : Nat := 6

noncomputable def cmpOrd (op : COp) (x y : Int) : Option Bool := match op with
  | .lt => some (decide (x < y))
  | .le => some (decide (x ≤ y))
  | .gt => some (decide (y < x))
  | .ge => some (decide (y ≤ x))
  | _ => none
noncomputable def ordAV (op : COp) (a b : AV) : Option Bool := match a with
  | .int x => match b with
    | .int y => cmpOrd op x y
    | _ => none
  | _ => none

noncomputable def findEq (h : AHeap) (v : AV) : List AV → Option Bool
  | [] => some false
  | x :: r => match eqv h eqFuel x v, findEq h v r with
    | some b, some r => some (b || r)
    | _, _ => none
noncomputable def inDict (kvs : List (Key × AV)) (k : Option Key) : Option Bool := match k with
  | some k => if sortOk kvs k then some (kvs.lookup k).isSome else none
  | none => none
noncomputable def chrOf (v : AV) : Option Nat := match v with
  | .str x => match x with
    | [] => none
    | c :: r => match r with
      | [] => some c
      | _ => none
  | _ => none
noncomputable def isIn (h : AHeap) (v c : AV) : Option Bool := match c with
  | .tup xs => findEq h v xs
  | .loc n => match h[n]? with
    | some o => match o with
      | .list xs => findEq h v xs
      | .dict kvs _ => inDict kvs v.key?
      | _ => none
    | none => none
  | .str y => (chrOf v).map fun c => decide (c ∈ y)
  | _ => none

noncomputable def cmpAV (h : AHeap) (op : COp) (a b : AV) : Option Bool := match op with
  | .eq => eqv h eqFuel a b
  | .ne => (eqv h eqFuel a b).map not
  | .isin => isIn h a b
  | .notin => (isIn h a b).map not
  | op => ordAV op a b

noncomputable def mulOk (a b : Int) : Bool := decide (a.natAbs < 2 ^ 64) || decide (b.natAbs < 2 ^ 64)

noncomputable def newList (vs : List AV) (h : AHeap) : Res AV := if vs.length ≤ sizeLim then .ok (.loc h.length) (h ++ [.list vs]) else .bad
noncomputable def newListO (vs : Option (List AV)) (h : AHeap) : Res AV := match vs with
  | some vs => newList vs h
  | none => .bad
noncomputable def okO (v : Option AV) (h : AHeap) : Res AV := match v with
  | some v => .ok v h
  | none => .bad

noncomputable def binI (op : BOp) (x y : Int) (h : AHeap) : Res AV := match op with
  | .add => .ok (.int (x + y)) h
  | .sub => .ok (.int (x - y)) h
  | .mul => if mulOk x y then .ok (.int (x * y)) h else .bad
  | .div => if y = 0 then .bad else .ok (.int (x.fdiv y)) h
  | .mod => if y = 0 then .bad else .ok (.int (x.fmod y)) h
noncomputable def isAdd : BOp → Bool
  | .add => true
  | _ => false
noncomputable def addS (x y : List Nat) (h : AHeap) : Res AV := if x.length + y.length ≤ sizeLim then .ok (.str (x ++ y)) h else .bad
noncomputable def binAV (op : BOp) (a b : AV) (h : AHeap) : Res AV := match a with
  | .int x => match b with
    | .int y => binI op x y h
    | _ => .bad
  | .str x => match b with
    | .str y => if isAdd op then addS x y h else .bad
    | _ => .bad
  | _ => .bad

noncomputable def negAV (a : AV) (h : AHeap) : Res AV := match a with
  | .int x => .ok (.int (-x)) h
  | _ => .bad

noncomputable def lenAV (a : AV) (h : AHeap) : Res AV := match a with
  | .str xs => if xs.length ≤ sizeLim then .ok (.int xs.length) h else .bad
  | .tup xs => if xs.length ≤ sizeLim then .ok (.int xs.length) h else .bad
  | .scr xs => if xs.length ≤ sizeLim then .ok (.int xs.length) h else .bad
  | .loc n => match h[n]? with
    | some o => match o with
      | .list xs => .ok (.int xs.length) h
      | .dict kvs _ => .ok (.int kvs.length) h
      | _ => .bad
    | none => .bad
  | _ => .bad

noncomputable def rngLen (a b s : Int) : Nat := if s = 1 then (b - a).toNat else if s = -1 then (a - b).toNat else 0
noncomputable def rngItems (a b s : Int) : List AV := (List.range (rngLen a b s)).map fun (k : Nat) => .int (a + s * k)

/-- what an iteration takes, in order -/
noncomputable def itemsAV (a : AV) (h : AHeap) : Option (List AV) := match a with
  | .str x => if x.all (fun c => decide (c < 128)) then some (x.map fun c => .str [c]) else none
  | .tup xs => some xs
  | .loc n => listAt h n
  | .rng a b s => if (s = 1 ∨ s = -1) ∧ a.natAbs ≤ sizeLim ∧ b.natAbs ≤ sizeLim then some (rngItems a b s) else none
  | _ => none

noncomputable def dictPut (kvs : List (Key × AV)) (k : Key) (v : AV) : List (Key × AV) :=
  if kvs.any (fun p => p.1 == k) then kvs.map (fun p => if p.1 == k then (p.1, v) else p) else kvs ++ [(k, v)]

/-- pairs by their first, then by their second -/
noncomputable def lexLt (a b : Int × Int) : Bool := decide (a.1 < b.1) || (decide (a.1 = b.1) && decide (a.2 < b.2))
/-- a tree of questions, answered -/
noncomputable def runT {α : Type} (lt : Nat → Nat → Bool) : PySem.W.KasT α → α
  | .ret a => a
  | .ask i j k => runT lt (k (lt i j))
noncomputable def pairOf (v : AV) : Option (Int × Int) := match v.key? with
  | some k => match k with
    | .pair a b => some (a, b)
    | _ => none
  | none => none
noncomputable def pairsOf : List AV → Option (List (Int × Int))
  | [] => some []
  | v :: r => match pairOf v, pairsOf r with
    | some p, some ps => some (p :: ps)
    | _, _ => none
noncomputable def pairAV (p : Int × Int) : AV := .tup [.int p.1, .int p.2]
noncomputable def atP (ps : List (Int × Int)) (i : Nat) : Int × Int := ps.getD i (0, 0)
noncomputable def orderOf (ps : List (Int × Int)) : List Nat := (runT (fun i j => lexLt (atP ps i) (atP ps j)) (PySem.W.kas_sort ps.length)).toList
noncomputable def sortP (ps : List (Int × Int)) : Option (List AV) := if ps.length < 2 then some (ps.map pairAV)
  else if ps.length < 64 then some ((orderOf ps).map fun i => pairAV (atP ps i)) else none
/-- a list's items, or a dict's keys -/
noncomputable def walkOf (h : AHeap) (n : Nat) : Option (List AV) := match h[n]? with
  | some o => match o with
    | .list xs => some xs
    | .dict kvs _ => some (kvs.map fun p => p.1.av)
    | _ => none
  | none => none
noncomputable def biAV (b : BI) (as : List AV) (h : AHeap) : Res AV := match as with
  | [a] => match b with
    | .len => lenAV a h
    | .list => match a with
      | .loc n => newListO (walkOf h n) h
      | _ => .bad
    | .sorted => match a with
      | .loc n => newListO (((walkOf h n).bind pairsOf).bind sortP) h
      | _ => .bad
  | _ => .bad

noncomputable def appendAV (o : AV) (as : List AV) (h : AHeap) : Res AV := match o with
  | .loc n => match as with
    | [v] => match listAt h n with
      | some xs => if xs.length < sizeLim then .ok .none (h.set n (.list (xs ++ [v]))) else .bad
      | none => .bad
    | _ => .bad
  | _ => .bad
noncomputable def getD (kvs : List (Key × AV)) (k : Option Key) : Option AV := match k with
  | some k => if sortOk kvs k then some ((kvs.lookup k).getD .none) else none
  | none => none
noncomputable def getAV (o : AV) (as : List AV) (h : AHeap) : Res AV := match o with
  | .loc n => match as with
    | [v] => match dictAt h n with
      | some d => okO (getD d.1 v.key?) h
      | none => .bad
    | _ => .bad
  | _ => .bad
noncomputable def indexAV (o : AV) (as : List AV) (h : AHeap) : Res AV := match o with
  | .str x => match as with
    | [v] => okO (((chrOf v).bind fun c => x.findIdx? (· == c)).map fun (i : Nat) => AV.int (i : Int)) h
    | _ => .bad
  | _ => .bad
noncomputable def bmAV (m : BM) (o : AV) (as : List AV) (h : AHeap) : Res AV := match m with
  | .append => appendAV o as h
  | .get => getAV o as h
  | .index => indexAV o as h
/-- the kind of thing that a method is asked of -/
noncomputable def bmOk (m : BM) (v : AV) (h : AHeap) : Bool := match v with
  | .loc n => match m with
    | .append => (listAt h n).isSome
    | .get => (dictAt h n).isSome
    | .index => false
  | .str _ => match m with
    | .index => true
    | _ => false
  | _ => false

noncomputable def idx? {α : Type} (xs : List α) (i : Int) : Option α :=
  if 0 ≤ i then xs[i.toNat]? else if 0 ≤ i + xs.length then xs[(i + xs.length).toNat]? else none
noncomputable def subD (kvs : List (Key × AV)) (k : Option Key) : Option AV := match k with
  | some k => if sortOk kvs k then kvs.lookup k else none
  | none => none
noncomputable def intOf : AV → Option Int
  | .int i => some i
  | _ => none
noncomputable def subI (xs : List AV) (i : Option Int) : Option AV := match i with
  | some i => if xs.length ≤ sizeLim then idx? xs i else none
  | none => none
noncomputable def subO (ob : AObj) (i : AV) (h : AHeap) : Res AV := match ob with
  | .list xs => okO (subI xs (intOf i)) h
  | .dict kvs _ => okO (subD kvs i.key?) h
  | _ => .bad
noncomputable def subAV (o i : AV) (h : AHeap) : Res AV := match o with
  | .str xs => okO (subI (xs.map fun c => .str [c]) (intOf i)) h
  | .tup xs => okO (subI xs (intOf i)) h
  | .scr xs => okO (subI (xs.map .int) (intOf i)) h
  | .loc n => match h[n]? with
    | some ob => subO ob i h
    | none => .bad
  | _ => .bad

noncomputable def clampIdx (n : Nat) (i : Int) : Nat := if i < 0 then (i + n).toNat else min i.toNat n
noncomputable def cutList {α : Type} (xs : List α) (lo hi : Int) : List α := (xs.take (clampIdx xs.length hi)).drop (clampIdx xs.length lo)
noncomputable def loOf : AV → Option Int
  | .none => some 0
  | .int i => some i
  | _ => none
noncomputable def hiOf (n : Nat) : AV → Option Int
  | .none => some n
  | .int i => some i
  | _ => none
noncomputable def cutO {α : Type} (xs : List α) (lo hi : AV) : Option (List α) := if xs.length ≤ sizeLim then (loOf lo).bind fun a => (hiOf xs.length hi).map fun b => cutList xs a b else none
noncomputable def sliceAV (o lo hi : AV) (h : AHeap) : Res AV := match o with
  | .scr xs => newListO ((cutO xs lo hi).map fun ys => ys.map .int) h
  | .str x => okO ((cutO x lo hi).map .str) h
  | _ => .bad

/-- an instance: where its names are kept -/
noncomputable def instAt (h : AHeap) (n : Nat) : Option (List (Str × AV)) := match h[n]? with
  | some o => match o with
    | .inst k => match h[k]? with
      | some o => match o with
        | .ns fs => some fs
        | _ => none
      | none => none
    | _ => none
  | none => none
noncomputable def attrAV (a : Str) (v : AV) (h : AHeap) : Res AV := match v with
  | .loc n => okO ((instAt h n).bind fun fs => fs.lookup a) h
  | _ => .bad
noncomputable def hasMeth (m : Str) (v : AV) (h : AHeap) : Bool := match v with
  | .loc n => match instAt h n with
    | some fs => (fs.lookup m).isNone
    | none => false
  | _ => false
noncomputable def nsAt (h : AHeap) (n : Nat) : Option (Nat × List (Str × AV)) := match h[n]? with
  | some o => match o with
    | .inst k => match h[k]? with
      | some o => match o with
        | .ns fs => some (k, fs)
        | _ => none
      | none => none
    | _ => none
  | none => none
noncomputable def setAttrAV (a : Str) (o v : AV) (h : AHeap) : Option AHeap := match o with
  | .loc n => (nsAt h n).map fun p => h.set p.1 (.ns ((a, v) :: p.2))
  | _ => none
noncomputable def isNoneAV : AV → Bool
  | .none => true
  | _ => false

noncomputable def isTy (h : AHeap) (a : AV) (t : Ty) : Option Bool := match a with
  | .int _ => match t with
    | .int => some true
    | _ => some false
  | .str _ => match t with
    | .str => some true
    | _ => some false
  | .tup _ => match t with
    | .tuple => some true
    | _ => some false
  | .loc n => match t with
    | .list => (listAt h n).map fun _ => true
    | _ => none
  | _ => none

structure Ctx where
  F : Str → List AV → AHeap → Res AV
  fuel : Nat

noncomputable def rangeOf (as : List AV) : Option AV := match as with
  | [a] => match a with
    | .int b => if b.natAbs ≤ sizeLim then some (.rng 0 b 1) else none
    | _ => none
  | [a, b, s] => match a, b, s with
    | .int a, .int b, .int s => if s = -1 ∧ a.natAbs ≤ sizeLim ∧ b.natAbs ≤ sizeLim then some (.rng a b (-1)) else none
    | _, _, _ => none
  | _ => none

/-- the item at a place, as the walk finds it now -/
noncomputable def nextAt (src : AV) (i : Nat) (h : AHeap) : Option (Option AV) := (itemsAV src h).map fun xs => xs[i]?

noncomputable def compLoop (body : AV → AHeap → Res (Option AV)) (src : AV) : Nat → Nat → List AV → AHeap → Res (List AV)
  | 0, _, _, _ => .bad
  | f + 1, i, acc, h => match nextAt src i h with
    | none => .bad
    | some none => .ok acc h
    | some (some v) => (body v h).bind fun r h => match r with
      | some x => if acc.length < sizeLim then compLoop body src f (i + 1) (acc ++ [x]) h else .bad
      | none => compLoop body src f (i + 1) acc h

noncomputable def locAt (l : Locs) (i : Nat) : Option AV := match l[i]? with
  | some o => o
  | none => none
noncomputable def notAV (v : AV) (h : AHeap) : Res AV := match v with
  | .bool b => .ok (.bool !b) h
  | _ => .bad
noncomputable def condV (v : AV) (x y : Res AV) : Res AV := match v with
  | .bool b => if b then x else y
  | _ => .bad
noncomputable def boolO (r : Option Bool) (h : AHeap) : Res AV := match r with
  | some r => .ok (.bool r) h
  | none => .bad

/-- the names of a comprehension's block -/
noncomputable def inner (l : Locs) (k j : Nat) (v : AV) : Locs := (l ++ List.replicate k none).set j (some v)
noncomputable def condB (v : AV) (x y : Res Bool) : Res Bool := match v with
  | .bool b => if b then x else y
  | _ => .bad
noncomputable def ifB (b : Bool) (h : AHeap) (x : Res AV) : Res (Option AV) := if b then x.bind fun x h => .ok (some x) h else .ok none h
/-- an instance is made: its names, itself -/
noncomputable def made (h : AHeap) : AHeap := h ++ [.ns [], .inst h.length]
noncomputable def initOk (n : Nat) (r : AV) (h : AHeap) : Res AV := if isNoneAV r then .ok (.loc n) h else .bad
/-- the second test of two -/
noncomputable def cmpAnd (r : Option Bool) (h : AHeap) (k : Res AV) : Res AV := match r with
  | some b => if b then k else .ok (.bool false) h
  | none => .bad

mutual
noncomputable def evalX (c : Ctx) : X → Locs → AHeap → Res AV
  | .none, _, h => .ok .none h
  | .bool b, _, h => .ok (.bool b) h
  | .int i, _, h => .ok (.int i) h
  | .str s, _, h => .ok (.str s) h
  | .loc i, l, h => okO (locAt l i) h
  | .bin op a b, l, h => (evalX c a l h).bind fun x h => (evalX c b l h).bind fun y h => binAV op x y h
  | .neg a, l, h => (evalX c a l h).bind negAV
  | .not a, l, h => (evalX c a l h).bind notAV
  | .and a b, l, h => (evalX c a l h).bind fun x h => condV x (evalX c b l h) (.ok (.bool false) h)
  | .or a b, l, h => (evalX c a l h).bind fun x h => condV x (.ok (.bool true) h) (evalX c b l h)
  | .cmp op a b, l, h => (evalX c a l h).bind fun x h => (evalX c b l h).bind fun y h => boolO (cmpAV h op x y) h
  | .cmp2 o1 o2 a b d, l, h => (evalX c a l h).bind fun x h => (evalX c b l h).bind fun y h => cmpAnd (cmpAV h o1 x y) h ((evalX c d l h).bind fun z h => boolO (cmpAV h o2 y z) h)
  | .isn b x, l, h => (evalX c x l h).bind fun v h => .ok (.bool (isNoneAV v == b)) h
  | .call f as, l, h => (evalXs c as l h).bind fun vs h => c.F f vs h
  | .bi b as, l, h => (evalXs c as l h).bind fun vs h => biAV b vs h
  | .isi x t, l, h => (evalX c x l h).bind fun v h => boolO (isTy h v t) h
  | .new as, l, h => (evalXs c as l h).bind fun vs h => (c.F "__init__" (.loc (h.length + 1) :: vs) (made h)).bind fun r h' => initOk (h.length + 1) r h'
  | .im m o as, l, h => (evalX c o l h).bind fun v h => if hasMeth m v h then (evalXs c as l h).bind fun vs h => c.F m (v :: vs) h else .bad
  | .bm m o as, l, h => (evalX c o l h).bind fun v h => if bmOk m v h then (evalXs c as l h).bind fun vs h => bmAV m v vs h else .bad
  | .attr a o, l, h => (evalX c o l h).bind fun v h => attrAV a v h
  | .sub o i, l, h => (evalX c o l h).bind fun v h => (evalX c i l h).bind fun k h => subAV v k h
  | .slice o a b, l, h => (evalX c o l h).bind fun v h => (evalX c a l h).bind fun x h => (evalX c b l h).bind fun y h => sliceAV v x y h
  | .tup es, l, h => (evalXs c es l h).bind fun vs h => if vs.length ≤ sizeLim then .ok (.tup vs) h else .bad
  | .list es, l, h => (evalXs c es l h).bind fun vs h => newList vs h
  | .dict0, _, h => .ok (.loc h.length) (h ++ [.dict [] 0])
  | .range as, l, h => (evalXs c as l h).bind fun vs h => okO (rangeOf vs) h
  | .comp e k j it cs, l, h => (evalX c it l h).bind fun src h =>
    (compLoop (fun v h => (evalConds c cs (inner l k j v) h).bind fun b h => ifB b h (evalX c e (inner l k j v) h)) src c.fuel 0 [] h).bind fun vs h => newList vs h
noncomputable def evalXs (c : Ctx) : Xs → Locs → AHeap → Res (List AV)
  | .nil, _, h => .ok [] h
  | .cons x r, l, h => (evalX c x l h).bind fun v h => (evalXs c r l h).bind fun vs h => .ok (v :: vs) h
noncomputable def evalConds (c : Ctx) : Xs → Locs → AHeap → Res Bool
  | .nil, _, h => .ok true h
  | .cons x r, l, h => (evalX c x l h).bind fun v h => condB v (evalConds c r l h) (.ok false h)
end

inductive Flow where
  | next
  | ret (v : AV)
inductive SR where
  | ok (f : Flow) (l : Locs) (h : AHeap)
  | bad
noncomputable def Res.st {α : Type} (r : Res α) (f : α → AHeap → SR) : SR := match r with
  | .ok a h => f a h
  | .bad => .bad

noncomputable def setD (h : AHeap) (n : Nat) (kvs : List (Key × AV)) (ep : Nat) (v : AV) (k : Option Key) : Option AHeap := match k with
  | some k => if sortOk kvs k && decide (kvs.length < sizeLim) then some (h.set n (.dict (dictPut kvs k v) (if (kvs.lookup k).isSome then ep else ep + 1))) else none
  | none => none
noncomputable def setItemAV (o k v : AV) (h : AHeap) : Option AHeap := match o with
  | .loc n => match h[n]? with
    | some ob => match ob with
      | .dict kvs ep => setD h n kvs ep v k.key?
      | _ => none
    | none => none
  | _ => none
noncomputable def heapO (l : Locs) (h : Option AHeap) : SR := match h with
  | some h => .ok .next l h
  | none => .bad
noncomputable def condS (v : AV) (x y : SR) : SR := match v with
  | .bool b => if b then x else y
  | _ => .bad
/-- what a turn leaves -/
noncomputable def SR.turn (r : SR) (k : Locs → AHeap → SR) : SR := match r with
  | .ok f l h => match f with
    | .next => k l h
    | .ret v => .ok (.ret v) l h
  | .bad => .bad

noncomputable def whileLoop (test : Locs → AHeap → Res AV) (body : Locs → AHeap → SR) : Nat → Locs → AHeap → SR
  | 0, _, _ => .bad
  | f + 1, l, h => (test l h).st fun v h => condS v ((body l h).turn (whileLoop test body f)) (.ok .next l h)
noncomputable def forLoop (i : Nat) (body : Locs → AHeap → SR) (src : AV) : Nat → Nat → Locs → AHeap → SR
  | 0, _, _, _ => .bad
  | f + 1, k, l, h => match nextAt src k h with
    | none => .bad
    | some r => match r with
      | none => .ok .next l h
      | some v => (body (l.set i (some v)) h).turn (forLoop i body src f (k + 1))
mutual
noncomputable def execS (c : Ctx) : S → Locs → AHeap → SR
  | .expr x, l, h => (evalX c x l h).st fun _ h => .ok .next l h
  | .ret x, l, h => (evalX c x l h).st fun v h => .ok (.ret v) l h
  | .asg i x, l, h => (evalX c x l h).st fun v h => .ok .next (l.set i (some v)) h
  | .setitem o k x, l, h => (evalX c x l h).st fun v h => (evalX c o l h).st fun o h => (evalX c k l h).st fun k h => heapO l (setItemAV o k v h)
  | .iff t a b, l, h => (evalX c t l h).st fun v h => condS v (execSs c a l h) (execSs c b l h)
  | .whil t b, l, h => whileLoop (fun l h => evalX c t l h) (fun l h => execSs c b l h) c.fuel l h
  | .forr i it b, l, h => (evalX c it l h).st fun src h => forLoop i (fun l h => execSs c b l h) src c.fuel 0 l h
  | .setattr a o x, l, h => (evalX c x l h).st fun v h => (evalX c o l h).st fun o h => heapO l (setAttrAV a o v h)
  | .raise, _, _ => .bad
noncomputable def execSs (c : Ctx) : Ss → Locs → AHeap → SR
  | .nil, l, h => .ok .next l h
  | .cons s r, l, h => (execS c s l h).turn fun l h => execSs c r l h
end

noncomputable def retR (r : SR) : Res AV := match r with
  | .ok f _ h => match f with
    | .ret v => .ok v h
    | .next => .ok .none h
  | .bad => .bad
noncomputable def runDef (c : Ctx) (d : FDef) (as : List AV) (h : AHeap) : Res AV :=
  if as.length = d.params then retR (execSs c d.body (as.map some ++ List.replicate (d.slots - d.params) none) h)
  else .bad

noncomputable def fuelOf : Nat := 100000
noncomputable def semF (p : Prog) : Nat → Str → List AV → AHeap → Res AV
  | 0 => fun _ _ _ => .bad
  | n + 1 => fun f as h => match p.lookup f with
    | some d => runDef ⟨semF p n, fuelOf⟩ d as h
    | none => .bad
end Mine

namespace Mine
open PySem

/-! equations that run the small language -/
section
variable {α β : Type} {a : α} {h : AHeap} {l : Locs} {c : Ctx}
theorem bok {f : α → AHeap → Res β} : (Res.ok a h).bind f = f a h := rfl
theorem sok {f : α → AHeap → SR} : (Res.ok a h).st f = f a h := rfl
theorem turn_next {k : Locs → AHeap → SR} : (SR.ok .next l h).turn k = k l h := rfl
theorem turn_ret {k : Locs → AHeap → SR} {v : AV} : (SR.ok (.ret v) l h).turn k = .ok (.ret v) l h := rfl
theorem cond_t {x y : SR} : condS (.bool true) x y = x := rfl
theorem cond_f {x y : SR} : condS (.bool false) x y = y := rfl
theorem condV_t {x y : Res AV} : condV (.bool true) x y = x := rfl
theorem condV_f {x y : Res AV} : condV (.bool false) x y = y := rfl
theorem cond_if {p : Prop} [Decidable p] {x y : SR} : condS (.bool (decide p)) x y = if p then x else y := by
  by_cases hp : p <;> simp [hp, condS]
theorem boolO_some {b : Bool} : boolO (some b) h = .ok (.bool b) h := rfl
theorem okO_some {b : AV} : okO (some b) h = .ok b h := rfl
theorem heapO_some : heapO l (some h) = .ok .next l h := rfl
theorem notAV_bool {b : Bool} : notAV (.bool b) h = .ok (.bool !b) h := rfl
theorem negAV_int {b : Int} : negAV (.int b) h = .ok (.int (-b)) h := rfl
theorem retR_ret {v : AV} : retR (.ok (.ret v) l h) = .ok v h := rfl
theorem retR_next : retR (.ok .next l h) = .ok .none h := rfl

theorem loc0 {o : AV} {r : Locs} : locAt (some o :: r) 0 = some o := rfl
theorem locS {o : Option AV} {r : Locs} {i : Nat} : locAt (o :: r) (i + 1) = locAt r i := rfl

theorem ss_nil : execSs c .nil l h = .ok .next l h := rfl
theorem ss_cons {s : S} {r : Ss} : execSs c (.cons s r) l h = (execS c s l h).turn fun l h => execSs c r l h := rfl
theorem s_expr {x : X} : execS c (.expr x) l h = (evalX c x l h).st fun _ h => .ok .next l h := rfl
theorem s_ret {x : X} : execS c (.ret x) l h = (evalX c x l h).st fun v h => .ok (.ret v) l h := rfl
theorem s_asg {i : Nat} {x : X} : execS c (.asg i x) l h = (evalX c x l h).st fun v h => .ok .next (l.set i (some v)) h := rfl
theorem s_set {o k x : X} : execS c (.setitem o k x) l h = (evalX c x l h).st fun v h => (evalX c o l h).st fun o h => (evalX c k l h).st fun k h => heapO l (setItemAV o k v h) := rfl
theorem s_iff {t : X} {x y : Ss} : execS c (.iff t x y) l h = (evalX c t l h).st fun v h => condS v (execSs c x l h) (execSs c y l h) := rfl
theorem s_whil {t : X} {b : Ss} : execS c (.whil t b) l h = whileLoop (fun l h => evalX c t l h) (fun l h => execSs c b l h) c.fuel l h := rfl
theorem s_for {i : Nat} {it : X} {b : Ss} : execS c (.forr i it b) l h = (evalX c it l h).st fun src h => forLoop i (fun l h => execSs c b l h) src c.fuel 0 l h := rfl
theorem s_seta {a : Str} {o x : X} : execS c (.setattr a o x) l h = (evalX c x l h).st fun v h => (evalX c o l h).st fun o h => heapO l (setAttrAV a o v h) := rfl
theorem x_none : evalX c .none l h = .ok .none h := rfl
theorem x_bool {b : Bool} : evalX c (.bool b) l h = .ok (.bool b) h := rfl
theorem x_int {b : Int} : evalX c (.int b) l h = .ok (.int b) h := rfl
theorem x_str {b : List Nat} : evalX c (.str b) l h = .ok (.str b) h := rfl
theorem x_loc {i : Nat} : evalX c (.loc i) l h = okO (locAt l i) h := rfl
theorem x_bin {op : BOp} {x y : X} : evalX c (.bin op x y) l h = (evalX c x l h).bind fun x h => (evalX c y l h).bind fun y h => binAV op x y h := rfl
theorem x_neg {x : X} : evalX c (.neg x) l h = (evalX c x l h).bind negAV := rfl
theorem x_not {x : X} : evalX c (.not x) l h = (evalX c x l h).bind notAV := rfl
theorem x_and {x y : X} : evalX c (.and x y) l h = (evalX c x l h).bind fun v h => condV v (evalX c y l h) (.ok (.bool false) h) := rfl
theorem x_or {x y : X} : evalX c (.or x y) l h = (evalX c x l h).bind fun v h => condV v (.ok (.bool true) h) (evalX c y l h) := rfl
theorem x_cmp {op : COp} {x y : X} : evalX c (.cmp op x y) l h = (evalX c x l h).bind fun x h => (evalX c y l h).bind fun y h => boolO (cmpAV h op x y) h := rfl
theorem x_call {f : Str} {as : Xs} : evalX c (.call f as) l h = (evalXs c as l h).bind fun vs h => c.F f vs h := rfl
theorem x_bi {b : BI} {as : Xs} : evalX c (.bi b as) l h = (evalXs c as l h).bind fun vs h => biAV b vs h := rfl
theorem x_isi {x : X} {t : Ty} : evalX c (.isi x t) l h = (evalX c x l h).bind fun v h => boolO (isTy h v t) h := rfl
theorem x_cmp2 {o1 o2 : COp} {x y z : X} : evalX c (.cmp2 o1 o2 x y z) l h = (evalX c x l h).bind fun x h => (evalX c y l h).bind fun y h => cmpAnd (cmpAV h o1 x y) h ((evalX c z l h).bind fun z h => boolO (cmpAV h o2 y z) h) := rfl
theorem x_isn {b : Bool} {x : X} : evalX c (.isn b x) l h = (evalX c x l h).bind fun v h => .ok (.bool (isNoneAV v == b)) h := rfl
theorem x_new {as : Xs} : evalX c (.new as) l h = (evalXs c as l h).bind fun vs h => (c.F "__init__" (.loc (h.length + 1) :: vs) (made h)).bind fun r h' => initOk (h.length + 1) r h' := rfl
theorem x_im {m : Str} {o : X} {as : Xs} : evalX c (.im m o as) l h = (evalX c o l h).bind fun v h => if hasMeth m v h then (evalXs c as l h).bind fun vs h => c.F m (v :: vs) h else .bad := rfl
theorem x_bm {m : BM} {o : X} {as : Xs} : evalX c (.bm m o as) l h = (evalX c o l h).bind fun v h => if bmOk m v h then (evalXs c as l h).bind fun vs h => bmAV m v vs h else .bad := rfl
theorem x_attr {a : Str} {o : X} : evalX c (.attr a o) l h = (evalX c o l h).bind fun v h => attrAV a v h := rfl
theorem x_slice {x y z : X} : evalX c (.slice x y z) l h = (evalX c x l h).bind fun v h => (evalX c y l h).bind fun x h => (evalX c z l h).bind fun y h => sliceAV v x y h := rfl
theorem x_comp {e it : X} {k j : Nat} {cs : Xs} : evalX c (.comp e k j it cs) l h = (evalX c it l h).bind fun src h =>
    (compLoop (fun v h => (evalConds c cs (inner l k j v) h).bind fun b h => ifB b h (evalX c e (inner l k j v) h)) src c.fuel 0 [] h).bind fun vs h => newList vs h := rfl
theorem x_sub {x y : X} : evalX c (.sub x y) l h = (evalX c x l h).bind fun x h => (evalX c y l h).bind fun y h => subAV x y h := rfl
theorem x_tup {as : Xs} : evalX c (.tup as) l h = (evalXs c as l h).bind fun vs h => if vs.length ≤ sizeLim then .ok (.tup vs) h else .bad := rfl
theorem x_list {as : Xs} : evalX c (.list as) l h = (evalXs c as l h).bind fun vs h => newList vs h := rfl
theorem x_dict0 : evalX c .dict0 l h = .ok (.loc h.length) (h ++ [.dict [] 0]) := rfl
theorem x_range {as : Xs} : evalX c (.range as) l h = (evalXs c as l h).bind fun vs h => okO (rangeOf vs) h := rfl
theorem xs_nil : evalXs c .nil l h = .ok [] h := rfl
theorem xs_cons {x : X} {xs : Xs} : evalXs c (.cons x xs) l h = (evalX c x l h).bind fun v h => (evalXs c xs l h).bind fun vs h => .ok (v :: vs) h := rfl

end
theorem semF_at {prog : Prog} {f : Str} {d : FDef} (h : prog.lookup f = some d) (n : Nat) (as : List AV) (hp : AHeap) : semF prog (n + 1) f as hp = runDef ⟨semF prog n, fuelOf⟩ d as hp := by
  show (match prog.lookup f with | some d => runDef ⟨semF prog n, fuelOf⟩ d as hp | none => .bad) = _
  rw [h]
end Mine

namespace Mine
open PySem PySem.Spec PyProof.Rows

abbrev Sg := List (Addr × Nat)

structure Bs where
  h₀ : Heap
  C : Addr
  attrs : List Str

abbrev ObjAt (h : Heap) (a : Addr) (cls : Value) (d : Data) : Prop := h.get? a = some { cls := cls, data := d }

mutual
noncomputable def RV (B : Bs) (h : Heap) (σ : Sg) : AV → Value → Prop
  | .none, v => v = .none
  | .bool b, v => v = .bool b
  | .int i, v => ∃ t, v = .int i t
  | .str s, v => ∃ t, v = .str ⟨s.toArray⟩ t
  | .tup xs, v => ∃ a ws n, v = .ref a ∧ ObjAt h a (.type "tuple") (.seq ws n) ∧ RVs B h σ xs ws.toList
  | .loc n, v => ∃ a off, v = .ref a ∧ σ[n]? = some (a, off)
  | .rng a b s, v => ∃ r t u x, v = .ref r ∧ IsRange h r a b s t u x
  | .scr xs, v => ∃ a items, v = .ref a ∧ B.h₀.IsList a items ∧ RIs xs items.toList
noncomputable def RVs (B : Bs) (h : Heap) (σ : Sg) : List AV → List Value → Prop
  | [], [] => True
  | x :: xs, w :: ws => RV B h σ x w ∧ RVs B h σ xs ws
  | _, _ => False
noncomputable def RIs : List Int → List Value → Prop
  | [], [] => True
  | x :: xs, w :: ws => (∃ t, w = .int x t) ∧ RIs xs ws
  | _, _ => False
end

/-- objects that nothing turns -/
noncomputable def fixed (o : Obj) : Prop := match o.data with
  | .seq _ _ => o.cls = .type "tuple"
  | .fields _ => o.cls = .type "range"
  | _ => False

noncomputable def Near (o : Obj) (r : Option Obj) : Prop := r = some o ∨ (o.cls = .type "frame" ∧ ∃ sl, r = some { o with slots := sl })

structure Grows (σ σ' : Sg) (X : List Addr) (h h' : Heap) : Prop where
  ext : ∃ τ, σ' = σ ++ τ ∧ ∀ p ∈ τ, h.get? p.1 = none
  fix : ∀ b o, h.get? b = some o → fixed o → h'.get? b = some o
  oth : ∀ b o, h.get? b = some o → b ∉ σ.map (·.1) → b ∉ X → Near o (h'.get? b)
  ex : ∀ b o, h.get? b = some o → ∃ o', h'.get? b = some o'

theorem Near.refl {o : Obj} : Near o (some o) := .inl rfl
theorem Near.trans {o o' : Obj} {r r' : Option Obj} (h1 : Near o r) (e : r = some o') (h2 : Near o' r') : Near o r' := by
  subst e
  rcases h1 with h1 | ⟨hc, sl, h1⟩
  · cases h1; exact h2
  · cases h1
    rcases h2 with h2 | ⟨_, sl', h2⟩
    · exact .inr ⟨hc, sl, h2⟩
    · exact .inr ⟨hc, sl', h2⟩
theorem Near.get {o : Obj} {r : Option Obj} (h : Near o r) : ∃ o', r = some o' ∧ o'.cls = o.cls ∧ o'.data = o.data ∧ o'.dict = o.dict := by
  rcases h with h | ⟨_, sl, h⟩
  · exact ⟨o, h, rfl, rfl, rfl⟩
  · exact ⟨_, h, rfl, rfl, rfl⟩

theorem Grows.refl (σ : Sg) (X : List Addr) (h : Heap) : Grows σ σ X h h :=
  ⟨⟨[], by simp, fun _ hp => nomatch hp⟩, fun _ _ e _ => e, fun b o e _ _ => by rw [e]; exact .refl, fun b o e => ⟨o, e⟩⟩

theorem Grows.trans {σ₁ σ₂ σ₃ : Sg} {X : List Addr} {h₁ h₂ h₃ : Heap} (x : Grows σ₁ σ₂ X h₁ h₂) (y : Grows σ₂ σ₃ X h₂ h₃) : Grows σ₁ σ₃ X h₁ h₃ := by
  obtain ⟨τ, rfl, hτ⟩ := x.ext
  obtain ⟨τ', rfl, hτ'⟩ := y.ext
  refine ⟨⟨τ ++ τ', by simp, fun p hp => ?_⟩, fun b o e f => y.fix b o (x.fix b o e f) f, fun b o e h1 h2 => ?_, fun b o e => let ⟨o', e'⟩ := x.ex b o e; y.ex b o' e'⟩
  · rcases List.mem_append.mp hp with hp | hp
    · exact hτ p hp
    · cases hq : h₁.get? p.1 with
      | none => rfl
      | some o =>
        obtain ⟨o', e'⟩ := x.ex _ o hq
        rw [hτ' p hp] at e'; cases e'
  · have n := x.oth b o e h1 h2
    obtain ⟨o', e', _⟩ := n.get
    refine n.trans e' (y.oth b o' e' ?_ h2)
    rw [List.map_append, List.mem_append]
    rintro (hb | hb)
    · exact h1 hb
    · obtain ⟨p, hp, rfl⟩ := List.mem_map.mp hb
      rw [hτ p hp] at e; cases e

/-- what is let turn may be new, or be let turn anyway -/
theorem Grows.drop {σ σ' : Sg} {X Y : List Addr} {h h' : Heap} (x : Grows σ σ' X h h') (hs : ∀ a ∈ X, a ∈ Y ∨ h.get? a = none) : Grows σ σ' Y h h' :=
  ⟨x.ext, x.fix, fun b o e h1 h2 => x.oth b o e h1 fun hb => (hs b hb).elim h2 (fun q => by rw [q] at e; cases e), x.ex⟩
theorem Grows.more {σ σ' : Sg} {X Y : List Addr} {h h' : Heap} (x : Grows σ σ' X h h') (hs : ∀ a ∈ X, a ∈ Y) : Grows σ σ' Y h h' :=
  ⟨x.ext, x.fix, fun b o e h1 h2 => x.oth b o e h1 fun hb => h2 (hs b hb), x.ex⟩

theorem Grows.look {σ σ' : Sg} {X : List Addr} {h h' : Heap} (x : Grows σ σ' X h h') {n : Nat} {p : Addr × Nat} (e : σ[n]? = some p) : σ'[n]? = some p := by
  obtain ⟨τ, rfl, _⟩ := x.ext
  rw [List.getElem?_append_left (List.getElem?_eq_some_iff.mp e).1]; exact e

theorem objAt_fix {σ σ' : Sg} {X : List Addr} {h h' : Heap} (x : Grows σ σ' X h h') {a : Addr} {c : Value} {d : Data} (o : ObjAt h a c d) (f : ∀ o : Obj, o.cls = c → o.data = d → fixed o) : ObjAt h' a c d :=
  x.fix a _ o (f _ rfl rfl)

theorem fixed_tuple {o : Obj} {ws : Array Value} {n : Nat} (hc : o.cls = .type "tuple") (hd : o.data = .seq ws n) : fixed o := by
  unfold fixed; rw [hd]; exact hc
theorem fixed_fields {o : Obj} {ws : Array Value} (hd : o.data = .fields ws) (hc : o.cls = .type "range") : fixed o := by
  unfold fixed; rw [hd]; exact hc

abbrev Fixes (h h' : Heap) : Prop := ∀ b o, h.get? b = some o → fixed o → h'.get? b = some o
abbrev Looks' (σ σ' : Sg) : Prop := ∀ (n : Nat) p, σ[n]? = some p → σ'[n]? = some p
mutual
theorem RV.mono {B : Bs} {σ σ' : Sg} {h h' : Heap} (g : Fixes h h') (k : Looks' σ σ') : ∀ (x : AV) (v : Value), RV B h σ x v → RV B h' σ' x v
  | .none, v, r => r
  | .bool b, v, r => r
  | .int i, v, r => r
  | .str s, v, r => r
  | .tup xs, v, ⟨a, ws, n, e, o, rs⟩ => ⟨a, ws, n, e, g a _ o (fixed_tuple rfl rfl), RVs.mono g k xs ws.toList rs⟩
  | .loc n, v, ⟨a, off, e, l⟩ => ⟨a, off, e, k n _ l⟩
  | .rng a b s, v, ⟨r, t, u, x, e, ho⟩ => ⟨r, t, u, x, e, g r _ ho (fixed_fields rfl rfl)⟩
  | .scr xs, v, r => r
theorem RVs.mono {B : Bs} {σ σ' : Sg} {h h' : Heap} (g : Fixes h h') (k : Looks' σ σ') : ∀ (xs : List AV) (vs : List Value), RVs B h σ xs vs → RVs B h' σ' xs vs
  | [], [], r => r
  | x :: xs, w :: ws, r => ⟨RV.mono g k x w r.1, RVs.mono g k xs ws r.2⟩
  | [], _ :: _, r => r.elim
  | _ :: _, [], r => r.elim
end
theorem RV.grows {B : Bs} {σ σ' : Sg} {X : List Addr} {h h' : Heap} (g : Grows σ σ' X h h') (x : AV) (v : Value) (r : RV B h σ x v) : RV B h' σ' x v := RV.mono g.fix (fun _ _ => g.look) x v r
theorem RVs.grows {B : Bs} {σ σ' : Sg} {X : List Addr} {h h' : Heap} (g : Grows σ σ' X h h') (x : List AV) (v : List Value) (r : RVs B h σ x v) : RVs B h' σ' x v := RVs.mono g.fix (fun _ _ => g.look) x v r
theorem RV.fixes {B : Bs} {σ : Sg} {h h' : Heap} (g : Fixes h h') (x : AV) (v : Value) (r : RV B h σ x v) : RV B h' σ x v := RV.mono g (fun _ _ e => e) x v r
theorem RVs.fixes {B : Bs} {σ : Sg} {h h' : Heap} (g : Fixes h h') (x : List AV) (v : List Value) (r : RVs B h σ x v) : RVs B h' σ x v := RVs.mono g (fun _ _ e => e) x v r

theorem RVs.length {B : Bs} {h : Heap} {σ : Sg} : ∀ {xs : List AV} {vs : List Value}, RVs B h σ xs vs → xs.length = vs.length
  | [], [], _ => rfl
  | _ :: _, _ :: _, r => by simp [RVs.length r.2]
  | [], _ :: _, r => r.elim
  | _ :: _, [], r => r.elim
theorem RVs.nil {B : Bs} {h : Heap} {σ : Sg} {vs : List Value} (r : RVs B h σ [] vs) : vs = [] := by
  cases vs with
  | nil => rfl
  | cons w ws => exact r.elim
theorem RVs.cons {B : Bs} {h : Heap} {σ : Sg} {x : AV} {xs : List AV} {vs : List Value} (r : RVs B h σ (x :: xs) vs) : ∃ w ws, vs = w :: ws ∧ RV B h σ x w ∧ RVs B h σ xs ws := by
  cases vs with
  | nil => exact r.elim
  | cons w ws => exact ⟨w, ws, rfl, r⟩
theorem RVs.one {B : Bs} {h : Heap} {σ : Sg} {x : AV} {vs : List Value} (r : RVs B h σ [x] vs) : ∃ w, vs = [w] ∧ RV B h σ x w := by
  obtain ⟨w, ws, rfl, r1, r2⟩ := r.cons
  cases r2.nil
  exact ⟨w, rfl, r1⟩
theorem RVs.size {B : Bs} {h : Heap} {σ : Sg} {xs : List AV} {ws : Array Value} (r : RVs B h σ xs ws.toList) : xs.length = ws.size := r.length.trans Array.length_toList
theorem RVs.get {B : Bs} {h : Heap} {σ : Sg} : ∀ {xs : List AV} {vs : List Value}, RVs B h σ xs vs → ∀ {i : Nat} {x : AV}, xs[i]? = some x → ∃ v, vs[i]? = some v ∧ RV B h σ x v
  | [], [], _, i, x, e => by simp at e
  | x :: xs, w :: ws, r, 0, y, e => by
    simp at e; subst e; exact ⟨w, by simp, r.1⟩
  | x :: xs, w :: ws, r, i + 1, y, e => by
    simp at e
    obtain ⟨v, h1, h2⟩ := RVs.get r.2 e
    exact ⟨v, by simpa using h1, h2⟩
  | [], _ :: _, r, _, _, _ => r.elim
  | _ :: _, [], r, _, _, _ => r.elim
theorem RVs.append {B : Bs} {h : Heap} {σ : Sg} : ∀ {xs : List AV} {vs : List Value} {ys : List AV} {ws : List Value}, RVs B h σ xs vs → RVs B h σ ys ws → RVs B h σ (xs ++ ys) (vs ++ ws)
  | [], [], _, _, _, r => r
  | _ :: _, _ :: _, _, _, q, r => ⟨q.1, RVs.append q.2 r⟩
  | [], _ :: _, _, _, q, _ => q.elim
  | _ :: _, [], _, _, q, _ => q.elim
theorem RVs.set {B : Bs} {h : Heap} {σ : Sg} {x : AV} {v : Value} (q : RV B h σ x v) : ∀ {xs : List AV} {vs : List Value}, RVs B h σ xs vs → ∀ i, RVs B h σ (xs.set i x) (vs.set i v)
  | [], [], r, _ => r
  | _ :: _, _ :: _, r, 0 => ⟨q, r.2⟩
  | _ :: _, _ :: _, r, i + 1 => ⟨r.1, RVs.set q r.2 i⟩
  | [], _ :: _, q, _ => q.elim
  | _ :: _, [], q, _ => q.elim

/-- the hash of a key -/
noncomputable def keyHash (w : World) : Key → Int
  | .str s => hashStr w ⟨s.toArray⟩
  | .pair a b => reduceHash (Builtin.Tuple.tupleHashOf [hashInt a, hashInt b])

noncomputable def REs (w : World) (B : Bs) (h : Heap) (σ : Sg) : List (Key × AV) → List DictEntry → Prop
  | [], [] => True
  | p :: ps, e :: es => (e.hash = keyHash w p.1 ∧ RV B h σ p.1.av e.key ∧ RV B h σ p.2 e.val) ∧ REs w B h σ ps es
  | _, _ => False

/-- the names of an instance -/
structure NsR (B : Bs) (h : Heap) (σ : Sg) (fs : List (Str × AV)) (mA : Str → Option Value) : Prop where
  has : ∀ y av, fs.lookup y = some av → ∃ v, mA y = some v ∧ RV B h σ av v
  non : ∀ y, fs.lookup y = none → mA y = none
  within : PySem.Within mA B.attrs
noncomputable def RO (w : World) (B : Bs) (h : Heap) (σ : Sg) (a : Addr) (off : Nat) : AObj → Prop
  | .list xs => ∃ ws n, ObjAt h a (.type "list") (.seq ws n) ∧ RVs B h σ xs ws.toList ∧ xs.length ≤ sizeLine
  | .dict kvs ep => ∃ es, ObjAt h a (.type "dict") (.dict es (off + ep)) ∧ REs w B h σ kvs es.toList ∧ (kvs.map (·.1)).Nodup ∧ (∀ p ∈ kvs, ∀ q ∈ kvs, p.1.sort = q.1.sort) ∧ kvs.length ≤ sizeLine
  | .inst k => ∃ o off', h.get? a = some o ∧ o.cls = .ref B.C ∧ (∀ c, o.data ≠ .cls c) ∧ o.dict = some off ∧ off ≠ a ∧ σ[k]? = some (off, off')
  | .ns fs => ∃ mA, h.Ns1 a mA ∧ NsR B h σ fs mA

structure St (w : World) (B : Bs) (σ : Sg) (hp : AHeap) (h : Heap) : Prop where
  len : σ.length = hp.length
  nd : (σ.map (·.1)).Nodup
  obj : ∀ (n : Nat) a off o, σ[n]? = some (a, off) → hp[n]? = some o → RO w B h σ a off o
  base : B.h₀.StaysIn h
  new : ∀ p ∈ σ, B.h₀.get? p.1 = none

theorem REs.mono {w : World} {B : Bs} {σ σ' : Sg} {h h' : Heap} (g : Fixes h h') (k : Looks' σ σ') : ∀ {ps : List (Key × AV)} {es : List DictEntry}, REs w B h σ ps es → REs w B h' σ' ps es
  | [], [], r => r
  | _ :: _, _ :: _, r => ⟨⟨r.1.1, RV.mono g k _ _ r.1.2.1, RV.mono g k _ _ r.1.2.2⟩, REs.mono g k r.2⟩
  | [], _ :: _, r => r.elim
  | _ :: _, [], r => r.elim
theorem REs.grows {w : World} {B : Bs} {σ σ' : Sg} {X : List Addr} {h h' : Heap} (g : Grows σ σ' X h h') {ps : List (Key × AV)} {es : List DictEntry} (r : REs w B h σ ps es) : REs w B h' σ' ps es := r.mono g.fix (fun _ _ => g.look)
theorem REs.length {w : World} {B : Bs} {h : Heap} {σ : Sg} : ∀ {ps : List (Key × AV)} {es : List DictEntry}, REs w B h σ ps es → ps.length = es.length
  | [], [], _ => rfl
  | _ :: _, _ :: _, r => by simp [REs.length r.2]
  | [], _ :: _, r => r.elim
  | _ :: _, [], r => r.elim
theorem REs.append {w : World} {B : Bs} {h : Heap} {σ : Sg} : ∀ {ps : List (Key × AV)} {es : List DictEntry} {qs : List (Key × AV)} {fs : List DictEntry}, REs w B h σ ps es → REs w B h σ qs fs → REs w B h σ (ps ++ qs) (es ++ fs)
  | [], [], _, _, _, r => r
  | _ :: _, _ :: _, _, _, q, r => ⟨q.1, REs.append q.2 r⟩
  | [], _ :: _, _, _, q, _ => q.elim
  | _ :: _, [], _, _, q, _ => q.elim
theorem REs.get {w : World} {B : Bs} {h : Heap} {σ : Sg} : ∀ {ps : List (Key × AV)} {es : List DictEntry}, REs w B h σ ps es → ∀ {i : Nat} {p : Key × AV}, ps[i]? = some p →
    ∃ e, es[i]? = some e ∧ e.hash = keyHash w p.1 ∧ RV B h σ p.1.av e.key ∧ RV B h σ p.2 e.val
  | [], [], _, i, x, e => by simp at e
  | x :: xs, w :: ws, r, 0, y, e => by
    simp at e; subst e; exact ⟨w, by simp, r.1⟩
  | x :: xs, w :: ws, r, i + 1, y, e => by
    simp at e
    obtain ⟨v, h1, h2⟩ := REs.get r.2 e
    exact ⟨v, by simpa using h1, h2⟩
  | [], _ :: _, r, _, _, _ => r.elim
  | _ :: _, [], r, _, _, _ => r.elim


theorem ns1_same {h h' : Heap} {a : Addr} {m : Str → Option Value} (e : h'.get? a = h.get? a) (x : h.Ns1 a m) : h'.Ns1 a m := by
  unfold Heap.Ns1 at x ⊢
  rw [e]; exact x
theorem ns1_there {h : Heap} {a : Addr} {m : Str → Option Value} (x : h.Ns1 a m) : ∃ ob, h.get? a = some ob ∧ ¬ fixed ob := by
  obtain ⟨o, es, ep, ho, hd, _⟩ := x.ns
  exact ⟨o, ho, by unfold fixed; rw [hd]; exact fun f => f⟩
theorem not_fixed_ref {o : Obj} {C : Addr} (h : o.cls = .ref C) : ¬ fixed o := by
  unfold fixed
  split
  · rw [h]; exact fun e => nomatch e
  · rw [h]; exact fun e => nomatch e
  · exact fun e => e
theorem RO.mono {w : World} {B : Bs} {σ σ' : Sg} {h h' : Heap} {a : Addr} {off : Nat} (g : Fixes h h') (k : Looks' σ σ') (e : h'.get? a = h.get? a) : ∀ {o : AObj}, RO w B h σ a off o → RO w B h' σ' a off o
  | .list xs, ⟨ws, n, o, r, q⟩ => ⟨ws, n, (e.trans o), RVs.mono g k _ _ r, q⟩
  | .dict kvs ep, ⟨es, o, r, q⟩ => ⟨es, (e.trans o), r.mono g k, q⟩
  | .inst j, ⟨o, off', h1, h2, h3, h4, h5, h6⟩ => ⟨o, off', e.trans h1, h2, h3, h4, h5, k _ _ h6⟩
  | .ns fs, ⟨mA, h1, h2⟩ => ⟨mA, ns1_same e h1, fun y av q => let ⟨v, a, b⟩ := h2.has y av q; ⟨v, a, RV.mono g k _ _ b⟩, h2.non, h2.within⟩
theorem RO.keep {w : World} {B : Bs} {σ σ' : Sg} {X : List Addr} {h h' : Heap} {a : Addr} {off : Nat} (g : Grows σ σ' X h h') (e : h'.get? a = h.get? a) {o : AObj} (r : RO w B h σ a off o) : RO w B h' σ' a off o := r.mono g.fix (fun _ _ => g.look) e
theorem RO.fixes {w : World} {B : Bs} {σ : Sg} {h h' : Heap} {a : Addr} {off : Nat} (g : Fixes h h') (e : h'.get? a = h.get? a) {o : AObj} (r : RO w B h σ a off o) : RO w B h' σ a off o := r.mono g (fun _ _ e => e) e

theorem RO.there {w : World} {B : Bs} {σ : Sg} {h : Heap} {a : Addr} {off : Nat} : ∀ {o : AObj}, RO w B h σ a off o → ∃ ob, h.get? a = some ob ∧ ¬ fixed ob
  | .list xs, ⟨ws, n, ho, r⟩ => ⟨_, ho, fun f => absurd (Value.type.inj f) (by decide)⟩
  | .dict kvs ep, ⟨es, ho, r⟩ => ⟨_, ho, fun f => f⟩
  | .inst j, ⟨o, off', h1, h2, _⟩ => ⟨o, h1, not_fixed_ref h2⟩
  | .ns fs, ⟨mA, h1, h2⟩ => ns1_there h1

theorem St.there {w : World} {B : Bs} {σ : Sg} {hp : AHeap} {h : Heap} (S : St w B σ hp h) {p : Addr × Nat} (hm : p ∈ σ) : ∃ ob, h.get? p.1 = some ob ∧ ¬ fixed ob := by
  obtain ⟨n, hn, e⟩ := List.mem_iff_getElem.mp hm
  have e' : σ[n]? = some (p.1, p.2) := by rw [List.getElem?_eq_getElem hn, e]
  have hl : n < hp.length := S.len ▸ hn
  exact (S.obj n p.1 p.2 hp[n] e' (List.getElem?_eq_getElem hl)).there

theorem Grows.but {σ : Sg} {X : List Addr} {h h' : Heap} {b : Addr} {ob : Obj} (hs : ∀ c o, c ≠ b → h.get? c = some o → h'.get? c = some o) (hf : ∀ o, h.get? b = some o → ¬ fixed o) (hm : b ∈ σ.map (·.1) ∨ b ∈ X) (hself : h'.get? b = some ob) : Grows σ σ X h h' := by
  refine ⟨⟨[], (List.append_nil _).symm, fun _ hp => nomatch hp⟩, fun c o e f => hs c o (fun q => hf o (q ▸ e) f) e, fun c o e h1 h2 => ?_, fun c o e => ?_⟩
  · rw [hs c o (fun q => by subst q; exact hm.elim h1 h2) e]; exact .refl
  · by_cases q : c = b
    · subst q; exact ⟨_, hself⟩
    · exact ⟨o, hs c o q e⟩
theorem Grows.sameBut {σ : Sg} {X : List Addr} {h h' : Heap} {b : Addr} {ob : Obj} (hs : Heap.SameBut b h h') (hf : ∀ o, h.get? b = some o → ¬ fixed o) (hm : b ∈ σ.map (·.1) ∨ b ∈ X) (hself : h'.get? b = some ob) : Grows σ σ X h h' :=
  .but (fun c o q e => (hs.2 c q).trans e) hf hm hself
theorem Grows.push {σ : Sg} {X : List Addr} {h : Heap} (o : Obj) : Grows σ σ X h (h.push o) :=
  ⟨⟨[], by simp, fun _ hp => nomatch hp⟩, fun c o' e _ => Heap.get?_push_of_some o e, fun c o' e _ _ => by rw [Heap.get?_push_of_some o e]; exact .refl, fun c o' e => ⟨o', Heap.get?_push_of_some o e⟩⟩
theorem grows_keep {σ : Sg} {X : List Addr} {h h' : Heap} (hk : ∀ b o, h.get? b = some o → h'.get? b = some o) : Grows σ σ X h h' :=
  ⟨⟨[], by simp, fun _ hp => nomatch hp⟩, fun c o e _ => hk c o e, fun c o e _ _ => by rw [hk c o e]; exact .refl, fun c o e => ⟨o, hk c o e⟩⟩
theorem push_size (h : Heap) (o : Obj) : (h.push o).objs.size = h.objs.size + 1 := by cases h; simp [Heap.push]

theorem St.step {w : World} {B : Bs} {σ : Sg} {X : List Addr} {hp : AHeap} {h h' : Heap} (S : St w B σ hp h) (g : Grows σ σ X h h') (same : ∀ p ∈ σ, h'.get? p.1 = h.get? p.1) (hb : B.h₀.StaysIn h') : St w B σ hp h' :=
  ⟨S.len, S.nd, fun n a off o e e' => (S.obj n a off o e e').keep g (same (a, off) (List.mem_of_getElem? e)), hb, S.new⟩

theorem St.keep {w : World} {B : Bs} {σ : Sg} {hp : AHeap} {h h' : Heap} (S : St w B σ hp h) (hk : ∀ b o, h.get? b = some o → h'.get? b = some o) : St w B σ hp h' :=
  S.step (X := []) (grows_keep hk) (fun p hp => by obtain ⟨ob, e, _⟩ := S.there hp; rw [hk _ _ e, e]) fun b o e => hk b o (S.base b o e)
theorem St.push {w : World} {B : Bs} {σ : Sg} {hp : AHeap} {h : Heap} (S : St w B σ hp h) (o : Obj) : St w B σ hp (h.push o) :=
  S.step (X := []) (.push o) (fun p hp => by obtain ⟨ob, e, _⟩ := S.there hp; rw [Heap.get?_push_of_some o e, e]) fun b o' e => Heap.get?_push_of_some o (S.base b o' e)

/-- an object that is not followed turns -/
theorem St.sameBut {w : World} {B : Bs} {σ : Sg} {X : List Addr} {hp : AHeap} {h h' : Heap} {b : Addr} (S : St w B σ hp h) (hs : Heap.SameBut b h h') (hf : ∀ o, h.get? b = some o → ¬ fixed o) (hm : b ∉ σ.map (·.1)) (hb : B.h₀.get? b = none) (hX : b ∈ X) {ob : Obj} (hself : h'.get? b = some ob) : St w B σ hp h' ∧ Grows σ σ X h h' := by
  have g : Grows σ σ X h h' := .sameBut hs hf (.inr hX) hself
  refine ⟨S.step g (fun p hp => hs.2 p.1 fun q => hm (q ▸ List.mem_map_of_mem hp)) fun c o e => ?_, g⟩
  have : c ≠ b := fun q => by subst q; rw [hb] at e; cases e
  exact (hs.2 c this).trans (S.base c o e)

theorem St.fresh {w : World} {B : Bs} {σ : Sg} {hp : AHeap} {h : Heap} (S : St w B σ hp h) : h.objs.size ∉ σ.map (·.1) := fun hm => by
  obtain ⟨p, hp, e⟩ := List.mem_map.mp hm
  obtain ⟨ob, e', _⟩ := S.there hp
  have h1 : p.1 < h.objs.size := Heap.lt_size e'
  exact absurd e (Nat.ne_of_lt h1)

/-- an object that is there is followed from here on -/
theorem St.adopt {w : World} {B : Bs} {σ : Sg} {hp : AHeap} {h : Heap} (S : St w B σ hp h) {a : Addr} (hn : a ∉ σ.map (·.1)) (hb : B.h₀.get? a = none) {off : Nat} {ao : AObj}
    (hr : Looks' σ (σ ++ [(a, off)]) → RO w B h (σ ++ [(a, off)]) a off ao) : St w B (σ ++ [(a, off)]) (hp ++ [ao]) h := by
  have k : Looks' σ (σ ++ [(a, off)]) := fun n p e => by
    rw [List.getElem?_append_left (List.getElem?_eq_some_iff.mp e).1]; exact e
  refine ⟨by rw [List.length_append, List.length_append, S.len]; rfl, ?_, fun n b off' o' e e' => ?_, S.base, fun p hp => ?_⟩
  · rw [List.map_append, List.nodup_append]
    refine ⟨S.nd, List.pairwise_singleton _ _, fun x hx y hy e => ?_⟩
    cases List.mem_singleton.mp hy
    exact hn ((show x = a from e) ▸ hx)
  · rcases Nat.lt_trichotomy n σ.length with hl | hl | hl
    · rw [List.getElem?_append_left hl] at e
      rw [List.getElem?_append_left (S.len ▸ hl)] at e'
      exact (S.obj n b off' o' e e').mono (fun _ _ x _ => x) k rfl
    · have e1 : (σ ++ [(a, off)])[n]? = some (a, off) := by rw [hl]; exact List.getElem?_concat_length
      have e2 : (hp ++ [ao])[n]? = some ao := by rw [hl, S.len]; exact List.getElem?_concat_length
      rw [e1] at e; rw [e2] at e'
      cases e; cases e'
      exact hr k
    · exact absurd (List.getElem?_eq_some_iff.mp e).1 (by rw [List.length_append, List.length_singleton]; omega)
  · rcases List.mem_append.mp hp with hp | hp
    · exact S.new p hp
    · cases List.mem_singleton.mp hp; exact hb
theorem Grows.adopt {σ σ' : Sg} {X : List Addr} {h h' : Heap} (g : Grows σ σ' X h h') {a : Addr} (ha : h.get? a = none) {off : Nat} : Grows σ (σ' ++ [(a, off)]) X h h' := by
  obtain ⟨τ, rfl, hτ⟩ := g.ext
  refine ⟨⟨τ ++ [(a, off)], (List.append_assoc ..), fun p hp => ?_⟩, g.fix, g.oth, g.ex⟩
  rcases List.mem_append.mp hp with hp | hp
  · exact hτ p hp
  · cases List.mem_singleton.mp hp; exact ha
theorem free_size (h : Heap) : h.get? h.objs.size = none := by
  cases hq : h.get? h.objs.size with
  | none => rfl
  | some o' => exact absurd (Heap.lt_size hq) (Nat.lt_irrefl _)
/-- a followed object is made -/
theorem St.alloc {w : World} {B : Bs} {σ : Sg} {X : List Addr} {hp : AHeap} {h : Heap} (S : St w B σ hp h) (o : Obj) (off : Nat) (ao : AObj)
    (hr : Grows σ (σ ++ [(h.objs.size, off)]) X h (h.push o) → RO w B (h.push o) (σ ++ [(h.objs.size, off)]) h.objs.size off ao) :
    St w B (σ ++ [(h.objs.size, off)]) (hp ++ [ao]) (h.push o) ∧ Grows σ (σ ++ [(h.objs.size, off)]) X h (h.push o) :=
  have g := (Grows.push (σ := σ) (X := X) o).adopt (free_size h) (off := off)
  ⟨(S.push o).adopt S.fresh S.base.fresh fun _ => hr g, g⟩

/-- a followed object turns -/
theorem St.upd {w : World} {B : Bs} {σ : Sg} {X : List Addr} {hp : AHeap} {h h' : Heap} {n : Nat} {a : Addr} {off : Nat} (S : St w B σ hp h) (hn : σ[n]? = some (a, off)) (hs : ∀ c o, c ≠ a → h.get? c = some o → h'.get? c = some o) (ao : AObj)
    {ob' : Obj} (hself : h'.get? a = some ob') (hr : Grows σ σ X h h' → RO w B h' σ a off ao) : St w B σ (hp.set n ao) h' ∧ Grows σ σ X h h' := by
  have hmem := List.mem_of_getElem? hn
  obtain ⟨ob, e₁, hf⟩ := S.there hmem
  have g : Grows σ σ X h h' := .but hs (fun o e => by rw [e₁] at e; cases e; exact hf) (.inl (List.mem_map_of_mem (f := (·.1)) hmem)) hself
  refine ⟨⟨by simp [S.len], S.nd, fun k b off' o' e e' => ?_, fun c o e => ?_, S.new⟩, g⟩
  · by_cases hk : k = n
    · subst hk
      rw [hn] at e; cases e
      have hl : k < hp.length := S.len ▸ (List.getElem?_eq_some_iff.mp hn).1
      rw [List.getElem?_set_self hl] at e'
      cases e'
      exact hr g
    · rw [List.getElem?_set_ne (Ne.symm hk)] at e'
      have hne : b ≠ a := fun q => by
        have h1 : (σ.map (·.1))[k]? = some b := by rw [List.getElem?_map, e]; rfl
        have h2 : (σ.map (·.1))[n]? = some a := by rw [List.getElem?_map, hn]; rfl
        exact hk ((List.getElem?_inj (List.getElem?_eq_some_iff.mp h1).1 S.nd).mp (by rw [h1, h2, q]))
      obtain ⟨ob, e2, _⟩ := S.there (List.mem_of_getElem? e)
      exact (S.obj k b off' o' e e').keep g ((hs b ob hne e2).trans e2.symm)
  · have : c ≠ a := fun q => by subst q; have := S.new _ hmem; rw [this] at e; cases e
    exact hs c o this (S.base c o e)

end Mine

namespace Mine
open PySem PySem.Spec PyProof.Rows

structure Par where
  prog : Program
  w : World
  B : Bs
  mg : Str → Option Value
  mb : Str → Option Value
  N : Addr
  mN : Str → Option Value
  meths : List Str
/-- where a function lies: in its class, or at the top -/
noncomputable def Par.fn (P : Par) (f : Str) : Option Value := if P.meths.contains f then P.mN f else P.mg f

structure After (P : Par) (σ σ' : Sg) (X : List Addr) (hp' : AHeap) (s s' : Shared) : Prop where
  ctl : s' = { s with heap := s'.heap, toks := s'.toks }
  st : St P.w P.B σ' hp' s'.heap
  gr : Grows σ σ' X s.heap s'.heap

theorem After.trans {P : Par} {σ₁ σ₂ σ₃ : Sg} {X : List Addr} {hp₂ hp₃ : AHeap} {s₁ s₂ s₃ : Shared} (x : After P σ₁ σ₂ X hp₂ s₁ s₂) (y : After P σ₂ σ₃ X hp₃ s₂ s₃) : After P σ₁ σ₃ X hp₃ s₁ s₃ :=
  ⟨by rw [y.ctl, x.ctl], y.st, x.gr.trans y.gr⟩
theorem After.more {P : Par} {σ σ' : Sg} {X Y : List Addr} {hp' : AHeap} {s s' : Shared} (x : After P σ σ' X hp' s s') (hs : ∀ a ∈ X, a ∈ Y) : After P σ σ' Y hp' s s' := ⟨x.ctl, x.st, x.gr.more hs⟩
theorem After.refl {P : Par} {σ : Sg} {X : List Addr} {hp : AHeap} {s : Shared} (S : St P.w P.B σ hp s.heap) : After P σ σ X hp s s := ⟨rfl, S, .refl ..⟩
theorem After.tok {P : Par} {σ : Sg} {X : List Addr} {hp : AHeap} {s : Shared} (S : St P.w P.B σ hp s.heap) (t : Nat) : After P σ σ X hp s { s with toks := t } := ⟨rfl, S, .refl ..⟩

abbrev NE : Value → Shared → Prop := fun _ _ => False
inductive QV (P : Par) (σ : Sg) (s : Shared) (r : Res AV) (v : Value) (s' : Shared) : Prop
  | mk (av : AV) (hp' : AHeap) (σ' : Sg) (e : r = .ok av hp') (a : After P σ σ' [] hp' s s') (rv : RV P.B s'.heap σ' av v)
inductive QVs (P : Par) (σ : Sg) (s : Shared) (r : Res (List AV)) (v : List Value) (s' : Shared) : Prop
  | mk (av : List AV) (hp' : AHeap) (σ' : Sg) (e : r = .ok av hp') (a : After P σ σ' [] hp' s s') (rv : RVs P.B s'.heap σ' av v)
theorem QV.lift {P : Par} {σ σ' : Sg} {hp' : AHeap} {s s' : Shared} {r : Res AV} {v : Value} {s'' : Shared} (a : After P σ σ' [] hp' s s') (q : QV P σ' s' r v s'') : QV P σ s r v s'' := by
  obtain ⟨av, hp, σ₂, e, b, rv⟩ := q
  exact ⟨av, hp, σ₂, e, a.trans b, rv⟩
theorem QVs.lift {P : Par} {σ σ' : Sg} {hp' : AHeap} {s s' : Shared} {r : Res (List AV)} {v : List Value} {s'' : Shared} (a : After P σ σ' [] hp' s s') (q : QVs P σ' s' r v s'') : QVs P σ s r v s'' := by
  obtain ⟨av, hp, σ₂, e, b, rv⟩ := q
  exact ⟨av, hp, σ₂, e, a.trans b, rv⟩
structure Frm (P : Par) (h : Heap) (σ : Sg) (env : Env) (cx : Cx) (l : Locs) : Prop where
  kind : env.scope.kind = .function
  len : l.length = cx.n
  inj : ∀ x y i, cx.slot x = some i → cx.slot y = some i → x = y
  lt : ∀ x i, cx.slot x = some i → i < cx.n
  glob : ∀ x, cx.isGlob x = true → env.kindOf x = some .globalImplicit
  wr : ∀ x i, cx.slotW x = some i → env.kindOf x ≠ some .free
  names : ∃ m, h.Ns env.locals m ∧ ∀ x i, cx.slot x = some i →
    (env.kindOf x = some .local ∧ ∀ av, l[i]? = some (some av) → ∃ v, m x = some v ∧ RV P.B h σ av v) ∨
    ((env.kindOf x = some .cell ∨ env.kindOf x = some .free) ∧ ∃ c ov, env.cells.lookup x = some c ∧ h.IsCell c ov ∧ ∀ av, l[i]? = some (some av) → ∃ v, ov = some v ∧ RV P.B h σ av v)
  out : env.locals ∉ σ.map (·.1) ∧ ∀ p ∈ env.cells, p.2 ∉ σ.map (·.1)
  new : P.B.h₀.get? env.locals = none ∧ ∀ p ∈ env.cells, P.B.h₀.get? p.2 = none
  globals : env.globals = mainGlobals
  builtins : env.builtins = builtinsNs
  cells : ∀ p ∈ env.cells, ∃ o v, h.get? p.2 = some o ∧ o.data = .cell v
  apart : ∀ p ∈ env.cells, ∀ q ∈ env.cells, p.2 = q.2 → p.1 = q.1
  kinds : ∀ x k, cx.sc.names.lookup x = some k → k = .local ∨ k = .cell → env.kindOf x = some k

structure ArndC (n : Nat) (A : Around) : Prop where
  frames : ∃ outer, A.frames = some outer
  depth : A.depth + 2 * n + 150 < recursionLimit
  units : A.units + 100 * n + 100 < cLine
  handled : A.handled = none
structure Arnd (n : Nat) (A : Around) : Prop extends ArndC n A where
  depth1 : A.depth + 2 * n + 151 < recursionLimit
  units1 : A.units + 100 * n + 150 < cLine
  frame : ∃ f outer, A.frames = some (f :: outer) ∧ f.scope.isGenerator = false ∧ f.scope.isCoroutine = false ∧ f.builtins = builtinsNs ∧ f.globals = mainGlobals

structure Inv (P : Par) (cx : Cx) (n : Nat) (env : Env) (A : Around) (σ : Sg) (l : Locs) (hp : AHeap) (s : Shared) : Prop where
  st : St P.w P.B σ hp s.heap
  fr : Frm P s.heap σ env cx l
  ar : Arnd n A

theorem near_ns {h h' : Heap} {a : Addr} {m : Str → Option Value} (n : h.Ns a m) (hk : ∀ o, h.get? a = some o → Near o (h'.get? a)) : h'.Ns a m := by
  obtain ⟨o, es, ep, ho, hd, r⟩ := n
  obtain ⟨o', e, _, hd', _⟩ := (hk o ho).get
  exact ⟨o', es, ep, e, hd'.trans hd, r⟩
theorem near_cell {h h' : Heap} {a : Addr} {v : Option Value} (n : h.IsCell a v) (hk : ∀ o, h.get? a = some o → Near o (h'.get? a)) : h'.IsCell a v := by
  obtain ⟨o, ho, hd⟩ := n
  obtain ⟨o', e, _, hd', _⟩ := (hk o ho).get
  exact ⟨o', e, hd'.trans hd⟩

theorem not_mem_grown {σ σ' : Sg} {X : List Addr} {h h' : Heap} (g : Grows σ σ' X h h') {a : Addr} {o : Obj} (ho : h.get? a = some o) (hn : a ∉ σ.map (·.1)) : a ∉ σ'.map (·.1) := by
  obtain ⟨τ, rfl, hτ⟩ := g.ext
  rw [List.map_append, List.mem_append]
  rintro (hb | hb)
  · exact hn hb
  · obtain ⟨p, hp, rfl⟩ := List.mem_map.mp hb
    rw [hτ p hp] at ho; cases ho

theorem mem_of_lookup' {α : Type} : ∀ {l : List (Str × α)} {n : Str} {c : α}, l.lookup n = some c → (n, c) ∈ l := PySem.mem_of_lookup

theorem Frm.after {P : Par} {σ σ' : Sg} {hp' : AHeap} {s s' : Shared} {env : Env} {cx : Cx} {l : Locs} (f : Frm P s.heap σ env cx l) (a : After P σ σ' [] hp' s s') : Frm P s'.heap σ' env cx l := by
  obtain ⟨m, hn, hm⟩ := f.names
  have hL : ∀ o, s.heap.get? env.locals = some o → Near o (s'.heap.get? env.locals) := fun o ho => a.gr.oth _ o ho f.out.1 (by simp)
  have hC : ∀ p ∈ env.cells, ∀ o, s.heap.get? p.2 = some o → Near o (s'.heap.get? p.2) := fun p hp o ho => a.gr.oth _ o ho (f.out.2 p hp) (by simp)
  refine ⟨f.kind, f.len, f.inj, f.lt, f.glob, f.wr, ⟨m, near_ns hn hL, fun x i hx => ?_⟩, ⟨?_, fun p hp => ?_⟩, f.new, f.globals, f.builtins, fun p hp => ?_, f.apart, f.kinds⟩
  · rcases hm x i hx with ⟨hk, hv⟩ | ⟨hk, c, ov, hc, hi, hv⟩
    · exact .inl ⟨hk, fun av e => let ⟨v, h1, h2⟩ := hv av e; ⟨v, h1, RV.grows a.gr _ _ h2⟩⟩
    · exact .inr ⟨hk, c, ov, hc, near_cell hi (hC (x, c) (mem_of_lookup' hc)), fun av e => let ⟨v, h1, h2⟩ := hv av e; ⟨v, h1, RV.grows a.gr _ _ h2⟩⟩
  · obtain ⟨o, _, _, ho, _⟩ := hn
    exact not_mem_grown a.gr ho f.out.1
  · obtain ⟨o, v, ho, _⟩ := f.cells p hp
    exact not_mem_grown a.gr ho (f.out.2 p hp)
  · obtain ⟨o, v, ho, hd⟩ := f.cells p hp
    obtain ⟨o', e, _, hd', _⟩ := (hC p hp o ho).get
    exact ⟨o', v, e, hd'.trans hd⟩

theorem Inv.after {P : Par} {cx : Cx} {n : Nat} {env : Env} {A : Around} {σ σ' : Sg} {l : Locs} {hp hp' : AHeap} {s s' : Shared} (I : Inv P cx n env A σ l hp s) (a : After P σ σ' [] hp' s s') : Inv P cx n env A σ' l hp' s' :=
  ⟨a.st, I.fr.after a, I.ar⟩

noncomputable def bltPairs : List (Str × Value) := [("len", .builtin "len"), ("isinstance", .builtin "isinstance"), ("range", .type "range"), ("sorted", .builtin "sorted"), ("list", .type "list"), ("str", .type "str"), ("int", .type "int"), ("bool", .type "bool"), ("tuple", .type "tuple")]
theorem blt_len : (("len" : Str), Value.builtin "len") ∈ bltPairs := .head _
theorem blt_isi : (("isinstance" : Str), Value.builtin "isinstance") ∈ bltPairs := .tail _ (.head _)
theorem blt_range : (("range" : Str), Value.type "range") ∈ bltPairs := .tail _ (.tail _ (.head _))
theorem blt_sorted : (("sorted" : Str), Value.builtin "sorted") ∈ bltPairs := .tail _ (.tail _ (.tail _ (.head _)))
theorem blt_list : (("list" : Str), Value.type "list") ∈ bltPairs := .tail _ (.tail _ (.tail _ (.tail _ (.head _))))
theorem blt_str : (("str" : Str), Value.type "str") ∈ bltPairs := .tail _ (.tail _ (.tail _ (.tail _ (.tail _ (.head _)))))
theorem blt_int : (("int" : Str), Value.type "int") ∈ bltPairs := .tail _ (.tail _ (.tail _ (.tail _ (.tail _ (.tail _ (.head _))))))
theorem blt_bool : (("bool" : Str), Value.type "bool") ∈ bltPairs := .tail _ (.tail _ (.tail _ (.tail _ (.tail _ (.tail _ (.tail _ (.head _)))))))
theorem blt_tuple : (("tuple" : Str), Value.type "tuple") ∈ bltPairs := .tail _ (.tail _ (.tail _ (.tail _ (.tail _ (.tail _ (.tail _ (.tail _ (.head _))))))))
structure Par.Ok (P : Par) : Prop where
  blt : ∀ x v, (x, v) ∈ bltPairs → P.mg x = none ∧ P.mb x = some v
  g : P.B.h₀.Ns mainGlobals P.mg
  b : P.B.h₀.Ns builtinsNs P.mb
  nolimit : P.B.h₀.NoLimit
  seer : P.B.h₀.NoSeer
  tree : P.prog.given.tree = none
  mods : ∃ o, P.B.h₀.get? sysModules = some o
  cls : ClsAt P.B.h₀ P.B.C P.N P.mN
  q1 : P.mN "__setattr__" = none
  q2 : P.mN "__getattribute__" = none
  q3 : P.mN "__getattr__" = none
  qa : ∀ a, P.B.attrs.contains a = true → P.mN a = none ∧ typeLookup (.type "object") a = pure none
  qm : ∀ m, P.meths.contains m = true → ∃ y, typeLookup (.type "object") m = pure y
  few : P.B.attrs.length ≤ sizeLine
  init : P.meths.contains "__init__" = true

/-- the calls: what the abstract functions say is what the model's calls do -/
noncomputable def FSim (P : Par) (funs : List Str) (F : Str → List AV → AHeap → Res AV) (n : Nat) : Prop :=
  ∀ f, funs.contains f = true → ∃ a o fd, P.fn f = some (.ref a) ∧ P.B.h₀.get? a = some o ∧ (P.meths.contains f = true → o.cls = .type "function") ∧ o.data = .func fd ∧
    ∀ avs vs σ hp s A, St P.w P.B σ hp s.heap → RVs P.B s.heap σ avs vs → ArndC n A → F f avs hp ≠ .bad →
      wpAny (model P.prog P.w) A (call (.ref a) vs) (QV P σ s (F f avs hp)) NE s

/-- a constant of the top -/
noncomputable def ConstR (k : Const) (v : Value) : Prop := match k with
  | .int i => ∃ t, v = .int i t
  | .str x => ∃ t, v = .str x t
  | _ => False
structure Sims (P : Par) (cx : Cx) (c : Ctx) (n : Nat) : Prop where
  ok : P.Ok
  f : FSim P cx.funs c.F n
  meths : cx.meths = P.meths
  attrs : cx.attrs = P.B.attrs
  cls : P.mg cx.cls = some (.ref P.B.C)
  init : cx.funs.contains "__init__" = true
  g : ∀ x k, cx.consts.lookup x = some k → ∃ v, P.mg x = some v ∧ ConstR k v

noncomputable def SimE (P : Par) (cx : Cx) (e : Expr) (x : X) : Prop :=
  ∀ c n env A σ l hp s, Sims P cx c n → Inv P cx n env A σ l hp s → evalX c x l hp ≠ .bad →
    wpAny (model P.prog P.w) A (eval e env) (QV P σ s (evalX c x l hp)) NE s
noncomputable def SimEs (P : Par) (cx : Cx) (es : List Expr) (xs : Xs) : Prop :=
  ∀ c n env A σ l hp s pos, Sims P cx c n → Inv P cx n env A σ l hp s → evalXs c xs l hp ≠ .bad →
    wpAny (model P.prog P.w) A (spliced (backTo pos (starEach es env))) (QVs P σ s (evalXs c xs l hp)) NE s

theorem bind_ok {α β : Type} {r : Res α} {f : α → AHeap → Res β} (h : r.bind f ≠ .bad) : r ≠ .bad := fun e => h (by rw [e]; rfl)

theorem slot_plain {cx : Cx} {x : Str} {i : Nat} (h : cx.slot x = some i) : (x == ("__debug__" : Str)) = false ∧ (x == ("__classdict__" : Str)) = false := by
  unfold Cx.slot at h
  split at h
  · split at h
    · rename_i hk
      simp only [plainName, Bool.and_eq_true, bne_iff_ne, ne_eq] at hk
      exact ⟨beq_eq_false_iff_ne.mpr hk.2.1, beq_eq_false_iff_ne.mpr hk.2.2⟩
    · cases h
  · cases h
theorem glob_plain {cx : Cx} {x : Str} (h : cx.isGlob x = true) : (x == ("__debug__" : Str)) = false ∧ (x == ("__classdict__" : Str)) = false := by
  simp only [Cx.isGlob, plainName, Bool.and_eq_true, bne_iff_ne, ne_eq] at h
  exact ⟨beq_eq_false_iff_ne.mpr h.2.1, beq_eq_false_iff_ne.mpr h.2.2⟩

section
variable {P : Par} {cx : Cx}

theorem sim_none {k : Nat} {pos : Pos} : SimE P cx (.Constant .none k pos) .none := fun c n env A σ l hp s _ I _ =>
  wpAny_Constant_none ⟨.none, hp, σ, rfl, .refl I.st, rfl⟩
theorem sim_bool {b : Bool} {k : Nat} {pos : Pos} : SimE P cx (.Constant (.bool b) k pos) (.bool b) := fun c n env A σ l hp s _ I _ =>
  wpAny_Constant_bool ⟨.bool b, hp, σ, rfl, .refl I.st, rfl⟩
theorem sim_int {i : Int} {k : Nat} {pos : Pos} : SimE P cx (.Constant (.int i) k pos) (.int i) := fun c n env A σ l hp s _ I _ =>
  wpAny_Constant_int ⟨.int i, hp, σ, rfl, .tok I.st _, _, rfl⟩
theorem sim_str {x : Str} {k : Nat} {pos : Pos} : SimE P cx (.Constant (.str x) k pos) (.str x.cps.toList) := fun c n env A σ l hp s _ I _ =>
  wpAny_Constant_str ⟨.str x.cps.toList, hp, σ, rfl, .tok I.st _, _, rfl⟩

theorem sim_loc {x : Str} {i : Nat} {pos : Pos} (hx : cx.slot x = some i) : SimE P cx (.Name x pos) (.loc i) := by
  intro c n env A σ l hp s _ I hb
  obtain ⟨hd, hcl⟩ := slot_plain hx
  rw [x_loc] at hb ⊢
  cases hl : locAt l i with
  | none => rw [hl] at hb; exact absurd rfl hb
  | some av =>
    have hl : l[i]? = some (some av) := by
      unfold locAt at hl
      split at hl
      · rename_i o e; rw [e, hl]
      · cases hl
    obtain ⟨m, hn, hm⟩ := I.fr.names
    refine wpAny_Name ?_ hd
    rcases hm x i hx with ⟨hk, hv⟩ | ⟨hk, cc, ov, hc, hi, hv⟩
    · obtain ⟨v, e, rv⟩ := hv av hl
      exact wpAny_loadName_local I.fr.kind hk hn e ⟨av, hp, σ, rfl, .refl I.st, rv⟩
    · obtain ⟨v, e, rv⟩ := hv av hl
      subst e
      rcases hk with hk | hk
      · exact wpAny_loadName_cell I.fr.kind hk hc hi ⟨av, hp, σ, rfl, .refl I.st, rv⟩
      · exact wpAny_loadName_free I.fr.kind hk hc hi ⟨av, hp, σ, rfl, .refl I.st, rv⟩ hcl

theorem const_is {k : Const} {x : X} {v : Value} (h : compConst k = some x) (r : ConstR k v) : (∃ i t, x = .int i ∧ v = .int i t) ∨ ∃ z t, x = .str z ∧ v = .str ⟨z.toArray⟩ t := by
  cases k with
  | int i => cases h; obtain ⟨t, rfl⟩ := r; exact .inl ⟨i, t, rfl, rfl⟩
  | str z => cases h; obtain ⟨t, rfl⟩ := r; exact .inr ⟨_, t, rfl, rfl⟩
  | _ => exact r.elim
theorem sim_glob {x : Str} {xx : X} {k : Const} {pos : Pos} (hg : cx.isGlob x = true) (hk : cx.consts.lookup x = some k) (hx : compConst k = some xx) : SimE P cx (.Name x pos) xx := by
  intro c n env A σ l hp s C I hb
  obtain ⟨hd, _⟩ := glob_plain hg
  obtain ⟨v, e1, r⟩ := C.g x k hk
  refine wpAny_Name ?_ hd
  rw [loadName_read I.fr.kind (I.fr.glob x hg)]
  have hn : s.heap.Ns env.globals P.mg := by rw [I.fr.globals]; exact C.ok.g.keeps I.st.base
  refine Calls.loadGlobal_global hn e1 ?_
  rcases const_is hx r with ⟨i, t, rfl, rfl⟩ | ⟨z, t, rfl, rfl⟩
  · exact ⟨_, hp, σ, rfl, .refl I.st, _, rfl⟩
  · exact ⟨_, hp, σ, rfl, .refl I.st, _, rfl⟩
end
end Mine

namespace Mine
open PySem PySem.Spec PyProof.Rows PySem.SeqAt

theorem isTuple_of {h : Heap} {a : Addr} {ws : Array Value} {n : Nat} (o : ObjAt h a (.type "tuple") (.seq ws n)) : h.IsTuple a ws :=
  ⟨_, o, rfl, n, rfl⟩
theorem isList_of {h : Heap} {a : Addr} {ws : Array Value} {n : Nat} (o : ObjAt h a (.type "list") (.seq ws n)) : h.IsList a ws :=
  ⟨_, o, rfl, n, rfl⟩

theorem St.isList {w : World} {B : Bs} {σ : Sg} {hp : AHeap} {h : Heap} (S : St w B σ hp h) {n : Nat} {xs : List AV} {a : Addr} {off : Nat} (e : hp[n]? = some (.list xs)) (hs : σ[n]? = some (a, off)) :
    ∃ ws, h.IsList a ws ∧ RVs B h σ xs ws.toList := by
  obtain ⟨ws, k, o, r, _⟩ := S.obj n a off _ hs e
  exact ⟨ws, (isList_of o), r⟩

theorem str_eq_iff (x y : List Nat) : ((⟨x.toArray⟩ : Str) == ⟨y.toArray⟩) = decide (x = y) := by
  by_cases h : x = y
  · subst h; simp
  · rw [decide_eq_false h]
    refine beq_eq_false_iff_ne.mpr fun e => h ?_
    have := Str.mk.inj e
    simpa using this

theorem eqAll_spec {f : AV → AV → Option Bool} : ∀ {xs ys : List AV} {r : Bool}, eqAll f xs ys = some r →
    ∃ e : Nat → Bool, (∀ j x y, xs[j]? = some x → ys[j]? = some y → f x y = some (e j)) ∧ r = ((List.range (min xs.length ys.length)).all e && xs.length == ys.length)
  | [], [], r, h => by simp [eqAll] at h; exact ⟨fun _ => true, by simp, by simp [h]⟩
  | [], _ :: _, r, h => by simp [eqAll] at h; exact ⟨fun _ => true, by simp, by simp [h]⟩
  | _ :: _, [], r, h => by simp [eqAll] at h; exact ⟨fun _ => true, by simp, by simp [h]⟩
  | x :: xs, y :: ys, r, h => by
    rw [eqAll] at h
    cases h1 : f x y with
    | none => rw [h1] at h; cases h
    | some b =>
      cases h2 : eqAll f xs ys with
      | none => rw [h1, h2] at h; cases h
      | some r' =>
        rw [h1, h2] at h
        simp only [Option.some.injEq] at h
        obtain ⟨e, he, hr⟩ := eqAll_spec h2
        refine ⟨fun j => match j with | 0 => b | j + 1 => e j, fun j x' y' hx hy => ?_, ?_⟩
        · cases j with
          | zero => simp at hx hy; subst hx hy; exact h1
          | succ j => simp at hx hy; exact he j x' y' hx hy
        · rw [← h, hr]
          simp only [List.length_cons, Nat.add_min_add_right, List.range_succ_eq_map, List.all_cons, List.all_map, Bool.and_assoc]
          have e1 : (xs.length + 1 == ys.length + 1) = (xs.length == ys.length) := by simp
          rw [e1]
          rfl

section
variable {w : World} {B : Bs} {σ : Sg} {hp : AHeap} {s : Shared}

theorem eqAt_of_rc {A : Around} {a b : Addr} {k : Bool} (h : RcAt A s (.ref a) (.ref b) k) (hs : a = b → k = true) : EqAt A s (.ref a) (.ref b) k := by
  by_cases e : a = b
  · subst e; rw [hs rfl]; exact EqAt.same _
  · exact .of_refs e h

theorem eqAll_same {f : AV → AV → Option Bool} : ∀ {xs ys : List AV} {vs : List Value} {r : Bool}, eqAll f xs ys = some r → RVs B s.heap σ xs vs → RVs B s.heap σ ys vs →
    (∀ x y v r, f x y = some r → RV B s.heap σ x v → RV B s.heap σ y v → r = true) → r = true
  | [], [], _, r, h, _, _, _ => by simp [eqAll] at h; exact h
  | x :: xs, y :: ys, v :: vs, r, h, rx, ry, H => by
    rw [eqAll] at h
    cases h1 : f x y with
    | none => rw [h1] at h; cases h
    | some b =>
      cases h2 : eqAll f xs ys with
      | none => rw [h1, h2] at h; cases h
      | some r' =>
        rw [h1, h2] at h
        simp only [Option.some.injEq] at h
        rw [H x y v b h1 rx.1 ry.1, eqAll_same h2 rx.2 ry.2 H] at h
        exact h.symm
  | [], _ :: _, [], _, _, _, ry, _ => ry.elim
  | [], _, _ :: _, _, _, rx, _, _ => rx.elim
  | _ :: _, _, [], _, _, rx, _, _ => rx.elim
  | _ :: _, [], _ :: _, _, _, _, ry, _ => ry.elim

theorem St.inj (S : St w B σ hp s.heap) {i j : Nat} {a : Addr} {o o' : Nat} (hi : σ[i]? = some (a, o)) (hj : σ[j]? = some (a, o')) : i = j := by
  have h1 : (σ.map (·.1))[i]? = some a := by rw [List.getElem?_map, hi]; rfl
  have h2 : (σ.map (·.1))[j]? = some a := by rw [List.getElem?_map, hj]; rfl
  exact (List.getElem?_inj (List.getElem?_eq_some_iff.mp h1).1 S.nd).mp (by rw [h1, h2])

theorem objAt_uniq {h : Heap} {a : Addr} {c c' : Value} {d d' : Data} (x : ObjAt h a c d) (y : ObjAt h a c' d') : c = c' ∧ d = d' := by
  have := x.symm.trans y
  cases this
  exact ⟨rfl, rfl⟩

theorem none_ne {α : Type} {r : α} {C : Prop} (h : none = some r) : C := nomatch h

theorem listAt_is {n : Nat} {xs : List AV} (h : listAt hp n = some xs) : hp[n]? = some (.list xs) := by
  unfold listAt at h
  split at h
  · rename_i o e
    split at h
    · cases h; exact e
    · cases h
  · cases h
theorem dictAt_is {n : Nat} {d : List (Key × AV) × Nat} (h : dictAt hp n = some d) : hp[n]? = some (.dict d.1 d.2) := by
  unfold dictAt at h
  split at h
  · rename_i o e
    split at h
    · cases h; exact e
    · cases h
  · cases h

theorem eqL_spec {f : AV → AV → Option Bool} {a b : Option (List AV)} {r : Bool} (h : eqL f a b = some r) : ∃ xs ys, a = some xs ∧ b = some ys ∧ ((xs.length = ys.length ∧ eqAll f xs ys = some r) ∨ (xs.length ≠ ys.length ∧ r = false)) := by
  unfold eqL at h
  split at h
  · rename_i xs ys
    refine ⟨xs, ys, rfl, rfl, ?_⟩
    split at h
    · rename_i e; exact .inl ⟨e, h⟩
    · rename_i e; cases h; exact .inr ⟨e, rfl⟩
  · cases h

/-- the kinds of like things -/
inductive EqK (hp : AHeap) (n : Nat) : AV → AV → Bool → Prop
  | none : EqK hp n .none .none true
  | int (x y : Int) : EqK hp n (.int x) (.int y) (decide (x = y))
  | str (x y : List Nat) : EqK hp n (.str x) (.str y) (decide (x = y))
  | tup (xs ys : List AV) (r : Bool) (h : eqAll (eqv hp n) xs ys = some r) : EqK hp n (.tup xs) (.tup ys) r
  | loc (i j : Nat) (r : Bool) (h : eqL (eqv hp n) (listAt hp i) (listAt hp j) = some r) : EqK hp n (.loc i) (.loc j) r
theorem eqv_or {n : Nat} {a b : AV} {r : Bool} (h : eqv hp (n + 1) a b = some r) : EqK hp n a b r := by
  cases a
  case none =>
    cases b
    case none => cases (show some true = some r from h); exact .none
    all_goals exact none_ne h
  case int x =>
    cases b
    case int y => cases (show some (decide (x = y)) = some r from h); exact .int x y
    all_goals exact none_ne h
  case str x =>
    cases b
    case str y => cases (show some (decide (x = y)) = some r from h); exact .str x y
    all_goals exact none_ne h
  case tup xs =>
    cases b
    case tup ys => exact .tup xs ys r h
    all_goals exact none_ne h
  case loc i =>
    cases b
    case loc j => exact .loc i j r h
    all_goals exact none_ne h
  all_goals exact none_ne h

theorem eqv_same (S : St w B σ hp s.heap) : ∀ (n : Nat) (a b : AV) (v : Value) (r : Bool), eqv hp n a b = some r → RV B s.heap σ a v → RV B s.heap σ b v → r = true
  | 0, _, _, _, _, h, _, _ => nomatch h
  | n + 1, a, b, v, r, h, ra, rb => by
    have H : ∀ x y v r, eqv hp n x y = some r → RV B s.heap σ x v → RV B s.heap σ y v → r = true := fun x y v r => eqv_same S n x y v r
    cases eqv_or h with
    | none => rfl
    | int x y => obtain ⟨t, rfl⟩ := ra; obtain ⟨t', e⟩ := rb; exact decide_eq_true (Value.int.inj e).1
    | str x y =>
      obtain ⟨t, rfl⟩ := ra; obtain ⟨t', e⟩ := rb
      exact decide_eq_true (by simpa using (Value.str.inj e).1)
    | tup xs ys r h =>
      obtain ⟨a, ws, k, rfl, oa, rx⟩ := ra; obtain ⟨b, us, k', e, ob, ry⟩ := rb
      cases e
      have := (objAt_uniq oa ob).2
      cases this
      exact eqAll_same h rx ry H
    | loc i j r h =>
      obtain ⟨a, o, rfl, e1⟩ := ra; obtain ⟨b, o', e, e2⟩ := rb
      cases e
      obtain rfl := S.inj e1 e2
      obtain ⟨xs, ys, h1, h2, h3⟩ := eqL_spec h
      rw [h1] at h2; cases h2
      rcases h3 with ⟨_, h3⟩ | ⟨h3, _⟩
      · obtain ⟨ws, hl, rx⟩ := S.isList (listAt_is h1) e1
        exact eqAll_same h3 rx rx H
      · exact absurd rfl h3

/-- what == gives, as eqBool and as the comparison, with the fact that a thing is like itself -/
structure EqAll (A : Around) (s : Shared) (v u : Value) (r : Bool) : Prop where
  rc : RcAt A s v u r
  ne : RcNeAt A s v u (!r)
  eq : EqAt A s v u r
theorem eq_seq {n : Nat} {A : Around} {xs ys : List AV} {ws us : Array Value} {r : Bool} (H : ∀ a b r v u, eqv hp n a b = some r → RV B s.heap σ a v → RV B s.heap σ b u → EqAt A s v u r) (he : eqAll (eqv hp n) xs ys = some r) (rx : RVs B s.heap σ xs ws.toList) (ry : RVs B s.heap σ ys us.toList) :
    ∃ e : Nat → Bool, r = ((List.range (min ws.size us.size)).all e && ws.size == us.size) ∧ ∀ j (h1 : j < ws.size) (h2 : j < us.size), EqAt A s ws[j] us[j] (e j) := by
  obtain ⟨e, h1, h2⟩ := eqAll_spec he
  refine ⟨e, by rw [h2, rx.size, ry.size], fun j h3 h4 => ?_⟩
  have ex : xs[j]? = some (xs[j]'(by rw [rx.size]; exact h3)) := List.getElem?_eq_getElem _
  have ey : ys[j]? = some (ys[j]'(by rw [ry.size]; exact h4)) := List.getElem?_eq_getElem _
  obtain ⟨v', e1, q1⟩ := rx.get ex
  obtain ⟨u', e2, q2⟩ := ry.get ey
  rw [Array.getElem?_toList, Array.getElem?_eq_getElem h3] at e1
  rw [Array.getElem?_toList, Array.getElem?_eq_getElem h4] at e2
  cases e1; cases e2
  exact H _ _ _ _ _ (h1 j _ _ ex ey) q1 q2
theorem eq_tups {A : Around} {a b : Addr} {ws us : Array Value} {k k' : Nat} {r : Bool} {e : Nat → Bool} (hu : A.units < cLine) (oa : ObjAt s.heap a (.type "tuple") (.seq ws k)) (ob : ObjAt s.heap b (.type "tuple") (.seq us k')) (hr : r = ((List.range (min ws.size us.size)).all e && ws.size == us.size))
    (he : ∀ j (h1 : j < ws.size) (h2 : j < us.size), EqAt A.in1 s ws[j] us[j] (e j)) (hs : a = b → r = true) : EqAll A s (.ref a) (.ref b) r := by
  subst hr
  have hrc := RcAt.tuples (isTuple_of oa) (isTuple_of ob) hu he
  exact ⟨hrc, RcNeAt.tuples (isTuple_of oa) (isTuple_of ob) hu he, eqAt_of_rc hrc hs⟩
theorem eq_lsts {A : Around} {a b : Addr} {ws us : Array Value} {r : Bool} {e : Nat → Bool} (hu : A.units < cLine) (hl : s.heap.IsList a ws) (hl' : s.heap.IsList b us) (hsz : ws.size = us.size) (hr : r = ((List.range (min ws.size us.size)).all e && ws.size == us.size))
    (he : ∀ j (h1 : j < ws.size) (h2 : j < us.size), EqAt A.in1 s ws[j] us[j] (e j)) (hs : a = b → r = true) : EqAll A s (.ref a) (.ref b) r := by
  have er : r = (List.range ws.size).all e := by rw [hr, hsz, Nat.min_self, beq_self_eq_true, Bool.and_true]
  subst er
  have hrc := RcAt.lists hl hl' hsz hu he
  exact ⟨hrc, RcNeAt.lists hl hl' hsz hu he, eqAt_of_rc hrc hs⟩
theorem eq_locs (S : St w B σ hp s.heap) {n : Nat} {A : Around} {i j : Nat} {v u : Value} {r : Bool} (H : ∀ a b r v u, eqv hp n a b = some r → RV B s.heap σ a v → RV B s.heap σ b u → EqAt A.in1 s v u r) (hu : A.units < cLine)
    (h : eqL (eqv hp n) (listAt hp i) (listAt hp j) = some r) (ra : RV B s.heap σ (.loc i) v) (rb : RV B s.heap σ (.loc j) u) : EqAll A s v u r := by
  obtain ⟨a, o, rfl, e1⟩ := ra; obtain ⟨b, o', rfl, e2⟩ := rb
  have hs : a = b → r = true := fun q => by
    subst q
    have ij := S.inj e1 e2
    subst ij
    exact eqv_same S (n + 1) (.loc i) (.loc i) (.ref a) r h ⟨a, o, rfl, e1⟩ ⟨a, o, rfl, e1⟩
  obtain ⟨xs, ys, hi, hj, hc⟩ := eqL_spec h
  obtain ⟨ws, hl, rx⟩ := S.isList (listAt_is hi) e1
  obtain ⟨us, hl', ry⟩ := S.isList (listAt_is hj) e2
  rcases hc with ⟨hlen, h⟩ | ⟨hlen, hr⟩
  · obtain ⟨e, hr, he⟩ := eq_seq H h rx ry
    exact eq_lsts hu hl hl' (rx.size.symm.trans (hlen.trans ry.size)) hr he hs
  · subst hr
    have hsz : (ws.size != us.size) = true := bne_iff_ne.mpr fun q => hlen (rx.size.trans (q.trans ry.size.symm))
    exact ⟨RcAt.lists_lengths hl hl' hsz hu, RcNeAt.lists_lengths hl hl' hsz hu, eqAt_of_rc (RcAt.lists_lengths hl hl' hsz hu) hs⟩
theorem eqv_at (S : St w B σ hp s.heap) : ∀ (n : Nat) (a b : AV) (r : Bool) (A : Around) (v u : Value), eqv hp n a b = some r → RV B s.heap σ a v → RV B s.heap σ b u → A.units + n < cLine → EqAll A s v u r
  | 0, _, _, _, _, _, _, h, _, _, _ => nomatch h
  | n + 1, a, b, r, A, v, u, h, ra, rb, hu => by
    have hu' : A.units < cLine := by omega
    have H : ∀ a b r v u, eqv hp n a b = some r → RV B s.heap σ a v → RV B s.heap σ b u → EqAt A.in1 s v u r := fun a b r v u h ra rb => (eqv_at S n a b r A.in1 v u h ra rb (by show A.units + 1 + n < _; omega)).eq
    cases eqv_or h with
    | none => cases (show v = .none from ra); cases (show u = .none from rb); exact ⟨RcAt.none_none, RcNeAt.none_none, EqAt.same _⟩
    | int x y =>
      obtain ⟨t, rfl⟩ := ra; obtain ⟨t', rfl⟩ := rb
      have e : (x == y) = decide (x = y) := by by_cases q : x = y <;> simp [q]
      rw [← e]
      exact ⟨RcAt.int_int _ _ _ _, RcNeAt.int_int _ _ _ _, EqAt.int_int _ _ _ _⟩
    | str x y =>
      obtain ⟨t, rfl⟩ := ra; obtain ⟨t', rfl⟩ := rb
      rw [← str_eq_iff]
      exact ⟨RcAt.str_str _ _ _ _, RcNeAt.str_str _ _ _ _, EqAt.str_str _ _ _ _⟩
    | tup xs ys r he =>
      have hs := eqv_same S (n + 1) (.tup xs) (.tup ys) v r h ra
      obtain ⟨a, ws, k, rfl, oa, rx⟩ := ra; obtain ⟨b, us, k', rfl, ob, ry⟩ := rb
      obtain ⟨e, hr, he⟩ := eq_seq H he rx ry
      exact eq_tups hu' oa ob hr he fun q => hs ⟨b, us, k', by rw [q], ob, ry⟩
    | loc i j r h => exact eq_locs S H hu' h ra rb
end
end Mine

namespace Mine
open PySem PySem.Spec PyProof.Rows PySem.SeqAt

theorem sizeLim_le {n : Nat} (h : n ≤ sizeLim) : n ≤ sizeLine := Nat.le_trans h (by decide +kernel)

section
variable {P : Par} {A : Around} {σ : Sg} {hp : AHeap} {s : Shared} {E : Value → Shared → Prop}

theorem Par.Ok.noLimit (ok : P.Ok) (S : St P.w P.B σ hp s.heap) : s.heap.NoLimit := ok.nolimit.keeps S.base
theorem Par.Ok.noSeer (ok : P.Ok) (S : St P.w P.B σ hp s.heap) : s.heap.NoSeer := ok.seer.keeps S.base

theorem mulOk_ok {a b : Int} (h : mulOk a b = true) : IntMulOk a b := by
  simp only [mulOk, Bool.or_eq_true, decide_eq_true_eq] at h
  rcases h with h | h
  · exact IntMulOk.of_left (intBits_le_64 (by omega) (by omega))
  · exact IntMulOk.of_right (intBits_le_64 (by omega) (by omega))

/-- a new list -/
theorem qv_newList (S : St P.w P.B σ hp s.heap) {vs : List AV} {ws : Array Value} (hr : RVs P.B s.heap σ vs ws.toList) (hb : newList vs hp ≠ .bad) :
    ws.size ≤ sizeLine ∧ QV P σ s (newList vs hp) (.ref s.heap.objs.size) { s with heap := s.heap.push { cls := .type "list", data := .seq ws } } := by
  unfold newList at hb ⊢
  split at hb
  · rename_i hsz
    have hl := hr.size
    refine ⟨sizeLim_le (hl ▸ hsz), ?_⟩
    rw [if_pos hsz]
    obtain ⟨S', g⟩ := S.alloc (X := []) { cls := .type "list", data := .seq ws } 0 (.list vs) fun g => ⟨ws, 0, Heap.get?_push_size _ rfl, RVs.grows g _ _ hr, sizeLim_le hsz⟩
    refine ⟨_, _, _, rfl, ⟨rfl, S', g⟩, s.heap.objs.size, 0, rfl, ?_⟩
    rw [← S.len]; simp
  · exact absurd rfl hb

theorem St.isL (S : St P.w P.B σ hp s.heap) {n : Nat} {xs : List AV} {a : Addr} {off : Nat} (e : hp[n]? = some (.list xs)) (hs : σ[n]? = some (a, off)) :
    ∃ ws k, IsL s.heap a ws k ∧ RVs P.B s.heap σ xs ws.toList := by
  obtain ⟨ws, k, o, r, _⟩ := S.obj n a off _ hs e
  exact ⟨ws, k, o, r⟩
theorem St.isLen (S : St P.w P.B σ hp s.heap) {n : Nat} {xs : List AV} {a : Addr} {off : Nat} (e : hp[n]? = some (.list xs)) (hs : σ[n]? = some (a, off)) : xs.length ≤ sizeLine := by
  obtain ⟨ws, k, o, r, q⟩ := S.obj n a off _ hs e
  exact q

/-- the kinds of things that an operator takes -/
inductive BinK : BOp → AV → AV → Prop
  | int (op : BOp) (x y : Int) : BinK op (.int x) (.int y)
  | str (x y : List Nat) : BinK .add (.str x) (.str y)
theorem binAV_or {op : BOp} {a b : AV} {h : AHeap} (hb : binAV op a b h ≠ .bad) : BinK op a b := by
  cases a
  case int x =>
    cases b
    case int y => exact .int op x y
    all_goals exact absurd rfl hb
  case str x =>
    cases b
    case str y => cases op <;> first | exact .str x y | exact absurd rfl hb
    all_goals exact absurd rfl hb
  all_goals exact absurd rfl hb

theorem newListO_is {o : Option (List AV)} {h : AHeap} (hb : newListO o h ≠ .bad) : ∃ vs, o = some vs ∧ newList vs h ≠ .bad := by
  cases o with
  | none => exact absurd rfl hb
  | some vs => exact ⟨vs, rfl, hb⟩
theorem neg_if {c : Prop} [Decidable c] {α : Type} {y : Res α} (hb : (if c then Res.bad else y) ≠ .bad) : ¬ c := fun hc => hb (if_pos hc)
theorem pos_if {c : Prop} [Decidable c] {α : Type} {y : Res α} (hb : (if c then y else Res.bad) ≠ .bad) : c := Classical.byContradiction fun hc => hb (if_neg hc)
theorem bin_int (S : St P.w P.B σ hp s.heap) (hroom : PylongRoom (model P.prog P.w) A s) {op : Operator} {bop : BOp} {x y : Int} {t t' : Tok} (hop : compBOp op = some bop) (hb : binI bop x y hp ≠ .bad) : wpAny (model P.prog P.w) A (binaryOp op (.int x t) (.int y t')) (QV P σ s (binI bop x y hp)) E s := by
  cases op <;> (try exact none_ne hop) <;> cases hop
  · exact add_int ⟨_, _, _, rfl, .tok S _, _, rfl⟩
  · exact sub_int ⟨_, _, _, rfl, .tok S _, _, rfl⟩
  · have hm := pos_if (c := mulOk x y = true) hb
    exact mul_int ⟨_, _, _, if_pos hm, .tok S _, _, rfl⟩ (mulOk_ok hm)
  · have hy := neg_if (c := y = 0) hb
    exact mod_int hy ⟨_, _, _, if_neg hy, .tok S _, _, rfl⟩
  · have hy := neg_if (c := y = 0) hb
    exact floordiv_int hy ⟨_, _, _, if_neg hy, .tok S _, _, rfl⟩ (.inr hroom)
theorem bin_prim (ok : P.Ok) (S : St P.w P.B σ hp s.heap) {n : Nat} (ar : Arnd n A) {op : Operator} {bop : BOp} {a b : AV} {v u : Value} (hop : compBOp op = some bop)
    (ra : RV P.B s.heap σ a v) (rb : RV P.B s.heap σ b u) (hb : binAV bop a b hp ≠ .bad) : wpAny (model P.prog P.w) A (binaryOp op v u) (QV P σ s (binAV bop a b hp)) E s := by
  cases binAV_or hb with
  | int bop x y =>
    obtain ⟨f, outer, hf1, hf2, hf3, hf4, hf5⟩ := ar.frame
    obtain ⟨t, rfl⟩ := ra; obtain ⟨t', rfl⟩ := rb
    exact bin_int S (PylongRoom.of (ok.noLimit S) (by have := ar.depth; show A.depth + 100 < recursionLimit; omega) (SeerAt.of (ok.noSeer S) ok.tree hf1 hf2 hf3 hf4 hf5)) hop hb
  | str x y =>
    cases op <;> (try exact none_ne hop) <;> cases hop
    obtain ⟨t, rfl⟩ := ra; obtain ⟨t', rfl⟩ := rb
    have hsz := pos_if (c := x.length + y.length ≤ sizeLim) hb
    refine SB.add (fun t' k => ⟨.str (x ++ y), _, _, if_pos hsz, .tok S _, t', ?_⟩) (sizeLim_le hsz)
    show Value.str ⟨x.toArray ++ y.toArray⟩ t' = _
    rw [List.append_toArray]
end
end Mine

namespace Mine
open PySem PySem.Spec PyProof.Rows PySem.SeqAt

section
variable {w : World} {B : Bs} {σ : Sg} {hp : AHeap} {s : Shared}

theorem eqAll_fun {f : AV → AV → Option Bool} : ∀ {xs ys vs : List AV} {us : List Value} {r r' : Bool}, eqAll f xs vs = some r → eqAll f ys vs = some r' → RVs B s.heap σ xs us → RVs B s.heap σ ys us →
    (∀ x y v u b b', f x v = some b → f y v = some b' → RV B s.heap σ x u → RV B s.heap σ y u → b = b') → r = r'
  | [], [], vs, us, r, r', h, h', _, _, _ => by rw [h] at h'; exact Option.some.inj h'
  | x :: xs, y :: ys, [], u :: us, r, r', h, h', _, _, _ => by simp [eqAll] at h h'; rw [h, h']
  | x :: xs, y :: ys, v :: vs, u :: us, r, r', h, h', rx, ry, H => by
    rw [eqAll] at h h'
    cases h1 : f x v with
    | none => rw [h1] at h; cases h
    | some b =>
      cases h2 : eqAll f xs vs with
      | none => rw [h1, h2] at h; cases h
      | some c =>
        cases h3 : f y v with
        | none => rw [h3] at h'; cases h'
        | some b' =>
          cases h4 : eqAll f ys vs with
          | none => rw [h3, h4] at h'; cases h'
          | some c' =>
            rw [h1, h2] at h
            rw [h3, h4] at h'
            simp only [Option.some.injEq] at h h'
            rw [← h, ← h', H x y v u b b' h1 h3 rx.1 ry.1, eqAll_fun h2 h4 rx.2 ry.2 H]
  | [], _ :: _, _, [], _, _, _, _, _, ry, _ => ry.elim
  | [], _ :: _, _, _ :: _, _, _, _, _, rx, _, _ => rx.elim
  | _ :: _, [], _, [], _, _, _, _, rx, _, _ => rx.elim
  | _ :: _, [], _, _ :: _, _, _, _, _, _, ry, _ => ry.elim
  | _ :: _, _ :: _, _, [], _, _, _, _, rx, _, _ => rx.elim

theorem eqv_fun (S : St w B σ hp s.heap) : ∀ (n : Nat) (x y v : AV) (u : Value) (b b' : Bool), eqv hp n x v = some b → eqv hp n y v = some b' → RV B s.heap σ x u → RV B s.heap σ y u → b = b'
  | 0, _, _, _, _, _, _, h, _, _, _ => nomatch h
  | n + 1, x, y, v, u, b, b', h, h', rx, ry => by
    have H : ∀ x y v u b b', eqv hp n x v = some b → eqv hp n y v = some b' → RV B s.heap σ x u → RV B s.heap σ y u → b = b' := fun x y v u b b' => eqv_fun S n x y v u b b'
    cases eqv_or h with
    | none => cases eqv_or h' with | none => rfl
    | int x z =>
      cases eqv_or h' with
      | int y z => obtain ⟨t, rfl⟩ := rx; obtain ⟨t', q⟩ := ry; rw [(Value.int.inj q).1]
    | str x z =>
      cases eqv_or h' with
      | str y z =>
        obtain ⟨t, rfl⟩ := rx; obtain ⟨t', q⟩ := ry
        have : x = y := by simpa using (Value.str.inj q).1
        rw [this]
    | tup xs zs b e =>
      cases eqv_or h' with
      | tup ys zs b' e' =>
        obtain ⟨a, ws, k, rfl, oa, rx⟩ := rx; obtain ⟨c, us, k', q, ob, ry⟩ := ry
        cases q
        have := (objAt_uniq oa ob).2
        cases this
        exact eqAll_fun e e' rx ry H
    | loc i k b e =>
      cases eqv_or h' with
      | loc j k b' e' =>
        obtain ⟨a, o, rfl, e1⟩ := rx; obtain ⟨c, o', q, e2⟩ := ry
        cases q
        obtain rfl := S.inj e1 e2
        rw [e] at e'; exact Option.some.inj e'

theorem findEq_spec {v : AV} : ∀ {xs : List AV} {r : Bool}, findEq hp v xs = some r → (∀ (j : Nat) x, xs[j]? = some x → ∃ b, eqv hp eqFuel x v = some b) ∧ (r = true ↔ ∃ (j : Nat) (x : AV), xs[j]? = some x ∧ eqv hp eqFuel x v = some true)
  | [], r, h => by simp [findEq] at h; subst h; simp
  | x :: xs, r, h => by
    rw [findEq] at h
    cases h1 : eqv hp eqFuel x v with
    | none => rw [h1] at h; cases h
    | some b =>
      cases h2 : findEq hp v xs with
      | none => rw [h1, h2] at h; cases h
      | some c =>
        rw [h1, h2] at h
        simp only [Option.some.injEq] at h
        obtain ⟨ih1, ih2⟩ := findEq_spec h2
        refine ⟨fun j y hy => ?_, ?_⟩
        · cases j with
          | zero => simp at hy; subst hy; exact ⟨b, h1⟩
          | succ j => simp at hy; exact ih1 j y hy
        · rw [← h, Bool.or_eq_true, ih2]
          constructor
          · rintro (rfl | ⟨j, y, e1, e2⟩)
            · exact ⟨0, x, by simp, h1⟩
            · exact ⟨j + 1, y, by simpa using e1, e2⟩
          · rintro ⟨j, y, e1, e2⟩
            cases j with
            | zero => simp at e1; subst e1; rw [h1] at e2; left; exact Option.some.inj e2
            | succ j => right; exact ⟨j, y, by simpa using e1, e2⟩

open Classical in
/-- the items of a walked thing, held against a value -/
theorem eq_items (S : St w B σ hp s.heap) {A : Around} {xs : List AV} {v : AV} {u : Value} {ws : Array Value} (hd : ∀ (j : Nat) x, xs[j]? = some x → ∃ b, eqv hp eqFuel x v = some b) (rx : RVs B s.heap σ xs ws.toList) (rv : RV B s.heap σ v u) (hu : A.units + eqFuel < cLine) :
    ∃ e : Value → Bool, (∀ y, y ∈ ws → EqAt A s y u (e y)) ∧ ∀ (j : Nat) y x, ws[j]? = some y → xs[j]? = some x → eqv hp eqFuel x v = some (e y) := by
  have key : ∀ (j : Nat) (y : Value) (x : AV), ws[j]? = some y → xs[j]? = some x → eqv hp eqFuel x v = some (decide (∃ (j : Nat) (x : AV), ws[j]? = some y ∧ xs[j]? = some x ∧ eqv hp eqFuel x v = some true)) := by
    intro j y x hy hx
    obtain ⟨b, hb⟩ := hd j x hx
    rw [hb]
    congr 1
    cases b with
    | true => exact (decide_eq_true ⟨j, x, hy, hx, hb⟩).symm
    | false =>
      refine (decide_eq_false ?_).symm
      rintro ⟨k, z, hy', hz, ht⟩
      obtain ⟨v1, e1, q1⟩ := rx.get hx
      obtain ⟨v2, e2, q2⟩ := rx.get hz
      rw [Array.getElem?_toList, hy] at e1
      rw [Array.getElem?_toList, hy'] at e2
      cases e1; cases e2
      exact absurd (eqv_fun S _ _ _ _ _ _ _ hb ht q1 q2) (by simp)
  refine ⟨fun y => decide (∃ (j : Nat) (x : AV), ws[j]? = some y ∧ xs[j]? = some x ∧ eqv hp eqFuel x v = some true), ?_, key⟩
  · intro y hy
    obtain ⟨j, hj, e⟩ := Array.mem_iff_getElem.mp hy
    have ey : ws[j]? = some y := by rw [Array.getElem?_eq_getElem hj, e]
    have hl := rx.size
    have ex : xs[j]? = some xs[j] := List.getElem?_eq_getElem (by omega)
    obtain ⟨v1, e1, q1⟩ := rx.get ex
    rw [Array.getElem?_toList, ey] at e1
    cases e1
    exact (eqv_at S _ _ _ _ A _ _ (key j y _ ey ex) q1 rv hu).eq

theorem any_items {xs : List AV} {v : AV} {ws : Array Value} {e : Value → Bool} {r : Bool} (h : findEq hp v xs = some r) (rx : RVs B s.heap σ xs ws.toList) (he : ∀ (j : Nat) y x, ws[j]? = some y → xs[j]? = some x → eqv hp eqFuel x v = some (e y)) : ws.any e = r := by
  obtain ⟨hd, hr⟩ := findEq_spec h
  have hl := rx.size
  have : ws.any e = true ↔ r = true := by
    rw [hr, Array.any_eq_true]
    constructor
    · rintro ⟨j, hj, ht⟩
      have ex : xs[j]? = some xs[j] := List.getElem?_eq_getElem (by omega)
      exact ⟨j, _, ex, by rw [he j _ _ (Array.getElem?_eq_getElem hj) ex, ht]⟩
    · rintro ⟨j, x, hx, ht⟩
      have hj : j < ws.size := by have := (List.getElem?_eq_some_iff.mp hx).1; omega
      have := he j _ x (Array.getElem?_eq_getElem hj) hx
      rw [ht] at this
      exact ⟨j, hj, (Option.some.inj this).symm⟩
  cases h1 : ws.any e <;> cases h2 : r <;> simp_all
end

end Mine

namespace Mine
open PySem PySem.Spec PyProof.Rows PySem.SeqAt

section
variable {P : Par} {A : Around} {σ : Sg} {hp : AHeap} {s : Shared} {E : Value → Shared → Prop}

theorem key_tuple {B : Bs} {h : Heap} {a b : Int} {v : Value} (r : RV B h σ (Key.pair a b).av v) : ∃ c, v = .ref c ∧ IsTupleKey (intKind P.prog P.w) h [a, b] c := by
  obtain ⟨c, ws, n, rfl, o, rs⟩ := r
  refine ⟨c, rfl, _, ws, n, o, rfl, rfl, ?_⟩
  obtain ⟨wl⟩ := ws
  replace rs : RVs B h σ [.int a, .int b] wl := rs
  obtain ⟨x, r1, rfl, ⟨t, rfl⟩, rs2⟩ := rs.cons
  obtain ⟨y, rfl, u, rfl⟩ := rs2.one
  exact .cons (by simp [intKind, Value.isInt]) (.cons (by simp [intKind, Value.isInt]) .nil)

theorem pyHash_prim {k : Key} {v : Value} (r : RV P.B s.heap σ k.av v) (hu : A.units < cLine) :
    ∃ d, ∀ (E : Value → Shared → Prop) (Q : Int → Shared → Prop), Q (keyHash P.w k) { s with toks := s.toks + d } → wpAny (model P.prog P.w) A (pyHash v) Q E s := by
  cases k with
  | str x =>
    obtain ⟨t, rfl⟩ := r
    exact ⟨1, fun E Q h => wpAny_pyHash_str h⟩
  | pair a b =>
    obtain ⟨c, rfl, ht⟩ := key_tuple (P := P) r
    exact ⟨3, fun E Q h => wpAny_pyHash_tuple hu ht h⟩

theorem REs.idx {w : World} {B : Bs} {h : Heap} {f : DictEntry → Bool} {k : Key} : ∀ {ps : List (Key × AV)} {es : List DictEntry}, REs w B h σ ps es →
    (∀ p e, p ∈ ps → e.hash = keyHash w p.1 → RV B h σ p.1.av e.key → f e = (p.1 == k)) → es.findIdx? f = ps.findIdx? (fun p => p.1 == k)
  | [], [], _, _ => rfl
  | p :: ps, e :: es, r, H => by
    rw [List.findIdx?_cons, List.findIdx?_cons, H p e (.head _) r.1.1 r.1.2.1, REs.idx r.2 fun p e hp => H p e (.tail _ hp)]
  | [], _ :: _, r, _ => r.elim
  | _ :: _, [], r, _ => r.elim

theorem REs.mem {w : World} {B : Bs} {h : Heap} : ∀ {ps : List (Key × AV)} {es : List DictEntry}, REs w B h σ ps es → ∀ e ∈ es, ∃ p ∈ ps, e.hash = keyHash w p.1 ∧ RV B h σ p.1.av e.key ∧ RV B h σ p.2 e.val
  | [], [], _, e, he => nomatch he
  | p :: ps, e' :: es, r, e, he => by
    rcases List.mem_cons.mp he with rfl | he
    · exact ⟨p, .head _, r.1⟩
    · obtain ⟨q, hq, x⟩ := REs.mem r.2 e he
      exact ⟨q, .tail _ hq, x⟩
  | [], _ :: _, r, _, _ => r.elim
  | _ :: _, [], r, _, _ => r.elim

noncomputable def pairK : Key → List Int
  | .pair a b => [a, b]
  | _ => []

theorem REs.pairs {B : Bs} {h : Heap} : ∀ {ps : List (Key × AV)} {es : List DictEntry}, REs P.w B h σ ps es → (∀ p ∈ ps, p.1.sort = true) →
    ∃ xs : List (List Int × Addr × Value), es = xs.map (entryOfKey (tupleKind (intKind P.prog P.w))) ∧ (∀ x ∈ xs, IsTupleKey (intKind P.prog P.w) h x.1 x.2.1) ∧ xs.map (·.1) = ps.map (fun p => pairK p.1)
  | [], [], _, _ => ⟨[], rfl, fun _ hx => (nomatch hx), rfl⟩
  | p :: ps, e :: es, r, H => by
    obtain ⟨xs, h1, h2, h3⟩ := REs.pairs r.2 fun q hq => H q (.tail _ hq)
    obtain ⟨k, v⟩ := p
    cases k with
    | str i => exact absurd (H _ (.head _)) (by simp [Key.sort])
    | pair a b =>
      obtain ⟨c, hc, ht⟩ := key_tuple (P := P) r.1.2.1
      refine ⟨([a, b], c, e.val) :: xs, ?_, ?_, ?_⟩
      · rw [List.map_cons, h1]
        congr 1
        obtain ⟨hh, hk, hv⟩ := e
        simp only [entryOfKey]
        have e1 := r.1.1
        simp only at e1 hc
        rw [e1, hc]
        rfl
      · intro x hx
        rcases List.mem_cons.mp hx with rfl | hx
        · exact ht
        · exact h2 x hx
      · simp [h3, pairK]
  | [], _ :: _, r, _ => r.elim
  | _ :: _, [], r, _ => r.elim

theorem sortOk_iff {kvs : List (Key × AV)} {k : Key} : sortOk kvs k = true ↔ ∀ p ∈ kvs, p.1.sort = k.sort := by
  simp [sortOk, List.all_eq_true]

theorem pairK_inj {a b : Int} {k : Key} (hk : k.sort = true) : pairK k = [a, b] ↔ k = .pair a b := by
  cases k <;> simp [Key.sort, pairK] at hk ⊢

theorem findIdx_of_nodup {ps : List (Key × AV)} {k : Key} {j : Nat} {v : AV} (hn : (ps.map (·.1)).Nodup) (h : ps[j]? = some (k, v)) : ps.findIdx? (fun p => p.1 == k) = some j := by
  obtain ⟨hj, e⟩ := List.getElem?_eq_some_iff.mp h
  rw [List.findIdx?_eq_some_iff_getElem]
  refine ⟨hj, by rw [e]; simp, fun i hi => ?_⟩
  have hi' : i < ps.length := by omega
  intro q
  have q := eq_of_beq q
  have h1 : (ps.map (·.1))[i]? = some k := by rw [List.getElem?_map, List.getElem?_eq_getElem hi']; simp [q]
  have h2 : (ps.map (·.1))[j]? = some k := by rw [List.getElem?_map, h]; rfl
  have := (List.getElem?_inj (by simpa using hi') hn).mp (h1.trans h2.symm)
  omega

theorem dictFind_prim {kvs : List (Key × AV)} {es : Array DictEntry} {ep : Nat} {a : Addr} {o : Obj} (ho : s.heap.get? a = some o) (hd : o.data = .dict es ep) (re : REs P.w P.B s.heap σ kvs es.toList) (hn : (kvs.map (·.1)).Nodup)
    {k : Key} {v : Value} (r : RV P.B s.heap σ k.av v) (hs : sortOk kvs k = true) (hu : A.units < cLine) {Q : Option Nat → Shared → Prop} (h : Q (kvs.findIdx? fun p => p.1 == k) s) :
    wpAny (model P.prog P.w) A (dictFind a v (keyHash P.w k)) Q E s := by
  have hsort := sortOk_iff.mp hs
  cases k with
  | str x =>
    obtain ⟨t, rfl⟩ := r
    refine wpAny_dictFind_of (knd := PySem.strKind P.prog P.w) (k := ⟨x.toArray⟩) (by simp [PySem.strKind, Value.isStrOf]) ho hd (fun e he => ?_) ?_
    · obtain ⟨p, hp, h1, h2, h3⟩ := re.mem e (Array.mem_toList_iff.mpr he)
      have := hsort p hp
      obtain ⟨kk, vv⟩ := p
      cases kk <;> simp [Key.sort] at this
      obtain ⟨t', h2⟩ := h2
      exact ⟨_, by rw [h2]; simp [PySem.strKind, Value.isStrOf], h1⟩
    · have : es.findIdx? (fun e => (PySem.strKind P.prog P.w).is ⟨x.toArray⟩ e.key) = kvs.findIdx? (fun p => p.1 == Key.str x) := by
        obtain ⟨el⟩ := es
        rw [List.findIdx?_toArray]
        refine re.idx fun p e hp h1 h2 => ?_
        have := hsort p hp
        obtain ⟨kk, vv⟩ := p
        cases kk <;> simp [Key.sort] at this
        obtain ⟨t', h2⟩ := h2
        rw [h2]
        rename_i j
        show ((⟨j.toArray⟩ : Str) == ⟨x.toArray⟩) = (Key.str j == Key.str x)
        rw [str_eq_iff]
        by_cases q : j = x <;> simp [q]
      rw [this]; exact h
  | pair p q =>
    obtain ⟨c, rfl, ht⟩ := key_tuple (P := P) r
    obtain ⟨xs, h1, h2, h3⟩ := re.pairs (P := P) fun p hp => (hsort p hp).trans rfl
    have hlen : xs.length = kvs.length := by have := congrArg List.length h3; simpa using this
    have hnx : (xs.map (·.1)).Nodup := by
      rw [h3]
      have : kvs.map (fun p => pairK p.1) = (kvs.map (·.1)).map pairK := by simp
      rw [this]
      refine List.pairwise_map.mpr (List.Pairwise.imp_of_mem ?_ hn)
      intro x y hx hy hne e
      refine hne ?_
      obtain ⟨p1, hp1, rfl⟩ := List.mem_map.mp hx
      obtain ⟨p2, hp2, rfl⟩ := List.mem_map.mp hy
      have s1 := hsort p1 hp1
      have s2 := hsort p2 hp2
      obtain ⟨k1, _⟩ := p1
      obtain ⟨k2, _⟩ := p2
      cases k1 <;> simp [Key.sort] at s1
      cases k2 <;> simp [Key.sort] at s2
      simpa [pairK] using e
    have hat : ∀ j : Nat, (∃ w, xs[j]? = some ([p, q], w)) ↔ ∃ w, kvs[j]? = some (Key.pair p q, w) := by
      intro j
      have e := congrArg (·[j]?) h3
      simp only [List.getElem?_map] at e
      constructor
      · rintro ⟨w, hw⟩
        rw [hw] at e
        cases hk : kvs[j]? with
        | none => rw [hk] at e; cases e
        | some y =>
          rw [hk] at e
          simp only [Option.map_some, Option.some.injEq] at e
          obtain ⟨k, w'⟩ := y
          have hs' := hsort _ (List.mem_of_getElem? hk)
          have := (pairK_inj (a := p) (b := q) (hs'.trans rfl)).mp e.symm
          exact ⟨w', by simp at this; rw [this]⟩
      · rintro ⟨w, hw⟩
        rw [hw] at e
        cases hk : xs[j]? with
        | none => rw [hk] at e; cases e
        | some y =>
          rw [hk] at e
          simp only [Option.map_some, Option.some.injEq, pairK] at e
          obtain ⟨k, w'⟩ := y
          simp at e
          exact ⟨w', by rw [e]⟩
    refine wpAny_dictFind_heap (knd := tupleKind (intKind P.prog P.w)) (k := [p, q]) hu ht ho hd h1 h2 hnx (fun hno => ?_) (fun j w hj => ?_)
    · have : kvs.findIdx? (fun y => y.1 == Key.pair p q) = none := by
        rw [List.findIdx?_eq_none_iff]
        intro y hy
        obtain ⟨j, hj, e⟩ := List.mem_iff_getElem.mp hy
        obtain ⟨k, w⟩ := y
        simp only [beq_eq_false_iff_ne, ne_eq]
        rintro rfl
        obtain ⟨w', hw'⟩ := (hat j).mpr ⟨w, by rw [List.getElem?_eq_getElem hj, e]⟩
        exact hno j w' hw'
      rw [this] at h; exact h
    · obtain ⟨w', hw'⟩ := (hat j).mp ⟨w, hj⟩
      rw [findIdx_of_nodup hn hw'] at h
      exact h
end
end Mine

namespace Mine
open PySem PySem.Spec PyProof.Rows PySem.SeqAt

section
variable {P : Par} {A : Around} {σ : Sg} {hp : AHeap} {s : Shared} {E : Value → Shared → Prop}

theorem find_lookup {k : Key} : ∀ (kvs : List (Key × AV)), (kvs.findIdx? (fun p => p.1 == k) = none ∧ kvs.lookup k = none) ∨ ∃ i v, kvs.findIdx? (fun p => p.1 == k) = some i ∧ kvs[i]? = some (k, v) ∧ kvs.lookup k = some v
  | [] => .inl ⟨rfl, rfl⟩
  | (k', v) :: r => by
    rw [List.findIdx?_cons, List.lookup_cons]
    by_cases h : k' = k
    · subst h
      exact .inr ⟨0, v, by simp, by simp, by simp⟩
    · have h1 : (k' == k) = false := beq_eq_false_iff_ne.mpr h
      have h2 : (k == k') = false := beq_eq_false_iff_ne.mpr fun e => h e.symm
      simp only [h1, h2, Bool.false_eq_true, if_false]
      rcases find_lookup r with ⟨e1, e2⟩ | ⟨i, w, e1, e2, e3⟩
      · exact .inl ⟨by rw [e1]; rfl, e2⟩
      · exact .inr ⟨i + 1, w, by rw [e1]; rfl, by simpa using e2, e3⟩

theorem St.isDict (S : St P.w P.B σ hp s.heap) {n : Nat} {kvs : List (Key × AV)} {ep : Nat} {a : Addr} {off : Nat} (e : hp[n]? = some (.dict kvs ep)) (hs : σ[n]? = some (a, off)) :
    ∃ es, ObjAt s.heap a (.type "dict") (.dict es (off + ep)) ∧ REs P.w P.B s.heap σ kvs es.toList ∧ (kvs.map (·.1)).Nodup ∧ (∀ p ∈ kvs, ∀ q ∈ kvs, p.1.sort = q.1.sort) ∧ kvs.length ≤ sizeLine :=
  S.obj n a off _ hs e

theorem St.notMods (S : St P.w P.B σ hp s.heap) (ok : P.Ok) {n : Nat} {a : Addr} {off : Nat} (hs : σ[n]? = some (a, off)) : (a == sysModules) = false := by
  refine beq_eq_false_iff_ne.mpr fun e => ?_
  obtain ⟨o, ho⟩ := ok.mods
  have := S.new _ (List.mem_of_getElem? hs)
  simp only at this
  rw [e, ho] at this
  cases this

theorem dictGet_prim (S : St P.w P.B σ hp s.heap) {j : Nat} {kvs : List (Key × AV)} {ep : Nat} {a : Addr} {off : Nat} (hj : hp[j]? = some (.dict kvs ep)) (hs : σ[j]? = some (a, off))
    {k : Key} {v : Value} (r : RV P.B s.heap σ k.av v) (hso : sortOk kvs k = true) (hu : A.units < cLine) :
    ∃ d, ∀ (E : Value → Shared → Prop) (Q : Option Value → Shared → Prop), (kvs.lookup k = none → Q none { s with toks := s.toks + d }) → (∀ x u, kvs.lookup k = some x → RV P.B s.heap σ x u → Q (some u) { s with toks := s.toks + d }) →
      wpAny (model P.prog P.w) A (dictGet a v) Q E s := by
  obtain ⟨es, ho, re, hn, _⟩ := S.isDict hj hs
  obtain ⟨d, hh⟩ := pyHash_prim (A := A) r hu
  refine ⟨d, fun E Q h1 h2 => ?_⟩
  unfold dictGet
  refine wpAny_holding (wpAny_bind (hh _ _ (wpAny_bind (dictFind_prim (s := { s with toks := s.toks + d }) ho rfl re hn r hso hu ?_))))
  rcases find_lookup (k := k) kvs with ⟨e1, e2⟩ | ⟨i, x, e1, e2, e3⟩
  · rw [e1]
    exact wpAny_pure (h1 e2)
  · rw [e1]
    refine wpAny_bind (wpAny_dictEntries (s := { s with toks := s.toks + d }) ho rfl ?_)
    obtain ⟨en, f1, f2, f3, f4⟩ := re.get e2
    rw [Array.getElem?_toList] at f1
    rw [f1]
    exact wpAny_pure (h2 x _ e3 f4)

theorem in_dict (ok : P.Ok) (S : St P.w P.B σ hp s.heap) {j : Nat} {kvs : List (Key × AV)} {ep : Nat} {a : Addr} {off : Nat} (hj : hp[j]? = some (.dict kvs ep)) (hs : σ[j]? = some (a, off))
    {k : Key} {v : Value} (r : RV P.B s.heap σ k.av v) (hso : sortOk kvs k = true) (hu : A.units + 1 < cLine) {Q : Bool → Shared → Prop} (h : ∀ d, Q (kvs.lookup k).isSome { s with toks := s.toks + d }) :
    wpAny (model P.prog P.w) A (contains (.ref a) v) Q E s := by
  obtain ⟨es, ho, re, hn, _⟩ := S.isDict hj hs
  have hT : s.TypeIs (.ref a) "dict" := ⟨_, ho, rfl⟩
  obtain ⟨d, hh⟩ := dictGet_prim (A := A.in1) S hj hs r hso (by simpa using hu)
  unfold contains
  try with_reducible refine wpAny_holding ?_
  refine wpAny_bind (wpAny_specialOf hT slot_dict_contains.lookup ?_)
  show wpAny _ _ (if (some (Value.builtin "dict.__contains__") == some Value.none) = true then _ else _) _ E s
  rw [if_neg (by rw [beq_builtin_none]; exact Bool.false_ne_true)]
  refine wpAny_bind (wpAny_callSpecialUnlessNone?_slot (name := Str.ofString "__contains__") hT slot_dict_contains
    (wpAny_call_entry slot_dict_contains hT entry_dict_contains ?_ (args_dict_contains _ _)))
  show wpAny _ _ (dictGet a v >>= _) _ _ s
  refine wpAny_bind (hh _ _ (fun e => ?_) (fun x u e rx => ?_))
  · show wpAny _ _ (Builtin.Dict.pendingKey? a v >>= _) _ _ _
    refine wpAny_bind (wpAny_pendingKey_other (S.notMods ok hs) (wpAny_pure ⟨_, rfl, wpAny_truthy_bool ?_⟩))
    have := h d
    rw [e] at this
    exact this
  · show wpAny _ _ (ret (.bool true)) _ _ _
    refine wpAny_pure ⟨_, rfl, wpAny_truthy_bool ?_⟩
    have := h d
    rw [e] at this
    exact this

theorem key_av {a : AV} {k : Key} (h : a.key? = some k) : a = k.av := by
  unfold AV.key? at h
  split at h
  · cases h; rfl
  · split at h
    · cases h; rfl
    · cases h
  · cases h

theorem getItem_dict (ok : P.Ok) (S : St P.w P.B σ hp s.heap) {j : Nat} {kvs : List (Key × AV)} {ep : Nat} {a : Addr} {off : Nat} (hj : hp[j]? = some (.dict kvs ep)) (hs : σ[j]? = some (a, off))
    {k : Key} {v : Value} (r : RV P.B s.heap σ k.av v) (hso : sortOk kvs k = true) (hu : A.units + 1 < cLine) {x : AV} (hx : kvs.lookup k = some x) {Q : Value → Shared → Prop} (h : ∀ d u, RV P.B s.heap σ x u → Q u { s with toks := s.toks + d }) :
    wpAny (model P.prog P.w) A (getItem (.ref a) v) Q E s := by
  obtain ⟨es, ho, re, hn, _⟩ := S.isDict hj hs
  have hT : s.TypeIs (.ref a) "dict" := ⟨_, ho, rfl⟩
  obtain ⟨d, hh⟩ := dictGet_prim (A := A.in1) S hj hs r hso (by simpa using hu)
  unfold getItem
  try with_reducible refine wpAny_holding ?_
  refine wpAny_bind (wpAny_sequenceKey hT (by decide) ?_)
  refine wpAny_bind (wpAny_callSpecial?_slot (name := Str.ofString "__getitem__") hT slot_dict_getitem
    (wpAny_call_entry slot_dict_getitem hT entry_dict_getitem ?_ (args_dict_getitem _ _)))
  show wpAny _ _ (dictGet a v >>= _) _ _ s
  refine wpAny_bind (hh _ _ (fun e => ?_) (fun x' u e rx => ?_))
  · rw [hx] at e; cases e
  · rw [hx] at e; cases e
    exact wpAny_pure ⟨u, rfl, wpAny_pure (h d u rx)⟩

theorem REs.setAt {w : World} {B : Bs} {h : Heap} {k : Key} {x : AV} {v : Value} (rv : RV B h σ x v) : ∀ {ps : List (Key × AV)} {es : List DictEntry}, REs w B h σ ps es → ∀ {i : Nat}, ps.findIdx? (fun p => p.1 == k) = some i → (ps.map (·.1)).Nodup →
    REs w B h σ (ps.map (fun p => if p.1 == k then (p.1, x) else p)) (es.modify i fun e => { e with val := v })
  | p :: ps, e :: es, r, i, hi, hn => by
    rw [List.findIdx?_cons] at hi
    rw [List.map_cons, List.nodup_cons] at hn
    by_cases h : p.1 == k
    · rw [if_pos h] at hi
      cases hi
      have hrest : ps.map (fun p => if p.1 == k then (p.1, x) else p) = ps := by
        conv => rhs; rw [← List.map_id ps]
        refine List.map_congr_left fun q hq => ?_
        have : (q.1 == k) = false := beq_eq_false_iff_ne.mpr fun e => hn.1 (by rw [eq_of_beq h, ← e]; exact List.mem_map_of_mem (f := (·.1)) hq)
        rw [if_neg (by rw [this]; simp)]; rfl
      rw [List.map_cons, if_pos h, hrest]
      exact ⟨⟨r.1.1, r.1.2.1, rv⟩, r.2⟩
    · rw [if_neg h] at hi
      cases hj : ps.findIdx? (fun p => p.1 == k) with
      | none => rw [hj] at hi; cases hi
      | some j =>
        rw [hj] at hi
        cases hi
        rw [List.map_cons, if_neg h]
        exact ⟨r.1, REs.setAt rv r.2 hj hn.2⟩
  | [], [], _, _, hi, _ => by cases hi
  | [], _ :: _, r, _, _, _ => r.elim
  | _ :: _, [], r, _, _, _ => r.elim

theorem map_put_keys {k : Key} {x : AV} (ps : List (Key × AV)) : (ps.map (fun p => if p.1 == k then (p.1, x) else p)).map (·.1) = ps.map (·.1) := by
  rw [List.map_map]
  refine List.map_congr_left fun q _ => ?_
  simp only [Function.comp]
  split <;> rfl

theorem any_eq_lookup {k : Key} (kvs : List (Key × AV)) : kvs.any (fun p => p.1 == k) = (kvs.lookup k).isSome := by
  induction kvs with
  | nil => rfl
  | cons p r ih =>
    obtain ⟨k', v⟩ := p
    rw [List.any_cons, List.lookup_cons, ih]
    by_cases h : k' = k
    · subst h; simp
    · have h1 : (k' == k) = false := beq_eq_false_iff_ne.mpr h
      have h2 : (k == k') = false := beq_eq_false_iff_ne.mpr fun e => h e.symm
      simp [h1, h2]

/-- a key is set: the object turns, and nothing else -/
theorem dictSet_prim (S : St P.w P.B σ hp s.heap) {j : Nat} {kvs : List (Key × AV)} {ep : Nat} {a : Addr} {off : Nat} (hj : hp[j]? = some (.dict kvs ep)) (hs : σ[j]? = some (a, off))
    {k : Key} {v : Value} (r : RV P.B s.heap σ k.av v) (hso : sortOk kvs k = true) (hu : A.units < cLine) (hsz : kvs.length < sizeLim) {x : AV} {u : Value} (rx : RV P.B s.heap σ x u) {Q : Unit → Shared → Prop}
    (h : ∀ s', After P σ σ [] (hp.set j (.dict (dictPut kvs k x) (if (kvs.lookup k).isSome then ep else ep + 1))) s s' → Q () s') :
    wpAny (model P.prog P.w) A (dictSet a v u) Q E s := by
  obtain ⟨es, ho, re, hn, hone, hle⟩ := S.isDict hj hs
  obtain ⟨d, hh⟩ := pyHash_prim (A := A) r hu
  have hlen := re.length.trans Array.length_toList
  unfold dictSet
  refine wpAny_holding (wpAny_bind (hh _ _ ?_))
  unfold dictSetHashed
  refine wpAny_holding (wpAny_bind (dictFind_prim (s := { s with toks := s.toks + d }) ho rfl re hn r hso hu ?_))
  rcases find_lookup (k := k) kvs with ⟨e1, e2⟩ | ⟨i, x', e1, e2, e3⟩
  · rw [e1]
    have hs' : Heap.SameBut a s.heap (s.heap.update a (Obj.mapDictKeys fun es => es.push ⟨keyHash P.w k, v, u⟩)) := .update ..
    have hput : dictPut kvs k x = kvs ++ [(k, x)] := by unfold dictPut; rw [any_eq_lookup, e2]; rfl
    refine wpAny_bind (wpAny_rule (wpAny_updateDictKeys (s := { s with toks := s.toks + d }) ho rfl ?_ (hz := by have := sizeLim_le (Nat.le_of_lt hsz); omega)))
    obtain ⟨S', g⟩ := S.upd (X := []) hs hs'.extBut (.dict (dictPut kvs k x) (if (kvs.lookup k).isSome then ep else ep + 1)) (Heap.get?_update_self _ ho rfl) fun g => by
      refine ⟨es.push ⟨keyHash P.w k, v, u⟩, ?_, ?_, ?_, ?_, ?_⟩
      · rw [e2]
        exact Heap.get?_update_self _ ho rfl
      · rw [hput, Array.toList_push]
        exact (re.grows g).append ⟨⟨rfl, RV.grows g _ _ r, RV.grows g _ _ rx⟩, trivial⟩
      · rw [hput, List.map_append, List.nodup_append]
        refine ⟨hn, by simp, fun y hy z hz e => ?_⟩
        simp at hz; subst hz; subst e
        obtain ⟨p, hp', rfl⟩ := List.mem_map.mp hy
        have := (List.findIdx?_eq_none_iff.mp e1) p hp'
        simp at this
      · rw [hput]
        have hk := sortOk_iff.mp hso
        have : ∀ p ∈ kvs ++ [(k, x)], p.1.sort = k.sort := fun p hp' => by
          rcases List.mem_append.mp hp' with hp' | hp'
          · exact hk p hp'
          · simp at hp'; subst hp'; rfl
        exact fun p hp' q hq => (this p hp').trans (this q hq).symm
      · rw [hput, List.length_append]
        have := sizeLim_le hsz
        simpa using this
    exact h _ ⟨rfl, S', g⟩
  · rw [e1]
    have hs' : Heap.SameBut a s.heap (s.heap.update a (Obj.mapDict fun es => es.modify i fun e => { e with val := u })) := .update ..
    have hput : dictPut kvs k x = kvs.map (fun p => if p.1 == k then (p.1, x) else p) := by unfold dictPut; rw [any_eq_lookup, e3]; rfl
    refine wpAny_bind (wpAny_rule (wpAny_bind (wpAny_updateDict (s := { s with toks := s.toks + d }) ho rfl (wpAny_point ?_) (hz := by simp))))
    obtain ⟨S', g⟩ := S.upd (X := []) hs hs'.extBut (.dict (dictPut kvs k x) (if (kvs.lookup k).isSome then ep else ep + 1)) (Heap.get?_update_self _ ho rfl) fun g => by
      refine ⟨es.modify i fun e => { e with val := u }, ?_, ?_, ?_, ?_, ?_⟩
      · rw [e3]
        exact Heap.get?_update_self _ ho rfl
      · rw [hput]
        have := REs.setAt (RV.grows g _ _ rx) (re.grows g) e1 hn
        obtain ⟨el⟩ := es
        simpa using this
      · rw [hput, map_put_keys]; exact hn
      · rw [hput]
        have hk := sortOk_iff.mp hso
        have : ∀ p ∈ kvs.map (fun p => if p.1 == k then (p.1, x) else p), p.1.sort = k.sort := fun p hp' => by
          obtain ⟨q, hq, rfl⟩ := List.mem_map.mp hp'
          split <;> exact hk q hq
        exact fun p hp' q hq => (this p hp').trans (this q hq).symm
      · rw [hput, List.length_map]; exact hle
    exact h _ ⟨rfl, S', g⟩

theorem setItem_dict (S : St P.w P.B σ hp s.heap) {j : Nat} {kvs : List (Key × AV)} {ep : Nat} {a : Addr} {off : Nat} (hj : hp[j]? = some (.dict kvs ep)) (hs : σ[j]? = some (a, off))
    {k : Key} {v : Value} (r : RV P.B s.heap σ k.av v) (hso : sortOk kvs k = true) (hu : A.units + 1 < cLine) (hsz : kvs.length < sizeLim) {x : AV} {u : Value} (rx : RV P.B s.heap σ x u) {Q : Unit → Shared → Prop}
    (h : ∀ s', After P σ σ [] (hp.set j (.dict (dictPut kvs k x) (if (kvs.lookup k).isSome then ep else ep + 1))) s s' → Q () s') :
    wpAny (model P.prog P.w) A (setItem (.ref a) v u) Q E s := by
  obtain ⟨es, ho, re, hn, _⟩ := S.isDict hj hs
  have hT : s.TypeIs (.ref a) "dict" := ⟨_, ho, rfl⟩
  unfold setItem
  try with_reducible refine wpAny_holding ?_
  refine wpAny_bind (wpAny_sequenceKey hT (by decide) ?_)
  refine wpAny_bind (wpAny_callSpecial?_slot (name := Str.ofString "__setitem__") hT slot_dict_setitem
    (wpAny_call_entry slot_dict_setitem hT entry_dict_setitem ?_ (args_dict_setitem _ _ _)))
  show wpAny _ _ (Builtin.Dict.notOrdered "__setitem__" ⟨[.ref a, v, u], []⟩ >>= _) _ _ s
  refine wpAny_bind (wpAny_notOrdered_dict hT ?_)
  show wpAny _ _ (dictSet a v u >>= _) _ _ s
  exact wpAny_bind (dictSet_prim (A := A.in1) S hj hs r hso (by simpa using hu) hsz rx fun s' a => wpAny_pure ⟨.none, rfl, wpAny_pure (h s' a)⟩)
end
end Mine

namespace Mine
open PySem PySem.Spec PyProof.Rows PySem.SeqAt

inductive QB (P : Par) (σ : Sg) (hp : AHeap) (s : Shared) (r : Option Bool) (c : Value) (s' : Shared) : Prop
  | mk (b : Bool) (e : c = .bool b) (er : r = some b) (a : After P σ σ [] hp s s')

section
variable {P : Par} {A : Around} {σ : Sg} {hp : AHeap} {s : Shared} {E : Value → Shared → Prop}

theorem inDict_is {kvs : List (Key × AV)} {o : Option Key} {r : Bool} (h : inDict kvs o = some r) : ∃ k, o = some k ∧ sortOk kvs k = true ∧ r = (kvs.lookup k).isSome := by
  unfold inDict at h
  split at h
  · split at h
    · rename_i hs; cases h; exact ⟨_, rfl, hs, rfl⟩
    · cases h
  · cases h
theorem chrOf_is {v : AV} {c : Nat} (h : chrOf v = some c) : v = .str [c] := by
  cases v
  case str x =>
    cases x with
    | nil => exact none_ne h
    | cons a r =>
      cases r with
      | nil => cases (show some a = some c from h); rfl
      | cons _ _ => exact none_ne h
  all_goals exact none_ne h
/-- the kinds of things that hold others -/
inductive InK (hp : AHeap) (a : AV) (r : Bool) : AV → Prop
  | tup (xs : List AV) (h : findEq hp a xs = some r) : InK hp a r (.tup xs)
  | lst (j : Nat) (xs : List AV) (hj : hp[j]? = some (.list xs)) (h : findEq hp a xs = some r) : InK hp a r (.loc j)
  | dct (j : Nat) (kvs : List (Key × AV)) (ep : Nat) (hj : hp[j]? = some (.dict kvs ep)) (h : inDict kvs a.key? = some r) : InK hp a r (.loc j)
  | str (y : List Nat) (c : Nat) (h : a = .str [c]) (hr : r = decide (c ∈ y)) : InK hp a r (.str y)
theorem isIn_or {a b : AV} {r : Bool} (h : isIn hp a b = some r) : InK hp a r b := by
  cases b
  case tup xs => exact .tup xs h
  case str y =>
    obtain ⟨c, hc, hr⟩ := Option.map_eq_some_iff.mp (show (chrOf a).map (fun c => decide (c ∈ y)) = some r from h)
    exact .str y c (chrOf_is hc) hr.symm
  case loc j =>
    delta isIn at h
    dsimp only at h
    cases hj : hp[j]? with
    | none => rw [hj] at h; exact none_ne h
    | some o =>
      rw [hj] at h
      cases o
      case list xs => exact .lst j xs hj h
      case dict kvs ep => exact .dct j kvs ep hj h
      all_goals exact none_ne h
  all_goals exact none_ne h

theorem in_prim (ok : P.Ok) (S : St P.w P.B σ hp s.heap) {n : Nat} (ar : Arnd n A) {a b : AV} {v u : Value} {r : Bool} (ra : RV P.B s.heap σ a v) (rb : RV P.B s.heap σ b u) (h : isIn hp a b = some r) :
    wpAny (model P.prog P.w) A (compareOp .In v u) (QB P σ hp s (some r)) E s ∧ wpAny (model P.prog P.w) A (compareOp .NotIn v u) (QB P σ hp s (some (!r))) E s := by
  have hu : A.in1.units + eqFuel < cLine := by have := ar.units; show A.units + 1 + 6 < _; omega
  have hk0 := isIn_or h
  clear h
  cases hk0 with
  | tup xs h =>
    obtain ⟨c, ws, k, rfl, ob, rx⟩ := rb
    obtain ⟨e, h1, h2⟩ := eq_items S (A := A.in1) (findEq_spec h).1 rx ra hu
    have h3 := any_items h rx h2
    exact ⟨in_tupleAt e (isTuple_of ob) h1 ⟨r, by rw [h3], rfl, .refl S⟩, notIn_tupleAt e (isTuple_of ob) h1 ⟨!r, by rw [h3], rfl, .refl S⟩⟩
  | str y c ha hr =>
    subst ha hr
    obtain ⟨t, rfl⟩ := ra; obtain ⟨t', rfl⟩ := rb
    have hf := StrLaws.found_one ⟨y.toArray⟩ c
    exact ⟨PySem.P.in_str ⟨_, by rw [hf], rfl, .refl S⟩, PySem.P.notIn_str ⟨_, by rw [hf], rfl, .refl S⟩⟩
  | lst j xs hj h =>
    obtain ⟨c, o, rfl, e1⟩ := rb
    obtain ⟨ws, hl, rx⟩ := S.isList hj e1
    obtain ⟨e, h1, h2⟩ := eq_items S (A := A.in1) (findEq_spec h).1 rx ra hu
    have h3 := any_items h rx h2
    exact ⟨in_listAt e hl h1 ⟨r, by rw [h3], rfl, .refl S⟩, notIn_listAt e hl h1 ⟨!r, by rw [h3], rfl, .refl S⟩⟩
  | dct j kvs ep hj h =>
    obtain ⟨c, o, rfl, e1⟩ := rb
    obtain ⟨k, hk, hso, rfl⟩ := inDict_is h
    have hu' : A.units + 1 < cLine := by have := ar.units; omega
    rw [key_av hk] at ra
    constructor
    · show wpAny _ _ (contains (Value.ref c) v >>= fun b => pure (Value.bool b)) _ _ _
      exact wpAny_bind (in_dict ok S hj e1 ra hso hu' fun d => wpAny_pure ⟨_, rfl, rfl, .tok S _⟩)
    · show wpAny _ _ (contains (Value.ref c) v >>= fun b => pure (Value.bool (!b))) _ _ _
      exact wpAny_bind (in_dict ok S hj e1 ra hso hu' fun d => wpAny_pure ⟨_, rfl, rfl, .tok S _⟩)

theorem ordAV_is {op : COp} {a b : AV} {r : Bool} (h : ordAV op a b = some r) : ∃ x y, a = .int x ∧ b = .int y ∧ cmpOrd op x y = some r := by
  unfold ordAV at h
  split at h
  · split at h
    · exact ⟨_, _, rfl, rfl, h⟩
    · cases h
  · cases h

theorem cmp_prim (ok : P.Ok) (S : St P.w P.B σ hp s.heap) {n : Nat} (ar : Arnd n A) {op : CmpOp} {cop : COp} {a b : AV} {v u : Value} {r : Bool} (hop : compCOp op = some cop) (ra : RV P.B s.heap σ a v) (rb : RV P.B s.heap σ b u) (h : cmpAV hp cop a b = some r) :
    wpAny (model P.prog P.w) A (compareOp op v u) (QB P σ hp s (some r)) E s := by
  have hu : A.units + eqFuel < cLine := by have := ar.units; show A.units + 6 < _; omega
  have ord : ∀ {o : COp}, ordAV o a b = some r → ∃ x y t t', v = .int x t ∧ u = .int y t' ∧ cmpOrd o x y = some r := fun h => by
    obtain ⟨x, y, rfl, rfl, h⟩ := ordAV_is h
    obtain ⟨t, rfl⟩ := ra; obtain ⟨t', rfl⟩ := rb
    exact ⟨x, y, t, t', rfl, rfl, h⟩
  cases op <;> (try exact none_ne hop) <;> cases hop
  · exact (eqv_at S _ _ _ _ A _ _ h ra rb hu).rc _ _ _ _ ⟨r, rfl, rfl, .refl S⟩
  · obtain ⟨k, he, rfl⟩ := Option.map_eq_some_iff.mp (show (eqv hp eqFuel a b).map not = some r from h)
    exact (eqv_at S _ _ _ _ A _ _ he ra rb hu).ne _ _ _ _ ⟨!k, rfl, rfl, .refl S⟩
  · obtain ⟨x, y, t, t', rfl, rfl, h⟩ := ord (o := .lt) h; cases h; exact PySem.P.lt_int ⟨_, rfl, rfl, .refl S⟩
  · obtain ⟨x, y, t, t', rfl, rfl, h⟩ := ord (o := .le) h; cases h; exact PySem.P.le_int ⟨_, rfl, rfl, .refl S⟩
  · obtain ⟨x, y, t, t', rfl, rfl, h⟩ := ord (o := .gt) h; cases h; exact PySem.P.gt_int ⟨_, rfl, rfl, .refl S⟩
  · obtain ⟨x, y, t, t', rfl, rfl, h⟩ := ord (o := .ge) h; cases h; exact PySem.P.ge_int ⟨_, rfl, rfl, .refl S⟩
  · exact (in_prim ok S ar ra rb h).1
  · obtain ⟨k, he, rfl⟩ := Option.map_eq_some_iff.mp (show (isIn hp a b).map not = some r from h)
    exact (in_prim ok S ar ra rb he).2
end
end Mine

namespace Mine
open PySem PySem.Spec PyProof.Rows PySem.SeqAt

section
variable {P : Par} {A : Around} {σ : Sg} {hp : AHeap} {s : Shared} {E : Value → Shared → Prop}

theorem lim_int {n : Nat} (h : n ≤ sizeLim) : (n : Int) < 2 ^ 63 := by have : sizeLim = 1048576 := rfl; omega
theorem line_int {n : Nat} (h : n ≤ sizeLine) : (n : Int) < 2 ^ 63 := by have : sizeLine = 16777216 := rfl; omega

theorem RIs.length : ∀ {xs : List Int} {vs : List Value}, RIs xs vs → xs.length = vs.length
  | [], [], _ => rfl
  | _ :: _, _ :: _, r => by simp [RIs.length r.2]
  | [], _ :: _, r => r.elim
  | _ :: _, [], r => r.elim
theorem RIs.rvs {B : Bs} {h : Heap} : ∀ {xs : List Int} {vs : List Value}, RIs xs vs → RVs B h σ (xs.map .int) vs
  | [], [], r => trivial
  | _ :: _, _ :: _, r => ⟨r.1, RIs.rvs r.2⟩
  | [], _ :: _, r => r.elim
  | _ :: _, [], r => r.elim

theorem len_dict_prim (ok : P.Ok) (S : St P.w P.B σ hp s.heap) {j : Nat} {kvs : List (Key × AV)} {ep : Nat} {a : Addr} {off : Nat} (hj : hp[j]? = some (.dict kvs ep)) (hs : σ[j]? = some (a, off)) {Q : Value → Shared → Prop}
    (h : ∀ t k, Q (.int kvs.length t) { s with toks := k }) : wpAny (model P.prog P.w) A (call (.builtin "len") [.ref a]) Q E s := by
  obtain ⟨es, ho, re, hn, hone, hle⟩ := S.isDict hj hs
  have hT : s.TypeIs (.ref a) "dict" := ⟨_, ho, rfl⟩
  have hlen := re.length.trans Array.length_toList
  have hfit := line_int hle
  refine Calls.call_function_entry kind_len plain_len entry_len (args_len1 _) ?_
  unfold Builtin.«len»
  refine wpAny_bind (m := oneArg "len" _) (wpAny_pure ?_)
  refine wpAny_bind (m := callSpecial? (.ref a) (Str.ofString "__len__")) (wpAny_callSpecial?_slot (name := Str.ofString "__len__") hT F.slot_dict_len
    (wpAny_call_entry F.slot_dict_len hT F.entry_dict_len ?_ (F.args_dict_len_1 _)))
  show wpAny _ _ (dictSize a >>= _) _ _ s
  unfold dictSize
  refine wpAny_bind (wpAny_bind (wpAny_dictEntries ho rfl (wpAny_pure ?_)))
  show wpAny _ _ (Builtin.Dict.pendingCount a >>= _) _ _ s
  refine wpAny_bind (wpAny_pendingCount_other (S.notMods ok hs) ?_)
  refine wpAny_ret_mkInt ?_
  rw [Nat.add_zero, ← hlen]
  refine wpAny_bind (wpAny_holding (wpAny_pure ?_))
  refine wpAny_bind (wpAny_letGo ?_)
  show wpAny _ _ (if ((kvs.length : Nat) : Int) < 0 then _ else _) _ _ _
  rw [if_neg (by omega)]
  show wpAny _ _ (if ((kvs.length : Nat) : Int) ≥ 2 ^ 63 then _ else _) _ _ _
  rw [if_neg (by omega)]
  exact wpAny_bind (wpAny_mkInt (wpAny_pure ⟨_, rfl, h _ _⟩))

theorem scr_list (S : St P.w P.B σ hp s.heap) {a : Addr} {items : Array Value} (h : P.B.h₀.IsList a items) : s.heap.IsList a items := by
  obtain ⟨o, ho, r⟩ := h
  exact ⟨o, S.base a o ho, r⟩

theorem lim_if {p : Prop} [Decidable p] {r : Res AV} (h : (if p then r else .bad) ≠ .bad) : p := Classical.byContradiction fun n => h (if_neg n)

theorem len_prim (ok : P.Ok) (S : St P.w P.B σ hp s.heap) {a : AV} {v : Value} (ra : RV P.B s.heap σ a v) (hb : lenAV a hp ≠ .bad) : wpAny (model P.prog P.w) A (call (.builtin "len") [v]) (QV P σ s (lenAV a hp)) E s := by
  cases a
  case str x =>
    obtain ⟨t, rfl⟩ := ra
    have hsz := lim_if hb
    rw [show lenAV (.str x) hp = .ok (.int x.length) hp from if_pos hsz]
    have hl : (⟨x.toArray⟩ : Str).length = x.length := List.size_toArray
    have := lim_int hsz
    exact PySem.P.len_str (by rw [hl]; omega) ⟨_, _, _, rfl, .tok S _, s.toks + 1, by rw [hl]⟩
  case tup xs =>
    obtain ⟨a, ws, n, rfl, o, rx⟩ := ra
    have hsz := lim_if hb
    rw [show lenAV (.tup xs) hp = .ok (.int xs.length) hp from if_pos hsz]
    have hl := rx.size
    have := lim_int hsz
    exact PySem.P.len_tuple o (by omega) ⟨_, _, _, rfl, .tok S _, s.toks + 1, by rw [hl]⟩
  case scr xs =>
    obtain ⟨a, items, rfl, hl, rx⟩ := ra
    have hsz := lim_if hb
    rw [show lenAV (.scr xs) hp = .ok (.int xs.length) hp from if_pos hsz]
    have hx := rx.length.trans Array.length_toList
    have := lim_int hsz
    exact len_list (scr_list S hl) (by omega) ⟨_, _, _, rfl, .tok S _, s.toks + 1, by rw [hx]⟩
  case loc j =>
    obtain ⟨a, o, rfl, e1⟩ := ra
    delta lenAV at hb ⊢
    dsimp only at hb ⊢
    cases hj : hp[j]? with
    | none => rw [hj] at hb; exact absurd rfl hb
    | some ob =>
      rw [hj] at hb
      cases ob
      case list xs =>
        obtain ⟨ws, k, hl, rx⟩ := S.isL hj e1
        have hx := rx.size
        have := line_int (S.isLen hj e1)
        exact len_list (isList_of hl) (by omega) ⟨_, _, _, rfl, .tok S _, s.toks + 1, by rw [hx]⟩
      case dict kvs ep => exact len_dict_prim ok S hj e1 fun t k => ⟨_, _, _, rfl, .tok S _, _, rfl⟩
      all_goals exact absurd rfl hb
  all_goals exact absurd rfl hb

theorem idx_seq {α : Type} {xs : List α} {k : Int} {x : α} (h : idx? xs k = some x) : ∃ j, seqIndex? k xs.length = some j ∧ xs[j]? = some x ∧ -(xs.length : Int) ≤ k ∧ k < xs.length ∧ (0 ≤ k → j = k.toNat) ∧ (k < 0 → j = (k + xs.length).toNat) := by
  unfold idx? at h
  split at h
  · rename_i h0
    have hlt := (List.getElem?_eq_some_iff.mp h).1
    refine ⟨k.toNat, ?_, h, by omega, by omega, fun _ => rfl, fun h => by omega⟩
    unfold seqIndex?
    have h1 : ¬ k < 0 := by omega
    have h2 : k < (xs.length : Int) := by omega
    simp [h1, h0, h2]
  · split at h
    · rename_i h0 h1
      have hlt := (List.getElem?_eq_some_iff.mp h).1
      refine ⟨(k + xs.length).toNat, ?_, h, by omega, by omega, fun h => by omega, fun _ => rfl⟩
      unfold seqIndex?
      have h2 : k < 0 := by omega
      have h3 : k + (xs.length : Int) < (xs.length : Int) := by omega
      simp [h2, h1, h3]
    · cases h

theorem subI_is {xs : List AV} {i : AV} {x : AV} (h : subI xs (intOf i) = some x) : ∃ k, i = .int k ∧ xs.length ≤ sizeLim ∧ idx? xs k = some x := by
  unfold subI intOf at h
  split at h
  · rename_i k e
    split at e
    · cases e
      split at h
      · rename_i hs; exact ⟨_, rfl, hs, h⟩
      · cases h
    · cases e
  · cases h
theorem subD_is {kvs : List (Key × AV)} {o : Option Key} {x : AV} (h : subD kvs o = some x) : ∃ k, o = some k ∧ sortOk kvs k = true ∧ kvs.lookup k = some x := by
  unfold subD at h
  split at h
  · split at h
    · rename_i hs; exact ⟨_, rfl, hs, h⟩
    · cases h
  · cases h
theorem okO_is {o : Option AV} {h : AHeap} (hb : okO o h ≠ .bad) : ∃ v, o = some v := by
  cases o with
  | none => exact absurd rfl hb
  | some v => exact ⟨v, rfl⟩
/-- the kinds of things that are asked for an item -/
inductive SubK (hp : AHeap) (i : AV) : AV → AV → Prop
  | str (xs : List Nat) (x : AV) (h : subI (xs.map fun c => .str [c]) (intOf i) = some x) : SubK hp i (.str xs) x
  | tup (xs : List AV) (x : AV) (h : subI xs (intOf i) = some x) : SubK hp i (.tup xs) x
  | scr (xs : List Int) (x : AV) (h : subI (xs.map .int) (intOf i) = some x) : SubK hp i (.scr xs) x
  | lst (j : Nat) (xs : List AV) (x : AV) (hj : hp[j]? = some (.list xs)) (h : subI xs (intOf i) = some x) : SubK hp i (.loc j) x
  | dct (j : Nat) (kvs : List (Key × AV)) (ep : Nat) (x : AV) (hj : hp[j]? = some (.dict kvs ep)) (h : subD kvs i.key? = some x) : SubK hp i (.loc j) x
theorem okO_eq {o : Option AV} {h : AHeap} (hb : okO o h ≠ .bad) : ∃ v, o = some v ∧ okO o h = .ok v h := by
  cases o with
  | none => exact absurd rfl hb
  | some v => exact ⟨v, rfl, rfl⟩
theorem sub_kind {a i : AV} {hp : AHeap} (hb : subAV a i hp ≠ .bad) : ∃ x, subAV a i hp = .ok x hp ∧ SubK hp i a x := by
  cases a
  case str xs => obtain ⟨x, hx, e⟩ := okO_eq hb; exact ⟨x, e, .str xs x hx⟩
  case tup xs => obtain ⟨x, hx, e⟩ := okO_eq hb; exact ⟨x, e, .tup xs x hx⟩
  case scr xs => obtain ⟨x, hx, e⟩ := okO_eq hb; exact ⟨x, e, .scr xs x hx⟩
  case loc j =>
    delta subAV at hb ⊢
    dsimp only at hb ⊢
    cases hj : hp[j]? with
    | none => rw [hj] at hb; exact absurd rfl hb
    | some ob =>
      rw [hj] at hb
      cases ob
      case list xs => obtain ⟨x, hx, e⟩ := okO_eq hb; exact ⟨x, e, .lst j xs x hj hx⟩
      case dict kvs ep => obtain ⟨x, hx, e⟩ := okO_eq hb; exact ⟨x, e, .dct j kvs ep x hj hx⟩
      all_goals exact absurd rfl hb
  all_goals exact absurd rfl hb

theorem getItem_listAt {xs : List AV} {k : Int} {t : Tok} {x : AV} {a : Addr} {ws : Array Value} (hl : s.heap.IsList a ws) (rx : RVs P.B s.heap σ xs ws.toList) (hsz : xs.length ≤ sizeLim) (hi : idx? xs k = some x) {Q : Value → Shared → Prop} (h : ∀ w, RV P.B s.heap σ x w → Q w s) :
    wpAny (model P.prog P.w) A (getItem (.ref a) (.int k t)) Q E s := by
  obtain ⟨i, h1, h2, h3, h4, h5, h6⟩ := idx_seq hi
  have hlen := rx.size
  obtain ⟨w, e, rw'⟩ := rx.get h2
  rw [Array.getElem?_toList] at e
  have := lim_int hsz
  by_cases h0 : 0 ≤ k
  · exact wpAny_getItem_list hl h0 (by omega) (by rw [← h5 h0]; exact e) (h w rw')
  · exact wpAny_getItem_list_neg hl (by omega) (by omega) (by omega) (by rw [← hlen, ← h6 (by omega)]; exact e) (h w rw')

theorem sub_prim (ok : P.Ok) (S : St P.w P.B σ hp s.heap) {n : Nat} (ar : Arnd n A) {a b : AV} {v u : Value} (ra : RV P.B s.heap σ a v) (rb : RV P.B s.heap σ b u) (hb : subAV a b hp ≠ .bad) : wpAny (model P.prog P.w) A (getItem v u) (QV P σ s (subAV a b hp)) E s := by
  obtain ⟨x, e, K⟩ := sub_kind hb
  rw [e]
  cases K with
  | str xs x h =>
    obtain ⟨k, rfl, hsz, hi⟩ := subI_is h
    obtain ⟨t, rfl⟩ := ra
    obtain ⟨t', rfl⟩ := rb
    obtain ⟨j, h1, h2, h3, h4, _⟩ := idx_seq hi
    rw [List.length_map] at h1 h3 h4 hsz
    rw [List.getElem?_map] at h2
    obtain ⟨c, hc, rfl⟩ := Option.map_eq_some_iff.mp h2
    have := lim_int hsz
    have hr : (decide (k < -(2 ^ 63 : Int)) || decide (k ≥ 2 ^ 63)) = false := by
      rw [decide_eq_false (by omega), decide_eq_false (by omega)]; rfl
    refine PySem.P.getItem_str (c := c) hr ?_ ⟨_, _, _, rfl, .tok S _, s.toks, rfl⟩
    have hl : (⟨xs.toArray⟩ : Str).length = xs.length := List.size_toArray
    rw [hl, h1]
    exact (List.getElem?_toArray ..).trans hc
  | tup xs x h =>
    obtain ⟨k, rfl, hsz, hi⟩ := subI_is h
    obtain ⟨a, ws, m, rfl, o, rx⟩ := ra
    obtain ⟨t, rfl⟩ := rb
    obtain ⟨j, h1, h2, h3, h4, _⟩ := idx_seq hi
    have hl := rx.size
    obtain ⟨w, e, rw'⟩ := rx.get h2
    rw [Array.getElem?_toList] at e
    have := lim_int hsz
    exact getItem_tuple (isTuple_of o) (by omega) (by omega) (by rw [← hl]; exact h1) e ⟨_, _, _, rfl, .refl S, rw'⟩
  | scr xs x h =>
    obtain ⟨k, rfl, hsz, hi⟩ := subI_is h
    obtain ⟨a, items, rfl, hl, rx⟩ := ra
    obtain ⟨t', rfl⟩ := rb
    exact getItem_listAt (scr_list S hl) rx.rvs hsz hi fun w rw' => ⟨_, _, _, rfl, .refl S, rw'⟩
  | lst j xs x hj h =>
    obtain ⟨k, rfl, hsz, hi⟩ := subI_is h
    obtain ⟨a, o, rfl, e1⟩ := ra
    obtain ⟨t', rfl⟩ := rb
    obtain ⟨ws, hl, rx⟩ := S.isList hj e1
    exact getItem_listAt hl rx hsz hi fun w rw' => ⟨_, _, _, rfl, .refl S, rw'⟩
  | dct j kvs ep x hj h =>
    obtain ⟨k, hk, hso, hx⟩ := subD_is h
    obtain ⟨a, o, rfl, e1⟩ := ra
    rw [key_av hk] at rb
    exact getItem_dict ok S hj e1 rb hso (by have := ar.units; omega) hx fun d w rw' => ⟨_, _, _, rfl, .tok S _, rw'⟩
end
end Mine

namespace Mine
open PySem PySem.Spec PyProof.Rows PySem.SeqAt

section
variable {P : Par} {A : Around} {σ : Sg} {hp : AHeap} {s : Shared} {E : Value → Shared → Prop}

theorem clamp_clip (n : Nat) (i : Int) : clampIdx n i = clipAt n i := by
  have h := clipAt_cast n i
  unfold clampIdx
  split
  · rename_i h0
    rw [if_pos h0] at h
    omega
  · rename_i h0
    rw [if_neg h0] at h
    omega
theorem clip_full (n : Nat) : clipAt n (n : Int) = n := by rw [clipAt_nat]; omega
theorem clip_zero (n : Nat) : clipAt n 0 = 0 := by have := clipAt_nat n 0; simpa using this

noncomputable def partOf : AV → Option Int
  | .int i => some i
  | _ => none
theorem part_is {a : AV} {v : Value} {n : Int} (r : RV P.B s.heap σ a v) (h : loOf a = some n) : IsPart v (partOf a) ∧ ∃ p : Option (Int × Tok), v = partValue p ∧ p.map (·.1) = partOf a := by
  cases a <;> simp [loOf] at h <;> simp only [RV] at r
  · subst r; exact ⟨.none, none, rfl, rfl⟩
  · obtain ⟨t, rfl⟩ := r; exact ⟨.int _ _, some (_, t), rfl, rfl⟩
theorem hi_lo {a : AV} {n : Nat} {m : Int} (h : hiOf n a = some m) : ∃ k, loOf a = some k := by
  cases a <;> simp [hiOf] at h <;> exact ⟨_, rfl⟩
theorem lo_part {n : Nat} {a : AV} {m : Int} (h : loOf a = some m) : (partOf a).elim 0 (clipAt n) = clampIdx n m := by
  cases a <;> simp [loOf] at h <;> subst h
  · rw [clamp_clip]; simp [partOf, clip_zero]
  · rw [clamp_clip]; rfl
theorem hi_part {n : Nat} {a : AV} {m : Int} (h : hiOf n a = some m) : (partOf a).elim n (clipAt n) = clampIdx n m := by
  cases a <;> simp [hiOf] at h <;> subst h
  · rw [clamp_clip]; simp [partOf, clip_full]
  · rw [clamp_clip]; rfl

theorem RVs.drop {B : Bs} {h : Heap} : ∀ {xs : List AV} {vs : List Value}, RVs B h σ xs vs → ∀ n, RVs B h σ (xs.drop n) (vs.drop n)
  | _, _, r, 0 => r
  | [], [], r, _ + 1 => r
  | _ :: _, _ :: _, r, n + 1 => RVs.drop r.2 n
  | [], _ :: _, r, _ => r.elim
  | _ :: _, [], r, _ => r.elim
theorem RVs.take {B : Bs} {h : Heap} : ∀ {xs : List AV} {vs : List Value}, RVs B h σ xs vs → ∀ n, RVs B h σ (xs.take n) (vs.take n)
  | [], [], r, 0 => r
  | _ :: _, _ :: _, _, 0 => trivial
  | [], [], r, _ + 1 => r
  | _ :: _, _ :: _, r, n + 1 => ⟨r.1, RVs.take r.2 n⟩
  | [], _ :: _, r, _ => r.elim
  | _ :: _, [], r, _ => r.elim
theorem cut_eq {α : Type} (xs : List α) (lo hi : Int) : cutList xs lo hi = (xs.drop (clampIdx xs.length lo)).take (clampIdx xs.length hi - clampIdx xs.length lo) := by
  unfold cutList
  rw [List.drop_take]

theorem RVs.cut {B : Bs} {h : Heap} {xs : List AV} {vs : List Value} (r : RVs B h σ xs vs) (lo hi : Int) : RVs B h σ (cutList xs lo hi) ((vs.drop (clampIdx xs.length lo)).take (clampIdx xs.length hi - clampIdx xs.length lo)) := by
  rw [cut_eq]
  exact (r.drop _).take _

theorem str_pick (x : List Nat) (lo hi : Option Int) : (Builtin.Str.strSliceIndices lo hi 1 x.length).filterMap ((⟨x.toArray⟩ : Str).cps[·]?) = (x.drop (lo.elim 0 (clipAt x.length))).take (hi.elim x.length (clipAt x.length) - lo.elim 0 (clipAt x.length)) := by
  have h : Builtin.Str.strSliceIndices lo hi 1 x.length = sliceRange (lo.elim 0 (clipAt x.length) : Nat) (hi.elim x.length (clipAt x.length) : Nat) 1 := by
    unfold Builtin.Str.strSliceIndices
    cases lo <;> cases hi <;> simp [clipAt_cast]
  rw [h, sliceRange_one, pick_run]


theorem cutO_is {α : Type} {xs : List α} {lo hi : AV} {ys : List α} (h : cutO xs lo hi = some ys) : xs.length ≤ sizeLim ∧ ∃ m k, loOf lo = some m ∧ hiOf xs.length hi = some k ∧ ys = cutList xs m k := by
  unfold cutO at h
  split at h
  · rename_i hl
    obtain ⟨m, hm, h⟩ := Option.bind_eq_some_iff.mp h
    obtain ⟨k, hk, h⟩ := Option.map_eq_some_iff.mp h
    exact ⟨hl, m, k, hm, hk, h.symm⟩
  · cases h
theorem clamp_le (n : Nat) (i : Int) : clampIdx n i ≤ n := by unfold clampIdx; split <;> omega
abbrev slObj (vl vu : Value) : Obj := { cls := .type "slice", data := .fields #[vl, vu, .none] }
theorem slice_str (S : St P.w P.B σ hp s.heap) {x y : List Nat} {t : Tok} {lo hi : AV} {vl vu : Value} (rl : RV P.B s.heap σ lo vl) (rh : RV P.B s.heap σ hi vu) (h : cutO x lo hi = some y) :
    wpAny (model P.prog P.w) A (getItem (.str ⟨x.toArray⟩ t) (.ref s.heap.objs.size)) (QV P σ s (.ok (.str y) hp)) E { s with heap := s.heap.push (slObj vl vu) } := by
  have S₁ := S.push (slObj vl vu)
  have a₁ : After P σ σ [] hp s { s with heap := s.heap.push (slObj vl vu) } := ⟨rfl, S₁, .push _⟩
  obtain ⟨hxl, m, k, hl, hh, rfl⟩ := cutO_is h
  obtain ⟨_, p, rfl, hp1⟩ := part_is rl hl
  obtain ⟨k', hk'⟩ := hi_lo hh
  obtain ⟨_, q, rfl, hq1⟩ := part_is rh hk'
  have hlen : (⟨x.toArray⟩ : Str).length = x.length := List.size_toArray
  refine wpAny_getItem_str_slice (l := p) (u := q) (st := none) ⟨_, Heap.get?_push_size _ rfl, rfl, rfl⟩ rfl ?_
  unfold sliceMade slicePicked
  rw [hp1, hq1, hlen]
  have hpick := str_pick x (partOf lo) (partOf hi)
  rw [lo_part hl, hi_part hh, ← cut_eq] at hpick
  split
  · rename_i hw
    have hle : (Builtin.Str.strSliceIndices (partOf lo) (partOf hi) 1 x.length).length = x.length := beq_iff_eq.mp (Bool.and_eq_true_iff.mp hw).2
    have hidx : cutList x m k = x := by
      have h1 : (cutList x m k).length = x.length := by
        rw [← hpick]
        have hs : Builtin.Str.strSliceIndices (partOf lo) (partOf hi) 1 x.length = (List.range (clampIdx x.length k - clampIdx x.length m)).map (clampIdx x.length m + ·) := by
          rw [← lo_part (n := x.length) hl, ← hi_part hh, ← sliceRange_one]
          unfold Builtin.Str.strSliceIndices
          cases partOf lo <;> cases partOf hi <;> simp [clipAt_cast]
        have h2 := clamp_le x.length k
        rw [hpick, cut_eq, List.length_take, List.length_drop]
        rw [hs, List.length_map, List.length_range] at hle
        omega
      rw [cut_eq] at h1 ⊢
      rw [List.length_take, List.length_drop] at h1
      by_cases h0 : clampIdx x.length m = 0
      · rw [h0, List.drop_zero]
        exact List.take_of_length_le (by omega)
      · have : x = [] := List.length_eq_zero_iff.mp (by omega)
        subst this; simp
    exact ⟨_, _, _, rfl, a₁, t, by rw [hidx]⟩
  · have hsz : (⟨(cutList x m k).toArray⟩ : Str).length ≤ sizeLine := by
      have h1 : (cutList x m k).length ≤ x.length := by rw [cut_eq, List.length_take, List.length_drop]; omega
      exact Nat.le_trans (Nat.le_of_eq List.size_toArray) (Nat.le_trans h1 (sizeLim_le hxl))
    show _ ∧ _
    have e1 : (none : Option (Int × Tok)).map (·.1) = none := rfl
    rw [e1, Option.getD_none, hpick]
    exact ⟨hsz, _, _, _, rfl, a₁.trans (.tok S₁ _), _, rfl⟩
theorem slice_scr (S : St P.w P.B σ hp s.heap) {xs ys : List Int} {v : Value} {lo hi : AV} {vl vu : Value} (ra : RV P.B s.heap σ (.scr xs) v) (rl : RV P.B s.heap σ lo vl) (rh : RV P.B s.heap σ hi vu) (h : cutO xs lo hi = some ys) (hb : newList (ys.map .int) hp ≠ .bad) :
    wpAny (model P.prog P.w) A (getItem v (.ref s.heap.objs.size)) (QV P σ s (newList (ys.map .int) hp)) E { s with heap := s.heap.push (slObj vl vu) } := by
  have S₁ := S.push (slObj vl vu)
  have a₁ : After P σ σ [] hp s { s with heap := s.heap.push (slObj vl vu) } := ⟨rfl, S₁, .push _⟩
  obtain ⟨hxl, m, k, hl, hh, rfl⟩ := cutO_is h
  obtain ⟨a, items, rfl, hl0, rx⟩ := ra
  obtain ⟨ip, _⟩ := part_is rl hl
  obtain ⟨k', hk'⟩ := hi_lo hh
  obtain ⟨iq, _⟩ := part_is rh hk'
  have hlen := rx.length.trans Array.length_toList
  have hr : RVs P.B (s.heap.push (slObj vl vu)) σ ((cutList xs m k).map .int) (slicePick items (partOf lo) (partOf hi) none).toList := by
    rw [slicePick_plain]
    show RVs _ _ _ _ ((items.toList.drop _).take _)
    rw [← hlen, lo_part hl, hi_part hh]
    have := RVs.cut (B := P.B) (h := s.heap.push (slObj vl vu)) (σ := σ) rx.rvs m k
    rw [List.length_map] at this
    have e : cutList (xs.map AV.int) m k = (cutList xs m k).map AV.int := by unfold cutList; rw [List.length_map, ← List.map_take, ← List.map_drop]
    rw [e] at this
    exact this
  obtain ⟨hsz, hq⟩ := qv_newList (s := { s with heap := s.heap.push (slObj vl vu) }) S₁ hr hb
  exact wpAny_getItem_list_slice (scr_list (s := { s with heap := s.heap.push (slObj vl vu) }) S₁ hl0) (.new ..) ip iq .none (by simp) (hq.lift a₁) (by have := sizeLim_le hxl; omega)
theorem slice_prim (S : St P.w P.B σ hp s.heap) {a lo hi : AV} {v vl vu : Value} (ra : RV P.B s.heap σ a v) (rl : RV P.B s.heap σ lo vl) (rh : RV P.B s.heap σ hi vu) (hb : sliceAV a lo hi hp ≠ .bad) :
    wpAny (model P.prog P.w) A (getItem v (.ref s.heap.objs.size)) (QV P σ s (sliceAV a lo hi hp)) E { s with heap := s.heap.push (slObj vl vu) } := by
  cases a
  case str x =>
    obtain ⟨y, hy, e⟩ := okO_eq (show okO ((cutO x lo hi).map AV.str) hp ≠ .bad from hb)
    obtain ⟨z, hz, rfl⟩ := Option.map_eq_some_iff.mp hy
    obtain ⟨t, rfl⟩ := ra
    rw [show sliceAV (.str x) lo hi hp = .ok (.str z) hp from e]
    exact slice_str S rl rh hz
  case scr xs =>
    obtain ⟨y, hy, hb2⟩ := newListO_is (show newListO ((cutO xs lo hi).map fun ys => ys.map AV.int) hp ≠ .bad from hb)
    obtain ⟨z, hz, rfl⟩ := Option.map_eq_some_iff.mp hy
    have e : sliceAV (.scr xs) lo hi hp = newList (z.map .int) hp := by
      show newListO ((cutO xs lo hi).map fun ys => ys.map AV.int) hp = _
      rw [hz]; rfl
    rw [e]
    exact slice_scr S ra rl rh hz hb2
  all_goals exact absurd rfl hb
end
end Mine

namespace Mine
open PySem PySem.Spec PyProof.Rows PySem.SeqAt

noncomputable def tyName : Ty → String
  | .int => "int" | .bool => "bool" | .str => "str" | .tuple => "tuple" | .list => "list"

section
variable {P : Par} {A : Around} {σ : Sg} {hp : AHeap} {s : Shared} {E : Value → Shared → Prop}

theorem isi_prim (S : St P.w P.B σ hp s.heap) {a : AV} {v : Value} {t : Ty} {r : Bool} (ra : RV P.B s.heap σ a v) (h : isTy hp a t = some r) :
    wpAny (model P.prog P.w) A (call (.builtin "isinstance") [v, .type (tyName t)]) (QB P σ hp s (some r)) E s := by
  have q1 : ∀ b k, QB P σ hp s (some b) (.bool b) { s with toks := k } := fun b k => ⟨b, rfl, rfl, .tok S _⟩
  have q0 : ∀ b, QB P σ hp s (some b) (.bool b) s := fun b => ⟨b, rfl, rfl, .refl S⟩
  cases a
  case int =>
    obtain ⟨_, rfl⟩ := ra
    cases t <;> cases h
    · exact IsiPair.int_int (q0 _)
    · exact IsiPair.int_bool (q1 _ _)
    · exact IsiPair.int_str (q1 _ _)
    · exact IsiPair.int_tuple (q1 _ _)
    · exact IsiPair.int_list (q1 _ _)
  case str =>
    obtain ⟨_, rfl⟩ := ra
    cases t <;> cases h
    · exact IsiPair.str_int (q1 _ _)
    · exact IsiPair.str_bool (q1 _ _)
    · exact IsiPair.str_str (q0 _)
    · exact IsiPair.str_tuple (q1 _ _)
    · exact IsiPair.str_list (q1 _ _)
  case tup =>
    obtain ⟨_, _, _, rfl, o, _⟩ := ra
    cases t <;> cases h
    · exact IsiPair.tuple_int o rfl (q1 _ _)
    · exact IsiPair.tuple_bool o rfl (q1 _ _)
    · exact IsiPair.tuple_str o rfl (q1 _ _)
    · exact IsiPair.tuple_tuple o rfl (q0 _)
    · exact IsiPair.tuple_list o rfl (q1 _ _)
  case loc =>
    obtain ⟨c, o, rfl, e1⟩ := ra
    cases t
    case list =>
      obtain ⟨xs, hx, rfl⟩ := Option.map_eq_some_iff.mp h
      obtain ⟨ws, k, hl, _⟩ := S.isL (listAt_is hx) e1
      exact IsiPair.list_list hl rfl (q0 _)
    all_goals exact none_ne h
  all_goals exact none_ne h

theorem range_or {as : List AV} {r : AV} (h : rangeOf as = some r) : (∃ b, as = [.int b] ∧ r = .rng 0 b 1) ∨ ∃ a b, as = [.int a, .int b, .int (-1)] ∧ r = .rng a b (-1) := by
  unfold rangeOf at h
  split at h
  · split at h
    · split at h
      · cases h; exact .inl ⟨_, rfl, rfl⟩
      · cases h
    · cases h
  · split at h
    · split at h
      · rename_i hs; obtain ⟨rfl, _⟩ := hs; cases h; exact .inr ⟨_, _, rfl, rfl⟩
      · cases h
    · cases h
  · cases h
theorem range_prim (S : St P.w P.B σ hp s.heap) {n : Nat} (ok : P.Ok) (ar : Arnd n A) {as : List AV} {vs : List Value} {r : AV} (ra : RVs P.B s.heap σ as vs) (h : rangeOf as = some r) :
    wpAny (model P.prog P.w) A (call (.type "range") vs) (QV P σ s (.ok r hp)) E s := by
  have push : ∀ (o : Obj) (k : Nat), After P σ σ [] hp s { s with heap := s.heap.push o, toks := k } := fun o k => ⟨rfl, S.push o, .push o⟩
  obtain ⟨f, outer, hf1, hf2, hf3, hf4, hf5⟩ := ar.frame
  have hroom : PylongRoom (model P.prog P.w) A s := PylongRoom.of (ok.noLimit S) (by have := ar.depth; show A.depth + 100 < recursionLimit; omega) (SeerAt.of (ok.noSeer S) ok.tree hf1 hf2 hf3 hf4 hf5)
  rcases range_or h with ⟨b, rfl, rfl⟩ | ⟨a, b, rfl, rfl⟩
  · obtain ⟨v, rfl, t, rfl⟩ := ra.one
    exact call_range_1 ⟨_, _, _, rfl, push _ _, _, _, _, _, rfl, IsRange.new ..⟩
  · obtain ⟨_, _, rfl, ⟨t, rfl⟩, ra2⟩ := ra.cons
    obtain ⟨_, _, rfl, ⟨t', rfl⟩, ra3⟩ := ra2.cons
    obtain ⟨_, rfl, t'', rfl⟩ := ra3.one
    exact call_range_3 (by decide) ⟨_, _, _, rfl, push _ _, _, _, _, _, rfl, IsRange.new ..⟩ (.inr hroom)

theorem append_prim (S : St P.w P.B σ hp s.heap) {j : Nat} {xs : List AV} {a : Addr} {off : Nat} (hj : hp[j]? = some (.list xs)) (e1 : σ[j]? = some (a, off)) (hsz : xs.length < sizeLim) {x : AV} {v : Value} (rx : RV P.B s.heap σ x v) :
    ∃ ws n, ws.size ≤ sizeLine ∧ IsL s.heap a ws n ∧ After P σ σ [] (hp.set j (.list (xs ++ [x]))) s { s with heap := s.heap.update a (Obj.mapSeq fun xs => xs.push v) } := by
  obtain ⟨ws, n, hl, r⟩ := S.isL hj e1
  have hlen := r.size
  have hs' : Heap.SameBut a s.heap (s.heap.update a (Obj.mapSeq fun xs => xs.push v)) := .update ..
  obtain ⟨S', g⟩ := S.upd (X := []) e1 hs'.extBut (.list (xs ++ [x])) (IsL.update hl _) fun g =>
    ⟨ws.push v, _, IsL.update hl _, by rw [Array.toList_push]; exact (RVs.grows g _ _ r).append ⟨RV.grows g _ _ rx, trivial⟩, by rw [List.length_append]; exact sizeLim_le hsz⟩
  exact ⟨ws, n, by have := sizeLim_le (Nat.le_of_lt hsz); omega, hl, rfl, S', g⟩


theorem occ_idx {x : List Nat} {c i : Nat} (h : x.findIdx? (· == c) = some i) : ∃ rest, Builtin.Str.occurrences ⟨x.toArray⟩ ⟨#[c]⟩ 0 (⟨x.toArray⟩ : Str).length 1 = i :: rest := by
  obtain ⟨hi, he, hn⟩ := List.findIdx?_eq_some_iff_getElem.mp h
  have hat : ∀ j, StrLaws.At (⟨x.toArray⟩ : Str) ⟨#[c]⟩ (⟨x.toArray⟩ : Str).length j ↔ x[j]? = some c := fun j => by
    have := StrLaws.subAt_one (⟨x.toArray⟩ : Str) c j
    simpa [StrLaws.At] using this
  have hc : x[i]? = some c := by rw [List.getElem?_eq_getElem hi, eq_of_beq he]
  rcases StrLaws.occ_head (⟨x.toArray⟩ : Str) ⟨#[c]⟩ 1 (Nat.le_refl 1) with ⟨_, h0⟩ | ⟨k, r, e, ha, hb⟩
  · exact absurd ((hat i).mpr hc) (h0 i)
  · have hk : k = i := by
      rcases Nat.lt_trichotomy k i with hlt | heq | hgt
      · have h1 := (hat k).mp ha
        obtain ⟨hk, e'⟩ := List.getElem?_eq_some_iff.mp h1
        have := hn k hlt
        rw [e'] at this
        simp at this
      · exact heq
      · exact absurd ((hat i).mpr hc) (hb i hgt)
    subst hk
    exact ⟨r, e⟩
end
end Mine

namespace Mine
open PySem PySem.Spec PyProof.Rows PySem.W PySem.SeqAt

/-! the tree of questions that sorts: what it asks, and what it ends with -/
section
variable {α β : Type} {n : Nat}
noncomputable def KOk (n : Nat) (R : α → Prop) : KasT α → Prop
  | .ret a => R a
  | .ask i j k => i < n ∧ j < n ∧ ∀ b, KOk n R (k b)
theorem KOk.bind {R : α → Prop} {R' : β → Prop} {f : α → KasT β} (hf : ∀ a, R a → KOk n R' (f a)) : ∀ {t : KasT α}, KOk n R t → KOk n R' (t.bind f)
  | .ret a, h => hf a h
  | .ask i j k, h => ⟨h.1, h.2.1, fun b => KOk.bind hf (h.2.2 b)⟩
theorem KOk.run {R : α → Prop} {lt : Nat → Nat → Bool} : ∀ {t : KasT α}, KOk n R t → R (runT lt t)
  | .ret a, h => h
  | .ask i j k, h => show R (runT lt (k (lt i j))) from KOk.run (t := k (lt i j)) (h.2.2 (lt i j))
theorem KOk.wp {R : α → Prop} {lt : Nat → Nat → Bool} {cmp : Nat → Nat → (Bool → Shared → Prop) → Shared → Prop} {s : Shared} (hc : ∀ i j, i < n → j < n → ∀ C : Bool → Shared → Prop, C (lt i j) s → cmp i j C s) {Q : α → Shared → Prop} :
    ∀ {t : KasT α}, KOk n R t → Q (runT lt t) s → t.kasWp cmp Q s
  | .ret a, h, hq => hq
  | .ask i j k, h, hq => hc i j h.1 h.2.1 _ (KOk.wp hc (h.2.2 (lt i j)) hq)

/-- a rearranged row of the numbers below n -/
structure Bd (n : Nat) (p : Array Nat) : Prop where
  pos : 0 < n
  size : p.size = n
  lt : ∀ x ∈ p, x < n
theorem Bd.get {p : Array Nat} (h : Bd n p) (i : Nat) : p.getD i 0 < n := by
  unfold Array.getD
  split
  · exact h.lt _ (Array.getElem_mem _)
  · exact h.pos
theorem Bd.perm {p q : Array Nat} (h : Bd n p) (hp : q.Perm p) : Bd n q := ⟨h.pos, hp.size_eq.trans h.size, fun x hx => h.lt x (hp.mem_iff.mp hx)⟩
theorem Bd.rev {p : Array Nat} (h : Bd n p) (i j : Nat) : Bd n (kas_rev p i j) := h.perm (mirror_perm ..)

theorem asc_ok {p : Array Nat} (h : Bd n p) : ∀ f m, KOk n (fun _ => True) (kas_asc p f m)
  | 0, _ => trivial
  | f + 1, m => ⟨h.get _, h.get _, fun b => by
    cases b with
    | true => exact trivial
    | false => exact asc_ok h f (m + 1)⟩
theorem desc_ok : ∀ f (p : Array Nat) m q, Bd n p → KOk n (fun r => Bd n r.1) (kas_desc f p m q)
  | 0, _, _, _, h => h
  | f + 1, p, m, q, h => ⟨h.get _, h.get _, fun b => by
    cases b with
    | true =>
      show KOk n _ (if q > 0 then _ else _)
      split
      · exact desc_ok f _ _ _ (h.rev ..)
      · exact desc_ok f _ _ _ h
    | false => exact ⟨h.get _, h.get _, fun d => by
        cases d with
        | true => exact h
        | false => exact desc_ok f _ _ _ h⟩⟩
theorem tail_ok {p : Array Nat} (h : Bd n p) (m k : Nat) : KOk n (fun r => Bd n r.2) (kas_tail3 m k p) := by
  unfold kas_tail3
  refine KOk.bind (R := fun _ => True) (fun m _ => ?_) (asc_ok (h.rev ..) _ _)
  exact h.rev ..
theorem descPart_ok {p : Array Nat} (h : Bd n p) (m k : Nat) : KOk n (fun r => Bd n r.2) (kas_descPart m k p) := by
  unfold kas_descPart
  refine KOk.bind (R := fun r => Bd n r.1) (fun r hr => ?_) (desc_ok _ _ _ _ h)
  split
  · exact tail_ok (hr.rev ..) _ _
  · exact tail_ok hr _ _
theorem count_ok {p : Array Nat} (h : Bd n p) (k : Nat) : KOk n (fun r => Bd n r.2) (kas_count k p) := by
  unfold kas_count
  refine KOk.bind (R := fun _ => True) (fun m _ => ?_) (asc_ok h _ _)
  split
  · exact h
  · split
    · exact ⟨h.get _, h.get _, fun b => by
        cases b with
        | true => exact h
        | false => exact descPart_ok (h.rev ..) _ _⟩
    · exact descPart_ok h _ _
theorem place_ok {p : Array Nat} (h : Bd n p) (k : Nat) : ∀ f l r, KOk n (fun _ => True) (kas_place p k f l r)
  | 0, _, _ => trivial
  | f + 1, l, r => by
    unfold kas_place
    split
    · exact trivial
    · exact ⟨h.get _, h.get _, fun b => by
        cases b with
        | true => exact place_ok h k f _ _
        | false => exact place_ok h k f _ _⟩
theorem bin_ok : ∀ f (p : Array Nat) k, Bd n p → KOk n (Bd n) (kas_bin f p k)
  | 0, _, _, h => h
  | f + 1, p, k, h => KOk.bind (fun l _ => bin_ok f _ _ (h.perm (bubble_perm ..))) (place_ok h _ _ _ _)
theorem sort_ok (h : 0 < n) : KOk n (Bd n) (kas_sort n) := by
  unfold kas_sort
  refine KOk.bind (R := fun r => Bd n r.2) (fun r hr => ?_) (count_ok ⟨h, (List.size_toArray ..).trans List.length_range, fun x hx => List.mem_range.mp (List.mem_toArray.mp hx)⟩ _)
  split
  · exact bin_ok _ _ _ hr
  · exact hr
end

/-- the order has one number for each, all of them in it -/
theorem order_len {ps : List (Int × Int)} (h : 0 < ps.length) : (orderOf ps).length = ps.length := (Array.length_toList ..).trans (sort_ok h).run.size
theorem order_lt {ps : List (Int × Int)} (h : 0 < ps.length) {i : Nat} (hi : i ∈ orderOf ps) : i < ps.length := (sort_ok h).run.lt i (Array.mem_toList_iff.mp hi)

section
variable {prog : Program} {w : World} {A : Around} {E : Value → Shared → Prop} {s : Shared}
/-- a pair of whole numbers -/
noncomputable def PairAt (h : Heap) (p : Int × Int) (v : Value) : Prop := ∃ a n t u, v = .ref a ∧ h.get? a = some { cls := .type "tuple", data := .seq #[.int p.1 t, .int p.2 u] n }
structure PairsAt (h : Heap) (ps : List (Int × Int)) (vs : List Value) : Prop where
  len : ps.length = vs.length
  at_ : ∀ i v, vs[i]? = some v → PairAt h (atP ps i) v
theorem PairsAt.get {h : Heap} {ps : List (Int × Int)} {vs : List Value} (x : PairsAt h ps vs) {i : Nat} (hi : i < ps.length) : PairAt h (atP ps i) (vs.getD i Value.none) := by
  refine x.at_ i _ ?_
  rw [x.len] at hi
  rw [List.getD_eq_getElem?_getD, List.getElem?_eq_getElem hi]; rfl

theorem lt_pair {p q : Int × Int} {v u : Value} (hv : PairAt s.heap p v) (hu : PairAt s.heap q u) {Q : Bool → Shared → Prop} (h : Q (lexLt p q) s) : wpAny (model prog w) A (keyLt' (tuples' true) v u) Q E s := by
  obtain ⟨a, n, t1, t2, rfl, ha⟩ := hv
  obtain ⟨b, m, u1, u2, rfl, hb⟩ := hu
  refine kat_lt ha rfl hb rfl ?_
  refine kat_cons (EqAt.int_int _ _ _ _ _ _ _ _ ?_)
  by_cases e1 : p.1 = q.1
  · rw [show (p.1 == q.1) = true from beq_iff_eq.mpr e1]
    refine kat_yes (kat_cons (EqAt.int_int _ _ _ _ _ _ _ _ ?_))
    by_cases e2 : p.2 = q.2
    · rw [show (p.2 == q.2) = true from beq_iff_eq.mpr e2]
      refine kat_yes (kat_nil ?_)
      have : lexLt p q = false := by
        unfold lexLt
        rw [decide_eq_false (by omega), decide_eq_true e1, decide_eq_false (by omega)]; rfl
      rw [this] at h
      exact h
    · rw [show (p.2 == q.2) = false from beq_eq_false_iff_ne.mpr e2]
      refine kat_no (kat_one _ _ (PySem.P.lt_int ?_))
      have : lexLt p q = decide (p.2 < q.2) := by
        unfold lexLt
        rw [decide_eq_false (by omega), decide_eq_true e1]; rfl
      rw [this] at h
      exact h
  · rw [show (p.1 == q.1) = false from beq_eq_false_iff_ne.mpr e1]
    refine kat_no (oneLt_int ?_)
    have : lexLt p q = decide (p.1 < q.1) := by
      unfold lexLt
      rw [decide_eq_false e1]; exact Bool.or_false _
    rw [this] at h
    exact h

theorem tups_of {h : Heap} : ∀ {vs : List Value}, (∀ v ∈ vs, ∃ p, PairAt h p v) → ∃ fs : List Value, KatTups h vs fs ∧ fs.length = vs.length ∧ ∀ f ∈ fs, ∃ i t, f = .int i t
  | [], _ => ⟨[], trivial, rfl, fun f hf => nomatch hf⟩
  | v :: vs, H => by
    obtain ⟨fs, h1, h2, h3⟩ := tups_of fun x hx => H x (List.mem_cons_of_mem _ hx)
    obtain ⟨p, a, n, t, u, rfl, ha⟩ := H v List.mem_cons_self
    refine ⟨.int p.1 t :: fs, .cons ha rfl rfl rfl h1, by rw [List.length_cons, h2]; rfl, fun f hf => ?_⟩
    rcases List.mem_cons.mp hf with rfl | hf
    · exact ⟨_, _, rfl⟩
    · exact h3 f hf

theorem list_sort_pairs {a : Addr} {vs : List Value} {ps : List (Int × Int)} {n : Nat} {P : PySem.Fin → Shared → Prop} (ho : s.heap.get? a = some (seqObj "list" vs.toArray n)) (hp : PairsAt s.heap ps vs) (h2 : 2 ≤ vs.length) (h64 : vs.length < 64)
    (h : P (.done (.ret .none)) { s with heap := sortedHeap s.heap a vs (List.toArray ((orderOf ps).map fun i => vs.getD i Value.none)) }) :
    wpAny (model prog w) A (Builtin.«list.sort» ⟨[.ref a], []⟩) P E s := by
  have ha : a < s.heap.objs.size := Heap.lt_size ho
  have hlen := hp.len
  obtain ⟨e1, ho1⟩ : ∃ e1, (s.heap.update a (Obj.mapSeq fun _ => (#[] : Array Value))).get? a = some (seqObj "list" #[] e1) := ⟨_, get?_update_seq ho fun _ => #[]⟩
  rw [list_sort_plain]
  refine wpAny_bind (listItems_at ho rfl ?_)
  refine wpAny_bind (listUpdate_at ho rfl ?_ (by rw [List.size_toArray, sizeLine_eq]; omega) (Nat.zero_le _))
  refine wpAny_bind (seqEpoch_at ho1 rfl ?_)
  refine wpAny_bind (wpAny_newTuple ?_ (by show vs.length ≤ _; rw [sizeLine_eq]; omega))
  refine wpAny_bind (wpAny_newList ?_ (Nat.zero_le _))
  refine wpAny_holding ?_
  have ho6 : (((s.heap.update a (Obj.mapSeq fun _ => #[])).push (seqObj "tuple" vs.toArray 0)).push (seqObj "list" #[] 0)).get? a = some (seqObj "list" #[] e1) := by
    rw [Heap.get?_push_ne _ _ _ (by rw [size_push', Heap.size_update]; exact Nat.ne_of_lt (Nat.lt_succ_of_lt ha)), Heap.get?_push_ne _ _ _ (by rw [Heap.size_update]; exact Nat.ne_of_lt ha)]
    exact ho1
  show wpAny (model prog w) A _ P E { s with heap := ((s.heap.update a (Obj.mapSeq fun _ => #[])).push (seqObj "tuple" vs.toArray 0)).push (seqObj "list" #[] 0) }
  have hold : ∀ p v, PairAt s.heap p v → PairAt (((s.heap.update a (Obj.mapSeq fun _ => #[])).push (seqObj "tuple" vs.toArray 0)).push (seqObj "list" #[] 0)) p v := by
    rintro p v ⟨b, m, t, u, rfl, hb⟩
    have hne : b ≠ a := fun q => by subst q; rw [ho] at hb; exact absurd (congrArg Obj.cls (Option.some.inj hb)) (fun e => absurd (Value.type.inj e) (by decide))
    exact ⟨b, m, t, u, rfl, Heap.get?_push_of_some _ (Heap.get?_push_of_some _ ((Heap.get?_update_ne _ _ _ _ hne).trans hb))⟩
  have hp6 : PairsAt (((s.heap.update a (Obj.mapSeq fun _ => #[])).push (seqObj "tuple" vs.toArray 0)).push (seqObj "list" #[] 0)) ps vs := ⟨hp.len, fun i v hv => hold _ _ (hp.at_ i v hv)⟩
  obtain ⟨fs, t1, t2, t3⟩ := tups_of (vs := vs) fun v hv => by
    obtain ⟨i, hi, e⟩ := List.mem_iff_getElem.mp hv
    exact ⟨_, hp6.at_ i v (by rw [List.getElem?_eq_getElem hi, e])⟩
  have hn2 : ¬ vs.toArray.size < 2 := by rw [List.size_toArray]; omega
  dsimp only
  rw [if_neg hn2, if_neg hn2]
  refine wpAny_bind (kat_kind (T := .type "int") (s := { s with heap := ((s.heap.update a (Obj.mapSeq fun _ => #[])).push (seqObj "tuple" vs.toArray 0)).push (seqObj "list" #[] 0) }) t1 (by omega) (fun f hf => by obtain ⟨i, t, rfl⟩ := t3 f hf; exact Looks.of_pure rfl) rfl ?_)
  have hord := (sort_ok (n := ps.length) (by omega)).run (lt := fun i j => lexLt (atP ps i) (atP ps j))
  refine wpAny_bind (wpAny_mono (kat_run (κ := tuples' true) (G := fun p s' => p = runT (fun i j => lexLt (atP ps i) (atP ps j)) (kas_sort ps.length) ∧ s' = { s with heap := ((s.heap.update a (Obj.mapSeq fun _ => #[])).push (seqObj "tuple" vs.toArray 0)).push (seqObj "list" #[] 0) })
    (Q := fun st' s' => ∃ p : Array Nat, arrOf st' = p.map (kas_item (vs.toArray.zip vs.toArray)) ∧ failedOf st' = none ∧ p = runT (fun i j => lexLt (atP ps i) (atP ps j)) (kas_sort ps.length) ∧ s' = { s with heap := ((s.heap.update a (Obj.mapSeq fun _ => #[])).push (seqObj "tuple" vs.toArray 0)).push (seqObj "list" #[] 0) })
    rfl h2 h64 (fun p' st' s' _ a2 a3 a4 => ⟨p', a2, a3, a4⟩) (hlen ▸ KOk.wp (n := ps.length) (fun i j hi hj C hC => lt_pair (hp6.get hi) (hp6.get hj) hC) (sort_ok (by omega)) ⟨rfl, rfl⟩)) ?_ fun _ _ e => e)
  rintro ⟨⟨⟩, st'⟩ s' ⟨p, har, hf, rfl, rfl⟩
  dsimp only
  have hout := kat_snds (vs := vs) rfl har
  rw [hout]
  refine wpAny_bind (seqEpoch_at ho6 rfl ?_)
  refine wpAny_bind (listUpdate_at ho6 rfl ?_ (Nat.zero_le _) (by rw [List.size_toArray, List.length_map, Array.length_toList, hord.size, sizeLine_eq]; omega))
  rw [hf, bne_self_eq_false]
  exact wpAny_pure h
theorem list_sort_few {a : Addr} {vs : List Value} {n : Nat} {P : PySem.Fin → Shared → Prop} (ho : s.heap.get? a = some (seqObj "list" vs.toArray n)) (h2 : vs.length < 2) (h : P (.done (.ret .none)) { s with heap := sortedHeap s.heap a vs vs.toArray }) :
    wpAny (model prog w) A (Builtin.«list.sort» ⟨[.ref a], []⟩) P E s := by
  have ha : a < s.heap.objs.size := Heap.lt_size ho
  obtain ⟨e1, ho1⟩ : ∃ e1, (s.heap.update a (Obj.mapSeq fun _ => (#[] : Array Value))).get? a = some (seqObj "list" #[] e1) := ⟨_, get?_update_seq ho fun _ => #[]⟩
  have ho6 : (((s.heap.update a (Obj.mapSeq fun _ => #[])).push (seqObj "tuple" vs.toArray 0)).push (seqObj "list" #[] 0)).get? a = some (seqObj "list" #[] e1) := by
    rw [Heap.get?_push_ne _ _ _ (by rw [size_push', Heap.size_update]; exact Nat.ne_of_lt (Nat.lt_succ_of_lt ha)), Heap.get?_push_ne _ _ _ (by rw [Heap.size_update]; exact Nat.ne_of_lt ha)]
    exact ho1
  have hn2 : vs.toArray.size < 2 := by rw [List.size_toArray]; omega
  have hzip : (vs.toArray.zip vs.toArray).map (·.2) = vs.toArray := by
    apply Array.toList_inj.mp
    rw [Array.toList_map, Array.toList_zip, List.map_snd_zip (Nat.le_refl _)]
  rw [list_sort_plain]
  refine wpAny_bind (listItems_at ho rfl ?_)
  refine wpAny_bind (listUpdate_at ho rfl ?_ (by rw [List.size_toArray, sizeLine_eq]; omega) (Nat.zero_le _))
  refine wpAny_bind (seqEpoch_at ho1 rfl ?_)
  refine wpAny_bind (wpAny_newTuple ?_ (by show vs.length ≤ _; rw [sizeLine_eq]; omega))
  refine wpAny_bind (wpAny_newList ?_ (Nat.zero_le _))
  refine wpAny_holding ?_
  show wpAny (model prog w) A _ P E { s with heap := ((s.heap.update a (Obj.mapSeq fun _ => #[])).push (seqObj "tuple" vs.toArray 0)).push (seqObj "list" #[] 0) }
  dsimp only
  rw [if_pos hn2, if_pos hn2]
  refine wpAny_bind (wpAny_pure ?_)
  rw [StateT.run_pure]
  refine wpAny_bind (wpAny_pure ?_)
  dsimp only
  refine wpAny_bind (seqEpoch_at ho6 rfl ?_)
  have e2 : (arrOf (SortSt.mk' general' (vs.toArray.zip vs.toArray) #[] 7 none)).map (·.2) = vs.toArray := hzip
  rw [e2]
  refine wpAny_bind (listUpdate_at ho6 rfl ?_ (Nat.zero_le _) (by rw [List.size_toArray, sizeLine_eq]; omega))
  rw [bne_self_eq_false]
  exact wpAny_pure h
end
end Mine

namespace Mine
open PySem PySem.Spec PyProof.Rows PySem.SeqAt

/-- a walk of a dict's keys -/
abbrev KeyIter (h : Heap) (it d : Addr) (i n ep : Nat) : Prop := h.IsKeyIter it d i n ep
section
variable {P : Par} {A : Around} {σ : Sg} {hp : AHeap} {s : Shared} {E : Value → Shared → Prop}

/-- a list that was made at a free place -/
theorem After.made (S : St P.w P.B σ hp s.heap) {h' : Heap} {t : Nat} {a : Addr} (hk : ∀ b o, s.heap.get? b = some o → h'.get? b = some o) (ha : s.heap.get? a = none) {ws : Array Value} {n : Nat} (ho : ObjAt h' a (.type "list") (.seq ws n))
    {vs : List AV} (hr : RVs P.B h' σ vs ws.toList) (hb : newList vs hp ≠ .bad) : QV P σ s (newList vs hp) (.ref a) { s with heap := h', toks := t } := by
  unfold newList at hb ⊢
  split at hb
  · rename_i hsz
    rw [if_pos hsz]
    have hn : a ∉ σ.map (·.1) := fun hm => by
      obtain ⟨p, hp, rfl⟩ := List.mem_map.mp hm
      obtain ⟨ob, e, _⟩ := S.there hp
      rw [ha] at e; cases e
    have hb0 : P.B.h₀.get? a = none := by
      cases e : P.B.h₀.get? a with
      | none => rfl
      | some o => rw [S.base a o e] at ha; cases ha
    have S' := (S.keep hk).adopt (off := 0) (ao := .list vs) hn hb0 fun k => ⟨ws, n, ho, RVs.mono (fun _ _ x _ => x) k _ _ hr, sizeLim_le hsz⟩
    refine ⟨_, _, _, rfl, ⟨rfl, S', (grows_keep hk).adopt ha⟩, a, 0, rfl, ?_⟩
    rw [← S.len]; exact List.getElem?_concat_length
  · exact absurd rfl hb

theorem list_prim (S : St P.w P.B σ hp s.heap) {j : Nat} {xs : List AV} {a : Addr} {off : Nat} (hj : hp[j]? = some (.list xs)) (e1 : σ[j]? = some (a, off)) (hb : newList xs hp ≠ .bad) :
    wpAny (model P.prog P.w) A (call (.type "list") [.ref a]) (QV P σ s (newList xs hp)) E s := by
  obtain ⟨ws, n, hl, r⟩ := S.isL hj e1
  have hlen := r.size
  have hle := S.isLen hj e1
  exact call_list_seq a (.inl rfl) hl rfl rfl (fun h' c' hk ho => After.made (t := s.toks) S hk (free_size _) ho (RVs.fixes (fun b o e _ => hk b o e) _ _ r) hb) (by omega)

theorem ris_of : ∀ {vs : List Value} {xs : List Int}, IntsAre vs xs → RIs xs vs
  | _, _, .nil => trivial
  | _, _, .cons n t r => ⟨⟨t, rfl⟩, ris_of r⟩

theorem iterD {d : Addr} {es : Array DictEntry} {ep : Nat} (hm : (d == sysModules) = false) (ho : ObjAt s.heap d (.type "dict") (.dict es ep)) {Q : Value → Shared → Prop}
    (hQ : Q (.ref s.heap.objs.size) { s with heap := s.heap.push { cls := .type "dict_keyiterator", data := .fields #[.ref d, .int 0 0, .int es.size 0, .int ep 0] } }) : wpAny (model P.prog P.w) A (pyIter (.ref d)) Q E s := by
  have hT : s.TypeIs (.ref d) "dict" := ⟨_, ho, rfl⟩
  refine wpAny_pyIter_slot hT F.slot_dict_iter (wpAny_call_entry F.slot_dict_iter hT F.entry_dict_iter ?_ (F.args_dict_iter_1 _))
  unfold Builtin.«dict.__iter__» Builtin.Dict.dictSlotNone
  refine wpAny_bind (wpAny_bind (wpAny_notOrdered_dict hT (wpAny_pure ?_)))
  show wpAny _ _ (Builtin.Dict.showsAll d >>= _) _ _ s
  unfold Builtin.Dict.showsAll
  rw [if_neg (by rw [hm]; exact Bool.false_ne_true)]
  refine wpAny_bind (wpAny_pure (wpAny_bind (wpAny_dictEntries ho rfl (wpAny_bind (wpAny_dictEpoch ho rfl ?_)))))
  exact wpAny_bind (wpAny_newObj_type (wpAny_pure ⟨_, rfl, "dict_keyiterator", _, ⟨_, Heap.get?_push_size _ rfl, rfl⟩, F.slot_dict_keyiterator_next.lookup, hQ⟩))

/-- up to the look at the entry -/
theorem nextD {it d : Addr} {i ep : Nat} {es : Array DictEntry} (hit : KeyIter s.heap it d i es.size ep) (ho : ObjAt s.heap d (.type "dict") (.dict es ep)) (hh : A.handled = none) {Q : Option Value → Shared → Prop}
    (hitem : ∀ e h', es[i]? = some e → KeyIter h' it d (i + 1) es.size ep → Heap.SameBut it s.heap h' → Q (some e.key) { s with heap := h' }) (hend : es[i]? = none → ∀ h', Heap.ExtBut it s.heap h' → Q none { s with heap := h' }) :
    wpAny (model P.prog P.w) A (pyNext (.ref it)) Q E s := by
  obtain ⟨oi, hoi, hci, hdi⟩ := id hit
  have hown : Builtin.Dict_items.ownsTuple "dict_keyiterator" = false := by decide
  unfold pyNext
  refine wpAny_bind (wpAny_attempt (wpAny_callSpecial?_slot (name := Str.ofString "__next__") hit.typeIs F.slot_dict_keyiterator_next
    (wpAny_call_entry F.slot_dict_keyiterator_next hit.typeIs F.entry_dict_keyiterator_next ?_ (F.args_dict_keyiterator_next_1 _))))
  refine wpAny_bind (wpAny_pure ?_)
  refine wpAny_bind (wpAny_bind (wpAny_bind (wpAny_typeNameOfWhole_keyiter hit.typeIs (wpAny_pure ?_))))
  refine wpAny_bind (wpAny_fieldsOf hoi hdi ?_)
  rw [hown]
  show wpAny _ _ (if (Value.ref d == Value.none) = true then _ else _) _ _ s
  rw [if_neg (show ¬ ((Value.ref d == Value.none) = true) from Bool.false_ne_true)]
  refine wpAny_bind (wpAny_pure (wpAny_bind (wpAny_dictEntries ho rfl ?_)))
  rw [if_neg (by simp)]
  refine wpAny_bind (wpAny_pure (wpAny_bind (wpAny_dictEpoch ho rfl ?_)))
  rw [if_neg (by simp)]
  refine wpAny_pure ?_
  dsimp only
  rw [if_neg (Int.not_lt.mpr (Int.natCast_nonneg i)), Int.toNat_natCast]
  cases he : es[i]? with
  | some e =>
    refine wpAny_bind (wpAny_bind (wpAny_typeNameOfWhole_keyiter hit.typeIs (wpAny_pure ?_)))
    refine wpAny_bind (wpAny_isOneOf_keyiter hit.typeIs ?_)
    show wpAny _ _ (setField (.ref it) 1 (rawInt ((i : Int) + 1)) >>= _) _ _ s
    refine wpAny_bind (wpAny_setField hoi hdi (by simp) ?_)
    have hit' : KeyIter (s.heap.update it (Obj.mapFields (·.setIfInBounds 1 (rawInt ((i : Int) + 1))))) it d (i + 1) es.size ep :=
      ⟨_, Heap.get?_update_self _ hoi (Obj.isFreed_of_fields (Obj.data_mapFields hdi _)), (Obj.cls_mapFields ..).trans hci, by rw [Obj.data_mapFields hdi]; simp [rawInt]⟩
    refine wpAny_bind (wpAny_holding ?_)
    refine wpAny_bind (wpAny_isOneOf_keyiter (s := { s with heap := s.heap.update it (Obj.mapFields (·.setIfInBounds 1 (rawInt ((i : Int) + 1)))) }) hit'.typeIs ?_)
    show wpAny _ _ (pure e.key) _ _ _
    exact wpAny_pure (wpAny_pure ⟨_, rfl, wpAny_pure (hitem e _ he hit' (Heap.SameBut.update ..))⟩)
  | none =>
    refine wpAny_bind (wpAny_bind (wpAny_typeNameOfWhole_keyiter hit.typeIs (wpAny_pure ?_)))
    show wpAny _ _ (setField (.ref it) 0 .none >>= _) _ _ s
    refine wpAny_bind (wpAny_setField hoi hdi (by simp) ?_)
    show wpAny _ _ (newExc (.type "StopIteration") [] >>= _) _ _ _
    refine wpAny_bind ?_
    delta newExc newTuple
    refine wpAny_bind (wpAny_newObj_type ?_ (by size_fits))
    refine wpAny_bind (m := firstArgMember _ _) (wpAny_of_eq (a := Value.none) (by first | rfl | (simp only [firstArgMember]; rfl)) ?_)
    refine wpAny_newObj_type ?_ (by size_fits)
    show wpAny _ _ (handled >>= _) _ _ _
    refine wpAny_bind (wpAny_handled ?_)
    rw [show A.in1.handled = none from hh]
    refine wpAny_bind (wpAny_pure (wpAny_throw ?_))
    refine wpAny_bind (wpAny_isInstance (T := "StopIteration") (b := true) ⟨_, Heap.get?_push_size _ rfl, rfl⟩ isSubtype_stop ?_)
    exact wpAny_pure (hend he _ (((Heap.SameBut.update ..).extBut.push _).push _))


/-- the keys of a dict, whatever they are -/
theorem walks_raw (hh : A.handled = none) (I d : Addr) (hne : d ≠ I) (es : Array DictEntry) (ep : Nat) :
    Walks P.prog P.w A I [I, d] [I] es.size (fun i v => ∃ e, es[i]? = some e ∧ e.key = v) (fun i h => KeyIter h I d i es.size ep ∧ ObjAt h d (.type "dict") (.dict es ep)) where
  sub := fun b hb => by rw [List.mem_singleton.mp hb]; exact List.mem_cons_self
  frame := fun _ _ _ st hk => ⟨st.1.at fun o e => hk I List.mem_cons_self o e, hk d (List.mem_cons_of_mem _ List.mem_cons_self) _ st.2⟩
  item := fun i s Q E hi st hQ => nextD (P := P) st.1 st.2 hh (fun e h' he hit' hs' => hQ e.key h' s.toks ⟨e, he, rfl⟩ ⟨hit', (hs'.2 d hne).trans st.2⟩ fun b o hb e => (hs'.2 b fun h => hb (List.mem_singleton.mpr h)).trans e)
    (fun he => absurd he (by rw [Array.getElem?_eq_getElem hi]; exact fun e => nomatch e))
  done := fun s Q E st hQ => nextD (P := P) st.1 st.2 hh (fun e h' he => absurd he (by rw [Array.getElem?_eq_none (Nat.le_refl _)]; exact fun e => nomatch e)) (fun _ h' he' => hQ h' s.toks fun b o hb e => he' b o (fun h => hb (List.mem_singleton.mpr h)) e)
  self := fun _ _ _ _ st hQ => wpAny_pyIter_keyiter st.1 hQ
theorem src_raw {d : Addr} (lo : (d == sysModules) = false) (es : Array DictEntry) (ep : Nat) : W.KdlSrc P.prog P.w "dict" d d es.size (fun i v => ∃ e, es[i]? = some e ∧ e.key = v) (fun h => ObjAt h d (.type "dict") (.dict es ep)) where
  type := fun _ hm => ⟨_, hm, rfl⟩
  there := fun _ hm => ⟨Heap.lt_size hm, Heap.lt_size hm⟩
  keep := fun _ _ hm hk => hk d (.inl rfl) _ hm
  notList := by decide
  notTuple := by decide
  hint := fun _ _ _ _ hm hq => W.kdl_hint_dict ⟨_, hm, rfl⟩ hq
  iter := fun _ _ hh hm => ⟨_, _, (fun _ _ hq => iterD (P := P) lo hm hq), walks_raw hh _ d (Nat.ne_of_lt (Heap.lt_size hm)) es ep, ⟨⟨_, Heap.get?_push_size _ rfl, rfl, rfl⟩, Heap.get?_push_of_some _ hm⟩⟩

theorem REs.keys {w : World} {B : Bs} {h : Heap} : ∀ {ps : List (Key × AV)} {es : List DictEntry}, REs w B h σ ps es → RVs B h σ (ps.map fun p => p.1.av) (es.map fun e => e.key)
  | [], [], _ => trivial
  | _ :: _, _ :: _, r => ⟨r.1.2.1, REs.keys r.2⟩
  | [], _ :: _, r => r.elim
  | _ :: _, [], r => r.elim
theorem items_keys {es acc : Array Value} {n : Nat} {ds : Array DictEntry} (h : ItemsOf (fun i v => ∃ e, ds[i]? = some e ∧ e.key = v) acc ds.size) : acc.toList = ds.toList.map fun e => e.key := by
  refine List.ext_getElem? fun i => ?_
  rw [List.getElem?_map, Array.getElem?_toList, Array.getElem?_toList]
  cases hi : acc[i]? with
  | none =>
    have : ds[i]? = none := by rw [Array.getElem?_eq_none_iff] at hi ⊢; rw [h.1] at hi; exact hi
    rw [this]; rfl
  | some v =>
    obtain ⟨e, h1, h2⟩ := h.2 i v hi
    rw [h1, ← h2]; rfl

/-- what list() and sorted() walk -/
inductive WalkK (hp : AHeap) (j : Nat) : List AV → Prop
  | lst (xs : List AV) (hj : hp[j]? = some (.list xs)) : WalkK hp j xs
  | dct (kvs : List (Key × AV)) (ep : Nat) (hj : hp[j]? = some (.dict kvs ep)) : WalkK hp j (kvs.map fun p => p.1.av)
theorem walkOf_is {j : Nat} {xs : List AV} (h : walkOf hp j = some xs) : WalkK hp j xs := by
  delta walkOf at h
  cases hj : hp[j]? with
  | none => rw [hj] at h; exact none_ne h
  | some o =>
    rw [hj] at h
    cases o
    case list ys => cases (show some ys = some xs from h); exact .lst _ hj
    case dict kvs ep => cases (show some (kvs.map fun p => p.1.av) = some xs from h); exact .dct _ _ hj
    all_goals exact none_ne h

theorem list_call (ok : P.Ok) (S : St P.w P.B σ hp s.heap) (hh : A.handled = none) {j : Nat} {xs : List AV} {v : Value} (rv : RV P.B s.heap σ (.loc j) v) (hx : walkOf hp j = some xs) (hb : newList xs hp ≠ .bad) :
    wpAny (model P.prog P.w) A (call (.type "list") [v]) (QV P σ s (newList xs hp)) E s := by
  obtain ⟨a, off, rfl, e1⟩ := rv
  cases walkOf_is hx with
  | lst xs hj => exact list_prim S hj e1 hb
  | dct kvs ep hj =>
    obtain ⟨es, ho, re, hnd, hone, hle⟩ := S.isDict hj e1
    have hlen := re.length.trans Array.length_toList
    refine W.kdl_call (src_raw (P := P) (S.notMods ok e1) es (off + ep)) hh ho (by omega) fun h' tk acc' c' hk hS' hacc => After.made (t := tk) S hk (free_size _) hS' ?_ hb
    rw [items_keys (es := acc') (n := 0) hacc]
    exact RVs.fixes (fun b o e _ => hk b o e) _ _ re.keys

theorem collect_call (ok : P.Ok) (S : St P.w P.B σ hp s.heap) (hh : A.handled = none) {j : Nat} {xs : List AV} {a : Addr} {off : Nat} (e1 : σ[j]? = some (a, off)) (hx : walkOf hp j = some xs) (hsz : xs.length < 64) {R : List Value → Shared → Prop}
    (h : ∀ (h' : Heap) (tk : Nat) (vs : List Value), (∀ b o, s.heap.get? b = some o → h'.get? b = some o) → RVs P.B h' σ xs vs → R vs { s with heap := h', toks := tk }) : wpAny (model P.prog P.w) A (collect (.ref a)) R E s := by
  cases walkOf_is hx with
  | lst xs hj =>
    obtain ⟨ws, hl, rx⟩ := S.isList hj e1
    have hlen := rx.size
    have hk : ∀ b o, s.heap.get? b = some o → ((s.heap.push (seqObj "list" #[] 0)).update s.heap.objs.size (Obj.mapSeq (· ++ ws.toList.toArray))).get? b = some o := fun b o q => by
      have hlt : b < s.heap.objs.size := Heap.lt_size q
      rw [Heap.get?_update_ne _ _ _ _ (Nat.ne_of_lt hlt), Heap.get?_push_ne _ _ _ (Nat.ne_of_lt hlt)]
      exact q
    exact collect_list (vs := ws.toList) (by rw [Array.toArray_toList]; exact hl) (h _ _ _ hk (RVs.fixes (fun b o e _ => hk b o e) _ _ rx)) (by rw [Array.length_toList, sizeLine_eq]; omega)
  | dct kvs ep hj =>
    obtain ⟨es, ho, re, hnd, hone, hle⟩ := S.isDict hj e1
    have hlen := re.length.trans Array.length_toList
    refine W.kdu_collect (src_raw (P := P) (S.notMods ok e1) es (off + ep)) hh ho (by omega) fun h' tk acc hk hacc => h h' tk _ hk ?_
    rw [items_keys (es := acc) (n := 0) hacc]
    exact RVs.fixes (fun b o e _ => hk b o e) _ _ re.keys

theorem pairOf_is {v : AV} {p : Int × Int} (h : pairOf v = some p) : v = pairAV p := by
  unfold pairOf at h
  split at h
  · rename_i k hk
    split at h
    · cases h; exact key_av hk
    · cases h
  · cases h
theorem pairsOf_is : ∀ {xs : List AV} {ps : List (Int × Int)}, pairsOf xs = some ps → xs = ps.map pairAV
  | [], ps, h => by cases h; rfl
  | x :: xs, ps, h => by
    unfold pairsOf at h
    split at h
    · rename_i p qs h1 h2
      cases h
      rw [pairOf_is h1, pairsOf_is h2]; rfl
    · cases h
theorem pairAt_of {B : Bs} {h : Heap} {p : Int × Int} {v : Value} (r : RV B h σ (pairAV p) v) : PairAt h p v := by
  obtain ⟨c, ⟨ws⟩, n, rfl, o, rs⟩ := r
  replace rs : RVs B h σ [.int p.1, .int p.2] ws := rs
  obtain ⟨x, r1, rfl, ⟨t, rfl⟩, rs2⟩ := rs.cons
  obtain ⟨y, rfl, u, rfl⟩ := rs2.one
  exact ⟨c, n, t, u, rfl, o⟩
theorem atP_map {ps : List (Int × Int)} {i : Nat} (hi : i < ps.length) : (ps.map pairAV)[i]? = some (pairAV (atP ps i)) := by
  rw [List.getElem?_map, List.getElem?_eq_getElem hi]
  unfold atP
  rw [List.getD_eq_getElem?_getD, List.getElem?_eq_getElem hi]; rfl
theorem pairsAt_of {B : Bs} {h : Heap} {ps : List (Int × Int)} {vs : List Value} (r : RVs B h σ (ps.map pairAV) vs) : PairsAt h ps vs := by
  have hl := r.length
  rw [List.length_map] at hl
  refine ⟨hl, fun i v hv => ?_⟩
  have hi : i < ps.length := by rw [hl]; exact (List.getElem?_eq_some_iff.mp hv).1
  obtain ⟨u, h1, h2⟩ := r.get (atP_map hi)
  rw [hv] at h1; cases h1
  exact pairAt_of h2
theorem rvs_order {B : Bs} {h : Heap} {ps : List (Int × Int)} {vs : List Value} (r : RVs B h σ (ps.map pairAV) vs) : ∀ (is : List Nat), (∀ i ∈ is, i < ps.length) → RVs B h σ (is.map fun i => pairAV (atP ps i)) (is.map fun i => vs.getD i Value.none)
  | [], _ => trivial
  | i :: is, H => by
    obtain ⟨u, h1, h2⟩ := r.get (atP_map (H i List.mem_cons_self))
    refine ⟨?_, rvs_order r is fun k hk => H k (List.mem_cons_of_mem _ hk)⟩
    show RV B h σ (pairAV (atP ps i)) (vs.getD i Value.none)
    rw [List.getD_eq_getElem?_getD, h1]
    exact h2

theorem sorted_tail (S : St P.w P.B σ hp s.heap) {h' : Heap} {tk : Nat} {vs : List Value} {ys : List AV} {out : Array Value} (hk : ∀ b o, s.heap.get? b = some o → h'.get? b = some o) (hb : newList ys hp ≠ .bad)
    (hr : RVs P.B h' σ ys out.toList) : QV P σ s (newList ys hp) (.ref h'.objs.size) { s with heap := sortedHeap (h'.push (seqObj "list" vs.toArray 0)) h'.objs.size vs out, toks := tk } := by
  have hoL : (h'.push (seqObj "list" vs.toArray 0)).get? h'.objs.size = some (seqObj "list" vs.toArray 0) := Heap.get?_push_size _ rfl
  have hnew : s.heap.get? h'.objs.size = none := by
    cases e : s.heap.get? h'.objs.size with
    | none => rfl
    | some o => have := hk _ o e; rw [free_size] at this; cases this
  have hk2 : ∀ b o, h'.get? b = some o → (sortedHeap (h'.push (seqObj "list" vs.toArray 0)) h'.objs.size vs out).get? b = some o := fun b o e => by
    have hlt := Heap.lt_size e
    rw [sortedHeap_old (Nat.ne_of_lt hlt) (by rw [push_size]; exact Nat.lt_succ_of_lt hlt)]
    exact Heap.get?_push_of_some _ e
  obtain ⟨e, he⟩ := sortedHeap_at (out := out) hoL
  exact After.made (t := tk) S (fun b o e => hk2 b o (hk b o e)) hnew he (RVs.fixes (fun b o e _ => hk2 b o e) _ _ hr) hb
theorem sorted_call (ok : P.Ok) (S : St P.w P.B σ hp s.heap) (hh : A.handled = none) {j : Nat} {ps : List (Int × Int)} {ys : List AV} {v : Value} (rv : RV P.B s.heap σ (.loc j) v) (hx : (walkOf hp j).bind pairsOf = some ps) (hy : sortP ps = some ys) (hb : newList ys hp ≠ .bad) :
    wpAny (model P.prog P.w) A (call (.builtin "sorted") [v]) (QV P σ s (newList ys hp)) E s := by
  obtain ⟨a, off, rfl, e1⟩ := rv
  obtain ⟨xs, hw, hp1⟩ := Option.bind_eq_some_iff.mp hx
  obtain rfl := pairsOf_is hp1
  have h64 : ps.length < 64 := by
    unfold sortP at hy
    split at hy
    · omega
    · split at hy
      · assumption
      · cases hy
  refine Calls.call_function_entry kind_sorted plain_sorted entry_sorted (args_sorted1 _) ?_
  unfold Builtin.«sorted»
  refine wpAny_bind (m := checkCount "sorted" 1 1 _) (wpAny_pure ?_)
  refine wpAny_bind (collect_call (A := A.in1) ok S hh e1 hw (by rw [List.length_map]; exact h64) fun h' tk vs hk rv => ?_)
  have hl := rv.length
  rw [List.length_map] at hl
  refine wpAny_bind (wpAny_newList ?_ (by show _ ≤ 16777216; omega))
  have hoL : (h'.push (seqObj "list" vs.toArray 0)).get? h'.objs.size = some (seqObj "list" vs.toArray 0) := Heap.get?_push_size _ rfl
  have hk1 : ∀ b o, h'.get? b = some o → (h'.push (seqObj "list" vs.toArray 0)).get? b = some o := fun b o e => Heap.get?_push_of_some _ e
  unfold sortP at hy
  split at hy
  · rename_i h2
    cases hy
    refine wpAny_bind (wpAny_holding (wpAny_call_entry slot_list_sort ⟨_, hoL, rfl⟩ entry_list_sort (list_sort_few hoL (by omega) ⟨_, rfl, ?_⟩) (args_list_sort _)))
    exact wpAny_pure ⟨_, rfl, sorted_tail S hk hb rv⟩
  · rename_i h2
    cases hy
    have rv1 := RVs.fixes (fun b o e _ => hk1 b o e) _ _ rv
    refine wpAny_bind (wpAny_holding (wpAny_call_entry slot_list_sort ⟨_, hoL, rfl⟩ entry_list_sort (list_sort_pairs hoL (pairsAt_of rv1) (by omega) (by omega) ⟨_, rfl, ?_⟩) (args_list_sort _)))
    exact wpAny_pure ⟨_, rfl, sorted_tail S hk hb (rvs_order rv _ fun i hi => order_lt (by omega) hi)⟩

theorem get_call (ok : P.Ok) (S : St P.w P.B σ hp s.heap) (hu : A.units + 1 < cLine) {j : Nat} {d : List (Key × AV) × Nat} {a : Addr} {off : Nat} (hj : dictAt hp j = some d) (e1 : σ[j]? = some (a, off)) {x y : AV} {u : Value} (rx : RV P.B s.heap σ x u) (hy : getD d.1 x.key? = some y) :
    wpAny (model P.prog P.w) A (call (.builtin "dict.get") [.ref a, u]) (QV P σ s (.ok y hp)) E s := by
  obtain ⟨es, ho, re, hnd, _⟩ := S.isDict (dictAt_is hj) e1
  have hT : s.TypeIs (.ref a) "dict" := ⟨_, ho, rfl⟩
  have hk : ∃ k, x.key? = some k ∧ sortOk d.1 k = true ∧ y = (d.1.lookup k).getD .none := by
    unfold getD at hy
    split at hy
    · split at hy
      · rename_i hs; cases hy; exact ⟨_, by assumption, hs, rfl⟩
      · cases hy
    · cases hy
  obtain ⟨k, hk, hso, rfl⟩ := hk
  rw [key_av hk] at rx
  obtain ⟨n, hg⟩ := dictGet_prim (A := A.in1) S (dictAt_is hj) e1 rx hso (by show A.units + 1 < _; exact hu)
  refine wpAny_call_entry F.slot_dict_get hT F.entry_dict_get ?_ (F.args_dict_get_2 _ _)
  show wpAny _ _ (dictGet a u >>= _) _ _ s
  refine wpAny_bind (hg _ _ (fun e => ?_) (fun z w e rz => ?_))
  · rw [e]
    show wpAny _ _ (Builtin.Dict.missed a u >>= _) _ _ _
    exact wpAny_bind (wpAny_missed_other (S.notMods ok e1) (wpAny_pure ⟨.none, rfl, _, _, _, rfl, .tok S _, rfl⟩))
  · rw [e]
    exact wpAny_pure ⟨w, rfl, _, _, _, rfl, .tok S _, rz⟩
end
end Mine

namespace Mine
open PySem PySem.Spec PyProof.Rows PySem.SeqAt

section
variable {P : Par} {A : Around} {σ : Sg} {hp : AHeap} {s : Shared} {E : Value → Shared → Prop}

theorem nsAt_is {j : Nat} {k : Nat} {fs : List (Str × AV)} (h : nsAt hp j = some (k, fs)) : hp[j]? = some (.inst k) ∧ hp[k]? = some (.ns fs) := by
  delta nsAt at h
  cases hj : hp[j]? with
  | none => rw [hj] at h; exact none_ne h
  | some o =>
    rw [hj] at h
    cases o
    case inst i =>
      dsimp only at h
      cases hi : hp[i]? with
      | none => rw [hi] at h; exact none_ne h
      | some o =>
        rw [hi] at h
        cases o
        case ns gs => cases (show some (i, gs) = some (k, fs) from h); exact ⟨rfl, hi⟩
        all_goals exact none_ne h
    all_goals exact none_ne h
theorem instAt_is {j : Nat} {fs : List (Str × AV)} (h : instAt hp j = some fs) : ∃ k, hp[j]? = some (.inst k) ∧ hp[k]? = some (.ns fs) := by
  delta instAt at h
  cases hj : hp[j]? with
  | none => rw [hj] at h; exact none_ne h
  | some o =>
    rw [hj] at h
    cases o
    case inst i =>
      dsimp only at h
      cases hi : hp[i]? with
      | none => rw [hi] at h; exact none_ne h
      | some o =>
        rw [hi] at h
        cases o
        case ns gs => cases (show some gs = some fs from h); exact ⟨i, rfl, hi⟩
        all_goals exact none_ne h
    all_goals exact none_ne h

/-- an instance, as the model has it -/
structure InstIs (P : Par) (σ : Sg) (h : Heap) (x dx : Addr) (fs : List (Str × AV)) (mA : Str → Option Value) : Prop where
  inst : h.Inst x P.B.C mA
  ns : NsR P.B h σ fs mA
  obj : ∃ o, h.get? x = some o ∧ o.dict = some dx
  ne : dx ≠ x
theorem inst_of (S : St P.w P.B σ hp s.heap) {j k : Nat} {fs : List (Str × AV)} {x : Addr} {off : Nat} (hj : hp[j]? = some (.inst k)) (hk : hp[k]? = some (.ns fs)) (e1 : σ[j]? = some (x, off)) : ∃ mA off', σ[k]? = some (off, off') ∧ InstIs P σ s.heap x off fs mA := by
  obtain ⟨o, off', h1, h2, h3, h4, h5, h6⟩ := S.obj j x off _ e1 hj
  obtain ⟨mA, n1, n2⟩ := S.obj k off off' _ h6 hk
  exact ⟨mA, off', h6, ⟨⟨o, h1, h2, h3, .inr ⟨off, h4, h5, n1⟩⟩, n2, ⟨o, h1, h4⟩, h5⟩⟩

theorem RV.handed {B : Bs} {h : Heap} : ∀ {x : AV} {v : Value}, RV B h σ x v → handedOut v = pure v
  | .none, v, r => by cases (show v = .none from r); rfl
  | .bool b, v, r => by cases (show v = .bool b from r); rfl
  | .int i, v, r => by obtain ⟨t, rfl⟩ := r; rfl
  | .str i, v, r => by obtain ⟨t, rfl⟩ := r; rfl
  | .tup i, v, r => by obtain ⟨a, _, _, rfl, _⟩ := r; rfl
  | .loc i, v, r => by obtain ⟨a, _, rfl, _⟩ := r; rfl
  | .rng .., v, r => by obtain ⟨a, _, _, _, rfl, _⟩ := r; rfl
  | .scr i, v, r => by obtain ⟨a, _, rfl, _⟩ := r; rfl

theorem attr_prim (ok : P.Ok) (S : St P.w P.B σ hp s.heap) {n : Str} (hn : P.B.attrs.contains n = true) {a : AV} {v : Value} (rv : RV P.B s.heap σ a v) (hb : attrAV n a hp ≠ .bad) : wpAny (model P.prog P.w) A (getAttr v n true) (QV P σ s (attrAV n a hp)) E s := by
  cases a
  case loc j =>
    obtain ⟨x, off, rfl, e1⟩ := rv
    obtain ⟨y, hy, e⟩ := okO_eq hb
    rw [show attrAV n (.loc j) hp = .ok y hp from e]
    obtain ⟨fs, hf, hl⟩ := Option.bind_eq_some_iff.mp hy
    obtain ⟨k, hj, hk⟩ := instAt_is hf
    obtain ⟨mA, off', e2, I⟩ := inst_of S hj hk e1
    obtain ⟨u, hu, ru⟩ := I.ns.has n y hl
    obtain ⟨nm, q, bs, sn, sub, col, dd, k0, k1, k2, k3, k5, hC⟩ := (ok.cls.keeps S.base).obj
    obtain ⟨q1, q2⟩ := ok.qa n hn
    exact load_attr hC (ok.cls.keeps S.base).ns ok.q2 q1 q2 I.inst hu ru.handed ⟨_, _, _, rfl, .tok S _, ru⟩
  all_goals exact absurd rfl hb

theorem setattr_prim (ok : P.Ok) (S : St P.w P.B σ hp s.heap) {n : Str} (hn : P.B.attrs.contains n = true) {a y : AV} {v u : Value} (rv : RV P.B s.heap σ a v) (ru : RV P.B s.heap σ y u) {hp' : AHeap} (hs : setAttrAV n a y hp = some hp') {Q : Unit → Shared → Prop}
    (h : ∀ s', After P σ σ [] hp' s s' → Q () s') : wpAny (model P.prog P.w) A (setAttr v n u) Q E s := by
  cases a
  case loc j =>
    obtain ⟨⟨k, fs⟩, hk, rfl⟩ := Option.map_eq_some_iff.mp (show (nsAt hp j).map (fun p => hp.set p.1 (.ns ((n, y) :: p.2))) = some hp' from hs)
    obtain ⟨hj, hk⟩ := nsAt_is hk
    obtain ⟨x, off, rfl, e1⟩ := rv
    obtain ⟨mA, off', e2, I⟩ := inst_of S hj hk e1
    obtain ⟨nm, q, bs, sn, sub, col, dd, k0, k1, k2, k3, k5, hC⟩ := (ok.cls.keeps S.base).obj
    obtain ⟨q1, q2⟩ := ok.qa n hn
    obtain ⟨o, hx, hd⟩ := I.obj
    have hxC : x ≠ P.B.C := fun e => by
      obtain ⟨_, _, _, _, _, _, _, _, _, _, _, _, hC0⟩ := ok.cls.obj
      have := S.new _ (List.mem_of_getElem? e1)
      rw [show ((x, off) : Addr × Nat).1 = x from rfl, e] at this
      rw [this] at hC0; cases hC0
    refine store_attr PySem.F.store_object hC (ok.cls.keeps S.base).ns ok.q1 q1 q2 hxC I.inst (fun h' tk' I' hk' hsame => ?_) I.ns.within ok.few
    obtain ⟨o₁, e₁, c₁, d₁, s₁, dk₁⟩ := hsame o hx
    have eo : o₁ = o := by
      have hd1 := dk₁ off hd
      cases o; cases o₁
      cases c₁; cases d₁; cases s₁
      cases hd; cases hd1; rfl
    subst eo
    have hk2 : ∀ b ob, b ≠ off → s.heap.get? b = some ob → h'.get? b = some ob := fun b ob hb e => by
      by_cases q : b = x
      · subst q; rw [hx] at e; cases e; exact e₁
      · exact hk' b ob q (fun o₀ dx q1 q2 => by rw [hx] at q1; cases q1; rw [hd] at q2; cases q2; exact hb) e
    obtain ⟨o2, e2', _, _, hdd⟩ := I'
    rw [e₁] at e2'; cases e2'
    have hns : h'.Ns1 off (fun y => if y = n then some u else mA y) := by
      rcases hdd with ⟨hn0, _⟩ | ⟨d', hd', _, hns'⟩
      · rw [hd] at hn0; cases hn0
      · rw [hd] at hd'; cases hd'; exact hns'
    obtain ⟨ob, hob, _⟩ := ns1_there hns
    have hN : ∀ g : Grows σ σ [] s.heap h', NsR P.B h' σ ((n, y) :: fs) (fun y => if y = n then some u else mA y) := fun g => by
      refine ⟨fun z av hz => ?_, fun z hz => ?_, fun z hz => ?_⟩
      · rw [List.lookup_cons] at hz
        cases hq : z == n with
        | true =>
          rw [hq] at hz; cases hz
          exact ⟨u, if_pos (beq_iff_eq.mp hq), RV.grows g _ _ ru⟩
        | false =>
          rw [hq] at hz
          obtain ⟨w, h1, h2⟩ := I.ns.has z av hz
          exact ⟨w, (if_neg (beq_eq_false_iff_ne.mp hq)).trans h1, RV.grows g _ _ h2⟩
      · rw [List.lookup_cons] at hz
        cases hq : z == n with
        | true => rw [hq] at hz; cases hz
        | false =>
          rw [hq] at hz
          exact (if_neg (beq_eq_false_iff_ne.mp hq)).trans (I.ns.non z hz)
      · by_cases q : z = n
        · subst q; exact List.contains_iff_mem.mp hn
        · exact I.ns.within z (fun e => hz ((if_neg q).trans e))
    obtain ⟨S', g⟩ := S.upd (X := []) e2 hk2 (.ns ((n, y) :: fs)) hob fun g => ⟨_, hns, hN g⟩
    exact h _ ⟨rfl, S', g⟩
  all_goals exact none_ne hs

/-- a new instance is followed -/
theorem St.made (S : St P.w P.B σ hp s.heap) {h' : Heap} {x dx : Addr} (M : Heap.MadeObj s.heap h' x dx P.B.C) :
    St P.w P.B (σ ++ [(dx, 0)] ++ [(x, dx)]) (made hp) h' ∧ Grows σ (σ ++ [(dx, 0)] ++ [(x, dx)]) [] s.heap h' := by
  obtain ⟨ox, hx, hcx, hncx, hdx⟩ := M.inst
  have hdd := M.dict ox hx
  have hnsd : h'.Ns1 dx fun _ => none := by
    rcases hdx with ⟨hn0, _⟩ | ⟨d', hd', _, hns'⟩
    · rw [hn0] at hdd; cases hdd
    · rw [hdd] at hd'; cases hd'; exact hns'
  have hne : dx ≠ x := by
    rcases hdx with ⟨hn0, _⟩ | ⟨d', hd', hne', _⟩
    · rw [hn0] at hdd; cases hdd
    · rw [hdd] at hd'; cases hd'; exact hne'
  have free : ∀ b, s.heap.get? b = none → b ∉ σ.map (·.1) ∧ P.B.h₀.get? b = none := fun b hb => by
    refine ⟨fun hm => ?_, ?_⟩
    · obtain ⟨p, hp, rfl⟩ := List.mem_map.mp hm
      obtain ⟨ob, e, _⟩ := S.there hp
      rw [hb] at e; cases e
    · cases hq : P.B.h₀.get? b with
      | none => rfl
      | some o => have := S.base b o hq; rw [hb] at this; cases this
  have S1 := (S.keep M.keeps).adopt (off := 0) (ao := .ns []) (free dx M.newD).1 (free dx M.newD).2 fun _ => ⟨_, hnsd, ⟨fun y av e => (nomatch (show none = some av from e)), fun y _ => rfl, fun y hy => absurd rfl hy⟩⟩
  have hx2 : x ∉ (σ ++ [(dx, 0)]).map (fun p : Addr × Nat => p.1) := by
    rw [List.map_append, List.mem_append]
    rintro (q | q)
    · exact (free x M.newX).1 q
    · exact hne (List.mem_singleton.mp q).symm
  have hlook : (σ ++ [(dx, 0)] ++ [(x, dx)])[hp.length]? = some (dx, 0) := by
    rw [List.getElem?_append_left (by rw [List.length_append, S.len]; exact Nat.lt_succ_self _), ← S.len]; exact List.getElem?_concat_length
  have S2 := S1.adopt (off := dx) (ao := .inst hp.length) hx2 (free x M.newX).2 fun _ => ⟨ox, 0, hx, hcx, hncx, hdd, hne, hlook⟩
  refine ⟨?_, ((grows_keep M.keeps).adopt M.newD).adopt M.newX⟩
  have e : Mine.made hp = hp ++ [.ns []] ++ [.inst hp.length] := by unfold Mine.made; rw [List.append_assoc]; rfl
  rw [e]; exact S2
end
end Mine

namespace Mine
open PySem PySem.Spec PyProof.Rows PySem.SeqAt

section
variable {P : Par}

theorem seqV {γ : Type} {A : Around} {σ₀ σ : Sg} {s₀ s : Shared} {hp : AHeap} {m : Sem Value} {r : Res AV} {f : AV → AHeap → Res γ} {G : Res γ → Value → Shared → Prop} (a₀ : After P σ₀ σ [] hp s₀ s)
    (h : wpAny (model P.prog P.w) A m (QV P σ s r) NE s) (hb : r.bind f ≠ .bad)
    (hk : ∀ av hp' σ' v s', After P σ₀ σ' [] hp' s₀ s' → After P σ σ' [] hp' s s' → RV P.B s'.heap σ' av v → f av hp' ≠ .bad → G (f av hp') v s') :
    wpAny (model P.prog P.w) A m (G (r.bind f)) NE s :=
  wpAny_mono h (fun v s' ⟨av, hp', σ', e, a, rv⟩ => by subst e; exact hk av hp' σ' v s' (a₀.trans a) a rv hb) (fun _ _ q => q)

theorem seqVs {γ : Type} {A : Around} {σ₀ σ : Sg} {s₀ s : Shared} {hp : AHeap} {m : Sem (List Value)} {r : Res (List AV)} {f : List AV → AHeap → Res γ} {G : Res γ → List Value → Shared → Prop} (a₀ : After P σ₀ σ [] hp s₀ s)
    (h : wpAny (model P.prog P.w) A m (QVs P σ s r) NE s) (hb : r.bind f ≠ .bad)
    (hk : ∀ av hp' σ' v s', After P σ₀ σ' [] hp' s₀ s' → After P σ σ' [] hp' s s' → RVs P.B s'.heap σ' av v → f av hp' ≠ .bad → G (f av hp') v s') :
    wpAny (model P.prog P.w) A m (G (r.bind f)) NE s :=
  wpAny_mono h (fun v s' ⟨av, hp', σ', e, a, rv⟩ => by subst e; exact hk av hp' σ' v s' (a₀.trans a) a rv hb) (fun _ _ q => q)

theorem boolO_is {o : Option Bool} {h : AHeap} (hb : boolO o h ≠ .bad) : ∃ b, o = some b := by
  cases o with
  | none => exact absurd rfl hb
  | some b => exact ⟨b, rfl⟩
theorem condV_is {v : AV} {x y : Res AV} (hb : condV v x y ≠ .bad) : ∃ b, v = .bool b := by
  unfold condV at hb
  split at hb
  · exact ⟨_, rfl⟩
  · exact absurd rfl hb

variable {cx : Cx}

theorem sim_bin {l r : Expr} {op : Operator} {bop : BOp} {xl xr : X} {pos : Pos} (hop : compBOp op = some bop) (hl : SimE P cx l xl) (hr : SimE P cx r xr) : SimE P cx (.BinOp l op r pos) (.bin bop xl xr) := by
  intro c n env A σ loc hp s C I hb
  rw [x_bin] at hb ⊢
  refine wpAny_BinOp (seqV (G := fun R a s₁ => wpAny (model P.prog P.w) A (eval r env) (fun b s₂ => wpAny (model P.prog P.w) A (binaryOp op a b) (QV P σ s R) NE s₂) NE s₁) (.refl I.st) (hl c n env A σ loc hp s C I (bind_ok hb)) hb ?_)
  intro av hp₁ σ₁ v s₁ a₁ _ rv hb
  have I₁ := I.after a₁
  refine seqV (G := fun R b s₂ => wpAny (model P.prog P.w) A (binaryOp op v b) (QV P σ s R) NE s₂) a₁ (hr c n env A σ₁ loc hp₁ s₁ C I₁ (bind_ok hb)) hb ?_
  intro bv hp₂ σ₂ u s₂ a₂ a₁₂ ru hb
  exact wpAny_mono (bin_prim C.ok a₂.st I.ar hop (RV.grows a₁₂.gr _ _ rv) ru hb) (fun _ _ q => q.lift a₂) (fun _ _ q => q)

theorem sim_neg {x : Expr} {xx : X} {pos : Pos} (hx : SimE P cx x xx) : SimE P cx (.UnaryOp .USub x pos) (.neg xx) := by
  intro c n env A σ loc hp s C I hb
  rw [x_neg] at hb ⊢
  refine wpAny_UnaryOp (seqV (G := fun R a s₁ => wpAny (model P.prog P.w) A (unaryOp .USub a) (QV P σ s R) NE s₁) (.refl I.st) (hx c n env A σ loc hp s C I (bind_ok hb)) hb ?_)
  intro av hp₁ σ₁ v s₁ a₁ _ rv hb
  obtain ⟨i, rfl⟩ : ∃ i, av = .int i := by
    unfold negAV at hb
    split at hb
    · exact ⟨_, rfl⟩
    · exact absurd rfl hb
  obtain ⟨t, rfl⟩ := rv
  exact PySem.P.neg_int (QV.lift a₁ ⟨_, _, _, rfl, .tok a₁.st _, _, rfl⟩)

theorem sim_not {x : Expr} {xx : X} {pos : Pos} (hx : SimE P cx x xx) : SimE P cx (.UnaryOp .Not x pos) (.not xx) := by
  intro c n env A σ loc hp s C I hb
  rw [x_not] at hb ⊢
  refine wpAny_UnaryOp (seqV (G := fun R a s₁ => wpAny (model P.prog P.w) A (unaryOp .Not a) (QV P σ s R) NE s₁) (.refl I.st) (hx c n env A σ loc hp s C I (bind_ok hb)) hb ?_)
  intro av hp₁ σ₁ v s₁ a₁ _ rv hb
  obtain ⟨b, rfl⟩ : ∃ b, av = .bool b := by
    unfold notAV at hb
    split at hb
    · exact ⟨_, rfl⟩
    · exact absurd rfl hb
  cases (show v = .bool b from rv)
  exact not_value (wpAny_truthy_bool (QV.lift a₁ ⟨_, _, _, rfl, .refl a₁.st, rfl⟩))

noncomputable def SimB (P : Par) (cx : Cx) (op : BoolOp) (es : List Expr) (x : X) : Prop :=
  ∀ c n env A σ l hp s pos, Sims P cx c n → Inv P cx n env A σ l hp s → evalX c x l hp ≠ .bad →
    wpAny (model P.prog P.w) A (boolOp pos op (evalEach es env)) (QV P σ s (evalX c x l hp)) NE s

theorem sim_boolop {op : BoolOp} {es : List Expr} {x : X} {pos : Pos} (h : SimB P cx op es x) : SimE P cx (.BoolOp op es pos) x := by
  intro c n env A σ loc hp s C I hb
  rw [arm_eval_BoolOp]
  exact h c n env A σ loc hp s pos C I hb
theorem simB_one {op : BoolOp} {e : Expr} {x : X} (h : SimE P cx e x) : SimB P cx op [e] x := by
  intro c n env A σ loc hp s pos C I hb
  exact h c n env A σ loc hp s C I hb
theorem simB_and {e e' : Expr} {es : List Expr} {x y : X} (h : SimE P cx e x) (hr : SimB P cx .And (e' :: es) y) : SimB P cx .And (e :: e' :: es) (.and x y) := by
  intro c n env A σ loc hp s pos C I hb
  rw [x_and] at hb ⊢
  show wpAny _ _ (eval e env >>= fun v => standAt pos >>= fun _ => holding [v] (truthy v) >>= fun t => match BoolOp.And, t with | .And, false | .Or, true => pure v | _, _ => boolOp pos .And (evalEach (e' :: es) env)) _ _ _
  refine wpAny_bind (seqV (G := fun R v s₁ => wpAny (model P.prog P.w) A (standAt pos >>= fun _ => holding [v] (truthy v) >>= fun t => match BoolOp.And, t with | .And, false | .Or, true => pure v | _, _ => boolOp pos .And (evalEach (e' :: es) env)) (QV P σ s R) NE s₁) (.refl I.st) (h c n env A σ loc hp s C I (bind_ok hb)) hb ?_)
  intro av hp₁ σ₁ v s₁ a₁ _ rv hb
  obtain ⟨b, rfl⟩ := condV_is hb
  cases (show v = .bool b from rv)
  refine wpAny_bind (wpAny_standAt (wpAny_bind (wpAny_holding (wpAny_truthy_bool ?_))))
  cases b with
  | false => exact wpAny_pure (QV.lift a₁ ⟨_, _, _, rfl, .refl a₁.st, rfl⟩)
  | true => exact wpAny_mono (hr c n env A σ₁ loc hp₁ s₁ pos C (I.after a₁) hb) (fun _ _ q => q.lift a₁) (fun _ _ q => q)
theorem simB_or {e e' : Expr} {es : List Expr} {x y : X} (h : SimE P cx e x) (hr : SimB P cx .Or (e' :: es) y) : SimB P cx .Or (e :: e' :: es) (.or x y) := by
  intro c n env A σ loc hp s pos C I hb
  rw [x_or] at hb ⊢
  show wpAny _ _ (eval e env >>= fun v => standAt pos >>= fun _ => holding [v] (truthy v) >>= fun t => match BoolOp.Or, t with | .And, false | .Or, true => pure v | _, _ => boolOp pos .Or (evalEach (e' :: es) env)) _ _ _
  refine wpAny_bind (seqV (G := fun R v s₁ => wpAny (model P.prog P.w) A (standAt pos >>= fun _ => holding [v] (truthy v) >>= fun t => match BoolOp.Or, t with | .And, false | .Or, true => pure v | _, _ => boolOp pos .Or (evalEach (e' :: es) env)) (QV P σ s R) NE s₁) (.refl I.st) (h c n env A σ loc hp s C I (bind_ok hb)) hb ?_)
  intro av hp₁ σ₁ v s₁ a₁ _ rv hb
  obtain ⟨b, rfl⟩ := condV_is hb
  cases (show v = .bool b from rv)
  refine wpAny_bind (wpAny_standAt (wpAny_bind (wpAny_holding (wpAny_truthy_bool ?_))))
  cases b with
  | true => exact wpAny_pure (QV.lift a₁ ⟨_, _, _, rfl, .refl a₁.st, rfl⟩)
  | false => exact wpAny_mono (hr c n env A σ₁ loc hp₁ s₁ pos C (I.after a₁) hb) (fun _ _ q => q.lift a₁) (fun _ _ q => q)

theorem notMarks {op : CmpOp} {r : Expr} {x : X} {k : Nat} (h : compE k cx r = some x) : behindInMarks op r = false := by
  unfold behindInMarks
  split
  · cases k <;> cases h
  · rfl

theorem sim_cmp {l r : Expr} {op : CmpOp} {cop : COp} {xl xr : X} {pos : Pos} (hop : compCOp op = some cop) (hm : behindInMarks op r = false) (hl : SimE P cx l xl) (hr : SimE P cx r xr) : SimE P cx (.Compare l [op] [r] pos) (.cmp cop xl xr) := by
  intro c n env A σ loc hp s C I hb
  rw [x_cmp] at hb ⊢
  refine wpAny_Compare1 (seqV (G := fun R a s₁ => wpAny (model P.prog P.w) A (eval r env) (fun b s₂ => wpAny (model P.prog P.w) A (compareOp op a b) (QV P σ s R) NE s₂) NE s₁) (.refl I.st) (hl c n env A σ loc hp s C I (bind_ok hb)) hb ?_) hm
  intro av hp₁ σ₁ v s₁ a₁ _ rv hb
  have I₁ := I.after a₁
  refine seqV (G := fun R b s₂ => wpAny (model P.prog P.w) A (compareOp op v b) (QV P σ s R) NE s₂) a₁ (hr c n env A σ₁ loc hp₁ s₁ C I₁ (bind_ok hb)) hb ?_
  intro bv hp₂ σ₂ u s₂ a₂ a₁₂ ru hb
  obtain ⟨k, hc⟩ := boolO_is hb
  rw [hc]
  refine wpAny_mono (cmp_prim C.ok a₂.st I.ar hop (RV.grows a₁₂.gr _ _ rv) ru hc) (fun w s₃ q => ?_) (fun _ _ q => q)
  obtain ⟨b, rfl, e, a₃⟩ := q
  cases e
  exact ⟨_, _, _, rfl, a₂.trans a₃, rfl⟩

theorem cmpAnd_is {o : Option Bool} {h : AHeap} {k : Res AV} (hb : cmpAnd o h k ≠ .bad) : ∃ b, o = some b := by
  cases o with
  | none => exact absurd rfl hb
  | some b => exact ⟨b, rfl⟩
theorem sim_cmp2 {l m r : Expr} {o1 o2 : CmpOp} {c1 c2 : COp} {xl xm xr : X} {pos : Pos} (h1 : compCOp o1 = some c1) (h2 : compCOp o2 = some c2) (hm : behindInMarks o2 r = false) (hl : SimE P cx l xl) (hmm : SimE P cx m xm) (hr : SimE P cx r xr) :
    SimE P cx (.Compare l [o1, o2] [m, r] pos) (.cmp2 c1 c2 xl xm xr) := by
  intro c n env A σ loc hp s C I hb
  rw [x_cmp2] at hb ⊢
  rw [arm_eval_Compare]
  have hmark : markedEach [o1, o2] [m, r] (evalEach [m, r] env) = [eval m env, eval r env] := by
    show [eval m env, markedBehindIn o2 r (eval r env)] = _
    rw [markedBehindIn_of_false hm]
  rw [hmark]
  refine wpAny_bind (seqV (G := fun R a s₁ => wpAny (model P.prog P.w) A (compareChain pos a [o1, o2] [eval m env, eval r env]) (QV P σ s R) NE s₁) (.refl I.st) (hl c n env A σ loc hp s C I (bind_ok hb)) hb ?_)
  intro av hp₁ σ₁ v s₁ a₁ _ rv hb
  have I₁ := I.after a₁
  rw [compareChain]
  · refine wpAny_bind (wpAny_holding (seqV (G := fun R b s₂ => wpAny (model P.prog P.w) A (standAt pos >>= fun _ => holding [v, b] (compareOp o1 v b) >>= fun cc => release [v, b] [cc] >>= fun _ => holding [cc, b] (truthy cc) >>= fun t => if t = true then compareChain pos b [o2] [eval r env] else pure cc) (QV P σ s R) NE s₂) a₁ (hmm c n env A σ₁ loc hp₁ s₁ C I₁ (bind_ok hb)) hb ?_))
    intro bv hp₂ σ₂ u s₂ a₂ a₁₂ ru hb
    have I₂ := I.after a₂
    obtain ⟨k, hc⟩ := cmpAnd_is hb
    rw [hc] at hb ⊢
    refine wpAny_bind (wpAny_standAt (wpAny_bind (wpAny_holding (wpAny_mono (cmp_prim C.ok a₂.st I.ar h1 (RV.grows a₁₂.gr _ _ rv) ru hc) (fun w s₃ q => ?_) (fun _ _ q => q)))))
    obtain ⟨b, rfl, e, a₃⟩ := q
    cases e
    refine wpAny_bind (wpAny_release (wpAny_bind (wpAny_holding (wpAny_truthy_bool ?_))))
    cases k with
    | false => exact wpAny_pure (QV.lift (a₂.trans a₃) ⟨_, _, _, rfl, .refl a₃.st, rfl⟩)
    | true =>
      rw [if_pos rfl]
      have I₃ := I₂.after a₃
      rw [compareChain]
      refine wpAny_bind (wpAny_holding (seqV (G := fun R z s₄ => wpAny (model P.prog P.w) A (standAt pos >>= fun _ => operate [u, z] (compareOp o2 u z)) (QV P σ s R) NE s₄) (f := fun z h => boolO (cmpAV h c2 bv z) h) (a₂.trans a₃) (hr c n env A σ₂ loc hp₂ s₃ C I₃ (bind_ok hb)) hb ?_))
      intro zv hp₄ σ₄ z s₄ a₄ a₃₄ rz hb
      obtain ⟨k2, hc2⟩ := boolO_is hb
      rw [hc2]
      refine wpAny_bind (wpAny_standAt (wpAny_operating (wpAny_mono (cmp_prim C.ok a₄.st I.ar h2 (RV.grows a₃₄.gr _ _ (RV.grows a₃.gr _ _ ru)) rz hc2) (fun w s₅ q => ?_) (fun _ _ q => q))))
      obtain ⟨b, rfl, e, a₅⟩ := q
      cases e
      exact ⟨_, _, _, rfl, a₄.trans a₅, rfl⟩
  · simp

theorem is_none_iff {σ : Sg} {h : Heap} {a : AV} {v : Value} (ra : RV P.B h σ a v) : (v == Value.none) = isNoneAV a := by
  cases a
  case none => cases (show v = .none from ra); rfl
  case bool b => cases (show v = .bool b from ra); rfl
  case int => obtain ⟨_, rfl⟩ := ra; rfl
  case str => obtain ⟨_, rfl⟩ := ra; rfl
  case tup => obtain ⟨_, _, _, rfl, _⟩ := ra; rfl
  case loc => obtain ⟨_, _, rfl, _⟩ := ra; rfl
  case rng => obtain ⟨_, _, _, _, rfl, _⟩ := ra; rfl
  case scr => obtain ⟨_, _, rfl, _⟩ := ra; rfl
theorem sim_isn {l r : Expr} {op : CmpOp} {b : Bool} {xl : X} {pos : Pos} (hop : isnOf op = some b) (hr : isNone r = true) (hl : SimE P cx l xl) : SimE P cx (.Compare l [op] [r] pos) (.isn b xl) := by
  intro c n env A σ loc hp s C I hb
  obtain ⟨k, q, rfl⟩ : ∃ k q, r = .Constant .none k q := by
    cases r
    case Constant v k q => cases v <;> first | exact ⟨_, _, rfl⟩ | exact absurd hr Bool.false_ne_true
    all_goals exact absurd hr Bool.false_ne_true
  rw [x_isn] at hb ⊢
  refine wpAny_Compare1 (seqV (G := fun R a s₁ => wpAny (model P.prog P.w) A (eval (.Constant .none k q) env) (fun b s₂ => wpAny (model P.prog P.w) A (compareOp op a b) (QV P σ s R) NE s₂) NE s₁) (.refl I.st) (hl c n env A σ loc hp s C I (bind_ok hb)) hb ?_) rfl
  intro av hp₁ σ₁ v s₁ a₁ _ rv hb
  refine wpAny_Constant_none ?_
  cases op <;> (try exact none_ne hop) <;> cases hop
  · exact is_none ⟨_, _, _, rfl, a₁, by rw [is_none_iff rv]; show _ = Value.bool _; cases isNoneAV av <;> rfl⟩
  · exact isNot_none ⟨_, _, _, rfl, a₁, by rw [is_none_iff rv]; show _ = Value.bool _; cases isNoneAV av <;> rfl⟩
end
end Mine

namespace Mine
open PySem PySem.Spec PyProof.Rows PySem.SeqAt

theorem not_starred {cx : Cx} {e : Expr} {x : X} {k : Nat} (h : compE k cx e = some x) : ∀ env rest, starEach (e :: rest) env = (false, eval e env) :: starEach rest env := by
  intro env rest
  cases k with
  | zero => cases h
  | succ k => cases e <;> first | rfl | (cases h)

section
variable {P : Par} {cx : Cx}

theorem simEs_nil : SimEs P cx [] .nil := by
  intro c n env A σ loc hp s pos C I hb
  exact wpAny_items_nil ⟨[], hp, σ, rfl, .refl I.st, trivial⟩
theorem simEs_cons {e : Expr} {es : List Expr} {x : X} {xs : Xs} (hs : ∀ env rest, starEach (e :: rest) env = (false, eval e env) :: starEach rest env) (h : SimE P cx e x) (hr : SimEs P cx es xs) : SimEs P cx (e :: es) (.cons x xs) := by
  intro c n env A σ loc hp s pos C I hb
  rw [xs_cons] at hb ⊢
  refine wpAny_items_cons (seqV (G := fun R v s₁ => wpAny (model P.prog P.w) A (spliced (backTo pos (starEach es env))) (fun vs s₂ => QVs P σ s R (v :: vs) s₂) NE s₁) (.refl I.st) (h c n env A σ loc hp s C I (bind_ok hb)) hb ?_) (hs env es)
  intro av hp₁ σ₁ v s₁ a₁ _ rv hb
  refine seqVs (G := fun R vs s₂ => QVs P σ s R (v :: vs) s₂) a₁ (hr c n env A σ₁ loc hp₁ s₁ pos C (I.after a₁) (bind_ok hb)) hb ?_
  intro avs hp₂ σ₂ vs s₂ a₂ a₁₂ rvs hb
  exact ⟨_, _, _, rfl, a₂, RV.grows a₁₂.gr _ _ rv, rvs⟩

theorem sim_tup {es : List Expr} {xs : Xs} {k : Nat} {pos : Pos} (h : SimEs P cx es xs) : SimE P cx (.Tuple es k pos) (.tup xs) := by
  intro c n env A σ loc hp s C I hb
  rw [x_tup] at hb ⊢
  refine wpAny_Tuple (seqVs (G := fun R vs s₁ => vs.length ≤ sizeLine ∧ QV P σ s R (.ref s₁.heap.objs.size) { s₁ with heap := s₁.heap.push { cls := .type "tuple", data := .seq vs.toArray } }) (.refl I.st) (h c n env A σ loc hp s pos C I (bind_ok hb)) hb ?_)
  intro avs hp₁ σ₁ vs s₁ a₁ _ rv hb
  have hl := rv.length
  split at hb
  · rename_i hsz
    rw [if_pos hsz]
    have S₂ := a₁.st.push { cls := .type "tuple", data := .seq vs.toArray }
    have g₂ : Grows σ₁ σ₁ [] s₁.heap (s₁.heap.push { cls := .type "tuple", data := .seq vs.toArray }) := .push _
    exact ⟨hl ▸ sizeLim_le hsz, _, _, _, rfl, a₁.trans ⟨rfl, S₂, g₂⟩, s₁.heap.objs.size, vs.toArray, 0, rfl, Heap.get?_push_size _ rfl, RVs.grows g₂ _ _ rv⟩
  · exact absurd rfl hb

theorem sim_list {es : List Expr} {xs : Xs} {pos : Pos} (h : SimEs P cx es xs) : SimE P cx (.List es pos) (.list xs) := by
  intro c n env A σ loc hp s C I hb
  rw [x_list] at hb ⊢
  refine wpAny_List (seqVs (G := fun R vs s₁ => vs.length ≤ sizeLine ∧ QV P σ s R (.ref s₁.heap.objs.size) { s₁ with heap := s₁.heap.push { cls := .type "list", data := .seq vs.toArray } }) (.refl I.st) (h c n env A σ loc hp s pos C I (bind_ok hb)) hb ?_)
  intro avs hp₁ σ₁ vs s₁ a₁ _ rv hb
  obtain ⟨h1, h2⟩ := qv_newList (ws := vs.toArray) a₁.st rv hb
  exact ⟨by simpa using h1, h2.lift a₁⟩

theorem list_type {σ : Sg} {hp : AHeap} {s : Shared} (S : St P.w P.B σ hp s.heap) {j : Nat} {xs : List AV} {v : Value} (ra : RV P.B s.heap σ (.loc j) v) (hj : hp[j]? = some (.list xs)) : s.TypeIs v "list" := by
  obtain ⟨b, o, rfl, e1⟩ := ra
  obtain ⟨ws, hl, _⟩ := S.isList hj e1
  exact hl.typeIs
/-- the types whose items are looked at -/
theorem rv_type {σ : Sg} {hp : AHeap} {s : Shared} (S : St P.w P.B σ hp s.heap) {a i : AV} {v : Value} (ra : RV P.B s.heap σ a v) (hb : subAV a i hp ≠ .bad) :
    ∃ T id, s.TypeIs v T ∧ typeLookup (.type T) "__getitem__" = pure (some (.builtin id)) := by
  obtain ⟨x, _, K⟩ := sub_kind hb
  cases K with
  | str => obtain ⟨t, rfl⟩ := ra; exact ⟨"str", _, rfl, F.slot_str_getitem.lookup⟩
  | tup => obtain ⟨b, ws, k, rfl, o, _⟩ := ra; exact ⟨"tuple", _, ⟨_, o, rfl⟩, F.slot_tuple_getitem.lookup⟩
  | scr => obtain ⟨b, items, rfl, hl, _⟩ := ra; exact ⟨"list", _, (scr_list S hl).typeIs, slot_list_getitem.lookup⟩
  | lst j xs x hj => exact ⟨"list", _, list_type S ra hj, slot_list_getitem.lookup⟩
  | dct j kvs ep x hj =>
    obtain ⟨b, o, rfl, e1⟩ := ra
    obtain ⟨es, hl, _⟩ := S.isDict hj e1
    exact ⟨"dict", _, ⟨_, hl, rfl⟩, slot_dict_getitem.lookup⟩

theorem subs_is (slice : Expr) (o i : Value) : ∃ l, subscripted slice false o i = operate l (getItem o i) := by
  cases slice
  case Slice lo hi st p => cases st <;> exact ⟨_, rfl⟩
  all_goals exact ⟨_, rfl⟩
theorem sub_tail {A : Around} {E : Value → Shared → Prop} {s : Shared} {value slice : Expr} {o i : Value} {T id : String} {Q : Value → Shared → Prop} (hT : s.TypeIs o T)
    (hl : typeLookup (.type T) "__getitem__" = pure (some (.builtin id))) (h : wpAny (model P.prog P.w) A (getItem o i) Q E s) :
    wpAny (model P.prog P.w) A (subscriptTail value slice o i) Q E s := by
  unfold subscriptTail
  refine wpAny_bind ?_
  rw [getitemInPython_of_ne hT.not_modules]
  refine wpAny_bind (wpAny_specialOf hT hl ?_)
  have tail : ∀ l : List Value, wpAny (model P.prog P.w) A (operate l (getItem o i)) (fun r s₃ => wpAny (model P.prog P.w) A (letTemporaryGo value o r >>= fun _ => pure r) Q E s₃) E s := fun l =>
    wpAny_operating (wpAny_mono h (fun r s₃ hr => wpAny_bind (wpAny_letTemporaryGo (wpAny_pure hr))) fun _ _ x => x)
  refine wpAny_pure ?_
  refine wpAny_bind ?_
  obtain ⟨l, e⟩ := subs_is slice o i
  rw [e]
  exact tail l

theorem sim_sub {o i : Expr} {xo xi : X} {pos : Pos} (ho : SimE P cx o xo) (hi : SimE P cx i xi) : SimE P cx (.Subscript o i pos) (.sub xo xi) := by
  intro c n env A σ loc hp s C I hb
  rw [x_sub] at hb ⊢
  refine Subscript_ (seqV (G := fun R v s₁ => wpAny (model P.prog P.w) A (eval i env) (fun u s₂ => wpAny (model P.prog P.w) A (subscriptTail o i v u) (QV P σ s R) NE s₂) NE s₁) (.refl I.st) (ho c n env A σ loc hp s C I (bind_ok hb)) hb ?_)
  intro av hp₁ σ₁ v s₁ a₁ _ rv hb
  refine seqV (G := fun R u s₂ => wpAny (model P.prog P.w) A (subscriptTail o i v u) (QV P σ s R) NE s₂) a₁ (hi c n env A σ₁ loc hp₁ s₁ C (I.after a₁) (bind_ok hb)) hb ?_
  intro bv hp₂ σ₂ u s₂ a₂ a₁₂ ru hb
  have rv' := RV.grows a₁₂.gr _ _ rv
  obtain ⟨T, id, hT, hl⟩ := rv_type a₂.st rv' hb
  exact sub_tail hT hl (wpAny_mono (sub_prim C.ok a₂.st I.ar rv' ru hb) (fun _ _ q => q.lift a₂) (fun _ _ q => q))

theorem sim_part {k : Nat} {o : Option Expr} {x : X} (hx : compPart (compE k cx) o = some x) (h : ∀ e, o = some e → SimE P cx e x) :
    ∀ c n env A σ l hp s, Sims P cx c n → Inv P cx n env A σ l hp s → evalX c x l hp ≠ .bad → wpAny (model P.prog P.w) A (evalPart o env) (QV P σ s (evalX c x l hp)) NE s := by
  intro c n env A σ l hp s C I hb
  cases o with
  | none =>
    cases (show some X.none = some x from hx)
    exact wpAny_evalPart_none ⟨_, _, _, rfl, .refl I.st, rfl⟩
  | some e => exact wpAny_evalPart_some (h e rfl c n env A σ l hp s C I hb)
theorem slice_type {σ : Sg} {hp : AHeap} {s : Shared} (S : St P.w P.B σ hp s.heap) {a i j : AV} {v : Value} (ra : RV P.B s.heap σ a v) (hb : sliceAV a i j hp ≠ .bad) :
    ∃ T id, s.TypeIs v T ∧ typeLookup (.type T) "__getitem__" = pure (some (.builtin id)) := by
  cases a
  case str => obtain ⟨t, rfl⟩ := ra; exact ⟨"str", _, rfl, F.slot_str_getitem.lookup⟩
  case scr => obtain ⟨b, items, rfl, hl, _⟩ := ra; exact ⟨"list", _, (scr_list S hl).typeIs, slot_list_getitem.lookup⟩
  all_goals exact absurd rfl hb
theorem sim_slice {k : Nat} {o : Expr} {lo hi : Option Expr} {xo xl xh : X} {p pos : Pos} (ho : SimE P cx o xo) (hxl : compPart (compE k cx) lo = some xl) (hl : ∀ e, lo = some e → SimE P cx e xl) (hxh : compPart (compE k cx) hi = some xh) (hh : ∀ e, hi = some e → SimE P cx e xh) :
    SimE P cx (.Subscript o (.Slice lo hi none p) pos) (.slice xo xl xh) := by
  intro c n env A σ loc hp s C I hb
  rw [x_slice] at hb ⊢
  refine Subscript_ (seqV (G := fun R v s₁ => wpAny (model P.prog P.w) A (eval (.Slice lo hi none p) env) (fun u s₂ => wpAny (model P.prog P.w) A (subscriptTail o (.Slice lo hi none p) v u) (QV P σ s R) NE s₂) NE s₁) (.refl I.st) (ho c n env A σ loc hp s C I (bind_ok hb)) hb ?_)
  intro av hp₁ σ₁ v s₁ a₁ _ rv hb
  refine wpAny_Slice (seqV (G := fun R vl s₂ => wpAny (model P.prog P.w) A (evalPart hi env) (fun vh s₃ => wpAny (model P.prog P.w) A (evalPart none env) (fun st s₄ => (fun u s₅ => wpAny (model P.prog P.w) A (subscriptTail o (.Slice lo hi none p) v u) (QV P σ s R) NE s₅) (.ref s₄.heap.objs.size) { s₄ with heap := s₄.heap.push { cls := .type "slice", data := .fields #[vl, vh, st] } }) NE s₃) NE s₂) a₁ (sim_part hxl hl c n env A σ₁ loc hp₁ s₁ C (I.after a₁) (bind_ok hb)) hb ?_)
  intro lv hp₂ σ₂ vl s₂ a₂ a₁₂ rl hb
  refine seqV (G := fun R vh s₃ => wpAny (model P.prog P.w) A (evalPart none env) (fun st s₄ => (fun u s₅ => wpAny (model P.prog P.w) A (subscriptTail o (.Slice lo hi none p) v u) (QV P σ s R) NE s₅) (.ref s₄.heap.objs.size) { s₄ with heap := s₄.heap.push { cls := .type "slice", data := .fields #[vl, vh, st] } }) NE s₃) a₂ (sim_part hxh hh c n env A σ₂ loc hp₂ s₂ C (I.after a₂) (bind_ok hb)) hb ?_
  intro hv hp₃ σ₃ vh s₃ a₃ a₂₃ rh hb
  refine wpAny_evalPart_none ?_
  have rv' := RV.grows a₂₃.gr _ _ (RV.grows a₁₂.gr _ _ rv)
  have rl' := RV.grows a₂₃.gr _ _ rl
  have S₄ := a₃.st.push (slObj vl vh)
  have g₄ : Grows σ₃ σ₃ [] s₃.heap (s₃.heap.push (slObj vl vh)) := .push _
  obtain ⟨T, id, hT, hlk⟩ := slice_type (s := { s₃ with heap := s₃.heap.push (slObj vl vh) }) S₄ (RV.grows g₄ _ _ rv') hb
  exact sub_tail hT hlk (wpAny_mono (slice_prim a₃.st rv' rl' rh hb) (fun _ _ q => q.lift a₃) (fun _ _ q => q))
end
end Mine

namespace Mine
open PySem PySem.Spec PyProof.Rows PySem.SeqAt

theorem opt_bind {α β : Type} {a : Option α} {f : α → Option β} {b : β} (h : (a >>= f) = some b) : ∃ x, a = some x ∧ f x = some b := Option.bind_eq_some_iff.mp h
theorem opt_pure {α : Type} {a b : α} (h : (pure a : Option α) = some b) : a = b := Option.some.inj h

theorem plain_es {cx : Cx} {k : Nat} : ∀ {es : List Expr} {xs : Xs}, compEs (compE k cx) es = some xs → ∀ env pos, (backTo pos (starEach es env)).any (·.1) = false
  | [], _, _, _, _ => rfl
  | e :: es, xs, h, env, pos => by
    obtain ⟨x, hx, h⟩ := opt_bind h
    obtain ⟨ys, hy, _⟩ := opt_bind h
    rw [not_starred hx env es]
    exact plain_es hy env pos

section
variable {P : Par} {cx : Cx}

theorem evalArgs_es {A : Around} {E : Value → Shared → Prop} {s : Shared} {env : Env} {f : Value} {es : List Expr} {pos : Pos} {Q : Args → Shared → Prop} (hp : (backTo pos (starEach es env)).any (·.1) = false)
    (h : wpAny (model P.prog P.w) A (spliced (backTo pos (starEach es env))) (fun vs s' => Q ⟨vs, []⟩ s') E s) : wpAny (model P.prog P.w) A (evalArgs f true (backTo pos (starEach es env)) []) Q E s := by
  cases hb : backTo pos (starEach es env) with
  | nil =>
    rw [hb] at h
    unfold evalArgs
    show wpAny _ _ (spliced [] >>= _) Q E s
    refine wpAny_bind (wpAny_mono h (fun vs s' h' => ?_) fun _ _ x => x)
    refine wpAny_holding ?_
    exact wpAny_bind (wpAny_pure (wpAny_bind (wpAny_pure (wpAny_pure h'))))
  | cons p r =>
    obtain ⟨b, t⟩ := p
    rw [hb] at hp h
    simp only [List.any_cons, Bool.or_eq_false_iff] at hp
    have : b = false := hp.1
    subst this
    exact Calls.evalArgs_plain h

theorem load_glob {A : Around} {E : Value → Shared → Prop} {c : Ctx} {n : Nat} {env : Env} {σ : Sg} {l : Locs} {hp : AHeap} {s : Shared} (C : Sims P cx c n) (I : Inv P cx n env A σ l hp s) {x : Str} {pos : Pos} (hg : cx.isGlob x = true) {v : Value} (hv : P.mg x = some v) {Q : Value → Shared → Prop} (h : Q v s) :
    wpAny (model P.prog P.w) A (eval (.Name x pos) env) Q E s := by
  obtain ⟨hd, _⟩ := glob_plain hg
  refine wpAny_Name ?_ hd
  rw [loadName_read I.fr.kind (I.fr.glob x hg)]
  have hn : s.heap.Ns env.globals P.mg := by rw [I.fr.globals]; exact C.ok.g.keeps I.st.base
  exact Calls.loadGlobal_global hn hv h
theorem load_blt {A : Around} {E : Value → Shared → Prop} {c : Ctx} {n : Nat} {env : Env} {σ : Sg} {l : Locs} {hp : AHeap} {s : Shared} (C : Sims P cx c n) (I : Inv P cx n env A σ l hp s) {x : Str} {pos : Pos} (hg : cx.isGlob x = true) {v : Value} (hv : (x, v) ∈ bltPairs) {Q : Value → Shared → Prop} (h : Q v s) :
    wpAny (model P.prog P.w) A (eval (.Name x pos) env) Q E s := by
  obtain ⟨hd, _⟩ := glob_plain hg
  refine wpAny_Name ?_ hd
  rw [loadName_read I.fr.kind (I.fr.glob x hg)]
  have hn : s.heap.Ns env.globals P.mg := by rw [I.fr.globals]; exact C.ok.g.keeps I.st.base
  have hb : s.heap.Ns env.builtins P.mb := by rw [I.fr.builtins]; exact C.ok.b.keeps I.st.base
  obtain ⟨h1, h2⟩ := C.ok.blt x v hv
  exact Calls.loadGlobal_builtin hn h1 hb h2 h

theorem call_eq {f : Str} {p pos : Pos} {es : List Expr} {env : Env} : eval (.Call (.Name f p) es [] pos) env = (eval (.Name f p) env >>= fun fv => callWith pos fv [] (backTo pos (starEach es env)) []) := rfl

theorem sim_call {f : Str} {es : List Expr} {xs : Xs} {p pos : Pos} {k : Nat} (hg : cx.isGlob f = true) (hf : cx.funs.contains f = true) (hm : cx.meths.contains f = false) (hc : compEs (compE k cx) es = some xs) (h : SimEs P cx es xs) : SimE P cx (.Call (.Name f p) es [] pos) (.call f xs) := by
  intro c n env A σ loc hp s C I hb
  rw [x_call] at hb ⊢
  rw [call_eq]
  obtain ⟨a, o, fd, hm2, ho, _, hd, hcall⟩ := C.f f hf
  have hm : P.mg f = some (.ref a) := by
    unfold Par.fn at hm2
    rw [← C.meths, hm] at hm2
    exact hm2
  refine wpAny_bind (load_glob C I hg hm (Calls.callWith_function (o := o) (fd := fd) (evalArgs_es (plain_es hc env pos) (seqVs (G := fun R vs s₁ => (s₁.heap.get? a = some o ∧ o.data = .func fd) ∧ wpAny (model P.prog P.w) A (call (.ref a) ([] ++ vs) []) (QV P σ s R) NE s₁) (.refl I.st) (h c n env A σ loc hp s pos C I (bind_ok hb)) hb ?_))))
  intro avs hp₁ σ₁ vs s₁ a₁ _ rv hb
  refine ⟨⟨a₁.st.base a o ho, hd⟩, ?_⟩
  exact wpAny_mono (hcall avs vs σ₁ hp₁ s₁ A a₁.st rv I.ar.toArndC hb) (fun _ _ q => q.lift a₁) (fun _ _ q => q)

/-- a built-in function or class -/
noncomputable def Prim (P : Par) (v : Value) (r : List AV → AHeap → Res AV) : Prop :=
  ∀ n A σ hp s avs vs, P.Ok → Arnd n A → St P.w P.B σ hp s.heap → RVs P.B s.heap σ avs vs → r avs hp ≠ .bad → wpAny (model P.prog P.w) A (call v vs) (QV P σ s (r avs hp)) NE s
theorem sim_fn {f : Str} {id : String} {r : List AV → AHeap → Res AV} {es : List Expr} {xs : Xs} {x : X} {p pos : Pos} {k : Nat} (hx : ∀ c l h, evalX c x l h = (evalXs c xs l h).bind r) (hv : (f, Value.builtin id) ∈ bltPairs) (H : Prim P (.builtin id) r)
    (hg : cx.isGlob f = true) (hc : compEs (compE k cx) es = some xs) (h : SimEs P cx es xs) : SimE P cx (.Call (.Name f p) es [] pos) x := by
  intro c n env A σ loc hp s C I hb
  rw [hx] at hb ⊢
  rw [call_eq]
  refine wpAny_bind (load_blt C I hg hv (Calls.callWith_builtin (plain_es hc env pos) (evalArgs_es (plain_es hc env pos) (seqVs (G := fun R vs s₁ => wpAny (model P.prog P.w) A (call (.builtin id) ([] ++ vs) []) (QV P σ s R) NE s₁) (.refl I.st) (h c n env A σ loc hp s pos C I (bind_ok hb)) hb ?_))))
  intro avs hp₁ σ₁ vs s₁ a₁ _ rv hb
  exact wpAny_mono (H n A σ₁ hp₁ s₁ avs vs C.ok I.ar a₁.st rv hb) (fun _ _ q => q.lift a₁) (fun _ _ q => q)
theorem sim_ty {f : Str} {id : String} {r : List AV → AHeap → Res AV} {es : List Expr} {xs : Xs} {x : X} {p pos : Pos} {k : Nat} (hx : ∀ c l h, evalX c x l h = (evalXs c xs l h).bind r) (hv : (f, Value.type id) ∈ bltPairs) (H : Prim P (.type id) r)
    (hg : cx.isGlob f = true) (hc : compEs (compE k cx) es = some xs) (h : SimEs P cx es xs) : SimE P cx (.Call (.Name f p) es [] pos) x := by
  intro c n env A σ loc hp s C I hb
  rw [hx] at hb ⊢
  rw [call_eq]
  refine wpAny_bind (load_blt C I hg hv (PySem.callWith_type (plain_es hc env pos) (evalArgs_es (plain_es hc env pos) (seqVs (G := fun R vs s₁ => wpAny (model P.prog P.w) A (call (.type id) ([] ++ vs) []) (QV P σ s R) NE s₁) (.refl I.st) (h c n env A σ loc hp s pos C I (bind_ok hb)) hb ?_))))
  intro avs hp₁ σ₁ vs s₁ a₁ _ rv hb
  exact wpAny_mono (H n A σ₁ hp₁ s₁ avs vs C.ok I.ar a₁.st rv hb) (fun _ _ q => q.lift a₁) (fun _ _ q => q)

theorem bi_one {b : BI} {as : List AV} {h : AHeap} (hb : biAV b as h ≠ .bad) : ∃ a, as = [a] := by
  unfold biAV at hb
  split at hb
  · exact ⟨_, rfl⟩
  · exact absurd rfl hb
theorem prim_len : Prim P (.builtin "len") (biAV .len) := fun n A σ hp s avs vs ok ar S rv hb => by
  obtain ⟨a, rfl⟩ := bi_one hb
  obtain ⟨v, rfl, rv1⟩ := rv.one
  exact len_prim ok S rv1 hb
theorem loc_of {b : BI} {a : AV} {h : AHeap} (hne : b = .list ∨ b = .sorted) (hb : biAV b [a] h ≠ .bad) : ∃ n, a = .loc n := by
  rcases hne with rfl | rfl <;> cases a <;> first | exact ⟨_, rfl⟩ | exact absurd rfl hb
theorem prim_list : Prim P (.type "list") (biAV .list) := fun n A σ hp s avs vs ok ar S rv hb => by
  obtain ⟨a, rfl⟩ := bi_one hb
  obtain ⟨j, rfl⟩ := loc_of (.inl rfl) hb
  obtain ⟨v, rfl, rv1⟩ := rv.one
  have hb : newListO (walkOf hp j) hp ≠ .bad := hb
  show wpAny _ _ _ (QV P σ s (newListO (walkOf hp j) hp)) _ _
  obtain ⟨xs, hx, hb⟩ := newListO_is hb
  rw [hx]
  exact list_call ok S ar.handled rv1 hx hb
theorem prim_sorted : Prim P (.builtin "sorted") (biAV .sorted) := fun n A σ hp s avs vs ok ar S rv hb => by
  obtain ⟨a, rfl⟩ := bi_one hb
  obtain ⟨j, rfl⟩ := loc_of (.inr rfl) hb
  obtain ⟨v, rfl, rv1⟩ := rv.one
  have hb : newListO (((walkOf hp j).bind pairsOf).bind sortP) hp ≠ .bad := hb
  show wpAny _ _ _ (QV P σ s (newListO (((walkOf hp j).bind pairsOf).bind sortP) hp)) _ _
  obtain ⟨xs, hx, hb⟩ := newListO_is hb
  rw [hx]
  obtain ⟨ps, hp1, hp2⟩ := Option.bind_eq_some_iff.mp hx
  exact sorted_call ok S ar.handled rv1 hp1 hp2 hb
theorem prim_range : Prim P (.type "range") (fun vs h => okO (rangeOf vs) h) := fun n A σ hp s avs vs ok ar S rv hb => by
  obtain ⟨r, hr⟩ := okO_is hb
  show wpAny _ _ _ (QV P σ s (okO (rangeOf avs) hp)) _ _
  rw [hr]
  exact range_prim S ok ar rv hr

/-- isinstance against a built-in class -/
theorem sim_isi {e : Expr} {x : X} {t : Ty} {T : Str} {p q pos : Pos} (hg : cx.isGlob "isinstance" = true) (hgT : cx.isGlob T = true) (hT : (T, Value.type (tyName t)) ∈ bltPairs) (hs : ∀ env rest, starEach (e :: rest) env = (false, eval e env) :: starEach rest env) (h : SimE P cx e x) :
    SimE P cx (.Call (.Name "isinstance" p) [e, .Name T q] [] pos) (.isi x t) := by
  intro c n env A σ loc hp s C I hb
  rw [x_isi] at hb ⊢
  rw [call_eq]
  have hplain : (backTo pos (starEach [e, .Name T q] env)).any (·.1) = false := by
    rw [hs]; rfl
  refine wpAny_bind (load_blt C I hg blt_isi (Calls.callWith_builtin hplain (evalArgs_es hplain ?_)))
  refine wpAny_items_cons (seqV (G := fun R v s₁ => wpAny (model P.prog P.w) A (spliced (backTo pos (starEach [.Name T q] env))) (fun vs s₂ => wpAny (model P.prog P.w) A (call (.builtin "isinstance") ([] ++ (v :: vs)) []) (QV P σ s R) NE s₂) NE s₁) (.refl I.st) (h c n env A σ loc hp s C I (bind_ok hb)) hb ?_) (hs env _)
  intro av hp₁ σ₁ v s₁ a₁ _ rv hb
  refine wpAny_items_cons (load_blt C (I.after a₁) hgT hT (wpAny_items_nil ?_))
  obtain ⟨r, hr⟩ := boolO_is hb
  rw [hr]
  refine wpAny_mono (isi_prim a₁.st rv hr) (fun w s₂ qb => ?_) (fun _ _ q => q)
  obtain ⟨b, rfl, e2, a₂⟩ := qb
  cases e2
  exact ⟨_, _, _, rfl, a₁.trans a₂, rfl⟩

theorem Arnd.make {n : Nat} {A : Around} (ar : Arnd n A) (C : Addr) (vs : List Value) : ArndC n (A.under (.builtin "type.__call__" ⟨.ref C :: vs, []⟩)) := by
  obtain ⟨f, outer, hf, _⟩ := ar.frame
  refine ⟨⟨f :: outer, hf⟩, ?_, ?_, ar.handled⟩
  · have := ar.depth1
    rw [depth_under_make]; omega
  · have := ar.units1
    rw [units_under_make]; omega

theorem initOk_is {n : Nat} {r : AV} {h : AHeap} (hb : initOk n r h ≠ .bad) : r = .none ∧ initOk n r h = .ok (.loc n) h := by
  have h1 : isNoneAV r = true := pos_if hb
  refine ⟨?_, if_pos h1⟩
  cases r <;> first | rfl | exact absurd h1 Bool.false_ne_true
/-- an instance is made -/
theorem new_prim {c : Ctx} {n : Nat} {A : Around} {σ : Sg} {hp : AHeap} {s : Shared} (C : Sims P cx c n) (S : St P.w P.B σ hp s.heap) (ar : Arnd n A) {avs : List AV} {vs : List Value} (rv : RVs P.B s.heap σ avs vs)
    (hb : ((c.F "__init__" (.loc (hp.length + 1) :: avs) (made hp)).bind fun r h' => initOk (hp.length + 1) r h') ≠ .bad) :
    wpAny (model P.prog P.w) A (call (.ref P.B.C) vs) (QV P σ s ((c.F "__init__" (.loc (hp.length + 1) :: avs) (made hp)).bind fun r h' => initOk (hp.length + 1) r h')) NE s := by
  obtain ⟨fI, oI, fd, hm, ho, hfc, hd, hcall⟩ := C.f "__init__" C.init
  have hi : P.mN "__init__" = some (.ref fI) := by
    unfold Par.fn at hm
    rw [C.ok.init] at hm
    exact hm
  obtain ⟨nm, q, bs, sn, sub, col, dd, k0, k1, k2, k3, k5, hC⟩ := (C.ok.cls.keeps S.base).obj
  have ho' := S.base _ _ ho
  have hns := (C.ok.cls.keeps S.base).ns
  obtain ⟨hh, g, d, t, os⟩ := s
  refine wpAny_call_obj_init PySem.F.objNew hC hns hi ho' (hfc C.ok.init) fun h' x dx M => ?_
  obtain ⟨S', g'⟩ := St.made (s := ⟨hh, g, d, t, os⟩) S M
  have hx : (σ ++ [(dx, 0)] ++ [(x, dx)])[hp.length + 1]? = some (x, dx) := by
    have e : hp.length + 1 = (σ ++ [(dx, 0)]).length := by rw [List.length_append, S.len]; rfl
    rw [e]; exact List.getElem?_concat_length
  refine wpAny_mono (hcall (.loc (hp.length + 1) :: avs) (.ref x :: vs) _ (made hp) ⟨h', g, d, t, os⟩ _ S' ⟨⟨x, dx, rfl, hx⟩, RVs.grows g' _ _ rv⟩ (ar.make P.B.C vs) (bind_ok hb)) (fun r s' qv => ?_) fun _ _ q => q
  obtain ⟨av, hp₃, σ₃, e, a₃, rr⟩ := qv
  rw [e, bok] at hb ⊢
  obtain ⟨rfl, e2⟩ := initOk_is hb
  rw [e2]
  exact ⟨rr, _, _, _, rfl, (After.mk (s := ⟨hh, g, d, t, os⟩) (s' := ⟨h', g, d, t, os⟩) rfl S' g').trans a₃, x, dx, rfl, a₃.gr.look hx⟩
theorem sim_new {e : Expr} {es : List Expr} {xs : Xs} {p pos : Pos} {k : Nat} (hg : cx.isGlob cx.cls = true) (hs : ∀ env rest, starEach (e :: rest) env = (false, eval e env) :: starEach rest env) (hc : compEs (compE k cx) (e :: es) = some xs) (h : SimEs P cx (e :: es) xs) :
    SimE P cx (.Call (.Name cx.cls p) (e :: es) [] pos) (.new xs) := by
  intro c n env A σ loc hp s C I hb
  rw [x_new] at hb ⊢
  rw [call_eq]
  have hpl := plain_es hc env pos
  rw [hs env es] at hpl
  refine wpAny_bind (load_glob C I hg C.cls (callWith_cls C.ok.cls ?_ (hs env es) (Bool.or_eq_false_iff.mp hpl).2))
  refine seqVs (G := fun R vs s₁ => (∀ b o, P.B.h₀.get? b = some o → s₁.heap.get? b = some o) ∧ wpAny (model P.prog P.w) A (call (.ref P.B.C) vs) (QV P σ s R) NE s₁) (.refl I.st) (h c n env A σ loc hp s pos C I (bind_ok hb)) hb ?_
  intro avs hp₁ σ₁ vs s₁ a₁ _ rv hb
  exact ⟨a₁.st.base, wpAny_mono (new_prim C a₁.st I.ar rv hb) (fun _ _ q => q.lift a₁) (fun _ _ q => q)⟩
end
end Mine

namespace Mine
open PySem PySem.Spec PyProof.Rows PySem.SeqAt

theorem base_plain {o : Expr} (h : notSuper o = true) (attr : Str) (env : Env) (whole : Sem Value) : attributeBase o attr env whole = whole := by
  cases o
  case Name => rfl
  case Subscript => rfl
  case Attribute => rfl
  case Call f _ _ _ => cases f <;> first | rfl | exact absurd h Bool.false_ne_true
  all_goals exact absurd h Bool.false_ne_true

section
variable {P : Par} {cx : Cx}

theorem few_es {es : List Expr} {xs : Xs} {k : Nat} (hc : compEs (compE k cx) es = some xs) (hl : es.length < 20) (env : Env) (pos : Pos) : ((backTo pos (starEach es env)).all (fun x => !x.1) && (backToKw pos (keywordEach [] env)).all (fun x => x.1.isSome)
      && decide (es.length + ([] : List Keyword).length + (if ([] : List Keyword).isEmpty then 0 else 1) < 30)) = true := by
  have h1 := plain_es hc env pos
  have h2 : (backTo pos (starEach es env)).all (fun x => !x.1) = true := by
    rw [List.all_eq_true]
    intro x hx
    have := List.any_eq_false.mp h1 x hx
    simpa using this
  rw [h2]
  exact decide_eq_true (show es.length + 0 + 0 < 30 from Nat.lt_trans hl (by decide))

theorem meth_gen {n : Nat} {env : Env} {A : Around} {σ : Sg} {loc : Locs} {hp : AHeap} {s : Shared} (I : Inv P cx n env A σ loc hp s) {o : Expr} {es : List Expr} {xs : Xs} {k : Nat} {name : Str} {ap pos : Pos} {T id : String}
    (pa : PlainAttrs T) (slot : Slot T name id) (hty : typeOf (.builtin id) = pure (.type "method_descriptor")) (hns : notSuper o = true) (hc : compEs (compE k cx) es = some xs) (hl : es.length < 20) (hline : (ap.endLine == pos.line) = true)
    {r : Res AV} {f : AV → AHeap → Res AV} (ho : wpAny (model P.prog P.w) A (eval o env) (QV P σ s r) NE s) (hb : r.bind f ≠ .bad)
    (hk : ∀ av hp' σ' v s', r = .ok av hp' → After P σ σ' [] hp' s s' → RV P.B s'.heap σ' av v → f av hp' ≠ .bad →
      s'.TypeIs v T ∧ (∀ a, v = .ref a → ∃ ob, s'.heap.get? a = some ob ∧ ob.dict = none) ∧
      wpAny (model P.prog P.w) A (evalArgs (.builtin id) true (backTo pos (starEach es env)) []) (fun a s₁ => wpAny (model P.prog P.w) A (call (.builtin id) ([v] ++ a.pos) a.kw) (QV P σ s (f av hp')) NE s₁) NE s') :
    wpAny (model P.prog P.w) A (eval (.Call (.Attribute o name ap) es [] pos) env) (QV P σ s (r.bind f)) NE s := by
  refine wpAny_Call_method (base_plain hns _ _ _) (few_es hc hl env pos) hline pa slot hty (wpAny_mono ho (fun v s' ⟨av, hp', σ', e, a, rv⟩ => ?_) fun _ _ q => q)
  subst e
  obtain ⟨h1, h2, h3⟩ := hk av hp' σ' v s' rfl a rv hb
  exact ⟨h1, h2, Calls.callWith_builtin (plain_es hc env pos) h3⟩

theorem append_is {j : Nat} {as : List AV} {h : AHeap} (hb : appendAV (.loc j) as h ≠ .bad) : ∃ x xs, as = [x] ∧ h[j]? = some (.list xs) ∧ xs.length < sizeLim ∧ appendAV (.loc j) as h = .ok .none (h.set j (.list (xs ++ [x]))) := by
  unfold appendAV at hb ⊢
  dsimp only at hb ⊢
  split at hb
  · split at hb
    · rename_i x xs hx
      have hsz := lim_if hb
      exact ⟨_, _, rfl, listAt_is hx, hsz, if_pos hsz⟩
    · exact absurd rfl hb
  · exact absurd rfl hb

/-- a method of a built-in thing: the thing, then what it is handed -/
theorem sim_bm {T id : String} {name : Str} {m : BM} (pa : PlainAttrs T) (slot : Slot T name id) (hty : typeOf (.builtin id) = pure (.type "method_descriptor"))
    (hT : ∀ {σ : Sg} {hp : AHeap} {s : Shared} {av : AV} {v : Value}, St P.w P.B σ hp s.heap → RV P.B s.heap σ av v → bmOk m av hp = true → s.TypeIs v T ∧ ∀ a, v = .ref a → ∃ ob, s.heap.get? a = some ob ∧ ob.dict = none)
    (H : ∀ {n : Nat} {A : Around} {σ : Sg} {hp : AHeap} {s : Shared} {av : AV} {v : Value} {avs : List AV} {vs : List Value}, P.Ok → Arnd n A → St P.w P.B σ hp s.heap → RV P.B s.heap σ av v → RVs P.B s.heap σ avs vs → bmAV m av avs hp ≠ .bad → wpAny (model P.prog P.w) A (call (.builtin id) (v :: vs)) (QV P σ s (bmAV m av avs hp)) NE s)
    {o : Expr} {es : List Expr} {xo : X} {xs : Xs} {ap pos : Pos} {k : Nat} (hns : notSuper o = true) (hc : compEs (compE k cx) es = some xs) (hl : es.length < 20) (hline : (ap.endLine == pos.line) = true) (ho : SimE P cx o xo) (hes : SimEs P cx es xs) :
    SimE P cx (.Call (.Attribute o name ap) es [] pos) (.bm m xo xs) := by
  intro c n env A σ loc hp s C I hb
  rw [x_bm] at hb ⊢
  refine meth_gen I pa slot hty hns hc hl hline (ho c n env A σ loc hp s C I (bind_ok hb)) hb ?_
  intro av hp₁ σ₁ v s₁ hr a₁ rv hb
  have hk := lim_if hb
  rw [if_pos hk] at hb ⊢
  obtain ⟨h1, h2⟩ := hT a₁.st rv hk
  refine ⟨h1, h2, ?_⟩
  refine evalArgs_es (plain_es hc env pos) (seqVs (G := fun R vs s₂ => wpAny (model P.prog P.w) A (call (.builtin id) ([v] ++ vs) []) (QV P σ s R) NE s₂) a₁ (hes c n env A σ₁ loc hp₁ s₁ pos C (I.after a₁) (bind_ok hb)) hb ?_)
  intro avs hp₂ σ₂ vs s₂ a₂ a₁₂ rvs hb
  exact wpAny_mono (H C.ok I.ar a₂.st (RV.grows a₁₂.gr _ _ rv) rvs hb) (fun _ _ q => q.lift a₂) (fun _ _ q => q)

theorem bm_append {n : Nat} {A : Around} {σ : Sg} {hp : AHeap} {s : Shared} {av : AV} {v : Value} {avs : List AV} {vs : List Value} (ok : P.Ok) (ar : Arnd n A) (S : St P.w P.B σ hp s.heap) (rv : RV P.B s.heap σ av v) (rvs : RVs P.B s.heap σ avs vs) (hb : bmAV .append av avs hp ≠ .bad) :
    wpAny (model P.prog P.w) A (call (.builtin "list.append") (v :: vs)) (QV P σ s (bmAV .append av avs hp)) NE s := by
  cases av
  case loc j =>
    obtain ⟨a, off, rfl, e1⟩ := rv
    obtain ⟨x, zs, rfl, hj, hsz, er⟩ := append_is hb
    rw [show bmAV .append (.loc j) [x] hp = _ from er]
    obtain ⟨u, rfl, ru⟩ := rvs.one
    obtain ⟨us, m', h1, h2, h3⟩ := append_prim S hj e1 hsz ru
    exact call_meets F.slot_list_append ⟨_, h2, rfl⟩ F.entry_list_append (F.args_list_append_2 _ _) (list_append a us m' u h1) ⟨h2, _, _, _, rfl, h3, rfl⟩
  all_goals exact absurd rfl hb
theorem bm_get {n : Nat} {A : Around} {σ : Sg} {hp : AHeap} {s : Shared} {av : AV} {v : Value} {avs : List AV} {vs : List Value} (ok : P.Ok) (ar : Arnd n A) (S : St P.w P.B σ hp s.heap) (rv : RV P.B s.heap σ av v) (rvs : RVs P.B s.heap σ avs vs) (hb : bmAV .get av avs hp ≠ .bad) :
    wpAny (model P.prog P.w) A (call (.builtin "dict.get") (v :: vs)) (QV P σ s (bmAV .get av avs hp)) NE s := by
  cases av
  case loc j =>
    obtain ⟨a, off, rfl, e1⟩ := rv
    cases avs with
    | nil => exact absurd rfl hb
    | cons x r =>
      cases r with
      | cons _ _ => exact absurd rfl hb
      | nil =>
        obtain ⟨u, rfl, ru⟩ := rvs.one
        change getAV (.loc j) [x] hp ≠ .bad at hb
        show wpAny _ _ _ (QV P σ s (getAV (.loc j) [x] hp)) _ _
        delta getAV at hb ⊢
        dsimp only at hb ⊢
        cases hd : dictAt hp j with
        | none => rw [hd] at hb; exact absurd rfl hb
        | some d =>
          rw [hd] at hb
          obtain ⟨y, hy, e⟩ := okO_eq (show okO (getD d.1 x.key?) hp ≠ .bad from hb)
          show wpAny _ _ _ (QV P σ s (okO (getD d.1 x.key?) hp)) _ _
          rw [e]
          exact get_call ok S (by have := ar.units; omega) hd e1 ru hy
  all_goals exact absurd rfl hb
theorem bm_index {n : Nat} {A : Around} {σ : Sg} {hp : AHeap} {s : Shared} {av : AV} {v : Value} {avs : List AV} {vs : List Value} (ok : P.Ok) (ar : Arnd n A) (S : St P.w P.B σ hp s.heap) (rv : RV P.B s.heap σ av v) (rvs : RVs P.B s.heap σ avs vs) (hb : bmAV .index av avs hp ≠ .bad) :
    wpAny (model P.prog P.w) A (call (.builtin "str.index") (v :: vs)) (QV P σ s (bmAV .index av avs hp)) NE s := by
  cases av
  case str x =>
    obtain ⟨t, rfl⟩ := rv
    cases avs with
    | nil => exact absurd rfl hb
    | cons y r =>
      cases r with
      | cons _ _ => exact absurd rfl hb
      | nil =>
        obtain ⟨u, rfl, ru⟩ := rvs.one
        obtain ⟨z, hz, e⟩ := okO_eq (show okO (((chrOf y).bind fun c => x.findIdx? (· == c)).map fun (i : Nat) => AV.int (i : Int)) hp ≠ .bad from hb)
        rw [show bmAV .index (.str x) [y] hp = .ok z hp from e]
        obtain ⟨i, hi1, rfl⟩ := Option.map_eq_some_iff.mp hz
        obtain ⟨c, hc, hi⟩ := Option.bind_eq_some_iff.mp hi1
        rw [chrOf_is hc] at ru
        obtain ⟨t', rfl⟩ := ru
        obtain ⟨rest, hocc⟩ := occ_idx hi
        exact SC.index hocc ⟨_, _, _, rfl, .tok S _, _, rfl⟩
  all_goals exact absurd rfl hb
theorem bmT_append {σ : Sg} {hp : AHeap} {s : Shared} {av : AV} {v : Value} (S : St P.w P.B σ hp s.heap) (rv : RV P.B s.heap σ av v) (h : bmOk .append av hp = true) : s.TypeIs v "list" ∧ ∀ a, v = .ref a → ∃ ob, s.heap.get? a = some ob ∧ ob.dict = none := by
  cases av
  case loc j =>
    obtain ⟨a, off, rfl, e1⟩ := rv
    obtain ⟨xs, hx⟩ := Option.isSome_iff_exists.mp h
    obtain ⟨ws, m, hL, _⟩ := S.isL (listAt_is hx) e1
    exact ⟨⟨_, hL, rfl⟩, fun b e => by cases e; exact ⟨_, hL, rfl⟩⟩
  all_goals exact absurd h Bool.false_ne_true
theorem bmT_get {σ : Sg} {hp : AHeap} {s : Shared} {av : AV} {v : Value} (S : St P.w P.B σ hp s.heap) (rv : RV P.B s.heap σ av v) (h : bmOk .get av hp = true) : s.TypeIs v "dict" ∧ ∀ a, v = .ref a → ∃ ob, s.heap.get? a = some ob ∧ ob.dict = none := by
  cases av
  case loc j =>
    obtain ⟨a, off, rfl, e1⟩ := rv
    obtain ⟨d, hx⟩ := Option.isSome_iff_exists.mp h
    obtain ⟨es, hL, _⟩ := S.isDict (dictAt_is hx) e1
    exact ⟨⟨_, hL, rfl⟩, fun b e => by cases e; exact ⟨_, hL, rfl⟩⟩
  all_goals exact absurd h Bool.false_ne_true
theorem bmT_index {σ : Sg} {hp : AHeap} {s : Shared} {av : AV} {v : Value} (S : St P.w P.B σ hp s.heap) (rv : RV P.B s.heap σ av v) (h : bmOk .index av hp = true) : s.TypeIs v "str" ∧ ∀ a, v = .ref a → ∃ ob, s.heap.get? a = some ob ∧ ob.dict = none := by
  cases av
  case str x => obtain ⟨t, rfl⟩ := rv; exact ⟨rfl, fun b e => nomatch e⟩
  all_goals exact absurd h Bool.false_ne_true

theorem sim_attr {o : Expr} {xo : X} {a : Str} {pos : Pos} (ha : cx.attrs.contains a = true) (hns : notSuper o = true) (ho : SimE P cx o xo) : SimE P cx (.Attribute o a pos) (.attr a xo) := by
  intro c n env A σ loc hp s C I hb
  rw [x_attr] at hb ⊢
  have he : eval (.Attribute o a pos) env = (do
      let o' ← eval o env
      standAt pos.atName
      let r ← holding [o'] (getAttr o' a true)
      letTemporaryGo o o' r
      pure r) := by rw [arm_eval_Attribute, base_plain hns]
  refine Attribute_any_ (seqV (G := fun R v s₁ => wpAny (model P.prog P.w) A (getAttr v a true) (QV P σ s R) NE s₁) (.refl I.st) (ho c n env A σ loc hp s C I (bind_ok hb)) hb ?_) he
  intro av hp₁ σ₁ v s₁ a₁ _ rv hb
  exact wpAny_mono (attr_prim C.ok a₁.st (C.attrs ▸ ha) rv hb) (fun _ _ q => q.lift a₁) (fun _ _ q => q)

theorem hasMeth_is {m : Str} {v : AV} {h : AHeap} (hb : hasMeth m v h = true) : ∃ j fs, v = .loc j ∧ instAt h j = some fs ∧ fs.lookup m = none := by
  cases v
  case loc j =>
    delta hasMeth at hb
    dsimp only at hb
    cases hi : instAt h j with
    | none => rw [hi] at hb; exact absurd hb Bool.false_ne_true
    | some fs => rw [hi] at hb; exact ⟨j, fs, rfl, hi, Option.isNone_iff_eq_none.mp hb⟩
  all_goals exact absurd hb Bool.false_ne_true
/-- a method of the class's own -/
theorem sim_im {o : Expr} {es : List Expr} {xo : X} {xs : Xs} {m : Str} {ap pos : Pos} {k : Nat} (hf : cx.funs.contains m = true) (hm : cx.meths.contains m = true) (hns : notSuper o = true) (hc : compEs (compE k cx) es = some xs) (hl : es.length < 20) (hline : (ap.endLine == pos.line) = true) (ho : SimE P cx o xo) (hes : SimEs P cx es xs) :
    SimE P cx (.Call (.Attribute o m ap) es [] pos) (.im m xo xs) := by
  intro c n env A σ loc hp s C I hb
  rw [x_im] at hb ⊢
  rw [arm_eval_Call, base_plain hns]
  obtain ⟨f, of, fd, hfn, hfo, hfc, hd, hcall⟩ := C.f m hf
  have hmN : P.mN m = some (.ref f) := by
    unfold Par.fn at hfn
    rw [← C.meths, hm] at hfn
    exact hfn
  refine wpAny_bind (seqV (G := fun R v s₁ => wpAny (model P.prog P.w) A (standAt ap.atName >>= fun _ => methodCall o m ap pos env v (es.length + ([] : List Keyword).length) (backTo pos (starEach es env)) (backToKw pos (keywordEach [] env))) (QV P σ s R) NE s₁) (.refl I.st) (ho c n env A σ loc hp s C I (bind_ok hb)) hb ?_)
  intro av hp₁ σ₁ v s₁ a₁ _ rv hb
  have hk := lim_if hb
  rw [if_pos hk] at hb ⊢
  obtain ⟨j, fs, rfl, hi, hno⟩ := hasMeth_is hk
  obtain ⟨x, off, rfl, e1⟩ := rv
  obtain ⟨q, hj, hq⟩ := instAt_is hi
  obtain ⟨mA, off', e2, Ins⟩ := inst_of a₁.st hj hq e1
  obtain ⟨nm, qq, bs, sn, sub, col, dd, k0, k1, k2, k3, k5, hC⟩ := (C.ok.cls.keeps a₁.st.base).obj
  obtain ⟨y, hy⟩ := C.ok.qm m (C.meths ▸ hm)
  refine wpAny_bind (wpAny_standAt ?_)
  have hform : methodCallForm (es.length + ([] : List Keyword).length) (backTo pos (starEach es env)) (backToKw pos (keywordEach [] env)) = true := few_es hc hl env pos
  have hpos : methodCallPos true o env ap pos = pure pos := by unfold methodCallPos; simp [hline]
  unfold methodCall
  rw [hform]
  refine wpAny_bind (wpAny_holding (method_of hC (C.ok.cls.keeps a₁.st.base).ns C.ok.q2 C.ok.q3 hmN (a₁.st.base _ _ hfo) (hfc (C.meths ▸ hm)) hy Ins.inst (Ins.ns.non m hno) ?_))
  refine wpAny_bind (wpAny_of_eq hpos ?_)
  refine Calls.callWith_function (o := of) (fd := fd) (evalArgs_es (plain_es hc env pos) (seqVs (G := fun R vs s₂ => (s₂.heap.get? f = some of ∧ of.data = .func fd) ∧ wpAny (model P.prog P.w) A (call (.ref f) ([Value.ref x] ++ vs) []) (QV P σ s R) NE s₂) a₁ (hes c n env A σ₁ loc hp₁ s₁ pos C (I.after a₁) (bind_ok hb)) hb ?_))
  intro avs hp₂ σ₂ vs s₂ a₂ a₁₂ rvs hb
  refine ⟨⟨a₂.st.base _ _ hfo, hd⟩, ?_⟩
  exact wpAny_mono (hcall (.loc j :: avs) (.ref x :: vs) σ₂ hp₂ s₂ A a₂.st ⟨⟨x, off, rfl, a₁₂.gr.look e1⟩, rvs⟩ I.ar.toArndC hb) (fun _ _ q => q.lift a₂) (fun _ _ q => q)
end
end Mine

namespace Mine
open PySem PySem.Spec PyProof.Rows PySem.SeqAt

section
variable {P : Par} {cx : Cx}

theorem sim_dict0 {pos : Pos} : SimE P cx (.Dict [] [] pos) .dict0 := by
  intro c n env A σ loc hp s C I hb
  rw [x_dict0]
  refine wpAny_Dict_empty ?_
  obtain ⟨S', g⟩ := I.st.alloc (X := []) { cls := .type "dict", data := .dict #[] } 0 (.dict [] 0) fun g => ⟨#[], Heap.get?_push_size _ rfl, trivial, List.Pairwise.nil, (fun p hp => nomatch hp), Nat.zero_le _⟩
  refine ⟨_, _, _, rfl, ⟨rfl, S', g⟩, _, 0, rfl, ?_⟩
  rw [← I.st.len]; exact List.getElem?_concat_length

end
end Mine

namespace Mine
open PySem PySem.Spec PyProof.Rows PySem.SeqAt

noncomputable def FX (env : Env) : List Addr := env.locals :: env.cells.map (·.2)

noncomputable def RF (B : Bs) (h : Heap) (σ : Sg) : Flow → PySem.Flow → Prop
  | .next, f => f = .next
  | .ret av, f => ∃ v, f = .ret v ∧ RV B h σ av v

inductive QS (P : Par) (env : Env) (cx : Cx) (σ : Sg) (s : Shared) (r : SR) (f : PySem.Flow) (s' : Shared) : Prop
  | mk (fl : Flow) (l' : Locs) (hp' : AHeap) (σ' : Sg) (e : r = .ok fl l' hp') (a : After P σ σ' (FX env) hp' s s') (rf : RF P.B s'.heap σ' fl f) (fr : Frm P s'.heap σ' env cx l')

section
variable {P : Par} {cx : Cx} {env : Env} {A : Around} {E : Value → Shared → Prop} {σ : Sg} {l : Locs} {hp : AHeap} {s : Shared}

theorem Frm.nsObj (f : Frm P s.heap σ env cx l) : ∃ o es ep, s.heap.get? env.locals = some o ∧ o.data = .dict es ep := by
  obtain ⟨m, ⟨o, es, ep, ho, hd, _⟩, _⟩ := f.names
  exact ⟨o, es, ep, ho, hd⟩
theorem Frm.cell_ne (f : Frm P s.heap σ env cx l) {p : Str × Addr} (hp : p ∈ env.cells) : p.2 ≠ env.locals := fun e => by
  obtain ⟨o, v, ho, hd⟩ := f.cells p hp
  obtain ⟨o', es, ep, ho', hd'⟩ := f.nsObj
  rw [e, ho'] at ho
  cases ho
  rw [hd'] at hd
  cases hd

theorem slot_len (f : Frm P s.heap σ env cx l) {x : Str} {i : Nat} (hx : cx.slot x = some i) : i < l.length := by rw [f.len]; exact f.lt x i hx

theorem slotW_slot {cx : Cx} {x : Str} {i : Nat} (h : cx.slotW x = some i) : cx.slot x = some i := by
  unfold Cx.slotW at h
  split at h
  · exact h
  · exact h
  · cases h

/-- a local name is bound -/
theorem store_in {X : List Addr} (S : St P.w P.B σ hp s.heap) (f : Frm P s.heap σ env cx l) {x : Str} {i : Nat} {av : AV} {v : Value} (hw : cx.slotW x = some i) (rv : RV P.B s.heap σ av v) (hL : env.kindOf x = some .local → env.locals ∈ X) (hC : env.kindOf x ≠ some .local → ∀ p ∈ env.cells, p.2 ∈ X) {Q : Unit → Shared → Prop}
    (h : ∀ s', After P σ σ X hp s s' → Frm P s'.heap σ env cx (l.set i (some av)) → RV P.B s'.heap σ av v → Q () s') : wpAny (model P.prog P.w) A (storeName env x v) Q E s := by
  obtain ⟨m, hn, hm⟩ := f.names
  have hx := slotW_slot hw
  have hfree := f.wr x i hw
  have hil := slot_len f hx
  have hget : ∀ y j, cx.slot y = some j → y ≠ x → (l.set i (some av))[j]? = l[j]? := fun y j hy hne => by
    rw [List.getElem?_set_ne]
    intro e; subst e; exact hne (f.inj y x i hy hx)
  rcases hm x i hx with ⟨hk, _⟩ | ⟨hk, c, ov, hc, hi, _⟩
  · refine wpAny_storeName_local hk hn (fun h' hn' hs => ?_) (by rw [f.kind]; rfl)
    obtain ⟨o, es, ep, ho, hd⟩ := f.nsObj
    obtain ⟨o₁, _, _, ho₁, _⟩ := id hn'
    obtain ⟨S', g⟩ := S.sameBut (X := X) hs (fun o' ho' => by rw [ho] at ho'; cases ho'; unfold fixed; rw [hd]; simp) f.out.1 f.new.1 (hL hk) ho₁
    have hcell : ∀ p ∈ env.cells, h'.get? p.2 = s.heap.get? p.2 := fun p hp => hs.2 p.2 (f.cell_ne hp)
    refine h { s with heap := h', toks := s.toks + 1 } ⟨rfl, S', g⟩ ⟨f.kind, by rw [List.length_set]; exact f.len, f.inj, f.lt, f.glob, f.wr, ⟨_, hn', fun y j hy => ?_⟩, f.out, f.new, f.globals, f.builtins, fun p hp => ?_, f.apart, f.kinds⟩ (RV.grows g _ _ rv)
    · by_cases hyx : y = x
      · subst hyx
        rw [hx] at hy; cases hy
        refine .inl ⟨hk, fun av' e => ?_⟩
        rw [List.getElem?_set_self hil] at e
        cases e
        exact ⟨v, by simp, RV.grows g _ _ rv⟩
      · rw [hget y j hy hyx]
        rcases hm y j hy with ⟨hk', hv⟩ | ⟨hk', c, ov, hc, hi, hv⟩
        · exact .inl ⟨hk', fun av' e => let ⟨u, h1, h2⟩ := hv av' e; ⟨u, by rw [if_neg hyx]; exact h1, RV.grows g _ _ h2⟩⟩
        · obtain ⟨oc, hoc, hdc⟩ := hi
          exact .inr ⟨hk', c, ov, hc, ⟨oc, (hcell (y, c) (mem_of_lookup' hc)).trans hoc, hdc⟩, fun av' e => let ⟨u, h1, h2⟩ := hv av' e; ⟨u, h1, RV.grows g _ _ h2⟩⟩
    · obtain ⟨oc, vc, hoc, hdc⟩ := f.cells p hp
      exact ⟨oc, vc, (hcell p hp).trans hoc, hdc⟩
  · rcases hk with hk | hk
    · refine wpAny_storeName_cell f.kind hk hc hi fun h' hi' hs => ?_
      have hmem := mem_of_lookup' hc
      obtain ⟨oc, hoc, hdc⟩ := hi
      obtain ⟨o₁, ho₁, _⟩ := id hi'
      obtain ⟨S', g⟩ := S.sameBut (X := X) hs (fun o' ho' => by rw [hoc] at ho'; cases ho'; unfold fixed; rw [hdc]; simp) (f.out.2 _ hmem) (f.new.2 _ hmem) (hC (fun q => by rw [hk] at q; cases q) _ hmem) ho₁
      have hloc : h'.get? env.locals = s.heap.get? env.locals := hs.2 _ (Ne.symm (f.cell_ne hmem))
      obtain ⟨o, es, ep, ho, hd, hrest⟩ := hn
      refine h { s with heap := h' } ⟨rfl, S', g⟩ ⟨f.kind, by rw [List.length_set]; exact f.len, f.inj, f.lt, f.glob, f.wr, ⟨m, ⟨o, es, ep, hloc.trans ho, hd, hrest⟩, fun y j hy => ?_⟩, f.out, f.new, f.globals, f.builtins, fun p hp => ?_, f.apart, f.kinds⟩ (RV.grows g _ _ rv)
      · by_cases hyx : y = x
        · subst hyx
          rw [hx] at hy; cases hy
          refine .inr ⟨.inl hk, c, some v, hc, hi', fun av' e => ?_⟩
          rw [List.getElem?_set_self hil] at e
          cases e
          exact ⟨v, rfl, RV.grows g _ _ rv⟩
        · rw [hget y j hy hyx]
          rcases hm y j hy with ⟨hk', hv⟩ | ⟨hk', c', ov', hc', hi₂, hv⟩
          · exact .inl ⟨hk', fun av' e => let ⟨u, h1, h2⟩ := hv av' e; ⟨u, h1, RV.grows g _ _ h2⟩⟩
          · have hne : c' ≠ c := fun e => hyx (f.apart (y, c') (mem_of_lookup' hc') (x, c) hmem e)
            obtain ⟨oc', hoc', hdc'⟩ := hi₂
            exact .inr ⟨hk', c', ov', hc', ⟨oc', (hs.2 c' hne).trans hoc', hdc'⟩, fun av' e => let ⟨u, h1, h2⟩ := hv av' e; ⟨u, h1, RV.grows g _ _ h2⟩⟩
      · by_cases e : p.2 = c
        · obtain ⟨o', ho', hd'⟩ := hi'
          exact ⟨o', _, e ▸ ho', hd'⟩
        · obtain ⟨oc', vc, hoc', hdc'⟩ := f.cells p hp
          exact ⟨oc', vc, (hs.2 p.2 e).trans hoc', hdc'⟩
    · exact absurd hk hfree

theorem store_prim (S : St P.w P.B σ hp s.heap) (f : Frm P s.heap σ env cx l) {x : Str} {i : Nat} {av : AV} {v : Value} (hw : cx.slotW x = some i) (rv : RV P.B s.heap σ av v) {Q : Unit → Shared → Prop}
    (h : ∀ s', After P σ σ (FX env) hp s s' → Frm P s'.heap σ env cx (l.set i (some av)) → RV P.B s'.heap σ av v → Q () s') : wpAny (model P.prog P.w) A (storeName env x v) Q E s :=
  store_in S f hw rv (fun _ => List.mem_cons_self) (fun _ p hp => List.mem_cons_of_mem _ (List.mem_map_of_mem hp)) h
end
end Mine

namespace Mine
open PySem PySem.Spec PyProof.Rows PySem.SeqAt

inductive QT (P : Par) (σ : Sg) (s : Shared) (r : Res AV) (b : Bool) (s' : Shared) : Prop
  | mk (hp' : AHeap) (σ' : Sg) (e : r = .ok (.bool b) hp') (a : After P σ σ' [] hp' s s')
noncomputable def BoolR (r : Res AV) : Prop := ∀ av h, r = .ok av h → ∃ b, av = .bool b

noncomputable def SimT (P : Par) (cx : Cx) (e : Expr) (x : X) : Prop :=
  ∀ c n env A σ l hp s, Sims P cx c n → Inv P cx n env A σ l hp s → evalX c x l hp ≠ .bad → BoolR (evalX c x l hp) →
    wpAny (model P.prog P.w) A (isTrue e env (eval e env)) (QT P σ s (evalX c x l hp)) NE s
noncomputable def SimTs (P : Par) (cx : Cx) (op : BoolOp) (es : List Expr) (x : X) : Prop :=
  ∀ c n env A σ l hp s, Sims P cx c n → Inv P cx n env A σ l hp s → evalX c x l hp ≠ .bad → BoolR (evalX c x l hp) →
    wpAny (model P.prog P.w) A (allTrue op es env) (QT P σ s (evalX c x l hp)) NE s

section
variable {P : Par} {cx : Cx}

theorem QT.lift {σ σ' : Sg} {hp' : AHeap} {s s' : Shared} {r : Res AV} {v : Bool} {s'' : Shared} (a : After P σ σ' [] hp' s s') (q : QT P σ' s' r v s'') : QT P σ s r v s'' := by
  obtain ⟨hp, σ₂, e, b⟩ := q
  exact ⟨hp, σ₂, e, a.trans b⟩

theorem simT_val {e : Expr} {x : X} (hv : ∀ env whole, isTrue e env whole = (do let v ← whole; standAt e.pos; holding [v] (truthy v))) (h : SimE P cx e x) : SimT P cx e x := by
  intro c n env A σ l hp s C I hb hr
  refine wpAny_isTrue_value (wpAny_mono (h c n env A σ l hp s C I hb) (fun v s' ⟨av, hp', σ', e, a, rv⟩ => ?_) fun _ _ q => q) (hv env _)
  obtain ⟨b, rfl⟩ := hr av hp' e
  cases (show v = .bool b from rv)
  exact wpAny_truthy_bool ⟨hp', σ', e, a⟩

theorem boolR_bind {r : Res AV} {f : AV → AHeap → Res AV} (h : BoolR (r.bind f)) {av : AV} {hp : AHeap} (e : r = .ok av hp) : BoolR (f av hp) := by
  subst e; exact h

theorem simT_not {x : Expr} {xx : X} {pos : Pos} (hx : SimT P cx x xx) : SimT P cx (.UnaryOp .Not x pos) (.not xx) := by
  intro c n env A σ loc hp s C I hb hr
  rw [x_not] at hb hr ⊢
  have hbr : BoolR (evalX c xx loc hp) := fun av h e => by
    rw [e, bok] at hb
    unfold notAV at hb
    split at hb
    · exact ⟨_, rfl⟩
    · exact absurd rfl hb
  refine wpAny_isTrue_Not (wpAny_mono (hx c n env A σ loc hp s C I (bind_ok hb) hbr) (fun b s' ⟨hp', σ', e, a⟩ => ?_) fun _ _ q => q)
  rw [e]
  exact ⟨hp', σ', rfl, a⟩

theorem simT_boolop {op : BoolOp} {es : List Expr} {x : X} {pos : Pos} (h : SimTs P cx op es x) : SimT P cx (.BoolOp op es pos) x := by
  intro c n env A σ loc hp s C I hb hr
  exact wpAny_isTrue_BoolOp (h c n env A σ loc hp s C I hb hr)
theorem simTs_one {op : BoolOp} {e : Expr} {x : X} (h : SimT P cx e x) : SimTs P cx op [e] x := by
  intro c n env A σ loc hp s C I hb hr
  have hh := h c n env A σ loc hp s C I hb hr
  cases op with
  | And =>
    refine wpAny_allTrue_And_cons (wpAny_mono hh (fun b s' q => ?_) fun _ _ q => q)
    cases b with
    | true => rw [if_pos rfl]; exact wpAny_allTrue_And_nil q
    | false => exact q
  | Or =>
    refine wpAny_allTrue_Or_cons (wpAny_mono hh (fun b s' q => ?_) fun _ _ q => q)
    cases b with
    | true => exact q
    | false => exact wpAny_allTrue_Or_nil q
theorem simTs_and {e : Expr} {es : List Expr} {x y : X} (h : SimT P cx e x) (hr : SimTs P cx .And es y) : SimTs P cx .And (e :: es) (.and x y) := by
  intro c n env A σ loc hp s C I hb hbr
  rw [x_and] at hb hbr ⊢
  have hb1 : BoolR (evalX c x loc hp) := fun av h e => by
    rw [e, bok] at hb
    exact condV_is hb
  refine wpAny_allTrue_And_cons (wpAny_mono (h c n env A σ loc hp s C I (bind_ok hb) hb1) (fun b s' ⟨hp', σ', e, a⟩ => ?_) fun _ _ q => q)
  rw [e] at hb hbr ⊢
  cases b with
  | true =>
    rw [if_pos rfl]
    exact wpAny_mono (hr c n env A σ' loc hp' s' C (I.after a) hb hbr) (fun _ _ q => q.lift a) (fun _ _ q => q)
  | false => exact ⟨hp', σ', rfl, a⟩
theorem simTs_or {e : Expr} {es : List Expr} {x y : X} (h : SimT P cx e x) (hr : SimTs P cx .Or es y) : SimTs P cx .Or (e :: es) (.or x y) := by
  intro c n env A σ loc hp s C I hb hbr
  rw [x_or] at hb hbr ⊢
  have hb1 : BoolR (evalX c x loc hp) := fun av h e => by
    rw [e, bok] at hb
    exact condV_is hb
  refine wpAny_allTrue_Or_cons (wpAny_mono (h c n env A σ loc hp s C I (bind_ok hb) hb1) (fun b s' ⟨hp', σ', e, a⟩ => ?_) fun _ _ q => q)
  rw [e] at hb hbr ⊢
  cases b with
  | false =>
    exact wpAny_mono (hr c n env A σ' loc hp' s' C (I.after a) hb hbr) (fun _ _ q => q.lift a) (fun _ _ q => q)
  | true => exact ⟨hp', σ', rfl, a⟩

theorem simT_cmp {l r : Expr} {op : CmpOp} {cop : COp} {xl xr : X} {pos : Pos} (hop : compCOp op = some cop) (hm : behindInMarks op r = false) (hl : SimE P cx l xl) (hr : SimE P cx r xr) : SimT P cx (.Compare l [op] [r] pos) (.cmp cop xl xr) := by
  intro c n env A σ loc hp s C I hb hbr
  rw [x_cmp] at hb hbr ⊢
  refine wpAny_isTrue_Compare1 (seqV (G := fun R a s₁ => wpAny (model P.prog P.w) A (eval r env) (fun b s₂ => wpAny (model P.prog P.w) A (compareOp op a b) (fun c s₃ => wpAny (model P.prog P.w) A (truthy c) (QT P σ s R) NE s₃) NE s₂) NE s₁) (.refl I.st) (hl c n env A σ loc hp s C I (bind_ok hb)) hb ?_) hm
  intro av hp₁ σ₁ v s₁ a₁ _ rv hb
  refine seqV (G := fun R b s₂ => wpAny (model P.prog P.w) A (compareOp op v b) (fun c s₃ => wpAny (model P.prog P.w) A (truthy c) (QT P σ s R) NE s₃) NE s₂) a₁ (hr c n env A σ₁ loc hp₁ s₁ C (I.after a₁) (bind_ok hb)) hb ?_
  intro bv hp₂ σ₂ u s₂ a₂ a₁₂ ru hb
  obtain ⟨k, hc⟩ := boolO_is hb
  rw [hc]
  refine wpAny_mono (cmp_prim C.ok a₂.st I.ar hop (RV.grows a₁₂.gr _ _ rv) ru hc) (fun w s₃ q => ?_) (fun _ _ q => q)
  obtain ⟨b, rfl, e, a₃⟩ := q
  cases e
  exact wpAny_truthy_bool ⟨_, _, rfl, a₂.trans a₃⟩


theorem simT_isn {l r : Expr} {op : CmpOp} {b : Bool} {xl : X} {pos : Pos} (hop : isnOf op = some b) (hr : isNone r = true) (hl : SimE P cx l xl) : SimT P cx (.Compare l [op] [r] pos) (.isn b xl) := by
  intro c n env A σ loc hp s C I hb hbr
  obtain ⟨k, q, rfl⟩ : ∃ k q, r = .Constant .none k q := by
    cases r
    case Constant v k q => cases v <;> first | exact ⟨_, _, rfl⟩ | exact absurd hr Bool.false_ne_true
    all_goals exact absurd hr Bool.false_ne_true
  rw [x_isn] at hb hbr ⊢
  refine wpAny_isTrue_Compare1 (seqV (G := fun R a s₁ => wpAny (model P.prog P.w) A (eval (.Constant .none k q) env) (fun b s₂ => wpAny (model P.prog P.w) A (compareOp op a b) (fun c s₃ => wpAny (model P.prog P.w) A (truthy c) (QT P σ s R) NE s₃) NE s₂) NE s₁) (.refl I.st) (hl c n env A σ loc hp s C I (bind_ok hb)) hb ?_) rfl
  intro av hp₁ σ₁ v s₁ a₁ _ rv hb
  refine wpAny_Constant_none ?_
  cases op <;> (try exact none_ne hop) <;> cases hop
  · refine is_none (wpAny_truthy_bool ?_)
    rw [is_none_iff rv, show (isNoneAV av == true) = isNoneAV av by cases isNoneAV av <;> rfl]
    exact ⟨_, _, rfl, a₁⟩
  · refine isNot_none (wpAny_truthy_bool ?_)
    rw [is_none_iff rv, show (isNoneAV av == false) = !isNoneAV av by cases isNoneAV av <;> rfl]
    exact ⟨_, _, rfl, a₁⟩
theorem simT_cmp2 {l m r : Expr} {o1 o2 : CmpOp} {c1 c2 : COp} {xl xm xr : X} {pos : Pos} (h1 : compCOp o1 = some c1) (h2 : compCOp o2 = some c2) (hm : behindInMarks o2 r = false) (hl : SimE P cx l xl) (hmm : SimE P cx m xm) (hr : SimE P cx r xr) :
    SimT P cx (.Compare l [o1, o2] [m, r] pos) (.cmp2 c1 c2 xl xm xr) := by
  intro c n env A σ loc hp s C I hb hbr
  rw [x_cmp2] at hb hbr ⊢
  show wpAny _ _ (eval l env >>= fun a => testChain pos a [o1, o2] (markedEach [o1, o2] [m, r] (evalEach [m, r] env))) _ _ _
  have hmark : markedEach [o1, o2] [m, r] (evalEach [m, r] env) = [eval m env, eval r env] := by
    show [eval m env, markedBehindIn o2 r (eval r env)] = _
    rw [markedBehindIn_of_false hm]
  rw [hmark]
  refine wpAny_bind (seqV (G := fun R a s₁ => wpAny (model P.prog P.w) A (testChain pos a [o1, o2] [eval m env, eval r env]) (QT P σ s R) NE s₁) (.refl I.st) (hl c n env A σ loc hp s C I (bind_ok hb)) hb ?_)
  intro av hp₁ σ₁ v s₁ a₁ _ rv hb
  have I₁ := I.after a₁
  rw [testChain]
  · refine wpAny_bind (wpAny_holding (seqV (G := fun R b s₂ => wpAny (model P.prog P.w) A (standAt pos >>= fun _ => holding [v, b] (compareOp o1 v b) >>= fun cc => release [v, b] [cc] >>= fun _ => holding [cc, b] (truthy cc) >>= fun t => if t = true then testChain pos b [o2] [eval r env] else pure false) (QT P σ s R) NE s₂) a₁ (hmm c n env A σ₁ loc hp₁ s₁ C I₁ (bind_ok hb)) hb ?_))
    intro bv hp₂ σ₂ u s₂ a₂ a₁₂ ru hb
    have I₂ := I.after a₂
    obtain ⟨k, hc⟩ := cmpAnd_is hb
    rw [hc] at hb ⊢
    refine wpAny_bind (wpAny_standAt (wpAny_bind (wpAny_holding (wpAny_mono (cmp_prim C.ok a₂.st I.ar h1 (RV.grows a₁₂.gr _ _ rv) ru hc) (fun w s₃ q => ?_) (fun _ _ q => q)))))
    obtain ⟨b, rfl, e, a₃⟩ := q
    cases e
    refine wpAny_bind (wpAny_release (wpAny_bind (wpAny_holding (wpAny_truthy_bool ?_))))
    cases k with
    | false => exact wpAny_pure ⟨_, _, rfl, a₂.trans a₃⟩
    | true =>
      rw [if_pos rfl]
      have I₃ := I₂.after a₃
      rw [testChain]
      refine wpAny_bind (wpAny_holding (seqV (G := fun R z s₄ => wpAny (model P.prog P.w) A (standAt pos >>= fun _ => operate [u, z] (compareOp o2 u z) >>= fun cc => holding [cc] (truthy cc)) (QT P σ s R) NE s₄) (f := fun z h => boolO (cmpAV h c2 bv z) h) (a₂.trans a₃) (hr c n env A σ₂ loc hp₂ s₃ C I₃ (bind_ok hb)) hb ?_))
      intro zv hp₄ σ₄ z s₄ a₄ a₃₄ rz hb
      obtain ⟨k2, hc2⟩ := boolO_is hb
      rw [hc2]
      refine wpAny_bind (wpAny_standAt (wpAny_bind (wpAny_operating (wpAny_mono (cmp_prim C.ok a₄.st I.ar h2 (RV.grows a₃₄.gr _ _ (RV.grows a₃.gr _ _ ru)) rz hc2) (fun w s₅ q => ?_) (fun _ _ q => q)))))
      obtain ⟨b, rfl, e, a₅⟩ := q
      cases e
      exact wpAny_holding (wpAny_truthy_bool ⟨_, _, rfl, a₄.trans a₅⟩)
  · simp
end
end Mine

namespace Mine
open PySem PySem.Spec PyProof.Rows PySem.SeqAt

/-- a walk -/
noncomputable def IterAt (P : Par) (h : Heap) (σ : Sg) (it : Addr) (src : AV) (i : Nat) : Prop := match src with
  | .rng a b s => IsRangeIter h it (a + s * i) ((rngLen a b s : Int) - i) s
  | .str x => ∃ t, h.IsStrIter it "str_ascii_iterator" ⟨x.toArray⟩ t i
  | .tup xs => ∃ a ws n, ObjAt h a (.type "tuple") (.seq ws n) ∧ RVs P.B h σ xs ws.toList ∧ h.IsTupleIter it a i
  | .loc j => ∃ a off, σ[j]? = some (a, off) ∧ h.IsListIter it a i
  | _ => False

noncomputable def iterClass (T : String) : Prop := T ≠ "range" ∧ T ≠ "frame"
noncomputable def IterObj (h : Heap) (it : Addr) : Prop := ∃ o T fs, h.get? it = some o ∧ o.cls = .type T ∧ iterClass T ∧ o.data = .fields fs
theorem IterObj.notFixed {h : Heap} {it : Addr} (x : IterObj h it) : ∃ o, h.get? it = some o ∧ ¬ fixed o := by
  obtain ⟨o, T, fs, ho, hc, ht, hd⟩ := x
  refine ⟨o, ho, ?_⟩
  unfold fixed
  rw [hd]
  dsimp only
  rw [hc]
  exact fun e => ht.1 (Value.type.inj e)

section
variable {P : Par} {cx : Cx} {A : Around} {E : Value → Shared → Prop} {σ : Sg} {hp : AHeap} {s : Shared}

theorem IterAt.obj {h : Heap} {it : Addr} {src : AV} {i : Nat} (x : IterAt P h σ it src i) : IterObj h it := by
  have ne : ∀ T : String, T ≠ "range" → T ≠ "frame" → iterClass T := fun T a b => ⟨a, b⟩
  cases src
  case rng => exact ⟨_, _, _, x, rfl, ne _ (by decide) (by decide), rfl⟩
  case tup => obtain ⟨_, _, _, _, _, o, h1, h2, h3⟩ := x; exact ⟨o, _, _, h1, h2, ne _ (by decide) (by decide), h3⟩
  case str => obtain ⟨_, o, h1, h2, h3⟩ := x; exact ⟨o, _, _, h1, h2, ne _ (by decide) (by decide), h3⟩
  case loc => obtain ⟨_, _, _, o, h1, h2, h3⟩ := x; exact ⟨o, _, _, h1, h2, ne _ (by decide) (by decide), h3⟩
  all_goals exact x.elim

/-- the iterator stands where it stood -/
theorem IterAt.keep {h h' : Heap} {σ' : Sg} {X : List Addr} {it : Addr} {src : AV} {i : Nat} (g : Grows σ σ' X h h') (hq : h'.get? it = h.get? it) (x : IterAt P h σ it src i) : IterAt P h' σ' it src i := by
  cases src
  case rng => exact hq.trans x
  case tup => obtain ⟨a, ws, n, h1, h2, o, h3, h4⟩ := x; exact ⟨a, ws, n, objAt_fix g h1 (fun _ hc hd => fixed_tuple hc hd), RVs.grows g _ _ h2, o, hq.trans h3, h4⟩
  case str => obtain ⟨t, o, h3, h4⟩ := x; exact ⟨t, o, hq.trans h3, h4⟩
  case loc => obtain ⟨a, off, h1, o, h3, h4⟩ := x; exact ⟨a, off, g.look h1, o, hq.trans h3, h4⟩
  all_goals exact x.elim

/-- one new object that is not followed turns, and other new things come -/
theorem After.extBut {σ' : Sg} {X : List Addr} {s₀ : Shared} {h' : Heap} {t : Nat} {it : Addr} (a : After P σ σ' X hp s₀ s) (hs : Heap.ExtBut it s.heap h') (h0 : s₀.heap.get? it = none) (hσ : it ∉ σ'.map (·.1)) (hb : P.B.h₀.get? it = none) (ho : ∃ o, s.heap.get? it = some o ∧ ¬ fixed o) :
    After P σ σ' X hp s₀ { s with heap := h', toks := t } ∧ (∀ x v, RV P.B s.heap σ' x v → RV P.B h' σ' x v) ∧ (∀ b o, b ≠ it → s.heap.get? b = some o → h'.get? b = some o) := by
  obtain ⟨o, e, hf⟩ := ho
  have hne : ∀ b ob, s.heap.get? b = some ob → fixed ob → b ≠ it := fun b ob e' f q => by subst q; rw [e] at e'; cases e'; exact hf f
  -- as if the iterator might turn
  have hx : ∀ x v, RV P.B s.heap σ' x v → RV P.B h' σ' x v := by
    have hfix : ∀ b ob, s.heap.get? b = some ob → fixed ob → h'.get? b = some ob := fun b ob e' f => hs b ob (hne b ob e' f) e'
    intro x v r
    exact RV.fixes (fun b ob e' f => hfix b ob e' f) x v r
  refine ⟨⟨by rw [a.ctl], ?_, ?_⟩, hx, fun b o hb' e' => hs b o hb' e'⟩
  · refine ⟨a.st.len, a.st.nd, fun n b off ob e1 e2 => ?_, fun b ob e' => ?_, a.st.new⟩
    · have hbi : b ≠ it := fun q => by subst q; exact hσ (List.mem_map_of_mem (f := (·.1)) (List.mem_of_getElem? e1))
      obtain ⟨o', e3, _⟩ := a.st.there (List.mem_of_getElem? e1)
      exact RO.fixes (fun b ob e' f => hs b ob (hne b ob e' f) e') ((hs b o' hbi e3).trans e3.symm) (a.st.obj n b off ob e1 e2)
    · have hbi : b ≠ it := fun q => by subst q; rw [hb] at e'; cases e'
      exact hs b ob hbi (a.st.base b ob e')
  · refine ⟨a.gr.ext, fun b ob e' f => ?_, fun b ob e' h1 h2 => ?_, fun b ob e' => ?_⟩
    · have hbi : b ≠ it := fun q => by subst q; rw [h0] at e'; cases e'
      exact hs b ob hbi (a.gr.fix b ob e' f)
    · have hbi : b ≠ it := fun q => by subst q; rw [h0] at e'; cases e'
      have nn := a.gr.oth b ob e' h1 h2
      obtain ⟨o', e1, _⟩ := nn.get
      rw [e1] at nn
      show Near ob (h'.get? b)
      rw [hs b o' hbi e1]; exact nn
    · have hbi : b ≠ it := fun q => by subst q; rw [h0] at e'; cases e'
      obtain ⟨o', e1⟩ := a.gr.ex b ob e'
      exact ⟨o', hs b o' hbi e1⟩

theorem rng_len {a b c : Int} (hc : c = 1 ∨ c = -1) : Builtin.Range.rangeSize a b c = (rngLen a b c : Int) := by
  unfold Builtin.Range.rangeSize rngLen
  rcases hc with rfl | rfl
  · simp
    split <;> omega
  · simp
    split <;> omega

theorem rng_small {a b c : Int} (hc : c = 1 ∨ c = -1) (ha : a.natAbs ≤ sizeLim) (hb : b.natAbs ≤ sizeLim) : Builtin.Range.small a b c = true := by
  have hl : sizeLim = 1048576 := rfl
  have hr := rng_len (a := a) (b := b) hc
  have hlen : rngLen a b c ≤ 3000000 := by unfold rngLen; rcases hc with rfl | rfl <;> simp <;> omega
  unfold Builtin.Range.small
  rw [hr]
  have f : ∀ x : Int, -(2 ^ 40) ≤ x → x ≤ 2 ^ 40 → Builtin.Range.rangeFitsLong x = true := fun x h1 h2 => by
    unfold Builtin.Range.rangeFitsLong
    rw [Bool.and_eq_true]
    exact ⟨decide_eq_true (by omega), decide_eq_true (by omega)⟩
  rw [f a (by omega) (by omega), f b (by omega) (by omega), f c (by rcases hc with rfl | rfl <;> omega) (by rcases hc with rfl | rfl <;> omega), f _ (by omega) (by omega)]
  simp only [Bool.true_and, Bool.or_eq_true]
  right
  rcases hc with rfl | rfl
  · simp [f b (by omega) (by omega)]
  · simp [f b (by omega) (by omega)]

/-- the kinds of walked things -/
inductive Items (hp : AHeap) : AV → List AV → Prop
  | tup (xs : List AV) : Items hp (.tup xs) xs
  | lst (j : Nat) (xs : List AV) (hj : hp[j]? = some (.list xs)) : Items hp (.loc j) xs
  | str (x : List Nat) (h : x.all (fun c => decide (c < 128)) = true) : Items hp (.str x) (x.map fun c => .str [c])
  | rng (a b c : Int) (hc : c = 1 ∨ c = -1) (h1 : a.natAbs ≤ sizeLim) (h2 : b.natAbs ≤ sizeLim) : Items hp (.rng a b c) (rngItems a b c)
theorem items_or {src : AV} {xs : List AV} (hi : itemsAV src hp = some xs) : Items hp src xs := by
  cases src
  case tup ys => cases (show some ys = some xs from hi); exact .tup _
  case loc j => exact .lst j xs (listAt_is hi)
  case str x =>
    by_cases hc : x.all (fun c => decide (c < 128)) = true
    · cases (show some (x.map fun c => AV.str [c]) = some xs from (if_pos hc).symm.trans hi); exact .str x hc
    · exact none_ne ((if_neg hc).symm.trans hi)
  case rng a b c =>
    by_cases hc : (c = 1 ∨ c = -1) ∧ a.natAbs ≤ sizeLim ∧ b.natAbs ≤ sizeLim
    · cases (show some (rngItems a b c) = some xs from (if_pos hc).symm.trans hi); exact .rng a b c hc.1 hc.2.1 hc.2.2
    · exact none_ne ((if_neg hc).symm.trans hi)
  all_goals exact none_ne hi
theorem iter_prim (ok : P.Ok) (S : St P.w P.B σ hp s.heap) {src : AV} {v : Value} {xs : List AV} (ra : RV P.B s.heap σ src v) (hi : itemsAV src hp = some xs) {Q : Value → Shared → Prop}
    (h : ∀ it s', s.heap.get? it = none → it ∉ σ.map (·.1) → P.B.h₀.get? it = none → After P σ σ [] hp s s' → IterAt P s'.heap σ it src 0 → Q (.ref it) s') : wpAny (model P.prog P.w) A (pyIter v) Q E s := by
  have push : ∀ (o : Obj), After P σ σ [] hp s { s with heap := s.heap.push o } := fun o => ⟨rfl, S.push o, .push o⟩
  have fin : ∀ (o : Obj), IterAt P (s.heap.push o) σ s.heap.objs.size src 0 → Q (.ref s.heap.objs.size) { s with heap := s.heap.push o } := fun o hit =>
    h s.heap.objs.size _ (free_size _) S.fresh S.base.fresh (push o) hit
  cases items_or hi with
  | tup xs =>
    obtain ⟨a, ws, n, rfl, o, rx⟩ := ra
    have g := (push { cls := .type "tuple_iterator", data := .fields #[.ref a, .int 0 0] }).gr
    exact wpAny_pyIter_tuple (isTuple_of o) (fin _ ⟨a, ws, n, Heap.get?_push_of_some _ o, RVs.grows g _ _ rx, _, Heap.get?_push_size _ rfl, rfl, rfl⟩)
  | lst j xs hj =>
    obtain ⟨a, off, rfl, e1⟩ := ra
    obtain ⟨ws, k, hl, _⟩ := S.isL hj e1
    exact wpAny_pyIter_list (isList_of hl) (fin _ ⟨a, off, e1, _, Heap.get?_push_size _ rfl, rfl, rfl⟩)
  | str x hx =>
    obtain ⟨t, rfl⟩ := ra
    have ha : x.toArray.all (· < 128) = true := by rw [List.all_toArray]; exact hx
    exact wpAny_pyIter_ascii ha (fin _ ⟨t, _, Heap.get?_push_size _ rfl, rfl, rfl⟩)
  | rng a b c hc h1 h2 =>
    obtain ⟨r, t, u, x, rfl, hr⟩ := ra
    refine wpAny_pyIter_range hr (rng_small hc h1 h2) (fin _ ?_)
    rw [rng_len hc]
    show IsRangeIter _ _ (a + c * ((0 : Nat) : Int)) ((rngLen a b c : Int) - ((0 : Nat) : Int)) c
    rw [show c * ((0 : Nat) : Int) = 0 from Int.mul_zero c, Int.add_zero, show (rngLen a b c : Int) - ((0 : Nat) : Int) = rngLen a b c from Int.sub_zero _]
    exact Heap.get?_push_size _ rfl

theorem next_is {src : AV} {i : Nat} {r : Option AV} (hn : nextAt src i hp = some r) : ∃ xs, itemsAV src hp = some xs ∧ xs[i]? = r := Option.map_eq_some_iff.mp hn
/-- what the next step asks for -/
structure NextQ (P : Par) (σ : Sg) (s : Shared) (it : Addr) (src : AV) (i : Nat) (r : Option AV) (Q : Option Value → Shared → Prop) : Prop where
  fin : r = none → ∀ h', Heap.ExtBut it s.heap h' → Q none { s with heap := h' }
  item : ∀ av v h' t, r = some av → RV P.B s.heap σ av v → Heap.ExtBut it s.heap h' → (∀ (g : Fixes s.heap h'), IterAt P h' σ it src (i + 1)) → Q (some v) { s with heap := h', toks := t }
section
variable {it a : Addr} {i n : Nat} {Q : Option Value → Shared → Prop} {xs : List AV} {ws : Array Value}
theorem none_at (rx : RVs P.B s.heap σ xs ws.toList) (h : xs[i]? = none) : ws[i]? = none :=
  Array.getElem?_eq_none (Nat.le_trans (Nat.le_of_eq rx.size.symm) (List.getElem?_eq_none_iff.mp h))
theorem next_tupP (hh : A.handled = none) (o : ObjAt s.heap a (.type "tuple") (.seq ws n)) (rx : RVs P.B s.heap σ xs ws.toList) (hI : s.heap.IsTupleIter it a i) (N : NextQ P σ s it (.tup xs) i xs[i]? Q) : wpAny (model P.prog P.w) A (pyNext (.ref it)) Q E s := by
  cases hc : xs[i]? with
  | none => exact wpAny_pyNext_tuple_end hh hI (isTuple_of o) (none_at rx hc) (N.fin hc)
  | some av =>
    obtain ⟨v, e1, rv⟩ := rx.get hc
    rw [Array.getElem?_toList] at e1
    exact wpAny_pyNext_tuple_item hI (isTuple_of o) e1 fun h' hI' hs => N.item av v h' s.toks hc rv hs.extBut fun g => ⟨a, ws, n, g a _ o (fixed_tuple rfl rfl), RVs.fixes g _ _ rx, hI'⟩
theorem next_lstP {j off : Nat} (hh : A.handled = none) (e1 : σ[j]? = some (a, off)) (hl : IsL s.heap a ws n) (rx : RVs P.B s.heap σ xs ws.toList) (hI : s.heap.IsListIter it a i) (N : NextQ P σ s it (.loc j) i xs[i]? Q) : wpAny (model P.prog P.w) A (pyNext (.ref it)) Q E s := by
  cases hc : xs[i]? with
  | none => exact wpAny_pyNext_list_end hh hI (isList_of hl) (none_at rx hc) (N.fin hc)
  | some av =>
    obtain ⟨v, e2, rv⟩ := rx.get hc
    rw [Array.getElem?_toList] at e2
    exact wpAny_pyNext_list_item hI (isList_of hl) e2 fun h' hI' hs => N.item av v h' s.toks hc rv hs.extBut fun g => ⟨a, off, e1, hI'⟩
theorem next_strP {x : List Nat} {t : Tok} (hh : A.handled = none) (hI : s.heap.IsStrIter it "str_ascii_iterator" ⟨x.toArray⟩ t i) (N : NextQ P σ s it (.str x) i (x.map fun c => AV.str [c])[i]? Q) : wpAny (model P.prog P.w) A (pyNext (.ref it)) Q E s := by
  rw [List.getElem?_map] at N
  cases hc : x[i]? with
  | none =>
    rw [hc] at N
    exact wpAny_pyNext_ascii_end hh hI ((List.getElem?_toArray ..).trans hc) (N.fin rfl)
  | some c =>
    rw [hc] at N
    exact wpAny_pyNext_ascii_item hI (c := c) ((List.getElem?_toArray ..).trans hc) (fun h' hI' hs => N.item (.str [c]) _ h' _ rfl ⟨_, rfl⟩ hs.extBut fun _ => ⟨t, hI'⟩)
theorem next_rngP {x y c : Int} (hh : A.handled = none) (hit : IsRangeIter s.heap it (x + c * i) ((rngLen x y c : Int) - i) c) (N : NextQ P σ s it (.rng x y c) i (rngItems x y c)[i]? Q) : wpAny (model P.prog P.w) A (pyNext (.ref it)) Q E s := by
  have hget : (rngItems x y c)[i]? = ((List.range (rngLen x y c))[i]?).map fun (k : Nat) => AV.int (x + c * k) := List.getElem?_map ..
  rcases Nat.lt_or_ge i (rngLen x y c) with hlt | hge
  · rw [List.getElem?_range hlt] at hget
    refine wpAny_pyNext_range_item hit (by omega) fun h' hI' hs => N.item _ _ h' _ hget ⟨_, rfl⟩ hs.extBut fun g => ?_
    show IsRangeIter h' it (x + c * ((i + 1 : Nat) : Int)) ((rngLen x y c : Int) - ((i + 1 : Nat) : Int)) c
    rw [Int.natCast_add, Int.mul_add, ← Int.add_assoc, ← Int.sub_sub]
    have e1 : c * ((1 : Nat) : Int) = c := Int.mul_one c
    rw [e1]
    exact hI'
  · rw [List.getElem?_eq_none (l := List.range (rngLen x y c)) (by rw [List.length_range]; exact hge)] at hget
    exact wpAny_pyNext_range_end hh hit (by omega) (N.fin hget)
end
theorem next_prim (S : St P.w P.B σ hp s.heap) {src : AV} {it : Addr} {i : Nat} {r : Option AV} (hh : A.handled = none) (hit : IterAt P s.heap σ it src i) (hn : nextAt src i hp = some r) {Q : Option Value → Shared → Prop}
    (hend : r = none → ∀ h', Heap.ExtBut it s.heap h' → Q none { s with heap := h' })
    (hitem : ∀ av v h' t, r = some av → RV P.B s.heap σ av v → Heap.ExtBut it s.heap h' → (∀ (g : Fixes s.heap h'), IterAt P h' σ it src (i + 1)) → Q (some v) { s with heap := h', toks := t }) :
    wpAny (model P.prog P.w) A (pyNext (.ref it)) Q E s := by
  have N : NextQ P σ s it src i r Q := ⟨hend, hitem⟩
  obtain ⟨xs, hx, rfl⟩ := next_is hn
  cases items_or hx with
  | tup xs =>
    obtain ⟨a, ws, n, o, rx, hI⟩ := hit
    exact next_tupP hh o rx hI N
  | lst j xs hj =>
    obtain ⟨a, off, e1, hI⟩ := hit
    obtain ⟨ws, k, hl, rx⟩ := S.isL hj e1
    exact next_lstP hh e1 hl rx hI N
  | str x hx =>
    obtain ⟨t, hI⟩ := hit
    exact next_strP hh hI N
  | rng a b c hc h1 h2 => exact next_rngP hh hit N
end
end Mine

namespace Mine
open PySem PySem.Spec PyProof.Rows PySem.SeqAt

noncomputable def SimSt (P : Par) (cx : Cx) (st : Stmt) (x : S) : Prop :=
  ∀ c n env A σ l hp s, Sims P cx c n → Inv P cx n env A σ l hp s → execS c x l hp ≠ .bad →
    wpAny (model P.prog P.w) A (exec st env) (QS P env cx σ s (execS c x l hp)) NE s
noncomputable def SimSs (P : Par) (cx : Cx) (st : List Stmt) (x : Ss) : Prop :=
  ∀ c n env A σ l hp s, Sims P cx c n → Inv P cx n env A σ l hp s → execSs c x l hp ≠ .bad →
    wpAny (model P.prog P.w) A (execs st env) (QS P env cx σ s (execSs c x l hp)) NE s

section
variable {P : Par} {cx : Cx} {env : Env} {A : Around} {σ σ' : Sg} {l l' : Locs} {hp hp' : AHeap} {s s' : Shared} {n : Nat}

theorem Inv.afterX (I : Inv P cx n env A σ l hp s) (a : After P σ σ' (FX env) hp' s s') (f : Frm P s'.heap σ' env cx l') : Inv P cx n env A σ' l' hp' s' := ⟨a.st, f, I.ar⟩
theorem QS.lift {r : SR} {f : PySem.Flow} {s'' : Shared} (a : After P σ σ' (FX env) hp' s s') (q : QS P env cx σ' s' r f s'') : QS P env cx σ s r f s'' := by
  obtain ⟨fl, l', h2, σ₂, e, b, rf, fr⟩ := q
  exact ⟨fl, l', h2, σ₂, e, a.trans b, rf, fr⟩
theorem After.toX {X : List Addr} (a : After P σ σ' [] hp' s s') : After P σ σ' X hp' s s' := a.more fun _ h => nomatch h

theorem st_ok {α : Type} {r : Res α} {f : α → AHeap → SR} (h : r.st f ≠ .bad) : r ≠ .bad := fun e => h (by rw [e]; rfl)
theorem turn_ok {r : SR} {f : Locs → AHeap → SR} (h : r.turn f ≠ .bad) : r ≠ .bad := fun e => h (by rw [e]; rfl)
theorem condS_is {v : AV} {x y : SR} (hb : condS v x y ≠ .bad) : ∃ b, v = .bool b := by
  unfold condS at hb
  split at hb
  · exact ⟨_, rfl⟩
  · exact absurd rfl hb
theorem boolR_of {r : Res AV} {x y : AV → AHeap → SR} (hb : (r.st fun v h => condS v (x v h) (y v h)) ≠ .bad) : BoolR r := fun av h e => by
  rw [e] at hb
  exact condS_is hb

theorem seqS {A : Around} {m : Sem Value} {r : Res AV} {f : AV → AHeap → SR} {G : SR → Value → Shared → Prop}
    (h : wpAny (model P.prog P.w) A m (QV P σ s r) NE s) (hb : r.st f ≠ .bad)
    (hk : ∀ av hp' σ' v s', After P σ σ' [] hp' s s' → RV P.B s'.heap σ' av v → f av hp' ≠ .bad → G (f av hp') v s') :
    wpAny (model P.prog P.w) A m (G (r.st f)) NE s :=
  wpAny_mono h (fun v s' ⟨av, hp', σ', e, a, rv⟩ => by subst e; exact hk av hp' σ' v s' a rv hb) (fun _ _ q => q)

theorem not_inter (I : Inv P cx n env A σ l hp s) : interactive env = false := by
  unfold interactive; rw [I.fr.kind]; rfl

theorem swaps_no {e : Expr} {t : Option Expr} {k : Nat} (h : isComp e = false) : swapsWith e t k env = pure false := by
  unfold swapsWith
  cases e <;> first | rfl | (cases h; done)

theorem simSt_expr {e : Expr} {x : X} {pos : Pos} (hc : isComp e = false) (h : SimE P cx e x) : SimSt P cx (.Expr e pos) (.expr x) := by
  intro c n env A σ l hp s C I hb
  rw [s_expr] at hb ⊢
  refine wpAny_Expr_any (seqS (G := fun R v s' => QS P env cx σ s R .next s') (h c n env A σ l hp s C I (st_ok hb)) hb ?_) (not_inter I) (swaps_no hc)
  intro av hp' σ' v s' a rv hb
  exact ⟨_, _, _, _, rfl, a.toX, rfl, I.fr.after a⟩

theorem simSt_ret {e : Expr} {x : X} {pos : Pos} (h : SimE P cx e x) : SimSt P cx (.Return (some e) pos) (.ret x) := by
  intro c n env A σ l hp s C I hb
  rw [s_ret] at hb ⊢
  refine wpAny_Return_some (seqS (G := fun R v s' => QS P env cx σ s R (.ret v) s') (h c n env A σ l hp s C I (st_ok hb)) hb ?_)
  intro av hp' σ' v s' a rv hb
  exact ⟨_, _, _, _, rfl, a.toX, ⟨v, rfl, rv⟩, I.fr.after a⟩

theorem simSt_asg {y : Str} {i : Nat} {e : Expr} {x : X} {p pos : Pos} (hw : cx.slotW y = some i) (hc : isComp e = false) (h : SimE P cx e x) : SimSt P cx (.Assign [.Name y p] e pos) (.asg i x) := by
  intro c n env A σ l hp s C I hb
  rw [s_asg] at hb ⊢
  refine wpAny_Assign_Name (seqS (G := fun R v s' => wpAny (model P.prog P.w) A (storeName env y v) (fun _ => QS P env cx σ s R .next) NE s') (h c n env A σ l hp s C I (st_ok hb)) hb ?_) (swaps_no hc)
  intro av hp' σ' v s' a rv hb
  refine store_prim a.st (I.fr.after a) hw rv fun s'' a2 fr _ => ?_
  exact ⟨_, _, _, _, rfl, a.toX.trans a2, rfl, fr⟩

theorem setD_is {j : Nat} {kvs : List (Key × AV)} {ep : Nat} {v : AV} {o : Option Key} {h' : AHeap} (h : setD hp j kvs ep v o = some h') : ∃ k, o = some k ∧ sortOk kvs k = true ∧ kvs.length < sizeLim ∧ h' = hp.set j (.dict (dictPut kvs k v) (if (kvs.lookup k).isSome then ep else ep + 1)) := by
  unfold setD at h
  split at h
  · split at h
    · rename_i hs
      rw [Bool.and_eq_true, decide_eq_true_eq] at hs
      cases h; exact ⟨_, rfl, hs.1, hs.2, rfl⟩
    · cases h
  · cases h
theorem setItem_prim (S : St P.w P.B σ hp s.heap) {n : Nat} (ar : Arnd n A) {o k x : AV} {v u w : Value} (ro : RV P.B s.heap σ o v) (rk : RV P.B s.heap σ k u) (rx : RV P.B s.heap σ x w) (h : setItemAV o k x hp = some hp') {E : Value → Shared → Prop} {Q : Unit → Shared → Prop}
    (hq : ∀ s', After P σ σ [] hp' s s' → Q () s') : wpAny (model P.prog P.w) A (setItem v u w) Q E s := by
  cases o
  case loc j =>
    obtain ⟨a, off, rfl, e1⟩ := ro
    delta setItemAV at h
    dsimp only at h
    cases hj : hp[j]? with
    | none => rw [hj] at h; exact none_ne h
    | some ob =>
      rw [hj] at h
      cases ob
      case dict kvs ep =>
        obtain ⟨key, hkey, hso, hsz, rfl⟩ := setD_is h
        rw [key_av hkey] at rk
        exact setItem_dict S hj e1 rk hso (by have := ar.units; omega) hsz rx hq
      all_goals exact none_ne h
  all_goals exact none_ne h

theorem simSt_seta {o e : Expr} {xo x : X} {a : Str} {p pos : Pos} (ha : cx.attrs.contains a = true) (hc : isComp e = false) (ho : SimE P cx o xo) (h : SimE P cx e x) : SimSt P cx (.Assign [.Attribute o a p] e pos) (.setattr a xo x) := by
  intro c n env A σ l hp s C I hb
  rw [s_seta] at hb ⊢
  refine plainObj_wpAny_Assign_Attribute (seqS (G := fun R v s₁ => wpAny (model P.prog P.w) A (eval o env) (fun ov s₂ => wpAny (model P.prog P.w) A (setAttr ov a v) (fun _ => QS P env cx σ s R .next) NE s₂) NE s₁) (h c n env A σ l hp s C I (st_ok hb)) hb ?_) (swaps_no hc)
  intro av hp₁ σ₁ v s₁ a₁ rv hb
  have I₁ := I.after a₁
  refine seqS (G := fun R ov s₂ => wpAny (model P.prog P.w) A (setAttr ov a v) (fun _ => QS P env cx σ s R .next) NE s₂) (ho c n env A σ₁ l hp₁ s₁ C I₁ (st_ok hb)) hb ?_
  intro ov hp₂ σ₂ u s₂ a₂ ru hb
  cases hset : setAttrAV a ov av hp₂ with
  | none => rw [hset] at hb; exact absurd rfl hb
  | some hp₃ =>
    refine setattr_prim C.ok a₂.st (C.attrs ▸ ha) ru (RV.grows a₂.gr _ _ rv) hset fun s₃ a₃ => ?_
    have a := (a₁.trans a₂).trans a₃
    exact ⟨_, _, _, _, rfl, a.toX, rfl, I.fr.after a⟩
theorem simSt_raise {st : Stmt} : SimSt P cx st .raise := fun c n env A σ l hp s C I hb => absurd rfl hb

theorem simSt_set {o k e : Expr} {xo xk x : X} {p pos : Pos} (hc : isComp e = false) (ho : SimE P cx o xo) (hk : SimE P cx k xk) (h : SimE P cx e x) : SimSt P cx (.Assign [.Subscript o k p] e pos) (.setitem xo xk x) := by
  intro c n env A σ l hp s C I hb
  rw [s_set] at hb ⊢
  refine wpAny_Assign_Subscript (seqS (G := fun R v s₁ => wpAny (model P.prog P.w) A (eval o env) (fun ov s₂ => wpAny (model P.prog P.w) A (eval k env) (fun iv s₃ => wpAny (model P.prog P.w) A (setItem ov iv v) (fun _ => QS P env cx σ s R .next) NE s₃) NE s₂) NE s₁) (h c n env A σ l hp s C I (st_ok hb)) hb ?_) (swaps_no hc)
  intro av hp₁ σ₁ v s₁ a₁ rv hb
  have I₁ := I.after a₁
  refine seqS (G := fun R ov s₂ => wpAny (model P.prog P.w) A (eval k env) (fun iv s₃ => wpAny (model P.prog P.w) A (setItem ov iv v) (fun _ => QS P env cx σ s R .next) NE s₃) NE s₂) (ho c n env A σ₁ l hp₁ s₁ C I₁ (st_ok hb)) hb ?_
  intro ov hp₂ σ₂ u s₂ a₂ ru hb
  have I₂ := I₁.after a₂
  refine seqS (G := fun R iv s₃ => wpAny (model P.prog P.w) A (setItem u iv v) (fun _ => QS P env cx σ s R .next) NE s₃) (hk c n env A σ₂ l hp₂ s₂ C I₂ (st_ok hb)) hb ?_
  intro kv hp₃ σ₃ w s₃ a₃ rw' hb
  cases hset : setItemAV ov kv av hp₃ with
  | none => rw [hset] at hb; exact absurd rfl hb
  | some hp₄ =>
    refine setItem_prim a₃.st I.ar (RV.grows a₃.gr _ _ ru) rw' (RV.grows a₃.gr _ _ (RV.grows a₂.gr _ _ rv)) hset fun s₄ a₄ => ?_
    have a := ((a₁.trans a₂).trans a₃).trans a₄
    exact ⟨_, _, _, _, rfl, a.toX, rfl, I.fr.after a⟩

theorem simSt_if {t : Expr} {x : X} {b o : List Stmt} {xb xo : Ss} {pos : Pos} (ht : SimT P cx t x) (hb : SimSs P cx b xb) (ho : SimSs P cx o xo) : SimSt P cx (.If t b o pos) (.iff x xb xo) := by
  intro c n env A σ l hp s C I hbad
  rw [s_iff] at hbad ⊢
  refine wpAny_If (wpAny_mono (ht c n env A σ l hp s C I (st_ok hbad) (boolR_of hbad)) (fun k s' ⟨hp', σ', e, a⟩ => ?_) fun _ _ q => q)
  rw [e] at hbad ⊢
  have I' := I.after a
  cases k with
  | true =>
    rw [if_pos rfl]
    exact wpAny_mono (hb c n env A σ' l hp' s' C I' hbad) (fun _ _ q => q.lift a.toX) (fun _ _ q => q)
  | false =>
    exact wpAny_mono (ho c n env A σ' l hp' s' C I' hbad) (fun _ _ q => q.lift a.toX) (fun _ _ q => q)

theorem simSs_nil : SimSs P cx [] .nil := by
  intro c n env A σ l hp s C I hb
  exact wpAny_execs_nil ⟨_, _, _, _, rfl, .refl I.st, rfl, I.fr⟩
theorem simSs_cons {st : Stmt} {sts : List Stmt} {x : S} {xs : Ss} (h : SimSt P cx st x) (hr : SimSs P cx sts xs) : SimSs P cx (st :: sts) (.cons x xs) := by
  intro c n env A σ l hp s C I hb
  rw [ss_cons] at hb ⊢
  refine wpAny_execs_cons (wpAny_mono (h c n env A σ l hp s C I (turn_ok hb)) (fun f s' q => ?_) (fun _ _ q => q))
  obtain ⟨fl, l', hp', σ', e, a, rf, fr⟩ := q
  rw [e] at hb ⊢
  cases fl with
  | next =>
    cases (show f = .next from rf)
    exact wpAny_mono (hr c n env A σ' l' hp' s' C (I.afterX a fr) hb) (fun _ _ q => q.lift a) (fun _ _ q => q)
  | ret av =>
    obtain ⟨v, rfl, rv⟩ := rf
    exact ⟨_, _, _, _, rfl, a, ⟨v, rfl, rv⟩, fr⟩

theorem simSt_while {t : Expr} {x : X} {b : List Stmt} {xb : Ss} {pos : Pos} (ht : SimT P cx t x) (hbody : SimSs P cx b xb) : SimSt P cx (.While t b [] pos) (.whil x xb) := by
  intro c n env A σ l hp s C I hb
  rw [s_whil] at hb ⊢
  generalize hR : whileLoop (fun l h => evalX c x l h) (fun l h => execSs c xb l h) c.fuel l hp = R at hb ⊢
  refine wpAny_While (codeAny_whileLoop (fun f s' => ∃ l' hp' σ', whileLoop (fun l h => evalX c x l h) (fun l h => execSs c xb l h) f l' hp' = R ∧ After P σ σ' (FX env) hp' s s' ∧ Frm P s'.heap σ' env cx l') ?_ c.fuel ⟨l, hp, σ, hR, .refl I.st, I.fr⟩)
  rintro f s' ⟨l', hp', σ', hR', a, fr⟩
  cases f with
  | zero => exact absurd hR'.symm hb
  | succ f =>
    have hR' : ((evalX c x l' hp').st fun v h => condS v ((execSs c xb l' h).turn (whileLoop (fun l h => evalX c x l h) (fun l h => execSs c xb l h) f)) (.ok .next l' h)) = R := hR'
    have hb' := hR'.symm ▸ hb
    refine wpAny_mono (ht c n env A σ' l' hp' s' C (I.afterX a fr) (st_ok hb') (boolR_of hb')) (fun k s₂ ⟨hp₂, σ₂, e, a₂⟩ => ?_) fun _ _ q => q.elim
    rw [e] at hR' hb'
    have fr₂ := fr.after a₂
    have a₂ := a.trans a₂.toX
    cases k with
    | false =>
      refine wpAny_execs_nil ?_
      rw [← hR']
      exact ⟨_, _, _, _, rfl, a₂, rfl, fr₂⟩
    | true =>
      have hR' : (execSs c xb l' hp₂).turn (whileLoop (fun l h => evalX c x l h) (fun l h => execSs c xb l h) f) = R := hR'
      rw [if_pos rfl]
      refine wpAny_mono (hbody c n env A σ₂ l' hp₂ s₂ C (I.afterX a₂ fr₂) (turn_ok (hR'.symm ▸ hb))) (fun fl s₃ q => ?_) fun _ _ q => q.elim
      obtain ⟨fl', l₃, hp₃, σ₃, e₃, a₃, rf, fr₃⟩ := q
      rw [e₃] at hR'
      have a₃ := a₂.trans a₃
      cases fl' with
      | next => cases (show fl = .next from rf); exact ⟨f, Nat.lt_succ_self f, l₃, hp₃, σ₃, hR', a₃, fr₃⟩
      | ret av =>
        obtain ⟨v, rfl, rv⟩ := rf
        show QS P env cx σ s R (.ret v) s₃
        rw [← hR']
        exact ⟨_, _, _, _, rfl, a₃, ⟨v, rfl, rv⟩, fr₃⟩

theorem folded_ok {e : Expr} {x : X} {k : Nat} (h : compE k cx e = some x) (v : Value) : foldedSetIterable e env v = pure v := by
  cases k with
  | zero => exact none_ne h
  | succ k => cases e <;> first | rfl | exact none_ne h

theorem frm_iter (f : Frm P s.heap σ env cx l) {it : Addr} (h : IterObj s.heap it) : it ∉ FX env := by
  obtain ⟨o, T, fs, ho, hc, _, hd⟩ := h
  intro hm
  simp only [FX, List.mem_cons, List.mem_map] at hm
  rcases hm with rfl | ⟨p, hp, rfl⟩
  · obtain ⟨o', es, ep, ho', hd'⟩ := f.nsObj
    rw [ho] at ho'; cases ho'; rw [hd] at hd'; cases hd'
  · obtain ⟨o', v, ho', hd'⟩ := f.cells p hp
    rw [ho] at ho'; cases ho'; rw [hd] at hd'; cases hd'

theorem Frm.extBut {h' : Heap} {it : Addr} (f : Frm P s.heap σ env cx l) (hn : it ∉ FX env) (hx : ∀ x v, RV P.B s.heap σ x v → RV P.B h' σ x v) (hk : ∀ b o, b ≠ it → s.heap.get? b = some o → h'.get? b = some o) : Frm P h' σ env cx l := by
  simp only [FX, List.mem_cons, List.mem_map, not_or, not_exists, not_and] at hn
  obtain ⟨m, ⟨o, es, ep, ho, hd, hr⟩, hm⟩ := f.names
  refine ⟨f.kind, f.len, f.inj, f.lt, f.glob, f.wr, ⟨m, ⟨o, es, ep, hk _ o (fun e => hn.1 e.symm) ho, hd, hr⟩, fun x i hxs => ?_⟩, f.out, f.new, f.globals, f.builtins, fun p hp => ?_, f.apart, f.kinds⟩
  · rcases hm x i hxs with ⟨hk', hv⟩ | ⟨hk', c, ov, hc, ⟨oc, hoc, hdc⟩, hv⟩
    · exact .inl ⟨hk', fun av e => let ⟨u, h1, h2⟩ := hv av e; ⟨u, h1, hx _ _ h2⟩⟩
    · exact .inr ⟨hk', c, ov, hc, ⟨oc, hk _ oc (fun e => hn.2 _ (mem_of_lookup' hc) e) hoc, hdc⟩, fun av e => let ⟨u, h1, h2⟩ := hv av e; ⟨u, h1, hx _ _ h2⟩⟩
  · obtain ⟨o', v, ho', hd'⟩ := f.cells p hp
    exact ⟨o', v, hk _ o' (fun e => hn.2 p hp e) ho', hd'⟩

theorem not_bad_items {src : AV} {i k : Nat} {f : Locs → AHeap → SR} {fuel : Nat} (hb : forLoop i f src fuel k l hp ≠ .bad) : ∃ xs, itemsAV src hp = some xs := by
  cases hi : itemsAV src hp with
  | some xs => exact ⟨xs, rfl⟩
  | none =>
    exfalso; apply hb
    cases fuel with
    | zero => rfl
    | succ f => unfold forLoop nextAt; rw [hi]; rfl

/-- an untouched iterator -/
theorem iter_same {X : List Addr} {it : Addr} {src : AV} {k : Nat} (g : Grows σ σ' X s.heap s'.heap) (hn : it ∉ σ.map (·.1)) (hX : it ∉ X) (x : IterAt P s.heap σ it src k) : IterAt P s'.heap σ' it src k ∧ it ∉ σ'.map (·.1) := by
  obtain ⟨o, T, fs, ho, hc, ht, hd⟩ := x.obj
  have : s'.heap.get? it = some o := by
    rcases g.oth it o ho hn hX with q | ⟨hcf, _⟩
    · exact q
    · rw [hc] at hcf; exact absurd (Value.type.inj hcf) ht.2
  exact ⟨x.keep g (this.trans ho.symm), not_mem_grown g ho hn⟩

theorem simSt_for {y : Str} {i : Nat} {e : Expr} {x : X} {p pos : Pos} {b : List Stmt} {xb : Ss} {kk : Nat} (hw : cx.slotW y = some i) (hce : compE kk cx e = some x) (h : SimE P cx e x) (hbody : SimSs P cx b xb) : SimSt P cx (.For (.Name y p) e b [] pos) (.forr i x xb) := by
  intro c n env A σ l hp s C I hb
  rw [s_for] at hb ⊢
  have hh := I.ar.handled
  refine wpAny_For (seqS (G := fun R v s₁ => wpAny (model P.prog P.w) A (pyIter v) (fun it s₂ => codeAny (model P.prog P.w) A (.forLoop (.Name y p) it b [] env) (fun r s' => match r with | .ok f => QS P env cx σ s R f s' | .error e => cameBackBy (model P.prog P.w) A env NE e s') s₂) NE s₁) (h c n env A σ l hp s C I (st_ok hb)) hb ?_) (fun v => folded_ok hce v)
  intro src hp₁ σ₁ v s₁ a₁ rv hb
  obtain ⟨xs, hi⟩ := not_bad_items hb
  refine iter_prim C.ok a₁.st rv hi fun it s₂ hn0 hnσ hnb a₂ hit => ?_
  generalize hR : forLoop i (fun l h => execSs c xb l h) src c.fuel 0 l hp₁ = R at hb ⊢
  have hn₀ : s.heap.get? it = none := by
    cases hq : s.heap.get? it with
    | none => rfl
    | some o => obtain ⟨o', e'⟩ := a₁.gr.ex _ o hq; rw [hn0] at e'; cases e'
  refine codeAny_forLoop (fun f s' => ∃ k l' hp' σ', forLoop i (fun l h => execSs c xb l h) src f k l' hp' = R ∧ After P σ σ' (FX env) hp' s s' ∧ Frm P s'.heap σ' env cx l' ∧ IterAt P s'.heap σ' it src k ∧ it ∉ σ'.map (·.1)) ?_ c.fuel
    ⟨0, l, hp₁, σ₁, hR, (a₁.trans a₂).toX, (I.fr.after (a₁.trans a₂)), hit, hnσ⟩
  rintro f s' ⟨k, l', hp', σ', hR', a, fr, hit, hnσ'⟩
  have ho := hit.obj
  cases f with
  | zero => exact absurd hR'.symm hb
  | succ f =>
    rw [forLoop] at hR'
    cases hnx : nextAt src k hp' with
    | none => rw [hnx] at hR'; exact absurd hR'.symm hb
    | some r =>
      rw [hnx] at hR'
      refine next_prim a.st hh hit hnx (fun er h' hs => ?_) (fun av u h' t er ru hs hit' => ?_)
      · subst er
        obtain ⟨a', hx', hk'⟩ := a.extBut (t := s'.toks) hs hn₀ hnσ' hnb ho.notFixed
        refine wpAny_execs_nil ?_
        rw [← hR']
        exact ⟨_, _, _, _, rfl, a', rfl, fr.extBut (frm_iter fr ho) hx' hk'⟩
      · subst er
        have hR' : (execSs c xb (l'.set i (some av)) hp').turn (forLoop i (fun l h => execSs c xb l h) src f (k + 1)) = R := hR'
        obtain ⟨a', hx', hk'⟩ := a.extBut (t := t) hs hn₀ hnσ' hnb ho.notFixed
        have hit2 := hit' fun b o e f => hk' b o (fun q => by
          subst q
          obtain ⟨o2, e2, hf2⟩ := ho.notFixed
          rw [e2] at e; cases e; exact hf2 f) e
        have fr' := fr.extBut (frm_iter fr ho) hx' hk'
        refine wpAny_assign_Name (store_prim (s := { s' with heap := h', toks := t }) a'.st fr' hw (hx' _ _ ru) fun s₃ a₃ fr₃ _ => ?_)
        obtain ⟨hit3, hn3⟩ := iter_same (s := { s' with heap := h', toks := t }) a₃.gr hnσ' (frm_iter (s := { s' with heap := h', toks := t }) fr' hit2.obj) hit2
        have a4 := a'.trans a₃
        refine wpAny_mono (hbody c n env A σ' (l'.set i (some av)) hp' s₃ C ⟨a4.st, fr₃, I.ar⟩ (turn_ok (hR'.symm ▸ hb))) (fun fl s₄ q => ?_) (fun _ _ q => q.elim)
        obtain ⟨fl', l₄, hp₄, σ₄, e4, a₄, rf, fr₄⟩ := q
        rw [e4] at hR'
        have a5 := a4.trans a₄
        cases fl' with
        | next =>
          cases (show fl = .next from rf)
          obtain ⟨hit4, hn4⟩ := iter_same a₄.gr hn3 (frm_iter fr₃ hit3.obj) hit3
          exact ⟨f, Nat.lt_succ_self f, k + 1, l₄, hp₄, σ₄, hR', a5, fr₄, hit4, hn4⟩
        | ret av =>
          obtain ⟨v, rfl, rv⟩ := rf
          show QS P env cx σ s R (.ret v) s₄
          rw [← hR']
          exact ⟨_, _, _, _, rfl, a5, ⟨v, rfl, rv⟩, fr₄⟩
end
end Mine

namespace Mine
open PySem PySem.Spec PyProof.Rows PySem.SeqAt

theorem lookup_of_mem' {α : Type} : ∀ {l : List (Str × α)}, (l.map (·.1)).Nodup → ∀ {x : Str} {v : α}, (x, v) ∈ l → l.lookup x = some v
  | [], _, _, _, h => nomatch h
  | (k, w) :: r, nd, x, v, h => by
    rw [List.map_cons, List.nodup_cons] at nd
    rw [List.lookup_cons]
    rcases List.mem_cons.mp h with e | h2
    · cases e; rw [BEq.rfl]
    · have hne : (x == k) = false := beq_eq_false_iff_ne.mpr fun e => nd.1 (List.mem_map.mpr ⟨(x, v), h2, e⟩)
      rw [hne]
      exact lookup_of_mem' nd.2 h2

section
variable {env : Env}
noncomputable def relK (env : Env) (x : Str) (k : NameKind) : NameKind := if (k == .free && env.scope.kind == .function && env.kindOf x == some .cell) then .cell else k
theorem relabel_lookup : ∀ {names : List (Str × NameKind)} {x : Str} {k : NameKind}, names.lookup x = some k →
    (names.map fun (n, k) => if (k == NameKind.free && env.scope.kind == .function && env.kindOf n == some .cell) then (n, NameKind.cell) else (n, k)).lookup x = some (relK env x k)
  | [], _, _, h => by cases h
  | (n, k) :: r, x, k', h => by
    have ih := @relabel_lookup r x k'
    rw [List.lookup_cons] at h
    show List.lookup x ((if (k == NameKind.free && env.scope.kind == .function && env.kindOf n == some .cell) = true then (n, NameKind.cell) else (n, k)) :: _) = _
    have e : (if (k == NameKind.free && env.scope.kind == .function && env.kindOf n == some .cell) = true then (n, NameKind.cell) else (n, k)) = (n, relK env n k) := by
      unfold relK; split <;> rfl
    rw [e, List.lookup_cons]
    cases hx : x == n with
    | true => rw [hx] at h; cases h; rw [beq_iff_eq.mp hx]
    | false => rw [hx] at h; exact ih h

theorem lookup_first {α : Type} {x : Str} {c : α} : ∀ {l : List (Str × α)}, (x, c) ∈ l → ∃ c', l.lookup x = some c' ∧ (x, c') ∈ l
  | [], h => nomatch h
  | (k, w) :: r, h => by
    rw [List.lookup_cons]
    cases hx : x == k with
    | true => exact ⟨w, rfl, by rw [beq_iff_eq.mp hx]; exact List.mem_cons_self⟩
    | false =>
      rcases List.mem_cons.mp h with e | h
      · cases e; simp at hx
      · obtain ⟨c', h1, h2⟩ := lookup_first h
        exact ⟨c', h1, List.mem_cons_of_mem _ h2⟩

theorem closure_from : ∀ (names : List (Str × NameKind)) (acc : List (Str × Addr)), (∀ p ∈ names, p.2 = .free → ∃ c, env.cells.lookup p.1 = some c) →
    ∃ cl, (forIn names acc fun (x : Str × NameKind) (cs : List (Str × Addr)) => match x with
        | (name, kind) => if (kind == NameKind.free) = true then do let a ← cellOf env name; pure (ForInStep.yield ((name, a) :: cs)) else pure (ForInStep.yield cs)) = (pure cl : Sem _) ∧
      (∀ q ∈ cl, q ∈ acc ∨ env.cells.lookup q.1 = some q.2) ∧ (∀ q ∈ acc, q ∈ cl) ∧ ∀ p ∈ names, p.2 = .free → ∃ c, (p.1, c) ∈ cl
  | [], acc, _ => ⟨acc, by rw [List.forIn_nil], fun q h => .inl h, fun q h => h, fun p hp => nomatch hp⟩
  | (n, k) :: r, acc, H => by
    have Hr : ∀ p ∈ r, p.2 = .free → ∃ c, env.cells.lookup p.1 = some c := fun p hp => H p (List.mem_cons_of_mem _ hp)
    by_cases hk : k = .free
    · subst hk
      obtain ⟨c, hc⟩ := H (n, .free) List.mem_cons_self rfl
      obtain ⟨cl, h1, h2, h3, h4⟩ := closure_from r ((n, c) :: acc) Hr
      refine ⟨cl, ?_, fun q hq => ?_, fun q hq => h3 q (List.mem_cons_of_mem _ hq), fun p hp hpk => ?_⟩
      · rw [List.forIn_cons, ← h1]
        have e : cellOf env n = pure c := by unfold cellOf; rw [hc]
        show (if (NameKind.free == NameKind.free) = true then (cellOf env n >>= fun a => pure (ForInStep.yield ((n, a) :: acc))) else _) >>= _ = _
        rw [if_pos (show (NameKind.free == NameKind.free) = true from rfl), e]
        rfl
      · rcases h2 q hq with h | h
        · rcases List.mem_cons.mp h with e | h
          · cases e; exact .inr hc
          · exact .inl h
        · exact .inr h
      · rcases List.mem_cons.mp hp with e | hp
        · cases e; exact ⟨c, h3 _ List.mem_cons_self⟩
        · exact h4 p hp hpk
    · obtain ⟨cl, h1, h2, h3, h4⟩ := closure_from r acc Hr
      refine ⟨cl, ?_, h2, h3, fun p hp hpk => ?_⟩
      · rw [List.forIn_cons, ← h1]
        have : (k == NameKind.free) = false := beq_eq_false_iff_ne.mpr hk
        show (if (k == NameKind.free) = true then _ else pure (ForInStep.yield acc)) >>= _ = _
        rw [if_neg (by rw [this]; exact Bool.false_ne_true)]
        rfl
      · rcases List.mem_cons.mp hp with e | hp
        · cases e; exact absurd hpk hk
        · exact h4 p hp hpk
theorem closure_is {scope : Scope} (H : ∀ p ∈ scope.names, p.2 = .free → ∃ c, env.cells.lookup p.1 = some c) :
    ∃ cl, closureFor scope env = pure cl ∧ (∀ q ∈ cl, env.cells.lookup q.1 = some q.2) ∧ ∀ p ∈ scope.names, p.2 = .free → ∃ c, cl.lookup p.1 = some c := by
  obtain ⟨cl, h1, h2, h3, h4⟩ := closure_from (env := env) scope.names [] H
  refine ⟨cl, ?_, fun q hq => (h2 q hq).elim (fun h => nomatch h) id, fun p hp hpk => ?_⟩
  · unfold closureFor
    exact (congrArg (· >>= fun r => pure r) h1).trans rfl
  · obtain ⟨c, hc⟩ := h4 p hp hpk
    obtain ⟨c', h, _⟩ := lookup_first hc
    exact ⟨c', h⟩
end

theorem zipIdx_lookup : ∀ {ns : List Str} {k : Nat} {x : Str} {i : Nat}, (ns.zipIdx k).lookup x = some i → k ≤ i ∧ ns[i - k]? = some x
  | [], _, _, _, h => by simp at h
  | n :: ns, k, x, i, h => by
    rw [List.zipIdx_cons, List.lookup_cons] at h
    split at h
    · rename_i hb
      cases h
      rw [beq_iff_eq.mp hb]
      exact ⟨Nat.le_refl _, by simp⟩
    · obtain ⟨h1, h2⟩ := zipIdx_lookup h
      refine ⟨by omega, ?_⟩
      rw [show i - k = (i - (k + 1)) + 1 by omega]
      exact h2
theorem zipIdx_has : ∀ {ns : List Str} {k : Nat} {x : Str}, x ∈ ns → ∃ i, (ns.zipIdx k).lookup x = some i
  | n :: ns, k, x, h => by
    rw [List.zipIdx_cons, List.lookup_cons]
    cases hb : x == n with
    | true => exact ⟨_, rfl⟩
    | false =>
      rcases List.mem_cons.mp h with e | h
      · subst e; simp at hb
      · exact zipIdx_has h

section
variable {P : Par} {cx : Cx} {env : Env} {A : Around} {E : Value → Shared → Prop} {σ σ' : Sg} {l l' : Locs} {hp hp' : AHeap} {s s' : Shared} {n : Nat} {scope : Scope}

/-- a name of the block: its own, or the function's -/
theorem inner_slot (hok : innerOk cx scope = true) {x : Str} {i : Nat} (h : (innerCx cx scope).slot x = some i) :
    (scope.names.lookup x = some .local ∧ cx.n ≤ i ∧ (ownNames scope)[i - cx.n]? = some x) ∨ (scope.names.lookup x = some .free ∧ cx.sc.names.lookup x = some .cell ∧ cx.slot x = some i) := by
  simp only [innerOk, Bool.and_eq_true, decide_eq_true_eq] at hok
  obtain ⟨⟨_, hnd⟩, hall⟩ := hok
  unfold Cx.slot at h
  split at h
  · rename_i k hk
    split at h
    · rename_i hkk
      have hk : scope.names.lookup x = some k := hk
      have h : ((ownNames scope).zipIdx cx.n ++ cx.loc).lookup x = some i := h
      have hmem := mem_of_lookup' hk
      have hx := List.all_eq_true.mp hall _ hmem
      rw [List.lookup_append] at h
      unfold innerName at hx
      cases k <;> first | (cases hx; done) | (cases hkk; done) | skip
      · left
        refine ⟨hk, ?_⟩
        dsimp only at hx
        by_cases h0 : x = (".0" : Str)
        · have hno : x ∉ ownNames scope := fun hm => by
            obtain ⟨q, hq, e⟩ := List.mem_filterMap.mp hm
            split at e
            · rename_i hc; cases e; rw [Bool.and_eq_true, bne_iff_ne] at hc; exact hc.2 h0
            · cases e
          rw [Bool.or_eq_true, bne_iff_ne] at hx
          rcases hx with hx | hx
          · exact absurd h0 hx
          · cases hz : ((ownNames scope).zipIdx cx.n).lookup x with
            | some j =>
              obtain ⟨_, h2⟩ := zipIdx_lookup hz
              exact absurd (List.mem_of_getElem? h2) hno
            | none =>
              rw [hz, Option.isNone_iff_eq_none.mp hx] at h
              cases h
        · have hin : x ∈ ownNames scope := List.mem_filterMap.mpr ⟨(x, .local), hmem, by
            rw [if_pos]
            rw [Bool.and_eq_true, bne_iff_ne]
            exact ⟨rfl, h0⟩⟩
          obtain ⟨j, hj⟩ := zipIdx_has (k := cx.n) hin
          rw [hj] at h
          cases h
          exact zipIdx_lookup hj
      · right
        dsimp only at hx
        rw [Bool.and_eq_true, beq_iff_eq] at hx
        obtain ⟨i', hi'⟩ := Option.isSome_iff_exists.mp hx.2
        refine ⟨hk, hx.1, ?_⟩
        have hno : x ∉ ownNames scope := fun hm => by
          obtain ⟨⟨y, ky⟩, hq, e⟩ := List.mem_filterMap.mp hm
          split at e
          · rename_i hc
            cases e
            rw [Bool.and_eq_true, beq_iff_eq] at hc
            have := Mine.lookup_of_mem' hnd hq
            rw [hk] at this
            cases this
            cases hc.1
          · cases e
        cases hz : ((ownNames scope).zipIdx cx.n).lookup x with
        | some j =>
          obtain ⟨_, h2⟩ := zipIdx_lookup hz
          exact absurd (List.mem_of_getElem? h2) hno
        | none =>
          rw [hz] at h
          unfold Cx.slot at hi' ⊢
          split at hi'
          · split at hi'
            · rename_i k2 hk2 hkk2
              rw [if_pos hkk2]
              exact h
            · cases hi'
          · cases hi'
    · cases h
  · cases h

/-- the frame of a comprehension's block -/
theorem frm_inner {h h' : Heap} (f : Frm P h σ env cx l) (hok : innerOk cx scope = true) {cl : List (Str × Addr)} (sub : ∀ q ∈ cl, env.cells.lookup q.1 = some q.2) (has : ∀ p ∈ scope.names, p.2 = .free → ∃ c, cl.lookup p.1 = some c) {C : Addr}
    (hns : h'.Ns C (fun _ => none)) (hk : ∀ b o, h.get? b = some o → h'.get? b = some o) (hC : C ∉ σ.map (·.1)) (hCb : P.B.h₀.get? C = none) :
    Frm P h' σ (compEnvC scope cl C env) (innerCx cx scope) (l ++ List.replicate (ownNames scope).length none) := by
  have hsl := fun x i => inner_slot (x := x) (i := i) hok
  have hok' := hok
  simp only [innerOk, Bool.and_eq_true, decide_eq_true_eq, beq_iff_eq] at hok'
  obtain ⟨⟨hkind, hnd⟩, hall⟩ := hok'
  have memc : ∀ p ∈ cl, p ∈ env.cells := fun p hp => mem_of_lookup' (sub p hp)
  have hrel : ∀ x k, scope.names.lookup x = some k → (compEnvC scope cl C env).kindOf x = some (relK env x k) := fun x k h => relabel_lookup h
  have hold : ∀ av v, RV P.B h σ av v → RV P.B h' σ av v := fun av v r => RV.fixes (fun b o e _ => hk b o e) av v r
  refine ⟨hkind, ?_, fun x y i h1 h2 => ?_, fun x i hx => ?_, fun x hx => ?_, fun x i hx => ?_, ⟨_, hns, fun x i hx => ?_⟩, ⟨hC, fun p hp => f.out.2 p (memc p hp)⟩, ⟨hCb, fun p hp => f.new.2 p (memc p hp)⟩, f.globals, f.builtins, fun p hp => ?_,
    fun p hp q hq e => f.apart p (memc p hp) q (memc q hq) e, fun x k hx hlk => ?_⟩
  · rw [List.length_append, List.length_replicate, f.len]; rfl
  · rcases hsl x i h1 with ⟨_, a1, a2⟩ | ⟨_, _, a3⟩ <;> rcases hsl y i h2 with ⟨_, b1, b2⟩ | ⟨_, _, b3⟩
    · rw [a2] at b2; exact Option.some.inj b2
    · exact absurd (f.lt y i b3) (by omega)
    · exact absurd (f.lt x i a3) (by omega)
    · exact f.inj x y i a3 b3
  · rcases hsl x i hx with ⟨_, a1, a2⟩ | ⟨_, _, a3⟩
    · have := (List.getElem?_eq_some_iff.mp a2).1
      show i < cx.n + (ownNames scope).length
      omega
    · exact Nat.lt_of_lt_of_le (f.lt x i a3) (Nat.le_add_right _ _)
  · have h1 : scope.names.lookup x = some .globalImplicit := by
      have := (Bool.and_eq_true_iff.mp hx).1
      exact beq_iff_eq.mp this
    rw [hrel x _ h1]; rfl
  · unfold Cx.slotW at hx
    have hne : ∀ k, scope.names.lookup x = some k → k ≠ .free → (compEnvC scope cl C env).kindOf x ≠ some .free := fun k h1 h2 => by
      rw [hrel x k h1]
      unfold relK
      intro e
      split at e
      · cases e
      · exact h2 (Option.some.inj e)
    split at hx
    · rename_i h1; exact hne _ h1 (fun e => nomatch e)
    · rename_i h1; exact hne _ h1 (fun e => nomatch e)
    · cases hx
  · rcases hsl x i hx with ⟨a0, a1, a2⟩ | ⟨a0, a1, a3⟩
    · refine .inl ⟨by rw [hrel x _ a0]; rfl, fun av e => ?_⟩
      rw [List.getElem?_append_right (by rw [f.len]; exact a1), List.getElem?_replicate] at e
      split at e <;> cases e
    · have hcell := f.kinds x .cell a1 (.inr rfl)
      obtain ⟨m, _, hm⟩ := f.names
      rcases hm x i a3 with ⟨hk', _⟩ | ⟨_, c, ov, hc, ⟨o, ho, hd⟩, hv⟩
      · rw [hcell] at hk'; cases hk'
      · obtain ⟨c', hc'⟩ := has (x, .free) (mem_of_lookup' a0) rfl
        have hcc := sub _ (mem_of_lookup' hc')
        obtain rfl : c' = c := by
          rw [hc] at hcc
          exact (Option.some.inj hcc).symm
        refine .inr ⟨.inl ?_, c', ov, hc', ⟨o, hk c' o ho, hd⟩, fun av e => ?_⟩
        · rw [hrel x _ a0]
          unfold relK
          rw [hcell, f.kind]
          rfl
        · rw [List.getElem?_append_left (by rw [f.len]; exact f.lt x i a3)] at e
          obtain ⟨v, h1, h2⟩ := hv av e
          exact ⟨v, h1, hold _ _ h2⟩
  · obtain ⟨o, v, ho, hd⟩ := f.cells p (memc p hp)
    exact ⟨o, v, hk _ o ho, hd⟩
  · rw [hrel x k hx]
    rcases hlk with rfl | rfl <;> rfl
end
end Mine

namespace Mine
open PySem PySem.Spec PyProof.Rows PySem.SeqAt

/-- a comprehension's parts -/
structure CP where
  e : X
  k : Nat
  j : Nat
  it : X
  cs : Xs
noncomputable def CP.x (p : CP) : X := .comp p.e p.k p.j p.it p.cs
noncomputable def compBody (c : Ctx) (e : X) (cs : Xs) (l : Locs) (h : AHeap) : Res (Option AV) := (evalConds c cs l h).bind fun b h => ifB b h (evalX c e l h)
noncomputable def evalCP (c : Ctx) (p : CP) (l : Locs) (h : AHeap) : Res AV := evalX c p.x l h
theorem x_cp {c : Ctx} {p : CP} {l : Locs} {h : AHeap} : evalCP c p l h = (evalX c p.it l h).bind fun src h =>
    (compLoop (fun v h => compBody c p.e p.cs (inner l p.k p.j v) h) src c.fuel 0 [] h).bind fun vs h => newList vs h := rfl
section
variable {P : Par} {cx : Cx} {env : Env} {A : Around} {E : Value → Shared → Prop} {σ σ' : Sg} {l l' : Locs} {hp hp' : AHeap} {s s' : Shared} {n : Nat} {scope : Scope}

theorem condB_is {v : AV} {x y : Res Bool} (hb : condB v x y ≠ .bad) : ∃ b, v = .bool b := by
  cases v
  case bool b => exact ⟨b, rfl⟩
  all_goals exact absurd rfl hb
theorem conds_prim {c : Ctx} {ifs : List Expr} {cs : Xs} (hifs : (ifs = [] ∧ cs = .nil) ∨ ∃ q xq, ifs = [q] ∧ cs = .cons xq .nil ∧ SimT P cx q xq) (C : Sims P cx c n) (I : Inv P cx n env A σ l hp s) (hb : evalConds c cs l hp ≠ .bad) :
    wpAny (model P.prog P.w) A (forIn ifs true fun c r => if r = true then do let ok ← isTrue c env (eval c env); pure (ForInStep.yield ok) else pure (ForInStep.yield r))
      (fun ok s' => ∃ hp' σ', evalConds c cs l hp = .ok ok hp' ∧ After P σ σ' [] hp' s s') NE s := by
  rcases hifs with ⟨rfl, rfl⟩ | ⟨q, xq, rfl, rfl, h⟩
  · exact wpAny_tests_nil ⟨hp, σ, rfl, .refl I.st⟩
  · have e : evalConds c (.cons xq .nil) l hp = (evalX c xq l hp).bind fun v h => condB v (.ok true h) (.ok false h) := rfl
    rw [e] at hb
    have hbr : BoolR (evalX c xq l hp) := fun av h er => by
      rw [er, bok] at hb
      exact condB_is hb
    refine wpAny_tests_one (wpAny_mono (h c n env A σ l hp s C I (bind_ok hb) hbr) (fun b s' ⟨hp', σ', er, a⟩ => ⟨hp', σ', ?_, a⟩) fun _ _ q => q)
    rw [e, er]
    cases b <;> rfl

theorem comp_items {body : AV → AHeap → Res (Option AV)} {src : AV} {fuel : Nat} {acc : List AV} {k : Nat} (hb : compLoop body src fuel k acc hp ≠ .bad) : ∃ xs, itemsAV src hp = some xs := by
  cases hi : itemsAV src hp with
  | some xs => exact ⟨xs, rfl⟩
  | none =>
    exfalso; apply hb
    cases fuel with
    | zero => rfl
    | succ f => unfold compLoop nextAt; rw [hi]; rfl

theorem iter_self {it : Addr} {src : AV} {k : Nat} (x : IterAt P s.heap σ it src k) {Q : Value → Shared → Prop} (h : Q (.ref it) s) : wpAny (model P.prog P.w) A (pyIter (.ref it)) Q E s := by
  cases src
  case rng => exact wpAny_pyIter_rangeiter x h
  case str => obtain ⟨_, x⟩ := x; exact wpAny_pyIter_striter_ascii x h
  case tup => obtain ⟨_, _, _, _, _, x⟩ := x; exact wpAny_pyIter_tupleiter x h
  case loc => obtain ⟨_, _, _, x⟩ := x; exact wpAny_pyIter_listiter x h
  all_goals exact x.elim

theorem same_obj {X : List Addr} {b : Addr} {o : Obj} {h h' : Heap} {T : String} (g : Grows σ σ' X h h') (ho : h.get? b = some o) (hc : o.cls = .type T) (hT : T ≠ "frame") (hn : b ∉ σ.map (·.1)) (hX : b ∉ X) : h'.get? b = some o := by
  rcases g.oth b o ho hn hX with q | ⟨hcf, _⟩
  · exact q
  · rw [hc] at hcf; exact absurd (Value.type.inj hcf) hT

theorem set_inner {l : Locs} {k j : Nat} {a b : AV} : (inner l k j a).set j (some b) = inner l k j b := by unfold inner; rw [List.set_set]

/-- what the loop of a comprehension keeps -/
structure CompInv (P : Par) (cx : Cx) (env : Env) (l : Locs) (K j : Nat) (src : AV) (it D : Addr) (σ : Sg) (s : Shared) (k : Nat) (acc : List AV) (hp' : AHeap) (σ' : Sg) (s' : Shared) : Prop where
  af : After P σ σ' [] hp' s s'
  fr : ∃ lv, Frm P s'.heap σ' env cx lv ∧ ∀ av, lv.set j (some av) = inner l K j av
  walk : IterAt P s'.heap σ' it src k
  itn : it ∉ σ'.map (·.1)
  have_ : ∃ ws m, ObjAt s'.heap D (.type "list") (.seq ws m) ∧ RVs P.B s'.heap σ' acc ws.toList
  accn : D ∉ σ'.map (·.1)
  len : acc.length ≤ sizeLim

theorem FX_ne {b : Addr} {o : Obj} (f : Frm P s.heap σ env cx l) (ho : s.heap.get? b = some o) (h1 : ∀ es ep, o.data ≠ .dict es ep) (h2 : ∀ v, o.data ≠ .cell v) : b ∉ FX env := by
  intro hm
  simp only [FX, List.mem_cons, List.mem_map] at hm
  rcases hm with rfl | ⟨p, hp, rfl⟩
  · obtain ⟨o', es, ep, ho', hd'⟩ := f.nsObj
    rw [ho] at ho'; cases ho'; exact h1 _ _ hd'
  · obtain ⟨o', v, ho', hd'⟩ := f.cells p hp
    rw [ho] at ho'; cases ho'; exact h2 _ hd'

/-- three places made for a comprehension: what walks, what is gathered, the names -/
structure Aside (P : Par) (s : Shared) (it D K : Addr) : Prop where
  i0 : s.heap.get? it = none
  ib : P.B.h₀.get? it = none
  d0 : s.heap.get? D = none
  db : P.B.h₀.get? D = none
  k0 : s.heap.get? K = none
  kb : P.B.h₀.get? K = none
  dk : D ≠ K
  di : D ≠ it
  ik : it ≠ K
/-- what its parts are -/
structure CompS (P : Par) (cx : Cx) (c : Ctx) (n : Nat) (env : Env) (A : Around) (K : Addr) (elt : Expr) (x : Str) (ifs : List Expr) (p : CP) : Prop where
  sims : Sims P cx c n
  ar : Arnd n A
  wx : cx.slotW x = some p.j
  el : SimE P cx elt p.e
  ifs : (ifs = [] ∧ p.cs = .nil) ∨ ∃ q xq, ifs = [q] ∧ p.cs = .cons xq .nil ∧ SimT P cx q xq
  loc : env.kindOf x = some .local
  k : env.locals = K

noncomputable def bodyOf (c : Ctx) (p : CP) (l : Locs) (v : AV) (h : AHeap) : Res (Option AV) := compBody c p.e p.cs (inner l p.k p.j v) h
/-- the run that is left -/
noncomputable def CompRest (P : Par) (cx : Cx) (env : Env) (c : Ctx) (p : CP) (l : Locs) (src : AV) (it D : Addr) (σ : Sg) (s : Shared) (vs : List AV) (hp₂ : AHeap) (f : Nat) (s' : Shared) : Prop :=
  ∃ k acc hp' σ', compLoop (bodyOf c p l) src f k acc hp' = .ok vs hp₂ ∧ CompInv P cx env l p.k p.j src it D σ s k acc hp' σ' s'

theorem fix_of {b : Addr} {h h' : Heap} (hk : ∀ x o, x ≠ b → h.get? x = some o → h'.get? x = some o) (hf : ∃ o, h.get? b = some o ∧ ¬ fixed o) : Fixes h h' := fun x o e f => hk x o (fun q => by
  subst q; obtain ⟨o2, e2, hf2⟩ := hf; rw [e2] at e; cases e; exact hf2 f) e

section
variable {c : Ctx} {K it D : Addr} {elt : Expr} {x : Str} {ifs : List Expr} {p : CP} {src : AV} {vs acc : List AV} {hp₂ : AHeap} {f k : Nat}

/-- what is gathered, put behind -/
theorem comp_put (ap : Aside P s it D K) {hp₄ hp₅ : AHeap} {σ₄ σ₅ : Sg} {s₄ s₅ : Shared} {lv : Locs} {xv : AV} {w : Value} {ws : Array Value} {m : Nat} (hset : ∀ av, lv.set p.j (some av) = inner l p.k p.j av)
    (a4 : After P σ σ₄ [] hp₄ s s₄) (a₅ : After P σ₄ σ₅ [] hp₅ s₄ s₅) (fr : Frm P s₅.heap σ₅ env cx lv) (hit : IterAt P s₄.heap σ₄ it src (k + 1)) (hin : it ∉ σ₄.map (·.1)) (hD : ObjAt s₄.heap D (.type "list") (.seq ws m)) (hacc : RVs P.B s₄.heap σ₄ acc ws.toList) (hDn : D ∉ σ₄.map (·.1))
    (rw' : RV P.B s₅.heap σ₅ xv w) (hR : (if acc.length < sizeLim then compLoop (bodyOf c p l) src f (k + 1) (acc ++ [xv]) hp₅ else .bad) = .ok vs hp₂) :
    wpAny (model P.prog P.w) A (call (.builtin "list.append") [.ref D, w]) (fun _ s' => ∃ m, m < f + 1 ∧ CompRest P cx env c p l src it D σ s vs hp₂ m s') E s₅ := by
  have gr := a₅.gr
  have hD5 : ObjAt s₅.heap D (.type "list") (.seq ws m) := same_obj gr hD rfl (by decide) hDn (fun h => nomatch h)
  have hacc5 := RVs.grows gr _ _ hacc
  have hlen := hacc5.size
  have hDn5 : D ∉ σ₅.map (·.1) := not_mem_grown gr hD hDn
  have hDf : ¬ fixed ({ cls := .type "list", data := .seq ws m } : Obj) := fun q => absurd (Value.type.inj q) (by decide)
  obtain ⟨hit5, hin5⟩ := iter_same gr hin (fun h => nomatch h) hit
  split at hR
  · rename_i hlt
    refine append_at hD5 (fun h₆ hs₆ hD₆ => ?_) (by have := sizeLim_le (Nat.le_of_lt hlt); omega)
    obtain ⟨a7, hx7, hk7⟩ := (a4.trans a₅).extBut (t := s₅.toks) hs₆.extBut ap.d0 hDn5 ap.db ⟨_, hD5, hDf⟩
    have g7 : Grows σ₅ σ₅ [D] s₅.heap h₆ := .sameBut hs₆ (fun o e => by rw [hD5] at e; cases e; exact hDf) (.inr List.mem_cons_self) hD₆
    exact ⟨f, Nat.lt_succ_self f, k + 1, acc ++ [xv], hp₅, σ₅, hR, a7, ⟨_, fr.extBut (FX_ne fr hD5 (fun _ _ e => nomatch e) (fun _ e => nomatch e)) hx7 hk7, hset⟩, hit5.keep g7 (hs₆.2 it (Ne.symm ap.di)), hin5,
      ⟨ws.push w, m + 1, hD₆, by rw [Array.toList_push]; exact (RVs.fixes (fix_of hk7 ⟨_, hD5, hDf⟩) _ _ hacc5).append ⟨hx7 _ _ rw', trivial⟩⟩, hDn5, by rw [List.length_append, List.length_singleton]; omega⟩
  · cases hR

/-- one turn, the item drawn -/
theorem comp_turn (cs : CompS P cx c n env A K elt x ifs p) (ap : Aside P s it D K) {hp₁ : AHeap} {σ₁ : Sg} {s₁ : Shared} {lv : Locs} {av : AV} {u : Value} {px : Pos} {ws : Array Value} {m : Nat} (hset : ∀ av, lv.set p.j (some av) = inner l p.k p.j av)
    (a₁ : After P σ σ₁ [] hp₁ s s₁) (fr : Frm P s₁.heap σ₁ env cx lv) (ru : RV P.B s₁.heap σ₁ av u) (hit : IterAt P s₁.heap σ₁ it src (k + 1)) (hin : it ∉ σ₁.map (·.1)) (hD : ObjAt s₁.heap D (.type "list") (.seq ws m)) (hacc : RVs P.B s₁.heap σ₁ acc ws.toList) (hDn : D ∉ σ₁.map (·.1)) (hlen : acc.length ≤ sizeLim)
    (hR : (bodyOf c p l av hp₁).bind (fun r h => match r with
      | some x => if acc.length < sizeLim then compLoop (bodyOf c p l) src f (k + 1) (acc ++ [x]) h else .bad
      | none => compLoop (bodyOf c p l) src f (k + 1) acc h) = .ok vs hp₂) :
    wpAny (model P.prog P.w) A (assign (.Name x px) env u) (fun _ s₂ =>
      wpAny (model P.prog P.w) A (forIn ifs true fun c r => if r = true then do let ok ← isTrue c env (eval c env); pure (ForInStep.yield ok) else pure (ForInStep.yield r)) (fun ok s₃ =>
        if ok = true then wpAny (model P.prog P.w) A (eval elt env) (fun x s₄ =>
          wpAny (model P.prog P.w) A (call (.builtin "list.append") [.ref D, x]) (fun _ s₅ => ∃ m, m < f + 1 ∧ CompRest P cx env c p l src it D σ s vs hp₂ m s₅) E s₄) E s₃
        else ∃ m, m < f + 1 ∧ CompRest P cx env c p l src it D σ s vs hp₂ m s₃) E s₂) E s₁ := by
  have hlk := cs.k
  refine wpAny_assign_Name (store_in (X := [K]) a₁.st fr cs.wx ru (fun _ => by rw [hlk]; exact List.mem_cons_self) (fun hne => absurd cs.loc hne) fun s₃ a₃ fr₃ _ => ?_)
  rw [hset av] at fr₃
  have a4 : After P σ σ₁ [] hp₁ s s₃ := by
    have z := (a₁.more (Y := [K]) (fun _ h => nomatch h)).trans a₃
    exact ⟨z.ctl, z.st, z.gr.drop fun b hb => .inr (by rw [List.mem_singleton.mp hb]; exact ap.k0)⟩
  have hD3 : ObjAt s₃.heap D (.type "list") (.seq ws m) := same_obj a₃.gr hD rfl (by decide) hDn (fun q => ap.dk (List.mem_singleton.mp q))
  have hacc3 := RVs.grows a₃.gr _ _ hacc
  obtain ⟨hit3, hin3⟩ := iter_same a₃.gr hin (fun q => ap.ik (List.mem_singleton.mp q)) hit
  have hcb : evalConds c p.cs (inner l p.k p.j av) hp₁ ≠ .bad := fun e => by
    unfold bodyOf compBody at hR; rw [e] at hR; cases hR
  refine wpAny_mono (conds_prim cs.ifs cs.sims ⟨a4.st, fr₃, cs.ar⟩ hcb) (fun b s₄ q => ?_) (fun _ _ q => q.elim)
  obtain ⟨hp₄, σ₄, e4, a₄⟩ := q
  have hR : ((if b then (evalX c p.e (inner l p.k p.j av) hp₄).bind fun x h => .ok (some x) h else .ok none hp₄ : Res (Option AV)).bind (fun r h => match r with
      | some x => if acc.length < sizeLim then compLoop (bodyOf c p l) src f (k + 1) (acc ++ [x]) h else .bad
      | none => compLoop (bodyOf c p l) src f (k + 1) acc h)) = .ok vs hp₂ := by
    unfold bodyOf compBody at hR
    rw [e4, bok] at hR
    exact hR
  have fr₄ := fr₃.after a₄
  have a5 := a4.trans a₄
  obtain ⟨hit4, hin4⟩ := iter_same a₄.gr hin3 (fun h => nomatch h) hit3
  have hD4 : ObjAt s₄.heap D (.type "list") (.seq ws m) := same_obj a₄.gr hD3 rfl (by decide) hDn (fun h => nomatch h)
  have hacc4 := RVs.grows a₄.gr _ _ hacc3
  have hDn4 : D ∉ σ₄.map (·.1) := not_mem_grown a₄.gr hD3 hDn
  cases b with
  | false => exact ⟨f, Nat.lt_succ_self f, k + 1, acc, hp₄, σ₄, hR, a5, ⟨_, fr₄, fun _ => set_inner⟩, hit4, hin4, ⟨ws, m, hD4, hacc4⟩, hDn4, hlen⟩
  | true =>
    rw [if_pos rfl] at hR ⊢
    have hel' := cs.el c n env A σ₄ (inner l p.k p.j av) hp₄ s₄ cs.sims ⟨a5.st, fr₄, cs.ar⟩
    cases hrx : evalX c p.e (inner l p.k p.j av) hp₄ with
    | bad => rw [hrx] at hR; cases hR
    | ok xv hp₅ =>
      rw [hrx] at hR hel'
      refine wpAny_mono (hel' (fun e => nomatch e)) (fun w s₅ q => ?_) (fun _ _ q => q.elim)
      obtain ⟨_, _, σ₅, e, a₅, rw'⟩ := q
      cases e
      exact comp_put ap (fun _ => set_inner) a5 a₅ (fr₄.after a₅) hit4 hin4 hD4 hacc4 hDn4 rw' hR

/-- the walk of its loop -/
theorem comp_loop (cs : CompS P cx c n env A K elt x ifs p) (ap : Aside P s it D K) {iter : Expr} {scope : Scope} {px pos : Pos} {R : Result → Shared → Prop} {s₀ : Shared} (h₀ : CompRest P cx env c p l src it D σ s vs hp₂ c.fuel s₀)
    (hend : ∀ σ' lv s₅, After P σ (σ' ++ [(D, 0)]) [] (hp₂ ++ [.list vs]) s s₅ → σ'.length = hp₂.length → Frm P s₅.heap σ' env cx lv → R (.ok .next) s₅) (hsz : vs.length ≤ sizeLim) :
    codeAny (model P.prog P.w) A (.compLoop (.ListComp elt [⟨.Name x px, iter, ifs, 0⟩] scope pos) 0 (.ref it) (.ref D) env) R s₀ := by
  refine codeAny_compLoop_tests (CompRest P cx env c p l src it D σ s vs hp₂) ?_ c.fuel h₀
  rintro f s' ⟨k, acc, hp', σ', hR', J⟩
  obtain ⟨lv, fr, hlv⟩ := J.fr
  have ho := J.walk.obj
  cases f with
  | zero => cases hR'
  | succ f =>
    rw [compLoop] at hR'
    cases hnx : nextAt src k hp' with
    | none => rw [hnx] at hR'; cases hR'
    | some r =>
      rw [hnx] at hR'
      obtain ⟨ws, m, hD, hacc⟩ := J.have_
      have hitF := frm_iter fr ho
      refine next_prim J.af.st cs.ar.handled J.walk hnx (fun er h' hs => ?_) (fun av u h' t er ru hs hit' => ?_)
      · subst er
        cases hR'
        obtain ⟨a', hx', hk'⟩ := J.af.extBut (t := s'.toks) hs ap.i0 J.itn ap.ib ho.notFixed
        have S₅ := a'.st.adopt (off := 0) (ao := .list vs) J.accn ap.db fun kl => ⟨ws, m, hk' D _ ap.di hD, RVs.mono (fun _ _ x _ => x) kl _ _ (RVs.fixes (fix_of hk' ho.notFixed) _ _ hacc), sizeLim_le hsz⟩
        exact hend σ' lv _ ⟨a'.ctl, S₅, a'.gr.adopt ap.d0⟩ a'.st.len (fr.extBut hitF hx' hk')
      · subst er
        obtain ⟨a', hx', hk'⟩ := J.af.extBut (t := t) hs ap.i0 J.itn ap.ib ho.notFixed
        have hfix := fix_of hk' ho.notFixed
        exact comp_turn (s₁ := { s' with heap := h', toks := t }) cs ap hlv a' (fr.extBut hitF hx' hk') (hx' _ _ ru) (hit' hfix) J.itn (hk' D _ ap.di hD) (RVs.fixes hfix _ _ hacc) J.accn J.len hR'
end
end
end Mine

namespace Mine
open PySem PySem.Spec PyProof.Rows PySem.SeqAt

section
variable {P : Par} {cx : Cx} {env : Env} {A : Around} {σ σ' : Sg} {l : Locs} {hp hp' : AHeap} {s s' : Shared} {n : Nat} {scope : Scope} {c : Ctx}

theorem inner_scope (hok : innerOk cx scope = true) (f : Frm P s.heap σ env cx l) : scope.kind = .function ∧ (∀ q ∈ scope.names, q.2 = .local → scope.names.lookup q.1 = some .local) ∧ (∀ q ∈ scope.names, q.2 ≠ .cell) ∧
    ∀ q ∈ scope.names, q.2 = .free → ∃ c', env.cells.lookup q.1 = some c' := by
  unfold innerOk at hok
  rw [Bool.and_eq_true, Bool.and_eq_true, decide_eq_true_eq, beq_iff_eq] at hok
  obtain ⟨⟨hkind, hnd⟩, hall⟩ := hok
  refine ⟨hkind, fun q hq e => ?_, fun q hq e => ?_, fun q hq e => ?_⟩
  · obtain ⟨a, b⟩ := q
    cases (show b = .local from e)
    exact lookup_of_mem' hnd hq
  · have := List.all_eq_true.mp hall q hq
    unfold innerName at this
    rw [e] at this
    cases this
  · have hin := List.all_eq_true.mp hall q hq
    unfold innerName at hin
    rw [e] at hin
    dsimp only at hin
    rw [Bool.and_eq_true, beq_iff_eq] at hin
    obtain ⟨i', hi'⟩ := Option.isSome_iff_exists.mp hin.2
    have hk := f.kinds _ _ hin.1 (.inr rfl)
    obtain ⟨m, _, hm⟩ := f.names
    rcases hm q.1 i' hi' with ⟨h1, _⟩ | ⟨_, c', _, h1, _⟩
    · rw [hk] at h1; cases h1
    · exact ⟨c', h1⟩

/-- what it walks, and what it gathers -/
theorem cp_is {p : CP} (hb : evalCP c p l hp ≠ .bad) : ∃ src hp₁ vs hp₂ xs, evalX c p.it l hp = .ok src hp₁ ∧ itemsAV src hp₁ = some xs ∧ compLoop (bodyOf c p l) src c.fuel 0 [] hp₁ = .ok vs hp₂ ∧ vs.length ≤ sizeLim ∧ evalCP c p l hp = .ok (.loc hp₂.length) (hp₂ ++ [.list vs]) := by
  rw [x_cp] at hb ⊢
  cases hr : evalX c p.it l hp with
  | bad => rw [hr] at hb; exact absurd rfl hb
  | ok src hp₁ =>
    rw [hr, bok] at hb
    rw [bok]
    cases hr2 : compLoop (bodyOf c p l) src c.fuel 0 [] hp₁ with
    | bad =>
      have e2 : compLoop (fun v h => compBody c p.e p.cs (inner l p.k p.j v) h) src c.fuel 0 [] hp₁ = .bad := hr2
      rw [e2] at hb; exact absurd rfl hb
    | ok vs hp₂ =>
      have e2 : compLoop (fun v h => compBody c p.e p.cs (inner l p.k p.j v) h) src c.fuel 0 [] hp₁ = .ok vs hp₂ := hr2
      rw [e2, bok] at hb
      rw [e2, bok]
      have hsz : vs.length ≤ sizeLim := Classical.byContradiction fun hn => hb (if_neg hn)
      obtain ⟨xs, hi⟩ := comp_items (by rw [hr2]; exact fun e => nomatch e)
      exact ⟨src, hp₁, vs, hp₂, xs, rfl, hi, hr2, hsz, if_pos hsz⟩

theorem gone {σ₁ : Sg} {hp₁ : AHeap} {X : List Addr} (a : After P σ σ₁ X hp₁ s s') {b : Addr} (hb : s'.heap.objs.size ≤ b) : s'.heap.get? b = none ∧ s.heap.get? b = none ∧ b ∉ σ₁.map (·.1) ∧ P.B.h₀.get? b = none := by
  have h1 : s'.heap.get? b = none := Heap.get?_none_of_le hb
  refine ⟨h1, ?_, fun hm => ?_, ?_⟩
  · cases hq : s.heap.get? b with
    | none => rfl
    | some o => obtain ⟨o', e'⟩ := a.gr.ex _ o hq; rw [h1] at e'; cases e'
  · obtain ⟨p, hp, rfl⟩ := List.mem_map.mp hm
    obtain ⟨ob, e, _⟩ := a.st.there hp
    rw [h1] at e; cases e
  · cases hq : P.B.h₀.get? b with
    | none => rfl
    | some o => rw [a.st.base b o hq] at h1; cases h1

noncomputable def nilObj : Obj := { cls := .type "list", dict := none, data := .seq ([] : List Value).toArray }
theorem comp_core {elt iter : Expr} {x : Str} {px pos pp : Pos} {ifs : List Expr} {p : CP} (hok : innerOk cx scope = true) (hx : scope.names.lookup x = some .local) (hwx : (innerCx cx scope).slotW x = some p.j) (hpk : p.k = (ownNames scope).length)
    (hce : ∃ kk, compE kk cx iter = some p.it) (hsi : SimE P cx iter p.it) (hel : SimE P (innerCx cx scope) elt p.e) (hifs : (ifs = [] ∧ p.cs = .nil) ∨ ∃ q xq, ifs = [q] ∧ p.cs = .cons xq .nil ∧ SimT P (innerCx cx scope) q xq)
    (C : Sims P cx c n) (I : Inv P cx n env A σ l hp s) (hb : evalCP c p l hp ≠ .bad) {use : Option (Value → Sem Unit)} {Q : Value → Shared → Prop}
    (hfin : ∀ σ' hp₃ s₅ D K mm, After P σ (σ' ++ [(D, 0)]) [] hp₃ s s₅ → evalCP c p l hp = .ok (.loc σ'.length) hp₃ → s.heap.get? K = none → K ∉ (σ' ++ [(D, 0)]).map (fun p : Addr × Nat => p.1) → P.B.h₀.get? K = none → s₅.heap.Ns K mm → compPost (model P.prog P.w) A NE use Q (.ref D) K (.ok .next) s₅) :
    wpAny (model P.prog P.w) A (comprehension (.ListComp elt [⟨.Name x px, iter, ifs, 0⟩] scope pos) scope env pp (PySem.newList []) false (eval iter env) use) Q NE s := by
  obtain ⟨kk, hce⟩ := hce
  obtain ⟨src, hp₁, vs, hp₂, xs, hr, hi, hr2, hsz, ecp⟩ := cp_is hb
  obtain ⟨hkind, hhl, hcell, hfree⟩ := inner_scope hok I.fr
  obtain ⟨cl, hclos, sub, has⟩ := closure_is (env := env) (scope := scope) hfree
  have hit' := hsi c n env A σ l hp s C I (by rw [hr]; exact fun e => nomatch e)
  rw [hr] at hit'
  refine wpAny_comprehension_free rfl (fun v => folded_ok hce v) hclos hkind hhl (wpAny_mono hit' (fun xv s₁ q => ?_) fun _ _ e => e)
  obtain ⟨_, _, σ₁, e, a₁, rv⟩ := q
  cases e
  refine iter_prim C.ok a₁.st rv hi fun it s₂ hn0 hnσ hnb a₂ hit => ?_
  have a₂ := a₁.trans a₂
  have hn₀ : s.heap.get? it = none := by
    cases hq : s.heap.get? it with
    | none => rfl
    | some o => obtain ⟨o', e'⟩ := a₁.gr.ex _ o hq; rw [hn0] at e'; cases e'
  obtain ⟨oi, _, _, hoi, _⟩ := hit.obj
  refine wpAny_newObj_type (wpAny_newFunctionEnv hcell (by intro y hy; simp at hy) (fun h₁ hns₁ hsb₁ => ?_) hkind)
  replace hns₁ : h₁.Ns (s₂.heap.push nilObj).objs.size _ := hns₁
  have hDs := gone a₂ (Nat.le_refl s₂.heap.objs.size)
  have hCs := gone a₂ (b := (s₂.heap.push nilObj).objs.size) (by rw [push_size]; exact Nat.le_succ _)
  have hDC : s₂.heap.objs.size ≠ (s₂.heap.push nilObj).objs.size := by rw [push_size]; exact Nat.ne_of_lt (Nat.lt_succ_self _)
  have old : ∀ b o, s₂.heap.get? b = some o → h₁.get? b = some o := fun b o e => hsb₁.extBut b o (fun q => by rw [q] at e; exact absurd (e.symm.trans hCs.1) (fun z => nomatch z)) (Heap.get?_push_of_some _ (Heap.get?_push_of_some _ e))
  have hD₁ : h₁.get? s₂.heap.objs.size = some nilObj := hsb₁.extBut _ _ hDC (Heap.get?_push_of_some _ (Heap.get?_push_size _ rfl))
  have a₃ : After P σ σ₁ [] hp₁ s { s₂ with heap := h₁, toks := s₂.toks + ([] : List (Str × Value)).length } := a₂.trans ⟨rfl, a₂.st.keep old, grows_keep old⟩
  have fr₃ := frm_inner (I.fr.after a₂) hok sub has (C := (s₂.heap.push nilObj).objs.size) hns₁ old hCs.2.2.1 hCs.2.2.2
  have hDit : s₂.heap.objs.size ≠ it := fun q => by rw [← q, hDs.1] at hoi; cases hoi
  have hitK : it ≠ (s₂.heap.push nilObj).objs.size := fun q => by rw [q, hCs.1] at hoi; cases hoi
  have ap : Aside P s it s₂.heap.objs.size (s₂.heap.push nilObj).objs.size := ⟨hn₀, hnb, hDs.2.1, hDs.2.2.2, hCs.2.1, hCs.2.2.2, hDC, hDit, hitK⟩
  have cs : CompS P (innerCx cx scope) c n (compEnvC scope cl (s₂.heap.push nilObj).objs.size env) A (s₂.heap.push nilObj).objs.size elt x ifs p := ⟨⟨C.ok, C.f, C.meths, C.attrs, C.cls, C.init, C.g⟩, I.ar, hwx, hel, hifs, lookup_relabel_local hx, rfl⟩
  have J₀ : CompInv P (innerCx cx scope) (compEnvC scope cl (s₂.heap.push nilObj).objs.size env) l p.k p.j src it s₂.heap.objs.size σ s 0 [] hp₁ σ₁ { s₂ with heap := h₁, toks := s₂.toks + ([] : List (Str × Value)).length } :=
    ⟨a₃, ⟨_, fr₃, fun av => by rw [hpk]; rfl⟩, hit.keep (X := []) (grows_keep old) ((old it oi hoi).trans hoi.symm), hnσ, ⟨#[], 0, hD₁, trivial⟩, hDs.2.2.1, Nat.zero_le _⟩
  have loop := comp_loop cs ap (iter := iter) (scope := scope) (px := px) (pos := pos) (R := compPost (model P.prog P.w) A NE use Q (.ref s₂.heap.objs.size) (s₂.heap.push nilObj).objs.size) ⟨0, [], hp₁, σ₁, hr2, J₀⟩ (fun σ' lv s₅ a₅ hlen fr' => by
    obtain ⟨mm, hnsC, _⟩ := fr'.names
    refine hfin σ' _ s₅ _ _ mm a₅ (by rw [hlen]; exact ecp) hCs.2.1 ?_ hCs.2.2.2 hnsC
    rw [List.map_append, List.mem_append]
    rintro (q | q)
    · exact fr'.out.1 q
    · exact hDC (List.mem_singleton.mp q).symm) hsz
  exact codeAny_compStart_list loop (iter_self J₀.walk loop)

theorem not_FX {K : Addr} (f : Frm P s.heap σ env cx l) (h : s.heap.get? K = none) : K ∉ FX env := fun hm => by
  rcases List.mem_cons.mp hm with q | hm
  · obtain ⟨o', _, _, ho', _⟩ := f.nsObj
    rw [← q, h] at ho'; cases ho'
  · obtain ⟨p, hp, q⟩ := List.mem_map.mp hm
    obtain ⟨o', _, ho', _⟩ := f.cells p hp
    rw [q, h] at ho'; cases ho'
theorem ns_obj {h : Heap} {K : Addr} {mm : Str → Option Value} (x : h.Ns K mm) : ∃ o, h.get? K = some o ∧ ¬ fixed o := by
  obtain ⟨o, es, ep, ho, hd, _⟩ := x
  exact ⟨o, ho, by unfold fixed; rw [hd]; exact fun f => f⟩

/-- the parts of one that is read -/
structure CPOk (P : Par) (cx : Cx) (elt : Expr) (x : Str) (iter : Expr) (ifs : List Expr) (scope : Scope) (p : CP) : Prop where
  ok : innerOk cx scope = true
  hx : scope.names.lookup x = some .local
  wx : (innerCx cx scope).slotW x = some p.j
  pk : p.k = (ownNames scope).length
  ce : ∃ kk, compE kk cx iter = some p.it
  si : SimE P cx iter p.it
  el : SimE P (innerCx cx scope) elt p.e
  ifs : (ifs = [] ∧ p.cs = .nil) ∨ ∃ q xq, ifs = [q] ∧ p.cs = .cons xq .nil ∧ SimT P (innerCx cx scope) q xq

theorem sim_comp {elt iter : Expr} {x : Str} {px pos : Pos} {ifs : List Expr} {p : CP} (o : CPOk P cx elt x iter ifs scope p) : SimE P cx (.ListComp elt [⟨.Name x px, iter, ifs, 0⟩] scope pos) p.x := by
  intro c n env A σ l hp s C I hb
  refine comp_core (P := P) (px := px) (pos := pos) o.ok o.hx o.wx o.pk o.ce o.si o.el o.ifs C I (show evalCP c p l hp ≠ .bad from hb) (use := none) fun σ' hp₃ s₅ D K mm a₅ er hK hKσ hKb hns => ?_
  refine ⟨mm, hns, fun h' hs => ?_⟩
  rw [show evalX c p.x l hp = _ from er]
  obtain ⟨a₇, hx₇, hk₇⟩ := a₅.extBut (t := s₅.toks) hs.extBut hK hKσ hKb (ns_obj hns)
  exact ⟨_, _, _, rfl, a₇, D, 0, rfl, List.getElem?_concat_length⟩

theorem simSt_comp {elt iter : Expr} {x y : Str} {px py pos spos : Pos} {ifs : List Expr} {p : CP} {i : Nat} (o : CPOk P cx elt x iter ifs scope p) (hput : putOk cx y py (.ListComp elt [⟨.Name x px, iter, ifs, 0⟩] scope pos) = true) (hwy : cx.slotW y = some i) :
    SimSt P cx (.Assign [.Name y py] (.ListComp elt [⟨.Name x px, iter, ifs, 0⟩] scope pos) spos) (.asg i p.x) := by
  intro c n env A σ l hp s C I hb
  have hput : (cx.sc.names.lookup y == some .local && py.line == pos.line && !(scope.names.any fun p => p.1 == y && (p.2 == .local || p.2 == .cell))) = true := hput
  rw [Bool.and_eq_true, Bool.and_eq_true, beq_iff_eq (a := cx.sc.names.lookup y), Bool.not_eq_true'] at hput
  obtain ⟨⟨hy, hline⟩, hny⟩ := hput
  rw [s_asg] at hb ⊢
  have hsw : swapsWith (.ListComp elt [⟨.Name x px, iter, ifs, 0⟩] scope pos) (some (.Name y py)) spos.line env = pure true := by
    show (pure (env.blockKind == .function && env.kindOf y == some .local && py.line == pos.line && !(scope.names.any fun p => p.1 == y && (p.2 == .local || p.2 == .cell))) : Sem Bool) = _
    rw [I.fr.kinds y .local hy (.inl rfl), hline, hny]
    unfold Env.blockKind
    rw [I.fr.kind]
    rfl
  rw [exec_Assign_Name_used _ _ _ _ hsw]
  refine wpAny_bind (wpAny_standAt (wpAny_bind ?_))
  show wpAny _ A (do let _ ← comprehension (.ListComp elt [⟨.Name x px, iter, ifs, 0⟩] scope pos) scope env _ (PySem.newList []) false (eval iter env) (some (assign (.Name y py) env))) _ _ s
  refine wpAny_bind (wpAny_mono (comp_core (P := P) (px := px) (pos := pos) o.ok o.hx o.wx o.pk o.ce o.si o.el o.ifs C I (st_ok hb) (use := some (assign (.Name y py) env)) (Q := fun _ s' => QS P env cx σ s ((evalCP c p l hp).st fun v h => .ok .next (l.set i (some v)) h) .next s')
    fun σ' hp₃ s₅ D K mm a₅ er hK hKσ hKb hns => ?_) (fun _ s' hq => wpAny_pure (wpAny_pure hq)) fun _ _ e => e)
  rw [er]
  show wpAny _ A (assign (.Name y py) env (.ref D)) _ _ _
  have hKX := not_FX I.fr hK
  refine wpAny_assign_Name (store_prim a₅.st (I.fr.after a₅) hwy (av := .loc σ'.length) ⟨D, 0, rfl, List.getElem?_concat_length⟩ fun s₆ a₆ fr₆ _ => ?_)
  have hns₆ : s₆.heap.Ns K mm := near_ns hns (fun o ho => a₆.gr.oth K o ho hKσ hKX)
  refine ⟨mm, hns₆, fun h₇ hs₇ => ?_⟩
  obtain ⟨a₇, hx₇, hk₇⟩ := (a₅.toX.trans a₆).extBut (t := s₆.toks) hs₇.extBut hK hKσ hKb (ns_obj hns₆)
  exact ⟨_, _, _, _, rfl, a₇, rfl, fr₆.extBut hKX hx₇ hk₇⟩
end
end Mine

namespace Mine
open PySem PySem.Spec PyProof.Rows PySem.SeqAt

section
theorem lookup_zip {α : Type} : ∀ {ps : List Str} {vs : List α}, ps.Nodup → ∀ {i : Nat} {x : Str} {v : α}, ps[i]? = some x → vs[i]? = some v → (ps.zip vs).lookup x = some v
  | [], _, _, i, x, v, h, _ => by simp at h
  | _ :: _, [], _, i, x, v, _, h => by simp at h
  | p :: ps, w :: ws, nd, 0, x, v, h, h' => by
    simp at h h'; subst h; subst h'
    simp [List.lookup]
  | p :: ps, w :: ws, nd, i + 1, x, v, h, h' => by
    simp only [List.getElem?_cons_succ] at h h'
    have hne : (x == p) = false := by
      rw [beq_eq_false_iff_ne]
      intro e; subst e
      exact (List.nodup_cons.mp nd).1 (List.mem_of_getElem? h)
    simp only [List.zip_cons_cons, List.lookup, hne]
    exact lookup_zip (List.nodup_cons.mp nd).2 h h'

theorem filterMap_zip {α : Type} : ∀ {ps : List Str} {vs : List α}, ps.Nodup → ps.length = vs.length → ∀ (f : Str → Option α), (∀ x v, (x, v) ∈ ps.zip vs → f x = some v) → ps.filterMap (fun n => (f n).map (n, ·)) = ps.zip vs
  | [], [], _, _, _, _ => rfl
  | [], _ :: _, _, h, _, _ => by simp at h
  | _ :: _, [], _, h, _, _ => by simp at h
  | p :: ps, v :: vs, nd, hl, f, hf => by
    have h1 : f p = some v := hf p v (by simp)
    simp only [List.filterMap_cons, h1, Option.map_some, List.zip_cons_cons]
    rw [filterMap_zip (List.nodup_cons.mp nd).2 (by simpa using hl) f fun x v hm => hf x v (by simp [hm])]

theorem ite2 {α : Type} {a b : Bool} {x y z : α} (ha : a = false) (hb : b = false) : (if a = true then x else if b = true then y else z) = z := by rw [ha, hb]; rfl
theorem bind_lit {f q : Str} {args : List Arg} {kd : List (Option Expr)} {df : List Expr} {body : List Stmt} {scope : Scope} {pm cd doc : Value} {vals : List Value}
    (nd : (args.map (·.arg)).Nodup) (hl : (args.map (·.arg)).length = vals.length) : bindArgs (methDef f q ⟨[], args, none, [], kd, none, df⟩ body scope pm cd doc) ⟨vals, []⟩ = pure ((args.map (·.arg)).zip vals) := by
  have hz : (((args.map (·.arg)).zip vals).map (·.1)).Nodup := by
    rw [List.map_fst_zip (Nat.le_of_eq hl)]; exact nd
  have hf := filterMap_zip nd hl (fun n => ((args.map (·.arg)).zip vals).lookup n) fun x v hm => lookup_of_mem' hz hm
  have hm : (args.map (·.arg)).filter (fun n => (((args.map (·.arg)).zip vals).lookup n).isNone) = [] := by
    rw [List.filter_eq_nil_iff]
    intro x hx
    obtain ⟨i, hi, e⟩ := List.mem_iff_getElem.mp hx
    have := lookup_zip (vs := vals) nd (i := i) (x := x) (v := vals[i]'(hl ▸ hi)) (by rw [List.getElem?_eq_getElem hi, e]) (by rw [List.getElem?_eq_getElem])
    rw [this]; exact Bool.false_ne_true
  have hb : ∀ D : List Value, D = [] → (!((((args.map (fun x : Arg => x.arg))).take ((args.map (fun x : Arg => x.arg)).length - D.length)).filter (fun n => (((args.map (fun x : Arg => x.arg)).zip vals).lookup n).isNone)).isEmpty) = false := by
    rintro _ rfl
    rw [List.length_nil, Nat.sub_zero, List.take_length, hm]; rfl
  have ha : (decide (vals.length > (args.map (fun x : Arg => x.arg)).length) && true) = false := by
    rw [hl, Bool.and_true, decide_eq_false_iff_not]; exact Nat.lt_irrefl _
  have hpb : ∀ {α β : Type} (x : α) (f : α → Sem β), (pure x >>= f) = f x := fun _ _ => rfl
  have hfor : ∀ (l : List Str) (ds : List Value) (b : List (Str × Value)) (g : Str × Value → List (Str × Value) → Sem (ForInStep (List (Str × Value)))), ds = [] → forIn (l.zip ds) b g = pure b := by
    rintro l _ b g rfl
    rw [List.zip_nil_right]; rfl
  unfold bindArgs
  refine (hpb _ _).trans ((hpb none _).trans ((ite2 ha (hb _ List.drop_nil)).trans ?_))
  refine (congrArg (· >>= _) (hfor _ _ _ _ List.drop_nil)).trans ?_
  exact congrArg (pure (f := Sem)) ((congrArg (List.filterMap _) (List.append_nil _)).trans hf)
theorem bind_plain {params : Arguments} {f q : Str} {body : List Stmt} {scope : Scope} {pm cd doc : Value} {vals : List Value} (h1 : params.posonlyargs = []) (h2 : params.kwonlyargs = []) (h3 : params.vararg = none) (h4 : params.kwarg = none)
    (nd : (params.args.map (·.arg)).Nodup) (hl : (params.args.map (·.arg)).length = vals.length) : bindArgs (methDef f q params body scope pm cd doc) ⟨vals, []⟩ = pure ((params.args.map (·.arg)).zip vals) := by
  obtain ⟨po, ar, va, ko, kd, kw, df⟩ := params
  cases h1; cases h2; cases h3; cases h4
  exact bind_lit nd hl
end

section
theorem cells_nodup : ∀ (names : List (Str × NameKind)) (n : Nat) (acc : List (Str × Addr)), (acc.map (·.1)).Nodup → (names.map (·.1)).Nodup → (∀ x ∈ names, x.1 ∉ acc.map (·.1)) → ((cellsFrom n names acc).map (·.1)).Nodup
  | [], _, _, h, _, _ => h
  | (x, k) :: r, n, acc, h, h2, h3 => by
    simp only [List.map_cons, List.nodup_cons] at h2
    unfold cellsFrom
    split
    · refine cells_nodup r _ _ ?_ h2.2 fun y hy => ?_
      · simp only [List.map_cons, List.nodup_cons]
        exact ⟨h3 (x, k) List.mem_cons_self, h⟩
      · simp only [List.map_cons, List.mem_cons, not_or]
        exact ⟨fun e => h2.1 (e ▸ List.mem_map_of_mem hy), h3 y (List.mem_cons_of_mem _ hy)⟩
    · exact cells_nodup r _ _ h h2.2 fun y hy => h3 y (List.mem_cons_of_mem _ hy)
theorem cells_has : ∀ (names : List (Str × NameKind)) (n : Nat) (acc : List (Str × Addr)) (x : Str), (names.lookup x = some .cell ∨ (acc.lookup x).isSome = true) → ((cellsFrom n names acc).lookup x).isSome = true
  | [], _, _, _, h => h.elim (fun e => by simp at e) id
  | (y, k) :: r, n, acc, x, h => by
    unfold cellsFrom
    split
    · rename_i hk
      refine cells_has r _ _ x ?_
      cases hxy : x == y with
      | true => exact .inr (by simp [List.lookup, hxy])
      | false =>
        refine h.imp (fun e => ?_) fun e => ?_
        · simpa only [List.lookup, hxy] using e
        · simpa only [List.lookup, hxy] using e
    · rename_i hk
      refine cells_has r _ _ x (h.imp (fun e => ?_) id)
      cases hxy : x == y with
      | true => simp only [List.lookup, hxy] at e; cases e; exact absurd rfl hk
      | false => simpa only [List.lookup, hxy] using e

theorem bindL_skip {k : Str → Option NameKind} {x : Str} : ∀ {bs : List (Str × Value)} {m : Str → Option Value}, x ∉ bs.map (·.1) → bindL k bs m x = m x
  | [], _, _ => rfl
  | (n, v) :: r, m, h => by
    simp only [List.map_cons, List.mem_cons, not_or] at h
    unfold bindL
    rw [bindL_skip h.2]
    split
    · exact if_neg h.1
    · rfl
theorem bindC_skip {k : Str → Option NameKind} {x : Str} : ∀ {bs : List (Str × Value)} {m : Str → Option Value}, x ∉ bs.map (·.1) → bindC k bs m x = m x
  | [], _, _ => rfl
  | (n, v) :: r, m, h => by
    simp only [List.map_cons, List.mem_cons, not_or] at h
    unfold bindC
    rw [bindC_skip h.2]
    split
    · rfl
    · exact if_neg h.1
theorem bindL_at {k : Str → Option NameKind} {x : Str} (hk : k x = some .local) {v : Value} : ∀ {bs : List (Str × Value)} {m : Str → Option Value}, (bs.map (·.1)).Nodup → (x, v) ∈ bs → bindL k bs m x = some v
  | [], _, _, h => nomatch h
  | (n, w) :: r, m, nd, h => by
    simp only [List.map_cons, List.nodup_cons] at nd
    unfold bindL
    rcases List.mem_cons.mp h with e | h2
    · cases e
      rw [bindL_skip nd.1, if_pos hk]; exact if_pos rfl
    · exact bindL_at hk nd.2 h2
theorem bindC_at {k : Str → Option NameKind} {x : Str} (hk : ¬ k x = some .local) {v : Value} : ∀ {bs : List (Str × Value)} {m : Str → Option Value}, (bs.map (·.1)).Nodup → (x, v) ∈ bs → bindC k bs m x = some v
  | [], _, _, h => nomatch h
  | (n, w) :: r, m, nd, h => by
    simp only [List.map_cons, List.nodup_cons] at nd
    unfold bindC
    rcases List.mem_cons.mp h with e | h2
    · cases e
      rw [bindC_skip nd.1, if_neg hk]; exact if_pos rfl
    · exact bindC_at hk nd.2 h2

end

/-- the frame that a call lays -/
theorem frm_call {P : Par} {σ : Sg} {hp : AHeap} {s s₁ : Shared} {sh : Sh} {params : Arguments} {scope : Scope} {fd : FuncData} {a : Addr} {avs : List AV} {vs : List Value}
    (S : St P.w P.B σ hp s.heap) (rv : RVs P.B s.heap σ avs vs) (hs : fd.scope = scope) (hok : defOk params scope = true) (hl : avs.length = (params.args.map (·.arg)).length) (hg : fd.globals = mainGlobals) (hb : fd.builtins = builtinsNs)
    (x : InCallC s (callEnvC fd s.heap.objs.size a).locals (bindL (callEnvC fd s.heap.objs.size a).kindOf ((params.args.map (·.arg)).zip vs) fun _ => none) (callEnvC fd s.heap.objs.size a).cells
        (bindC (callEnvC fd s.heap.objs.size a).kindOf ((params.args.map (·.arg)).zip vs) fun _ => none) s₁) :
    Frm P s₁.heap σ (callEnvC fd s.heap.objs.size a) (defCx sh (params.args.map (·.arg)) scope)
      (avs.map some ++ List.replicate ((slotNames (params.args.map (·.arg)) scope).length - (params.args.map (·.arg)).length) none) := by
  subst hs
  have hlv := rv.length
  simp only [defOk, Bool.and_eq_true, Bool.not_eq_true', decide_eq_true_eq, List.isEmpty_iff, Option.isNone_iff_eq_none, beq_iff_eq] at hok
  obtain ⟨⟨⟨⟨⟨⟨⟨⟨⟨⟨ho1, ho2⟩, ho3⟩, ho4⟩, hk⟩, hgen⟩, hco⟩, hnp⟩, hnn⟩, hfree⟩, hpar⟩ := hok
  generalize hps : params.args.map (·.arg) = ps at *
  have hkind : (callEnvC fd s.heap.objs.size a).kindOf = fun x => fd.scope.names.lookup x := rfl
  have hcells : (callEnvC fd s.heap.objs.size a).cells = cellsFrom (s.heap.objs.size + 1) fd.scope.names [] := rfl
  have hlocals : (callEnvC fd s.heap.objs.size a).locals = s.heap.objs.size := rfl
  have hcn : ((cellsFrom (s.heap.objs.size + 1) fd.scope.names []).map (·.1)).Nodup := cells_nodup _ _ _ (by simp) hnn (by simp)
  have hzn : ((ps.zip vs).map (·.1)).Nodup := by rw [List.map_fst_zip (by omega)]; exact hnp
  have hns : ∃ r, slotNames ps fd.scope = ps ++ r := ⟨_, rfl⟩
  obtain ⟨r, hns⟩ := hns
  have hsl : ∀ (cx : Cx) y i, cx.sc = fd.scope → cx.loc = (slotNames ps fd.scope).zipIdx → cx.slot y = some i → (slotNames ps fd.scope)[i]? = some y ∧ ((fd.scope.names.lookup y = some .local) ∨ fd.scope.names.lookup y = some .cell) := by
    intro cx y i e1 e2 h
    unfold Cx.slot at h
    rw [e1, e2] at h
    split at h
    · rename_i k hk'
      split at h
      · rename_i hkk
        refine ⟨by simpa using (zipIdx_lookup h).2, ?_⟩
        have hnf : k ≠ .free := by
          have := List.all_eq_true.mp hfree _ (mem_of_lookup' hk')
          simpa using this
        simp only [Bool.and_eq_true] at hkk
        have := hkk.1
        cases k <;> simp [isLocKind] at this hnf <;> simp [hk']
      · cases h
    · cases h
  have hfar : ∀ c, s.heap.objs.size ≤ c → s.heap.get? c = none := fun c hc => by
    cases hq : s.heap.get? c with
    | none => rfl
    | some o => exact absurd (Heap.lt_size hq) (Nat.not_lt.mpr hc)
  have hout : ∀ c, s.heap.objs.size ≤ c → c ∉ σ.map (·.1) ∧ P.B.h₀.get? c = none := fun c hc => by
    refine ⟨fun hm => ?_, ?_⟩
    · obtain ⟨p, hp, rfl⟩ := List.mem_map.mp hm
      obtain ⟨ob, e, _⟩ := S.there hp
      rw [hfar _ hc] at e; cases e
    · cases hq : P.B.h₀.get? c with
      | none => rfl
      | some o => have := S.base c o hq; rw [hfar _ hc] at this; cases this
  have hval : ∀ (i : Nat) (y : Str) (av : AV), (slotNames ps fd.scope)[i]? = some y → (avs.map some ++ List.replicate ((slotNames ps fd.scope).length - ps.length) none)[i]? = some (some av) → ∃ v, (y, v) ∈ ps.zip vs ∧ RV P.B s₁.heap σ av v := by
    intro i y av h1 h2
    have hi : i < avs.length := by
      by_cases hi : i < avs.length
      · exact hi
      · rw [List.getElem?_append_right (by simpa using Nat.not_lt.mp hi), List.getElem?_replicate] at h2
        split at h2 <;> cases h2
    rw [List.getElem?_append_left (by simpa using hi), List.getElem?_map] at h2
    obtain ⟨av', e, e'⟩ := Option.map_eq_some_iff.mp h2
    cases e'
    obtain ⟨v, hv, r'⟩ := rv.get e
    rw [hns, List.getElem?_append_left (by omega)] at h1
    refine ⟨v, ?_, RV.grows (grows_keep (X := []) x.toInCall.keep) _ _ r'⟩
    apply List.mem_of_getElem? (i := i)
    rw [List.getElem?_zip_eq_some]
    exact ⟨h1, hv⟩
  refine ⟨hk, ?_, fun y z i h1 h2 => ?_, fun y i h => ?_, fun y h => ?_, fun y i h => ?_, ⟨_, x.toInCall.ns, fun y i h => ?_⟩, ⟨(hout _ (Nat.le_refl _)).1, fun p hp => ?_⟩, ⟨(hout _ (Nat.le_refl _)).2, fun p hp => ?_⟩, hg, hb, fun p hp => ?_, fun p hp q hq e => ?_, fun y k h _ => h⟩
  · show _ = (slotNames ps fd.scope).length
    rw [List.length_append, List.length_map, List.length_replicate, hns, List.length_append]; omega
  · have e1 := (hsl _ y i rfl rfl h1).1
    have e2 := (hsl _ z i rfl rfl h2).1
    rw [e1] at e2; exact Option.some.inj e2
  · have e1 := (hsl _ y i rfl rfl h).1
    exact (List.getElem?_eq_some_iff.mp e1).1
  · simp only [Cx.isGlob, Bool.and_eq_true, beq_iff_eq] at h
    exact h.1
  · have e1 := (hsl _ y i rfl rfl (slotW_slot h)).2
    show fd.scope.names.lookup y ≠ _
    rcases e1 with e1 | e1 <;> rw [e1] <;> simp
  · obtain ⟨h1, h2⟩ := hsl _ y i rfl rfl h
    rcases h2 with h2 | h2
    · refine .inl ⟨h2, fun av e => ?_⟩
      obtain ⟨v, hm, r'⟩ := hval i y av h1 e
      exact ⟨v, bindL_at (k := (callEnvC fd s.heap.objs.size a).kindOf) h2 hzn hm, r'⟩
    · obtain ⟨c, hc⟩ := Option.isSome_iff_exists.mp (cells_has fd.scope.names (s.heap.objs.size + 1) [] y (.inl h2))
      refine .inr ⟨.inl h2, c, _, hc, x.cell y c hc, fun av e => ?_⟩
      obtain ⟨v, hm, r'⟩ := hval i y av h1 e
      exact ⟨v, bindC_at (k := (callEnvC fd s.heap.objs.size a).kindOf) (by show ¬ fd.scope.names.lookup y = _; rw [h2]; simp) hzn hm, r'⟩
  · exact (hout _ (Nat.le_of_lt (x.above p.1 p.2 hp))).1
  · exact (hout _ (Nat.le_of_lt (x.above p.1 p.2 hp))).2
  · obtain ⟨o, ho, hd⟩ := x.cell p.1 p.2 (lookup_of_mem' hcn hp)
    exact ⟨o, _, ho, hd⟩
  · exact name_of_addr x.apart (c := p.2) hp (by rw [e]; exact hq)
end Mine

namespace Mine
open PySem PySem.Spec PyProof.Rows PySem.SeqAt

section
variable {P : Par} {cx : Cx}

theorem lookup_ty {T : Str} {t : Ty} (h : tyOf T = some t) : (T, Value.type (tyName t)) ∈ bltPairs := by
  delta tyOf at h
  split at h
  · rename_i e; cases eq_of_beq e; cases h; exact blt_int
  split at h
  · rename_i e; cases eq_of_beq e; cases h; exact blt_bool
  split at h
  · rename_i e; cases eq_of_beq e; cases h; exact blt_str
  split at h
  · rename_i e; cases eq_of_beq e; cases h; exact blt_tuple
  split at h
  · rename_i e; cases eq_of_beq e; cases h; exact blt_list
  · cases h
theorem tgtName_is {t : Expr} {x : Str} (h : tgtName t = some x) : ∃ p, t = .Name x p := by
  cases t
  case Name => cases h; exact ⟨_, rfl⟩
  all_goals exact none_ne h
theorem compTy_name {e : Expr} {t : Ty} (h : compTy cx e = some t) : ∃ T q, e = .Name T q ∧ cx.isGlob T = true ∧ (T, Value.type (tyName t)) ∈ bltPairs := by
  obtain ⟨x, hx, h2⟩ := Option.bind_eq_some_iff.mp h
  obtain ⟨q, rfl⟩ := tgtName_is hx
  split at h2
  · rename_i hg; exact ⟨x, q, rfl, hg, lookup_ty h2⟩
  · cases h2
theorem tyArgs_is {as : List Expr} {t : Ty} (h : compTyArgs cx as = some t) : ∃ a b, as = [a, b] ∧ compTy cx b = some t := by
  cases as with
  | nil => exact none_ne h
  | cons a r =>
    cases r with
    | nil => exact none_ne h
    | cons b r =>
      cases r with
      | nil => exact ⟨a, b, rfl, h⟩
      | cons => exact none_ne h

variable {k : Nat}
theorem sim_isi_of {as : List Expr} {y : X} {t : Ty} {q p : Pos} (hg : cx.isGlob "isinstance" = true) (hy : compHead (compE k cx) as = some y) (ht : compTyArgs cx as = some t) (H : ∀ e y, compE k cx e = some y → SimE P cx e y) :
    SimE P cx (.Call (.Name "isinstance" q) as [] p) (.isi y t) := by
  obtain ⟨a, b, rfl, ht⟩ := tyArgs_is ht
  obtain ⟨T, q', rfl, hgT, hT⟩ := compTy_name ht
  exact sim_isi hg hgT hT (not_starred hy) (H _ y hy)

theorem sim_const {v : Const} {m : Nat} {p : Pos} {x : X} (h : compConst v = some x) : SimE P cx (.Constant v m p) x := by
  unfold compConst at h
  split at h <;> cases h
  · exact sim_none
  · exact sim_bool
  · exact sim_int
  · exact sim_str
theorem sim_name {y : Str} {p : Pos} {x : X} (h : compName cx y = some x) : SimE P cx (.Name y p) x := by
  unfold compName at h
  split at h
  · cases h; exact sim_loc (by assumption)
  · split at h
    · rename_i hg
      obtain ⟨k, hk, h⟩ := Option.bind_eq_some_iff.mp h
      exact sim_glob hg hk h
    · cases h
theorem sim_un {op : UnaryOp} {e : Expr} {y : X} {p : Pos} {x : X} (h : compUn op y = some x) (hy : SimE P cx e y) : SimE P cx (.UnaryOp op e p) x := by
  unfold compUn at h
  split at h <;> cases h
  · exact sim_neg hy
  · exact sim_not hy

theorem compEs_nil {f : Expr → Option X} {es : List Expr} (h : compEs f es = some .nil) : es = [] := by
  cases es with
  | nil => rfl
  | cons e r =>
    obtain ⟨a, ha, h⟩ := opt_bind h
    obtain ⟨b, hb, h⟩ := opt_bind h
    cases opt_pure h
theorem compEs_cons {f : Expr → Option X} {es : List Expr} {x : X} {xs : Xs} (h : compEs f es = some (.cons x xs)) : ∃ e r, es = e :: r ∧ f e = some x ∧ compEs f r = some xs := by
  cases es with
  | nil => cases h
  | cons e r =>
    obtain ⟨a, ha, h⟩ := opt_bind h
    obtain ⟨b, hb, h⟩ := opt_bind h
    cases opt_pure h
    exact ⟨e, r, rfl, ha, hb⟩
/-- the kinds of comparisons -/
inductive CmpK (f : Expr → Option X) (xl : X) : List CmpOp → List Expr → X → Prop
  | one (op : CmpOp) (o : COp) (r : Expr) (y : X) (h1 : compCOp op = some o) (h2 : f r = some y) : CmpK f xl [op] [r] (.cmp o xl y)
  | two (op op2 : CmpOp) (o o2 : COp) (m r : Expr) (y z : X) (h1 : compCOp op = some o) (h2 : compCOp op2 = some o2) (h3 : f m = some y) (h4 : f r = some z) : CmpK f xl [op, op2] [m, r] (.cmp2 o o2 xl y z)
theorem compCmp_is {ops : List CmpOp} {f : Expr → Option X} {rs : List Expr} {xl : X} {xr : Xs} {x : X} (hrs : compEs f rs = some xr) (h : compCmp1 ops xl xr = some x) : CmpK f xl ops rs x := by
  cases ops with
  | nil => exact none_ne h
  | cons op ops =>
    cases xr with
    | nil => exact none_ne h
    | cons y ys =>
      obtain ⟨r, rs', rfl, h1, hrs⟩ := compEs_cons hrs
      cases ops with
      | nil =>
        cases ys with
        | cons => exact none_ne h
        | nil =>
          obtain ⟨o, ho, rfl⟩ := Option.map_eq_some_iff.mp (show (compCOp op).map (fun o => X.cmp o xl y) = some x from h)
          cases compEs_nil hrs
          exact .one op o r y ho h1
      | cons op2 ops =>
        cases ops with
        | cons => exact none_ne h
        | nil =>
          cases ys with
          | nil => exact none_ne h
          | cons z zs =>
            cases zs with
            | cons => exact none_ne h
            | nil =>
              obtain ⟨r2, rs2, rfl, h3, hrs⟩ := compEs_cons hrs
              cases compEs_nil hrs
              obtain ⟨o, ho, h⟩ := opt_bind (show (do return X.cmp2 (← compCOp op) (← compCOp op2) xl y z) = some x from h)
              obtain ⟨o2, ho2, h⟩ := opt_bind h
              cases opt_pure h
              exact .two op op2 o o2 r r2 y z ho ho2 h1 h3
theorem compIsn_is {ops : List CmpOp} {rs : List Expr} {xl x : X} (h : compIsn ops rs xl = some x) : ∃ op r b, ops = [op] ∧ rs = [r] ∧ isNone r = true ∧ isnOf op = some b ∧ x = .isn b xl := by
  cases ops with
  | nil => exact none_ne h
  | cons op ops =>
    cases ops with
    | cons => exact none_ne h
    | nil =>
      cases rs with
      | nil => exact none_ne h
      | cons e q =>
        cases q with
        | cons => exact none_ne h
        | nil =>
          replace h : (if isNone e = true then (isnOf op).map (fun b => X.isn b xl) else none) = some x := h
          split at h
          · rename_i hn
            obtain ⟨b, hb, rfl⟩ := Option.map_eq_some_iff.mp h
            exact ⟨op, e, b, rfl, rfl, hn, hb, rfl⟩
          · cases h

theorem sim_biE {f : Str} {as : List Expr} {xs : Xs} {b : BI} {q p : Pos} (hg : cx.isGlob f = true) (hxs : compEs (compE k cx) as = some xs) (hS : SimEs P cx as xs) (h : biOf f = some b) : SimE P cx (.Call (.Name f q) as [] p) (.bi b xs) := by
  delta biOf at h
  split at h
  · rename_i e; cases eq_of_beq e; cases h; exact sim_fn (fun _ _ _ => rfl) blt_len prim_len hg hxs hS
  split at h
  · rename_i e; cases eq_of_beq e; cases h; exact sim_fn (fun _ _ _ => rfl) blt_sorted prim_sorted hg hxs hS
  split at h
  · rename_i e; cases eq_of_beq e; cases h; exact sim_ty (fun _ _ _ => rfl) blt_list prim_list hg hxs hS
  · cases h
theorem sim_callE {f : Str} {as : List Expr} {xs : Xs} {x : X} {q p : Pos} (hg : cx.isGlob f = true) (hxs : compEs (compE k cx) as = some xs) (hS : SimEs P cx as xs) (h : compCall cx f xs = some x) : SimE P cx (.Call (.Name f q) as [] p) x := by
  unfold compCall at h
  split at h
  · rename_i hf
    rw [Bool.and_eq_true, Bool.not_eq_true'] at hf
    cases h
    exact sim_call hg hf.1 hf.2 hxs hS
  split at h
  · rename_i hf
    cases beq_iff_eq.mp hf
    cases xs with
    | nil => exact none_ne h
    | cons y ys =>
      cases (show some (X.new (.cons y ys)) = some x from h)
      obtain ⟨e, r, rfl, h1, _⟩ := compEs_cons hxs
      exact sim_new hg (not_starred h1) hxs hS
  split at h
  · rename_i hf
    cases beq_iff_eq.mp hf
    cases h
    exact sim_ty (fun _ _ _ => rfl) blt_range prim_range hg hxs hS
  split at h
  · rename_i b hlk
    cases h
    exact sim_biE hg hxs hS hlk
  · cases h
theorem sim_methE {o : Expr} {m : Str} {as : List Expr} {xo x : X} {xs : Xs} {ap p : Pos} (h1 : (ap.endLine == p.line) = true) (h2 : notSuper o = true) (h3 : as.length < 20) (hxs : compEs (compE k cx) as = some xs) (ho : SimE P cx o xo) (hS : SimEs P cx as xs) (h : compMeth cx m xo xs = some x) :
    SimE P cx (.Call (.Attribute o m ap) as [] p) x := by
  unfold compMeth at h
  split at h
  · rename_i hf
    rw [Bool.and_eq_true] at hf
    cases h
    exact sim_im hf.1 hf.2 h2 hxs h3 h1 ho hS
  · split at h
    · rename_i b hb
      cases h
      delta bmOf at hb
      split at hb
      · rename_i e; cases eq_of_beq e; cases hb; exact sim_bm F.plainAttrs_list F.slot_list_append F.type_list_append bmT_append bm_append h2 hxs h3 h1 ho hS
      split at hb
      · rename_i e; cases eq_of_beq e; cases hb; exact sim_bm F.plainAttrs_dict F.slot_dict_get F.type_dict_get bmT_get bm_get h2 hxs h3 h1 ho hS
      split at hb
      · rename_i e; cases eq_of_beq e; cases hb; exact sim_bm F.plainAttrs_str F.slot_str_index F.type_str_index bmT_index bm_index h2 hxs h3 h1 ho hS
      · cases hb
    · cases h

theorem simB_of (op : BoolOp) (H : ∀ e y, compE k cx e = some y → SimE P cx e y) : ∀ (es : List Expr) (x : X), compBool (compE k cx) op es = some x → SimB P cx op es x
  | [], x, h => by cases h
  | [e], x, h => simB_one (H e x h)
  | e :: e' :: r, x, h => by
    obtain ⟨a, ha, h⟩ := opt_bind h
    obtain ⟨b, hb, h⟩ := opt_bind h
    have hR := simB_of op H (e' :: r) b hb
    cases op with
    | And => cases opt_pure h; exact simB_and (H e a ha) hR
    | Or => cases opt_pure h; exact simB_or (H e a ha) hR
theorem simEs_of (H : ∀ e y, compE k cx e = some y → SimE P cx e y) : ∀ (es : List Expr) (xs : Xs), compEs (compE k cx) es = some xs → SimEs P cx es xs
  | [], xs, h => by cases h; exact simEs_nil
  | e :: r, xs, h => by
    obtain ⟨a, ha, h⟩ := opt_bind h
    obtain ⟨b, hb, h⟩ := opt_bind h
    cases opt_pure h
    exact simEs_cons (not_starred ha) (H e a ha) (simEs_of H r b hb)

theorem simTs_of (op : BoolOp) (H : ∀ e y, compE k cx e = some y → SimT P cx e y) : ∀ (es : List Expr) (x : X), compBool (compE k cx) op es = some x → SimTs P cx op es x
  | [], x, h => by cases h
  | [e], x, h => simTs_one (H e x h)
  | e :: e' :: r, x, h => by
    obtain ⟨a, ha, h⟩ := opt_bind h
    obtain ⟨b, hb, h⟩ := opt_bind h
    have hR := simTs_of op H (e' :: r) b hb
    cases op with
    | And => cases opt_pure h; exact simTs_and (H e a ha) hR
    | Or => cases opt_pure h; exact simTs_or (H e a ha) hR

theorem sim_call_of {g : Expr} {as : List Expr} {ks : List Keyword} {p : Pos} {x : X} (h : stepE (compE k) cx (.Call g as ks p) = some x) (IH : ∀ e y, compE k cx e = some y → SimE P cx e y) : SimE P cx (.Call g as ks p) x := by
  cases ks with
  | cons => exact none_ne h
  | nil =>
    cases g
    case Name g q =>
      replace h : (if (!cx.isGlob g) = true then none else if (g == ("isinstance" : Str)) = true then (do return .isi (← compHead (compE k cx) as) (← compTyArgs cx as)) else (do compCall cx g (← compEs (compE k cx) as))) = some x := h
      split at h
      · cases h
      · rename_i hg
        rw [Bool.not_eq_true', Bool.not_eq_false] at hg
        split at h
        · rename_i hf
          cases beq_iff_eq.mp hf
          obtain ⟨y, hy, h⟩ := opt_bind h
          obtain ⟨t, ht, h⟩ := opt_bind h
          cases opt_pure h
          exact sim_isi_of hg hy ht IH
        · obtain ⟨xs, hxs, h⟩ := opt_bind h
          exact sim_callE hg hxs (simEs_of IH _ xs hxs) h
    case Attribute o m ap =>
      replace h : (if (!(ap.endLine == p.line && notSuper o && decide (as.length < 20))) = true then none else (do compMeth cx m (← compE k cx o) (← compEs (compE k cx) as))) = some x := h
      split at h
      · cases h
      · rename_i hok
        rw [Bool.not_eq_true', Bool.not_eq_false, Bool.and_eq_true, Bool.and_eq_true, decide_eq_true_eq] at hok
        obtain ⟨xo, ho, h⟩ := opt_bind h
        obtain ⟨xs, hxs, h⟩ := opt_bind h
        exact sim_methE hok.1.1 hok.1.2 hok.2 hxs (IH o xo ho) (simEs_of IH _ xs hxs) h
    all_goals exact none_ne h
theorem part_of {o : Option Expr} {x : X} (h : compPart (compE k cx) o = some x) (IH : ∀ e y, compE k cx e = some y → SimE P cx e y) : ∀ e, o = some e → SimE P cx e x := fun e he => by
  subst he
  exact IH e x h
theorem sim_sub_of {o i : Expr} {p : Pos} {x : X} (h : stepE (compE k) cx (.Subscript o i p) = some x) (IH : ∀ e y, compE k cx e = some y → SimE P cx e y) : SimE P cx (.Subscript o i p) x := by
  have sub : (do return .sub (← compE k cx o) (← compE k cx i)) = some x → SimE P cx (.Subscript o i p) x := fun h => by
    obtain ⟨xo, ho, h⟩ := opt_bind h
    obtain ⟨xi, hi, h⟩ := opt_bind h
    cases opt_pure h
    exact sim_sub (IH _ xo ho) (IH _ xi hi)
  cases i
  case Slice lo hi st q =>
    cases st with
    | some => exact none_ne h
    | none =>
      obtain ⟨xo, ho, h⟩ := opt_bind (show (do return .slice (← compE k cx o) (← compPart (compE k cx) lo) (← compPart (compE k cx) hi)) = some x from h)
      obtain ⟨xl, hl, h⟩ := opt_bind h
      obtain ⟨xh, hh, h⟩ := opt_bind h
      cases opt_pure h
      exact sim_slice (IH _ xo ho) hl (part_of hl IH) hh (part_of hh IH)
  all_goals exact sub h
theorem sim_attr_of {o : Expr} {a : Str} {p : Pos} {x : X} (h : stepE (compE k) cx (.Attribute o a p) = some x) (IH : ∀ e y, compE k cx e = some y → SimE P cx e y) : SimE P cx (.Attribute o a p) x := by
  replace h : (if (cx.attrs.contains a && notSuper o) = true then (do return .attr a (← compE k cx o)) else none) = some x := h
  split at h
  · rename_i hc
    rw [Bool.and_eq_true] at hc
    obtain ⟨xo, ho, h⟩ := opt_bind h
    cases opt_pure h
    exact sim_attr hc.1 hc.2 (IH _ xo ho)
  · cases h
theorem asTgt_is {t : Expr} {x : Str} (h : asTgt t = some x) : ∃ p, t = .Name x p := by
  cases t
  case Name => cases h; exact ⟨_, rfl⟩
  all_goals exact none_ne h
/-- a comprehension that is read -/
inductive LC (P : Par) (cx : Cx) (x : X) : Expr → Prop
  | mk (elt : Expr) (y : Str) (px : Pos) (iter : Expr) (ifs : List Expr) (scope : Scope) (pos : Pos) (p : CP) (o : CPOk P cx elt y iter ifs scope p) (e : x = p.x) : LC P cx x (.ListComp elt [⟨.Name y px, iter, ifs, 0⟩] scope pos)
theorem lc_of {elt : Expr} {gens : List Comprehension} {scope : Scope} {p : Pos} {x : X} (h : compLC (compE k) cx elt gens scope = some x) (IH : ∀ cx e y, compE k cx e = some y → SimE P cx e y) (IT : ∀ cx e y, compE k cx e = some y → SimT P cx e y) : LC P cx x (.ListComp elt gens scope p) := by
  cases gens with
  | nil => exact none_ne h
  | cons g r =>
    cases r with
    | cons => exact none_ne h
    | nil =>
      obtain ⟨t, iter, ifs, n⟩ := g
      delta compLC at h
      dsimp only at h
      split at h
      · rename_i hc
        rw [Bool.and_eq_true, Bool.and_eq_true, decide_eq_true_eq] at hc
        obtain ⟨⟨hn, h1⟩, h6⟩ := hc
        cases eq_of_beq hn
        obtain ⟨y, hy, h2⟩ := opt_bind h
        obtain ⟨px, rfl⟩ := asTgt_is hy
        clear h
        split at h2
        · rename_i h5
          have h := h2
          obtain ⟨e, he, h⟩ := opt_bind h
          obtain ⟨j, hj, h⟩ := opt_bind h
          obtain ⟨it, hit, h⟩ := opt_bind h
          obtain ⟨cs, hcs, h⟩ := opt_bind h
          cases opt_pure h
          refine .mk elt y px iter ifs scope p ⟨e, (ownNames scope).length, j, it, cs⟩ ⟨h1, eq_of_beq h5, hj, rfl, ⟨k, hit⟩, IH _ _ _ hit, IH _ _ _ he, ?_⟩ rfl
          cases ifs with
          | nil => cases hcs; exact .inl ⟨rfl, rfl⟩
          | cons q r =>
            cases r with
            | nil =>
              obtain ⟨xq, hq, hcs⟩ := opt_bind hcs
              cases opt_pure hcs
              exact .inr ⟨q, xq, rfl, rfl, IT _ _ _ hq⟩
            | cons => exact absurd h6 (by rw [List.length_cons, List.length_cons]; omega)
        · cases h2
      · cases h
theorem sim_dict_of {ks : List (Option Expr)} {vs : List Expr} {p : Pos} {x : X} (h : stepE (compE k) cx (.Dict ks vs p) = some x) : SimE P cx (.Dict ks vs p) x := by
  replace h : (if (ks.isEmpty && vs.isEmpty) = true then some X.dict0 else none) = some x := h
  split at h
  · rename_i hc
    rw [Bool.and_eq_true, List.isEmpty_iff, List.isEmpty_iff] at hc
    obtain ⟨rfl, rfl⟩ := hc
    cases h; exact sim_dict0
  · cases h
theorem sim_cmp_of {l : Expr} {ops : List CmpOp} {rs : List Expr} {p : Pos} {x : X} (h : stepE (compE k) cx (.Compare l ops rs p) = some x) (IH : ∀ e y, compE k cx e = some y → SimE P cx e y) : SimE P cx (.Compare l ops rs p) x ∧ SimT P cx (.Compare l ops rs p) x := by
  obtain ⟨xl, hl, h⟩ := opt_bind h
  have hL := IH _ xl hl
  split at h
  · rename_i y hy
    cases h
    obtain ⟨op, r, b, rfl, rfl, h1, h2, rfl⟩ := compIsn_is hy
    exact ⟨sim_isn h2 h1 hL, simT_isn h2 h1 hL⟩
  · obtain ⟨xr, hr, h⟩ := opt_bind h
    cases compCmp_is hr h with
    | one op o r y h1 h2 => exact ⟨sim_cmp h1 (notMarks h2) hL (IH r y h2), simT_cmp h1 (notMarks h2) hL (IH r y h2)⟩
    | two op op2 o o2 m r y z h1 h2 h3 h4 => exact ⟨sim_cmp2 h1 h2 (notMarks h4) hL (IH m y h3) (IH r z h4), simT_cmp2 h1 h2 (notMarks h4) hL (IH m y h3) (IH r z h4)⟩
theorem step_E {e : Expr} {x : X} (h : stepE (compE k) cx e = some x) (IH : ∀ cx e y, compE k cx e = some y → SimE P cx e y) (IT : ∀ cx e y, compE k cx e = some y → SimT P cx e y) : SimE P cx e x := by
  have IH' := IH cx
  cases e
  case Constant => exact sim_const h
  case Name => exact sim_name h
  case BinOp =>
    obtain ⟨b, hb, h⟩ := opt_bind h
    obtain ⟨xl, hl, h⟩ := opt_bind h
    obtain ⟨xr, hr, h⟩ := opt_bind h
    cases opt_pure h
    exact sim_bin hb (IH' _ xl hl) (IH' _ xr hr)
  case UnaryOp =>
    obtain ⟨xl, hl, h⟩ := opt_bind h
    exact sim_un h (IH' _ xl hl)
  case BoolOp => exact sim_boolop (simB_of _ IH' _ _ h)
  case Compare => exact (sim_cmp_of h IH').1
  case Call => exact sim_call_of h IH'
  case Attribute => exact sim_attr_of h IH'
  case Subscript => exact sim_sub_of h IH'
  case Tuple =>
    obtain ⟨xs, hxs, h⟩ := opt_bind h
    cases opt_pure h
    exact sim_tup (simEs_of IH' _ xs hxs)
  case List =>
    obtain ⟨xs, hxs, h⟩ := opt_bind h
    cases opt_pure h
    exact sim_list (simEs_of IH' _ xs hxs)
  case Dict => exact sim_dict_of h
  case ListComp elt gens scope p =>
    cases lc_of (p := p) h IH IT with
    | mk _ _ _ _ _ _ _ q o e => subst e; exact sim_comp o
  all_goals exact none_ne h
theorem step_T {e : Expr} {x : X} (h : stepE (compE k) cx e = some x) (hE : SimE P cx e x) (IH : ∀ cx e y, compE k cx e = some y → SimE P cx e y) (IT : ∀ cx e y, compE k cx e = some y → SimT P cx e y) : SimT P cx e x := by
  cases e
  case UnaryOp op y p =>
    cases op
    case Not =>
      obtain ⟨xl, hl, h⟩ := opt_bind h
      cases h
      exact simT_not (IT _ y xl hl)
    all_goals exact simT_val (fun _ _ => rfl) hE
  case BoolOp op vs p => exact simT_boolop (simTs_of op (IT cx) vs x h)
  case IfExp => exact none_ne h
  case Compare => exact (sim_cmp_of h (IH cx)).2
  all_goals exact simT_val (fun _ _ => rfl) hE
theorem sim_of : ∀ (k : Nat), (∀ (cx : Cx) (e : Expr) (x : X), compE k cx e = some x → SimE P cx e x) ∧ ∀ (cx : Cx) (e : Expr) (x : X), compE k cx e = some x → SimT P cx e x
  | 0 => ⟨fun cx e x h => none_ne h, fun cx e x h => none_ne h⟩
  | k + 1 => by
    obtain ⟨IH, IT⟩ := sim_of k
    exact ⟨fun cx e x h => step_E h IH IT, fun cx e x h => step_T h (step_E h IH IT) IH IT⟩
theorem simE_of (k : Nat) (e : Expr) (x : X) (h : compE k cx e = some x) : SimE P cx e x := (sim_of k).1 cx e x h
theorem simT_of (k : Nat) (e : Expr) (x : X) (h : compE k cx e = some x) : SimT P cx e x := (sim_of k).2 cx e x h
end
end Mine

namespace Mine
open PySem PySem.Spec PyProof.Rows PySem.SeqAt

section
variable {P : Par} {cx : Cx}

theorem simSt_asgC {elt : Expr} {gens : List Comprehension} {scope : Scope} {pos p q : Pos} {y : Str} {i : Nat} {x : X} (hi : cx.slotW y = some i) (hput : putOk cx y q (.ListComp elt gens scope pos) = true) (hy : compE deep cx (.ListComp elt gens scope pos) = some x) :
    SimSt P cx (.Assign [.Name y q] (.ListComp elt gens scope pos) p) (.asg i x) := by
  cases lc_of (p := pos) (k := 29) hy (fun cx => (sim_of 29).1 cx) (fun cx => (sim_of 29).2 cx) with
  | mk _ _ _ _ _ _ _ q o e => subst e; exact simSt_comp o hput hi
theorem simSt_asgE {ts : List Expr} {v : Expr} {x : S} {p : Pos} (h : compAsg cx ts v = some x) : SimSt P cx (.Assign ts v p) x := by
  cases ts with
  | nil => exact none_ne h
  | cons t r =>
  cases r with
  | cons => exact none_ne h
  | nil =>
    cases t
    case Name y q =>
      replace h : (if putOk cx y q v = true then (do return .asg (← cx.slotW y) (← compE deep cx v)) else none) = some x := h
      split at h
      · rename_i hput
        obtain ⟨i, hi, h⟩ := opt_bind h
        obtain ⟨y, hy, h⟩ := opt_bind h
        cases opt_pure h
        cases hc : isComp v with
        | false => exact simSt_asg hi hc (simE_of _ _ _ hy)
        | true =>
          cases v
          case ListComp => exact simSt_asgC hi hput hy
          all_goals first | exact absurd hc Bool.false_ne_true | exact none_ne hy
      · cases h
    case Subscript o k q =>
      replace h : (if isComp v = true then none else (do return .setitem (← compE deep cx o) (← compE deep cx k) (← compE deep cx v))) = some x := h
      split at h
      · cases h
      · rename_i hc
        rw [Bool.not_eq_true] at hc
        obtain ⟨xo, ho, h⟩ := opt_bind h
        obtain ⟨xk, hk, h⟩ := opt_bind h
        obtain ⟨y, hy, h⟩ := opt_bind h
        cases opt_pure h
        exact simSt_set hc (simE_of _ _ _ ho) (simE_of _ _ _ hk) (simE_of _ _ _ hy)
    case Attribute o a q =>
      replace h : (if (cx.attrs.contains a && notSuper o && !isComp v) = true then (do return .setattr a (← compE deep cx o) (← compE deep cx v)) else none) = some x := h
      split at h
      · rename_i hc
        rw [Bool.and_eq_true, Bool.and_eq_true, Bool.not_eq_true'] at hc
        obtain ⟨xo, ho, h⟩ := opt_bind h
        obtain ⟨y, hy, h⟩ := opt_bind h
        cases opt_pure h
        exact simSt_seta hc.1.1 hc.2 (simE_of _ _ _ ho) (simE_of _ _ _ hy)
      · cases h
    all_goals exact none_ne h
theorem tgt_is {t : Expr} {i : Nat} (h : tgtOf cx t = some i) : ∃ y p, t = .Name y p ∧ cx.slotW y = some i := by
  obtain ⟨x, hx, h2⟩ := Option.bind_eq_some_iff.mp h
  obtain ⟨p, rfl⟩ := tgtName_is hx
  exact ⟨x, p, rfl, h2⟩

theorem simSs_of {k : Nat} (H : ∀ st x, compS k cx st = some x → SimSt P cx st x) : ∀ (sts : List Stmt) (xs : Ss), compSs (compS k cx) sts = some xs → SimSs P cx sts xs
  | [], xs, h => by cases h; exact simSs_nil
  | st :: r, xs, h => by
    obtain ⟨a, ha, h⟩ := opt_bind h
    obtain ⟨b, hb, h⟩ := opt_bind h
    cases opt_pure h
    exact simSs_cons (H st a ha) (simSs_of H r b hb)
theorem simSt_of : ∀ (k : Nat) (st : Stmt) (x : S), compS k cx st = some x → SimSt P cx st x
  | 0, st, x, h => none_ne h
  | k + 1, st, x, h => by
    have IH : ∀ st x, compS k cx st = some x → SimSt P cx st x := fun st x => simSt_of k st x
    cases st
    case Expr e p =>
      replace h : (if isComp e = true then none else (do return .expr (← compE deep cx e))) = some x := h
      split at h
      · cases h
      · rename_i hc
        obtain ⟨y, hy, h⟩ := opt_bind h
        cases opt_pure h
        exact simSt_expr (Bool.not_eq_true _ ▸ hc) (simE_of _ _ y hy)
    case Return v p =>
      cases v with
      | none => exact none_ne h
      | some v =>
        obtain ⟨y, hy, h⟩ := opt_bind h
        cases opt_pure h
        exact simSt_ret (simE_of _ _ y hy)
    case Assign => exact simSt_asgE h
    case If =>
      obtain ⟨xt, ht, h⟩ := opt_bind h
      obtain ⟨xa, ha, h⟩ := opt_bind h
      obtain ⟨xb, hb, h⟩ := opt_bind h
      cases opt_pure h
      exact simSt_if (simT_of _ _ xt ht) (simSs_of IH _ xa ha) (simSs_of IH _ xb hb)
    case While t b o p =>
      cases o with
      | cons => exact none_ne h
      | nil =>
        obtain ⟨xt, ht, h⟩ := opt_bind h
        obtain ⟨xb, hb, h⟩ := opt_bind h
        cases opt_pure h
        exact simSt_while (simT_of _ _ xt ht) (simSs_of IH _ xb hb)
    case For t it b o p =>
      cases o with
      | cons => exact none_ne h
      | nil =>
        obtain ⟨i, hy, h⟩ := opt_bind h
        obtain ⟨xi, hxi, h⟩ := opt_bind h
        obtain ⟨xb, hb, h⟩ := opt_bind h
        cases opt_pure h
        obtain ⟨y, p, rfl, hi⟩ := tgt_is hy
        exact simSt_for hi hxi (simE_of _ _ xi hxi) (simSs_of IH _ xb hb)
    case Raise => cases h; exact simSt_raise
    all_goals exact none_ne h

/-- a function of the program, as the base holds it -/
structure FnAt (P : Par) (prog : Prog) (sh : Sh) (f : Str) : Prop where
  get : ∃ a o q params body scope pm cd doc d, P.fn f = some (.ref a) ∧ P.B.h₀.get? a = some o ∧ (P.meths.contains f = true → o.cls = .type "function") ∧ o.data = .func (methDef f q params body scope pm cd doc) ∧ P.B.h₀.CodeRec cd q ∧
    prog.lookup f = some d ∧ compDef sh params body scope = some d

/-- what the functions of a text share, as the base holds it -/
structure ShOk (P : Par) (sh : Sh) : Prop where
  meths : sh.meths = P.meths
  attrs : sh.attrs = P.B.attrs
  cls : P.mg sh.cls = some (.ref P.B.C)
  init : sh.funs.contains "__init__" = true
  g : ∀ x k, sh.consts.lookup x = some k → ∃ v, P.mg x = some v ∧ ConstR k v

theorem compDef_is {sh : Sh} {params : Arguments} {body : List Stmt} {scope : Scope} {d : FDef} (h : compDef sh params body scope = some d) : defOk params scope = true ∧ ∃ xb,
    compSs (compS deep (defCx sh (params.args.map (·.arg)) scope)) body = some xb ∧
      d = ⟨(params.args.map (·.arg)).length, (slotNames (params.args.map (·.arg)) scope).length, xb⟩ := by
  cases hok : defOk params scope with
  | false => unfold compDef at h; rw [hok] at h; cases h
  | true =>
    unfold compDef at h
    rw [hok] at h
    obtain ⟨xb, hxb, h⟩ := opt_bind h
    cases opt_pure h
    exact ⟨rfl, xb, hxb, rfl⟩
theorem not_true {b : Bool} (h : (!b) = true) : b = false := by cases b; rfl; cases h
structure DefOk (params : Arguments) (scope : Scope) : Prop where
  po : params.posonlyargs = []
  ko : params.kwonlyargs = []
  va : params.vararg = none
  kw : params.kwarg = none
  kind : scope.kind = .function
  gen : scope.isGenerator = false
  co : scope.isCoroutine = false
  np : (params.args.map (·.arg)).Nodup
  par : ∀ x ∈ params.args.map (·.arg), scope.names.lookup x = some .local ∨ scope.names.lookup x = some .cell
theorem defOk_is {params : Arguments} {scope : Scope} (h : defOk params scope = true) : DefOk params scope := by
  unfold defOk at h
  rw [Bool.and_eq_true, Bool.and_eq_true, Bool.and_eq_true, Bool.and_eq_true, Bool.and_eq_true, Bool.and_eq_true, Bool.and_eq_true, Bool.and_eq_true, Bool.and_eq_true, Bool.and_eq_true, decide_eq_true_eq] at h
  obtain ⟨⟨⟨⟨⟨⟨⟨⟨⟨⟨h1, h2⟩, h3⟩, h4⟩, h5⟩, h6⟩, h7⟩, h8⟩, _⟩, _⟩, h9⟩ := h
  refine ⟨List.isEmpty_iff.mp h1, List.isEmpty_iff.mp h2, Option.isNone_iff_eq_none.mp h3, Option.isNone_iff_eq_none.mp h4, eq_of_beq h5, not_true h6, not_true h7, h8, fun x hx => ?_⟩
  have := List.all_eq_true.mp h9 x hx
  rw [Bool.or_eq_true] at this
  exact this.imp eq_of_beq eq_of_beq
theorem runDef_is {c : Ctx} {d : FDef} {as : List AV} {h : AHeap} (hb : runDef c d as h ≠ .bad) : as.length = d.params ∧ runDef c d as h = retR (execSs c d.body (as.map some ++ List.replicate (d.slots - d.params) none) h) := by
  by_cases hl : as.length = d.params
  · exact ⟨hl, if_pos hl⟩
  · exact absurd (if_neg hl) hb
theorem arnd_in {n : Nat} {A : Around} {f q : Str} {params : Arguments} {body : List Stmt} {scope : Scope} {pm cd doc : Value} {k : Nat} {a : Addr} (ar : ArndC (n + 1) A) (hgen : scope.isGenerator = false) (hco : scope.isCoroutine = false) :
    Arnd n (A.deeper (callEnvC (methDef f q params body scope pm cd doc) k a)) := by
  obtain ⟨outer, hfr⟩ := ar.frames
  exact ⟨⟨⟨_, Around.frames_deeper hfr⟩, by have := ar.depth; show A.depth + 1 + 2 * n + 150 < _; omega, by have := ar.units; show A.units + 3 + 100 * n + 100 < _; omega, ar.handled⟩, by have := ar.depth; show A.depth + 1 + 2 * n + 151 < _; omega, by have := ar.units; show A.units + 3 + 100 * n + 150 < _; omega, ⟨_, outer, Around.frames_deeper hfr, hgen, hco, rfl, rfl⟩⟩
/-- what a frame leaves is new -/
theorem frame_new {s : Shared} {fd : FuncData} {a : Addr} (habove : ∀ y c, (y, c) ∈ (callEnvC fd s.heap.objs.size a).cells → s.heap.objs.size < c) : ∀ b ∈ FX (callEnvC fd s.heap.objs.size a), b ∈ ([] : List Addr) ∨ s.heap.get? b = none := fun b hb => .inr <| by
  have hge : s.heap.objs.size ≤ b := by
    rcases List.mem_cons.mp hb with rfl | hb
    · exact Nat.le_refl _
    · obtain ⟨p, hp, rfl⟩ := List.mem_map.mp hb
      exact Nat.le_of_lt (habove p.1 p.2 hp)
  exact Heap.get?_none_of_le hge

theorem run_body {prog : Prog} {sh : Sh} {n : Nat} (ok : P.Ok) (so : ShOk P sh) (ih : FSim P sh.funs (semF prog n) n) {f q : Str} {params : Arguments} {body : List Stmt} {scope : Scope} {pm cd doc : Value} {d : FDef} {a : Addr} {o : Obj} (hd : compDef sh params body scope = some d)
    (h2 : P.B.h₀.get? a = some o) (h3 : o.data = .func (methDef f q params body scope pm cd doc)) (h4 : P.B.h₀.CodeRec cd q) {avs : List AV} {vs : List Value} {σ : Sg} {hp : AHeap} {s : Shared} {A : Around} (S : St P.w P.B σ hp s.heap) (rv : RVs P.B s.heap σ avs vs) (ar : ArndC (n + 1) A)
    (hb : runDef ⟨semF prog n, fuelOf⟩ d avs hp ≠ .bad) : wpAny (model P.prog P.w) A (call (.ref a) vs) (QV P σ s (runDef ⟨semF prog n, fuelOf⟩ d avs hp)) NE s := by
  obtain ⟨hok, xb, hxb, rfl⟩ := compDef_is hd
  have D := defOk_is hok
  obtain ⟨hlen, er⟩ := runDef_is hb
  rw [er] at hb ⊢
  have hlv := rv.length
  refine wpAny_call (codeAny_call_cells (fd := methDef f q params body scope pm cd doc) (body := body) (binds := (params.args.map (·.arg)).zip vs) (by have := ar.depth; omega) (S.base a o h2) h3 (ok.noLimit S) (h4.keeps S.base) rfl
    (bind_plain D.po D.ko D.va D.kw D.np (hlen.symm.trans hlv)) rfl (fun x hx => ?_) (fun s₁ x => ?_) D.co D.gen D.kind)
  · have hmem : x.1 ∈ params.args.map (·.arg) := (List.of_mem_zip (a := x.1) (b := x.2) hx).1
    exact (D.par _ hmem).imp id fun e => ⟨e, cells_has _ _ _ _ (.inl e)⟩
  · have fr := frm_call (sh := sh) (scope := scope) S rv rfl hok hlen rfl rfl x
    have habove := x.above
    obtain ⟨h', tk, rfl, hkeep⟩ := x.done
    have a₁ : After P σ σ [] hp s { s with heap := h', toks := tk } := ⟨rfl, S.keep hkeep, grows_keep hkeep⟩
    refine wpAny_mono (simSs_of (simSt_of deep) body xb hxb ⟨semF prog n, fuelOf⟩ n _ _ σ _ hp _ ⟨ok, ih, so.meths, so.attrs, so.cls, so.init, so.g⟩ ⟨a₁.st, fr, arnd_in ar D.gen D.co⟩ (fun e => hb (by rw [e]; rfl))) (fun fl s' Q => ?_) (fun _ _ Q => Q.elim)
    obtain ⟨fl', l', hp', σ', e, a₂, rf, _⟩ := Q
    rw [e]
    have a₃ := a₁.toX.trans a₂
    have a₄ : After P σ σ' [] hp' s s' := ⟨a₃.ctl, a₃.st, a₃.gr.drop (frame_new habove)⟩
    cases fl' with
    | next => cases (show fl = .next from rf); exact ⟨_, _, _, rfl, a₄, rfl⟩
    | ret av => obtain ⟨v, rfl, rv'⟩ := rf; exact ⟨_, _, _, rfl, a₄, rv'⟩

theorem semF_sim {prog : Prog} {sh : Sh} (ok : P.Ok) (so : ShOk P sh) (hf : ∀ f, sh.funs.contains f = true → FnAt P prog sh f) : ∀ n, FSim P sh.funs (semF prog n) n
  | 0, f, hc => by
    obtain ⟨a, o, q, params, body, scope, pm, cd, doc, d, h1, h2, hc, h3, h4, h5, h6⟩ := (hf f hc).get
    exact ⟨a, o, _, h1, h2, hc, h3, fun avs vs σ hp s A S rv ar hb => absurd rfl hb⟩
  | n + 1, f, hc => by
    obtain ⟨a, o, q, params, body, scope, pm, cd, doc, d, h1, h2, hc, h3, h4, h5, h6⟩ := (hf f hc).get
    refine ⟨a, o, _, h1, h2, hc, h3, fun avs vs σ hp s A S rv ar hb => ?_⟩
    rw [semF_at h5] at hb ⊢
    exact run_body ok so (semF_sim ok so hf n) h6 h2 h3 h4 S rv ar hb
end
end Mine

namespace Mine
open PySem PySem.Spec PySem.W PyProof.Rows PySem.SeqAt

/-- the class of the text -/
noncomputable def theCls (p : Program) (sh : Sh) : Option ClsRec := (plainsOf p []).find? fun c => c.name == sh.cls
structure Src where
  params : Arguments
  body : List Stmt
  scope : Scope
noncomputable def srcOf (p : Program) (sh : Sh) (f : Str) : Option Src :=
  if sh.meths.contains f then (theCls p sh).bind fun c => (c.meths.find? fun m => m.name == f).map fun m => ⟨m.params, m.body, m.scope⟩
  else ((recsOf p).find? fun d => d.name == f).map fun d => ⟨d.params, d.body, d.scope⟩
noncomputable def compFuns (p : Program) (sh : Sh) : List Str → Option Prog
  | [] => some []
  | f :: r => match (srcOf p sh f).bind fun x => compDef sh x.params x.body x.scope, compFuns p sh r with
    | some x, some xs => some ((f, x) :: xs)
    | _, _ => none

theorem compFuns_at {p : Program} {sh : Sh} : ∀ {fs : List Str} {ds : Prog}, compFuns p sh fs = some ds → ∀ f ∈ fs, ∃ s x, srcOf p sh f = some s ∧ compDef sh s.params s.body s.scope = some x ∧ ds.lookup f = some x
  | [], _, _, _, h => nomatch h
  | g :: r, ds, h, f, hf => by
    unfold compFuns at h
    split at h
    · rename_i x xs hx hxs
      cases h
      rw [List.lookup_cons]
      by_cases e : f = g
      · subst e
        obtain ⟨s, h1, h2⟩ := Option.bind_eq_some_iff.mp hx
        exact ⟨s, x, h1, h2, by rw [beq_self_eq_true]⟩
      · have hf' : f ∈ r := (List.mem_cons.mp hf).resolve_left e
        obtain ⟨s, x', h1, h3, h4⟩ := compFuns_at hxs f hf'
        have : (f == g) = false := beq_eq_false_iff_ne.mpr e
        exact ⟨s, x', h1, h3, by rw [this]; exact h4⟩
    · cases h

theorem bootB : ∀ x v, (x, v) ∈ bltPairs → bootBuiltins x = some v ∧ x ≠ "__name__" := by
  intro x v h
  simp only [bltPairs, List.mem_cons, Prod.mk.injEq, List.not_mem_nil, or_false] at h
  rcases h with ⟨rfl, rfl⟩ | ⟨rfl, rfl⟩ | ⟨rfl, rfl⟩ | ⟨rfl, rfl⟩ | ⟨rfl, rfl⟩ | ⟨rfl, rfl⟩ | ⟨rfl, rfl⟩ | ⟨rfl, rfl⟩ | ⟨rfl, rfl⟩ <;> exact ⟨by rfl, by decide⟩

noncomputable def freeOk (p : Program) (loose : List Str) : Bool := bltPairs.all fun x => !startupNames.contains x.1 && !loose.contains x.1 && !((recsOf p).map (·.name)).contains x.1 && !((litsOf p).map (·.1)).contains x.1 && !((clssOf p loose).map (·.name)).contains x.1

/-- what a constant of the top is, as data -/
noncomputable def constD : Const → Option PyData
  | .int i => some (.int i)
  | .str x => some (.str x)
  | _ => none
noncomputable def shOk (p : Program) (sh : Sh) (c : ClsRec) : Bool :=
  sh.attrs.all (fun a => c.statics.contains a) && sh.meths.contains "__init__" && sh.funs.contains "__init__" && decide (sh.attrs.length ≤ 1000)
noncomputable def constsOk (p : Program) (sh : Sh) : Prop := ∀ x k, (x, k) ∈ sh.consts → ∃ d, constD k = some d ∧ valOf p x = some d

section
variable {prog view : Program} {mean : ExcName → Option Value} {w : World} {mg mb : Str → Option Value} {h : Heap} {sh : Sh}

theorem ok_of_top (T : Top view [] mean mg mb h) (hi : importsNone view = true) (ht : prog.given.tree = none) (hf : freeOk view [] = true) {c : ClsRec} {C N : Addr} {mN : Str → Option Value} (pa : PlainAt h c C N mN) (hs : shOk view sh c = true)
    (ha : ∀ a ∈ sh.attrs, typeLookup (.type "object") a = pure none) (hm : ∀ m ∈ sh.meths, ∃ y, typeLookup (.type "object") m = pure y) : Par.Ok ⟨prog, w, ⟨h, C, sh.attrs⟩, mg, mb, N, mN, sh.meths⟩ := by
  simp only [shOk, Bool.and_eq_true, decide_eq_true_eq] at hs
  obtain ⟨⟨⟨hs1, hs2⟩, hs3⟩, hs4⟩ := hs
  refine ⟨fun x v hm => ?_, T.g, T.b, T.nolimit, T.seer hi, ht, ?_, pa.cls, pa.quiet _ (List.mem_append_left _ (.head _)), pa.quiet _ (List.mem_append_left _ (.tail _ (.head _))), pa.quiet _ (List.mem_append_left _ (.tail _ (.tail _ (.head _)))), fun a q => ?_, fun m q => hm m (List.contains_iff_mem.mp q), Nat.le_trans hs4 (by decide), hs2⟩
  · obtain ⟨h1, h2⟩ := bootB x v hm
    have := List.all_eq_true.mp hf _ hm
    simp only [Bool.and_eq_true, Bool.not_eq_true', List.contains_eq_mem, decide_eq_false_iff_not] at this
    obtain ⟨⟨⟨⟨a, b⟩, c⟩, d⟩, e⟩ := this
    exact ⟨T.free x a b c d e, (T.builtins x h2).trans h1⟩
  · obtain ⟨mm, ⟨o, _, _, ho, _⟩, _⟩ := (T.seer hi).mods
    exact ⟨o, ho⟩
  · have hmem := List.contains_iff_mem.mp q
    exact ⟨pa.quiet _ (List.mem_append_right _ (List.contains_iff_mem.mp (List.all_eq_true.mp hs1 a hmem))), ha a hmem⟩

theorem fns_of_top (T : Top view [] mean mg mb h) {pr : Prog} (hc : compFuns view sh sh.funs = some pr) {c : ClsRec} (hcls : theCls view sh = some c) {C N : Addr} {mN : Str → Option Value} (pa : PlainAt h c C N mN) (f : Str) (hf : sh.funs.contains f = true) :
    FnAt ⟨prog, w, ⟨h, C, sh.attrs⟩, mg, mb, N, mN, sh.meths⟩ pr sh f := by
  obtain ⟨s, x, h1, h2, h3⟩ := compFuns_at hc f (List.contains_iff_mem.mp hf)
  unfold srcOf at h1
  cases hm : sh.meths.contains f with
  | true =>
    rw [hm, if_pos rfl, hcls] at h1
    obtain ⟨m, hfm, rfl⟩ := Option.map_eq_some_iff.mp h1
    have hn : m.name = f := eq_of_beq (List.find?_some (p := fun m : MethRec => m.name == f) hfm)
    obtain ⟨g, o, pm, cd, doc, e1, e2, e3, e4, e5⟩ := pa.meths m (List.mem_of_find?_eq_some hfm)
    subst hn
    exact ⟨⟨g, o, _, _, _, _, pm, cd, doc, x, (show (if sh.meths.contains m.name = true then mN m.name else mg m.name) = _ by rw [if_pos hm]; exact e1), e2, fun _ => e3, e4, e5, h3, h2⟩⟩
  | false =>
    rw [hm, if_neg Bool.false_ne_true] at h1
    obtain ⟨d, hfd, rfl⟩ := Option.map_eq_some_iff.mp h1
    have hn : d.name = f := eq_of_beq (List.find?_some (p := fun d : DefRec => d.name == f) hfd)
    obtain ⟨a, o, pm, code, doc, e1, e2, e3, e4⟩ := T.fn d (List.mem_of_find?_eq_some hfd)
    subst hn
    exact ⟨⟨a, o, _, _, _, _, pm, code, doc, x, (show (if sh.meths.contains d.name = true then mN d.name else mg d.name) = _ by rw [if_neg (by rw [hm]; exact Bool.false_ne_true)]; exact e1), e2, fun q => absurd (hm.symm.trans q) Bool.false_ne_true, e3, e4, h3, h2⟩⟩

theorem lookup_in {α : Type} : ∀ {l : List (Str × α)} {n : Str} {c : α}, l.lookup n = some c → (n, c) ∈ l := PySem.mem_of_lookup
theorem const_of {k : Const} {d : PyData} {v : Value} (hk : constD k = some d) (r : Reads h v d []) : ConstR k v := by
  cases k
  case int i => cases hk; cases r; exact ⟨_, rfl⟩
  case str x => cases hk; cases r; exact ⟨_, rfl⟩
  all_goals exact none_ne hk

/-- the law's call, from its caller -/
theorem law_call (T : Top view [] mean mg mb h) (TE : TopE view [] mg h) {s₁ : Shared} (hs : s₁.heap = h) (hi : importsNone view = true) (ht : prog.given.tree = none) (hf : freeOk view [] = true) {c : ClsRec} (hcls : theCls view sh = some c) (hsh : shOk view sh c = true)
    (ha : ∀ a ∈ sh.attrs, typeLookup (.type "object") a = pure none) (hm : ∀ m ∈ sh.meths, ∃ y, typeLookup (.type "object") m = pure y) (hk : constsOk view sh) {pr : Prog} (hc : compFuns view sh sh.funs = some pr)
    (hl : sh.funs.contains "law" = true) (hlm : sh.meths.contains "law" = false) {fa : Addr} (hfa : mg "law" = some (.ref fa)) {a : Addr} {vs : List Value} {xs : List Int} (hL : h.IsList a vs.toArray) (hI : IntsAre vs xs) {hp : AHeap}
    (hrun : semF pr 16 "law" [.scr xs] [] = .ok (.bool true) hp) {Q : Value → Shared → Prop} {E : Value → Shared → Prop}
    (k : ∀ s', (∀ b o, s₁.heap.get? b = some o → s'.heap.get? b = some o) → s'.os = s₁.os → s'.gens = s₁.gens → Q (.bool true) s') :
    wpAny (model prog w) callerA (call (.ref fa) [.ref a]) Q E s₁ := by
  subst hs
  obtain ⟨C, N, mN, hC, pa'⟩ := TE.topC c (List.mem_of_find?_eq_some hcls)
  have hcn : c.name = sh.cls := eq_of_beq (List.find?_some (p := fun c : ClsRec => c.name == sh.cls) hcls)
  let P : Par := ⟨prog, w, ⟨s₁.heap, C, sh.attrs⟩, mg, mb, N, mN, sh.meths⟩
  have ok : P.Ok := ok_of_top T hi ht hf pa' hsh ha hm
  have so : ShOk P sh := ⟨rfl, rfl, hcn ▸ hC, by simp only [shOk, Bool.and_eq_true] at hsh; exact hsh.1.2, fun x kk hx => by
    obtain ⟨d, h1, h2⟩ := hk x kk (lookup_in hx)
    obtain ⟨v, h3, h4⟩ := T.const x d h2
    exact ⟨v, h3, const_of h1 (h4 s₁.heap)⟩⟩
  obtain ⟨fa', o, fd, e1, e2, _, e3, hcall⟩ := semF_sim (P := P) ok so (fns_of_top (prog := prog) (w := w) T hc hcls pa') 16 "law" hl
  have : fa' = fa := by
    have e1' : (if sh.meths.contains "law" = true then mN "law" else mg "law") = some (.ref fa') := e1
    rw [hlm, if_neg Bool.false_ne_true, hfa] at e1'; cases e1'; rfl
  subst this
  have S : St P.w P.B [] [] s₁.heap := ⟨rfl, by simp, (fun n a off o e => by simp at e), (fun b o e => e), (fun p hp => nomatch hp)⟩
  have rv : RVs P.B s₁.heap [] [.scr xs] [.ref a] := ⟨⟨a, _, rfl, hL, ris_of hI⟩, trivial⟩
  refine wpAny_mono (hcall [.scr xs] [.ref a] [] [] s₁ callerA S rv ⟨⟨[], rfl⟩, by decide, by decide, rfl⟩ (by rw [hrun]; exact fun e => nomatch e)) (fun v s' q => ?_) (fun _ _ q => q.elim)
  obtain ⟨av, hp', σ', er, af, r⟩ := q
  rw [hrun] at er
  cases er
  cases (show v = .bool true from r)
  exact k s' af.st.base (by rw [af.ctl]) (by rw [af.ctl])
end
end Mine

namespace Mine
open PySem

section
variable {h : AHeap} {l : Locs} {c : Ctx}
theorem b_add {x y : Int} : binAV .add (.int x) (.int y) h = .ok (.int (x + y)) h := rfl
theorem b_sub {x y : Int} : binAV .sub (.int x) (.int y) h = .ok (.int (x - y)) h := rfl
theorem b_mulL {x y : Int} (hx : x.natAbs < 2 ^ 64) : binAV .mul (.int x) (.int y) h = .ok (.int (x * y)) h :=
  if_pos (show (decide (x.natAbs < 2 ^ 64) || decide (y.natAbs < 2 ^ 64)) = true by rw [decide_eq_true hx]; rfl)
theorem b_mulR {x y : Int} (hx : y.natAbs < 2 ^ 64) : binAV .mul (.int x) (.int y) h = .ok (.int (x * y)) h :=
  if_pos (show (decide (x.natAbs < 2 ^ 64) || decide (y.natAbs < 2 ^ 64)) = true by rw [decide_eq_true hx]; exact Bool.or_true _)
theorem b_div {x y : Int} (hy : y ≠ 0) : binAV .div (.int x) (.int y) h = .ok (.int (x.fdiv y)) h := if_neg hy
theorem b_mod {x y : Int} (hy : y ≠ 0) : binAV .mod (.int x) (.int y) h = .ok (.int (x.fmod y)) h := if_neg hy
theorem c_lt {x y : Int} : cmpAV h .lt (.int x) (.int y) = some (decide (x < y)) := rfl
theorem c_le {x y : Int} : cmpAV h .le (.int x) (.int y) = some (decide (x ≤ y)) := rfl
theorem c_gt {x y : Int} : cmpAV h .gt (.int x) (.int y) = some (decide (y < x)) := rfl
theorem c_ge {x y : Int} : cmpAV h .ge (.int x) (.int y) = some (decide (y ≤ x)) := rfl
theorem c_eqi {x y : Int} : cmpAV h .eq (.int x) (.int y) = some (decide (x = y)) := rfl
theorem c_nei {x y : Int} : cmpAV h .ne (.int x) (.int y) = some (!decide (x = y)) := rfl
theorem c_eqs {x y : List Nat} : cmpAV h .eq (.str x) (.str y) = some (decide (x = y)) := rfl
theorem len_scr {x : List Int} (hl : x.length ≤ sizeLim) : biAV .len [.scr x] h = .ok (.int x.length) h := if_pos hl
theorem len_list {n : Nat} {x : List AV} (hn : h[n]? = some (.list x)) : biAV .len [.loc n] h = .ok (.int x.length) h := by
  show lenAV (.loc n) h = _
  delta lenAV
  dsimp only
  rw [hn]
theorem len_tup {x : List AV} (hl : x.length ≤ sizeLim) : biAV .len [.tup x] h = .ok (.int x.length) h := if_pos hl
theorem idx_nat {γ : Type} {xs : List γ} {k : Int} (hk : 0 ≤ k) : idx? xs k = xs[k.toNat]? := by unfold idx?; rw [if_pos hk]
theorem idx_last {γ : Type} {xs : List γ} (hk : 0 < xs.length) : idx? xs (-1) = xs[xs.length - 1]? := by
  unfold idx?; rw [if_neg (by omega), if_pos (by omega)]
  congr 1; omega
theorem subI_at {x : List AV} {k : Int} {d : AV} (hl : x.length ≤ sizeLim) (hd : idx? x k = some d) : okO (subI x (some k)) h = .ok d h := by
  show okO (if x.length ≤ sizeLim then idx? x k else none) h = _
  rw [if_pos hl, hd]; rfl
theorem sub_scr {x : List Int} {k : Int} {d : Int} (hl : x.length ≤ sizeLim) (hk : 0 ≤ k) (hd : x[k.toNat]? = some d) : subAV (.scr x) (.int k) h = .ok (.int d) h :=
  subI_at (x := x.map .int) (by rw [List.length_map]; exact hl) (by rw [idx_nat hk, List.getElem?_map, hd]; rfl)
theorem sub_loc {n : Nat} {x : List AV} {i : AV} (hh : h[n]? = some (.list x)) : subAV (.loc n) i h = okO (subI x (intOf i)) h := by
  delta subAV
  dsimp only
  rw [hh]; rfl
theorem sub_list {n : Nat} {x : List AV} {k : Int} {d : AV} (hl : x.length ≤ sizeLim) (hh : h[n]? = some (.list x)) (hk : 0 ≤ k) (hd : x[k.toNat]? = some d) : subAV (.loc n) (.int k) h = .ok d h :=
  (sub_loc hh).trans (subI_at hl (by rw [idx_nat hk]; exact hd))
theorem sub_last {n : Nat} {x : List AV} {d : AV} (hl : x.length ≤ sizeLim) (hh : h[n]? = some (.list x)) (hd : x[x.length - 1]? = some d) : subAV (.loc n) (.int (-1)) h = .ok d h :=
  (sub_loc hh).trans (subI_at hl (by rw [idx_last (Nat.lt_of_le_of_lt (Nat.zero_le _) (List.getElem?_eq_some_iff.mp hd).1)]; exact hd))
theorem sub_t0 {x y : AV} : subAV (.tup [x, y]) (.int 0) h = .ok x h := rfl
theorem sub_t1 {x y : AV} : subAV (.tup [x, y]) (.int 1) h = .ok y h := rfl
theorem sub_dict {n : Nat} {x : List (Key × AV)} {ep : Nat} {kv : AV} {k : Key} {d : AV} (hh : h[n]? = some (.dict x ep)) (hk : kv.key? = some k) (hs : sortOk x k = true) (hd : x.lookup k = some d) : subAV (.loc n) kv h = .ok d h := by
  delta subAV
  dsimp only
  rw [hh]
  show okO (subD x kv.key?) h = _
  rw [hk]
  show okO (if sortOk x k = true then x.lookup k else none) h = _
  rw [if_pos hs, hd]; rfl
theorem isIn_dict {n : Nat} {x : List (Key × AV)} {ep : Nat} {kv : AV} {k : Key} (hh : h[n]? = some (.dict x ep)) (hk : kv.key? = some k) (hs : sortOk x k = true) : isIn h kv (.loc n) = some (x.lookup k).isSome := by
  delta isIn
  dsimp only
  rw [hh]
  show inDict x kv.key? = _
  rw [hk]
  exact if_pos hs
theorem in_dict' {n : Nat} {x : List (Key × AV)} {ep : Nat} {kv : AV} {k : Key} (hh : h[n]? = some (.dict x ep)) (hk : kv.key? = some k) (hs : sortOk x k = true) : cmpAV h .isin kv (.loc n) = some (x.lookup k).isSome := isIn_dict hh hk hs
theorem notin_dict' {n : Nat} {x : List (Key × AV)} {ep : Nat} {kv : AV} {k : Key} (hh : h[n]? = some (.dict x ep)) (hk : kv.key? = some k) (hs : sortOk x k = true) : cmpAV h .notin kv (.loc n) = some (!(x.lookup k).isSome) :=
  congrArg (Option.map not) (isIn_dict hh hk hs)
theorem set_dict {n : Nat} {x : List (Key × AV)} {ep : Nat} {kv v : AV} {k : Key} (hh : h[n]? = some (.dict x ep)) (hk : kv.key? = some k) (hs : sortOk x k = true) (hl : x.length < sizeLim) :
    ∃ ep', setItemAV (.loc n) kv v h = some (h.set n (.dict (dictPut x k v) ep')) :=
  ⟨if (x.lookup k).isSome then ep else ep + 1, by
    delta setItemAV
    dsimp only
    rw [hh]
    show setD h n x ep v kv.key? = _
    rw [hk]
    exact if_pos (by rw [hs, decide_eq_true hl]; rfl)⟩
theorem newList_ok {vs : List AV} (hl : vs.length ≤ sizeLim) : newList vs h = .ok (.loc h.length) (h ++ [.list vs]) := if_pos hl
theorem listAt_of {n : Nat} {x : List AV} (hh : h[n]? = some (.list x)) : listAt h n = some x := by delta listAt; rw [hh]
theorem dictAt_of {n : Nat} {x : List (Key × AV)} {ep : Nat} (hh : h[n]? = some (.dict x ep)) : dictAt h n = some (x, ep) := by delta dictAt; rw [hh]
theorem append_ok {n : Nat} {x : List AV} {v : AV} (hh : h[n]? = some (.list x)) (hl : x.length < sizeLim) : appendAV (.loc n) [v] h = .ok .none (h.set n (.list (x ++ [v]))) := by
  delta appendAV
  dsimp only
  rw [listAt_of hh]
  exact if_pos hl
theorem newListO_ok {o : Option (List AV)} {x : List AV} (ho : o = some x) (hl : x.length ≤ sizeLim) : newListO o h = .ok (.loc h.length) (h ++ [.list x]) := by
  rw [ho]; exact newList_ok hl
theorem list_ok {n : Nat} {x : List AV} (hh : walkOf h n = some x) (hl : x.length ≤ sizeLim) : biAV .list [.loc n] h = .ok (.loc h.length) (h ++ [.list x]) := newListO_ok hh hl
theorem walk_list {n : Nat} {x : List AV} (hh : h[n]? = some (.list x)) : walkOf h n = some x := by delta walkOf; rw [hh]
theorem walk_dict {n : Nat} {x : List (Key × AV)} {ep : Nat} (hh : h[n]? = some (.dict x ep)) : walkOf h n = some (x.map fun p => p.1.av) := by delta walkOf; rw [hh]
end
theorem eqAll_int {f : AV → AV → Option Bool} {κ : Type} [DecidableEq κ] {g : κ → AV} (hf : ∀ a b, f (g a) (g b) = some (decide (a = b))) : ∀ xs ys : List κ, xs.length = ys.length → eqAll f (xs.map g) (ys.map g) = some (decide (xs = ys))
  | [], [], _ => rfl
  | a :: xs, b :: ys, h => by
    have e : eqAll f ((a :: xs).map g) ((b :: ys).map g) = match f (g a) (g b), eqAll f (xs.map g) (ys.map g) with | some b, some r => some (b && r) | _, _ => none := rfl
    rw [e, hf, eqAll_int hf xs ys (Nat.succ.inj h)]
    by_cases h1 : a = b
    · subst h1
      by_cases h2 : xs = ys
      · rw [decide_eq_true rfl, decide_eq_true h2, decide_eq_true (by rw [h2])]; rfl
      · rw [decide_eq_true rfl, decide_eq_false h2, decide_eq_false fun q => h2 (List.cons.inj q).2]; rfl
    · rw [decide_eq_false h1, decide_eq_false fun q => h1 (List.cons.inj q).1]; rfl
  | [], _ :: _, h => nomatch h
  | _ :: _, [], h => nomatch h
theorem eqv_pair {h : AHeap} {n : Nat} {a b c d : Int} : eqv h (n + 2) (.tup [.int a, .int b]) (.tup [.int c, .int d]) = some (decide (a = c) && decide (b = d)) := by
  show some (decide (a = c) && (decide (b = d) && true)) = _
  rw [Bool.and_true]
theorem eq_lists {h : AHeap} {n m : Nat} {κ : Type} [DecidableEq κ] {g : κ → AV} {xs ys : List κ} (hn : h[n]? = some (.list (xs.map g))) (hm : h[m]? = some (.list (ys.map g))) (hf : ∀ a b, eqv h 5 (g a) (g b) = some (decide (a = b))) :
    cmpAV h .eq (.loc n) (.loc m) = some (decide (xs = ys)) := by
  have e : cmpAV h .eq (.loc n) (.loc m) = eqL (eqv h 5) (listAt h n) (listAt h m) := rfl
  rw [e, listAt_of hn, listAt_of hm]
  show (if (xs.map g).length = (ys.map g).length then eqAll (eqv h 5) (xs.map g) (ys.map g) else some false) = _
  rw [List.length_map, List.length_map]
  by_cases hl : xs.length = ys.length
  · rw [if_pos hl, eqAll_int hf _ _ hl]
  · rw [if_neg hl]
    have : xs ≠ ys := fun e => hl (by rw [e])
    rw [decide_eq_false this]
theorem ne_lists {h : AHeap} {n m : Nat} {κ : Type} [DecidableEq κ] {g : κ → AV} {xs ys : List κ} (hn : h[n]? = some (.list (xs.map g))) (hm : h[m]? = some (.list (ys.map g))) (hf : ∀ a b, eqv h 5 (g a) (g b) = some (decide (a = b))) :
    cmpAV h .ne (.loc n) (.loc m) = some (!decide (xs = ys)) := by
  have e : cmpAV h .ne (.loc n) (.loc m) = (cmpAV h .eq (.loc n) (.loc m)).map not := rfl
  rw [e, eq_lists hn hm hf]; rfl

theorem forLoop_inv {i : Nat} {body : Locs → AHeap → SR} {src : AV} {items : List AV} (I : Nat → Locs → AHeap → Prop) (R : AV → AHeap → Prop)
    (hn : ∀ k l h, I k l h → nextAt src k h = some items[k]?)
    (step : ∀ k v l h, items[k]? = some v → I k l h → ∃ fl l' h', body (l.set i (some v)) h = .ok fl l' h' ∧ ((fl = .next ∧ I (k + 1) l' h') ∨ ∃ r, fl = .ret r ∧ R r h')) :
    ∀ f k l h, items.length < f + k → k ≤ items.length → I k l h →
      (∃ l' h', forLoop i body src f k l h = .ok .next l' h' ∧ I items.length l' h') ∨ ∃ r l' h', forLoop i body src f k l h = .ok (.ret r) l' h' ∧ R r h'
  | 0, k, l, h, h1, h2, _ => by omega
  | f + 1, k, l, h, h1, h2, hI => by
    unfold forLoop
    rw [hn k l h hI]
    by_cases hk : k < items.length
    · obtain ⟨fl, l', h', hb, hc⟩ := step k items[k] l h (List.getElem?_eq_getElem hk) hI
      rw [List.getElem?_eq_getElem hk]
      simp only [hb]
      rcases hc with ⟨rfl, hI'⟩ | ⟨r, rfl, hR⟩
      · rw [turn_next]; exact forLoop_inv I R hn step f (k + 1) l' h' (by omega) (by omega) hI'
      · exact .inr ⟨r, l', h', rfl, hR⟩
    · have e : k = items.length := by omega
      subst e
      rw [List.getElem?_eq_none (Nat.le_refl _)]
      exact .inl ⟨l, h, rfl, hI⟩

/-- a loop that runs through -/
theorem forLoop_all {i : Nat} {body : Locs → AHeap → SR} {src : AV} {items : List AV} (I : Nat → Locs → AHeap → Prop)
    (hn : ∀ k l h, I k l h → nextAt src k h = some items[k]?)
    (step : ∀ k v l h, items[k]? = some v → I k l h → ∃ l' h', body (l.set i (some v)) h = .ok .next l' h' ∧ I (k + 1) l' h')
    {f : Nat} {l : Locs} {h : AHeap} (hf : items.length < f) (hI : I 0 l h) : ∃ l' h', forLoop i body src f 0 l h = .ok .next l' h' ∧ I items.length l' h' := by
  rcases forLoop_inv I (fun _ _ => False) hn (fun k v l h e hI => let ⟨l', h', a, c⟩ := step k v l h e hI; ⟨_, l', h', a, .inl ⟨rfl, c⟩⟩) f 0 l h (by omega) (by omega) hI with h1 | ⟨_, _, _, _, h1⟩
  · exact h1
  · exact h1.elim

theorem compLoop_all {body : AV → AHeap → Res (Option AV)} {src : AV} {items : List AV} (I : Nat → List AV → AHeap → Prop)
    (hn : ∀ k a h, I k a h → nextAt src k h = some items[k]?)
    (step : ∀ k v a h, items[k]? = some v → I k a h → ∃ r h', body v h = .ok r h' ∧ I (k + 1) (a ++ r.toList) h') (hl : items.length ≤ 1000) :
    ∀ f k a h, items.length < f + k → k ≤ items.length → a.length ≤ k → I k a h → ∃ a' h', compLoop body src f k a h = .ok a' h' ∧ I items.length a' h' ∧ a'.length ≤ items.length
  | 0, k, a, h, h1, h2, _, _ => by omega
  | f + 1, k, a, h, h1, h2, h3, hI => by
    unfold compLoop
    rw [hn k a h hI]
    by_cases hk : k < items.length
    · obtain ⟨r, h', hb, hc⟩ := step k items[k] a h (List.getElem?_eq_getElem hk) hI
      rw [List.getElem?_eq_getElem hk]
      simp only [hb, bok]
      cases r with
      | none =>
        simp only [Option.toList_none, List.append_nil] at hc
        exact compLoop_all I hn step hl f (k + 1) a h' (by omega) (by omega) (by omega) hc
      | some x =>
        simp only [Option.toList_some] at hc ⊢
        rw [if_pos (by unfold sizeLim; omega)]
        exact compLoop_all I hn step hl f (k + 1) _ h' (by omega) (by omega) (by simp; omega) hc
    · have e : k = items.length := by omega
      subst e
      rw [List.getElem?_eq_none (Nat.le_refl _)]
      exact ⟨a, h, rfl, hI, h3⟩

theorem ss_step {c : Ctx} {s : S} {r : Ss} {l l' : Locs} {h h' : AHeap} (e : execS c s l h = .ok .next l' h') : execSs c (.cons s r) l h = execSs c r l' h' := by
  show (execS c s l h).turn _ = _
  rw [e]; rfl
theorem ss_stop {c : Ctx} {s : S} {r : Ss} {l l' : Locs} {h h' : AHeap} {v : AV} (e : execS c s l h = .ok (.ret v) l' h') : execSs c (.cons s r) l h = .ok (.ret v) l' h' := by
  show (execS c s l h).turn _ = _
  rw [e]; rfl
theorem ss_one {c : Ctx} {s : S} {l l' : Locs} {h h' : AHeap} {f : Flow} (e : execS c s l h = .ok f l' h') : execSs c (.cons s .nil) l h = .ok f l' h' := by
  show (execS c s l h).turn _ = _
  rw [e]; cases f <;> rfl
abbrev Prog.has (p : Prog) (f : Str) (d : FDef) : Prop := p.lookup f = some d
theorem run_at {p : Prog} {n : Nat} {f : Str} {as : List AV} {h : AHeap} {d : FDef} (hl : Prog.has p f d) (ha : as.length = d.params) :
    ∃ F, 50000 ≤ F ∧ semF p (n + 1) f as h = retR (execSs ⟨semF p n, F⟩ d.body (as.map some ++ List.replicate (d.slots - d.params) none) h) := by
  refine ⟨fuelOf, by decide, ?_⟩
  rw [semF_at hl]
  exact if_pos ha

theorem next_of {src : AV} {k : Nat} {xs : List AV} {h : AHeap} (hi : itemsAV src h = some xs) : nextAt src k h = some xs[k]? := by
  delta nextAt
  rw [hi]; rfl
theorem next_list {h : AHeap} {n k : Nat} {x : List AV} (hh : h[n]? = some (.list x)) : nextAt (.loc n) k h = some x[k]? := next_of (listAt_of hh)
theorem next_tup {h : AHeap} {k : Nat} {x : List AV} : nextAt (.tup x) k h = some x[k]? := next_of rfl
theorem next_rng {b : Int} {k : Nat} {h : AHeap} (hb : b.natAbs ≤ sizeLim) : nextAt (.rng 0 b 1) k h = some (rngItems 0 b 1)[k]? := next_of (if_pos ⟨.inl rfl, Nat.zero_le _, hb⟩)
theorem rng_up (m : Nat) : rngItems 0 m 1 = (List.range m).map fun (k : Nat) => AV.int k := by
  show (List.range ((m : Int) - 0).toNat).map _ = _
  rw [Int.sub_zero, Int.toNat_natCast]
  exact List.map_congr_left fun k _ => by rw [Int.one_mul, Int.zero_add]
theorem up_item {m k : Nat} {v : AV} (h : (rngItems 0 m 1)[k]? = some v) : k < m ∧ v = .int k := by
  rw [rng_up, List.getElem?_map] at h
  obtain ⟨j, hj, rfl⟩ := Option.map_eq_some_iff.mp h
  obtain ⟨h1, h2⟩ := List.getElem?_eq_some_iff.mp hj
  rw [List.length_range] at h1
  rw [List.getElem_range] at h2
  subst h2
  exact ⟨h1, rfl⟩
theorem up_length (m : Nat) : (rngItems 0 m 1).length = m := by rw [rng_up, List.length_map, List.length_range]
theorem range_up {m : Nat} (hm : m ≤ 1000) : rangeOf [.int (m : Int)] = some (.rng 0 m 1) := by
  exact if_pos (Nat.le_trans hm (by decide))
theorem run_in {p : Prog} {n : Nat} {f : Str} {as : List AV} {h : AHeap} {d : FDef} (hl : Prog.has p f d) (l : Locs) (he : as.map some ++ List.replicate (d.slots - d.params) none = l) (ha : as.length = d.params) :
    ∃ F, 50000 ≤ F ∧ semF p (n + 1) f as h = retR (execSs ⟨semF p n, F⟩ d.body l h) := by
  subst he
  exact run_at hl ha
noncomputable def cellAt (xs : List Int) (k : Nat) : Int := xs.getD k 0
noncomputable def mixF (c k : Int) : Int := ((c + 7919 * k + 11) * 48271).fmod 2147483647
noncomputable def mixed (c k : Int) : Int := (mixF c k * mixF c k + 40692 * mixF c k).fmod 2147483399
theorem fmod_bound (a : Int) {m : Int} (hm : 0 < m) : 0 ≤ a.fmod m ∧ a.fmod m < m := by
  rw [Int.fmod_eq_emod_of_nonneg _ (Int.le_of_lt hm)]
  exact ⟨Int.emod_nonneg _ (Int.ne_of_gt hm), Int.emod_lt_of_pos _ hm⟩

noncomputable def d__law_cell_at : FDef := ⟨2, 2,
  (.cons (.iff (.cmp .lt (.loc 1) (.bi .len (.cons (.loc 0) .nil)))
    (.cons (.ret (.sub (.loc 0) (.loc 1)))
    .nil)
    .nil)
  (.cons (.ret (.int 0))
  .nil))⟩
noncomputable def d__law_mixed : FDef := ⟨2, 3,
  (.cons (.asg 2 (.bin .mod (.bin .mul (.bin .add (.bin .add (.loc 0) (.bin .mul (.int 7919) (.loc 1))) (.int 11)) (.int 48271)) (.int 2147483647)))
  (.cons (.ret (.bin .mod (.bin .add (.bin .mul (.loc 2) (.loc 2)) (.bin .mul (.int 40692) (.loc 2))) (.int 2147483399)))
  .nil))⟩

section
variable {p : Prog} {n : Nat} {h : AHeap}
theorem run_cell_at (hp : Prog.has p "_law_cell_at" d__law_cell_at) {xs : List Int} (hl : xs.length ≤ 63) (k : Nat) : semF p (n + 1) "_law_cell_at" [.scr xs, .int k] h = .ok (.int (cellAt xs k)) h := by
  obtain ⟨F, hF, e⟩ := run_at (n := n) (h := h) hp (as := [.scr xs, .int k]) rfl
  rw [e]
  have hs : xs.length ≤ sizeLim := Nat.le_trans hl (by decide)
  simp only [d__law_cell_at, ss_cons, ss_nil, s_iff, s_ret, x_cmp, x_loc, x_bi, xs_cons, xs_nil, x_sub, x_int, List.map_cons, List.map_nil, List.cons_append, List.nil_append, loc0, locS, okO_some, bok, sok, len_scr hs, c_lt, boolO_some, cond_if]
  by_cases hk : k < xs.length
  · rw [if_pos (by omega), sub_scr hs (by omega) (d := cellAt xs k) (by simp [cellAt, hk]), sok, turn_ret, turn_ret, retR_ret]
  · rw [if_neg (by omega), turn_next, turn_ret, retR_ret, cellAt, List.getD_eq_getElem?_getD, List.getElem?_eq_none (by omega)]
    rfl

theorem run_mixed (hp : Prog.has p "_law_mixed" d__law_mixed) (c k : Int) : semF p (n + 1) "_law_mixed" [.int c, .int k] h = .ok (.int (mixed c k)) h := by
  obtain ⟨F, hF, e⟩ := run_at (n := n) (h := h) hp (as := [.int c, .int k]) rfl
  rw [e]
  have hb := fmod_bound ((c + 7919 * k + 11) * 48271) (m := 2147483647) (by decide)
  have hm : ((c + 7919 * k + 11) * 48271).fmod 2147483647 = mixF c k := rfl
  rw [hm] at hb
  simp only [d__law_mixed, ss_cons, ss_nil, s_asg, s_ret, x_bin, x_loc, x_int, List.map_cons, List.map_nil, List.cons_append, List.nil_append, List.replicate, List.set, loc0, locS, okO_some, bok, sok, b_add, b_mulL (x := 7919) (by decide), b_mulR (y := 48271) (by decide), b_mod (y := 2147483647) (by decide), turn_next, hm]
  rw [b_mulL (by omega), bok, b_mulL (by decide), bok, b_add, bok, b_mod (by decide), sok, turn_ret, retR_ret]
  rfl
end
end Mine

namespace Mine
namespace Cu

section Assoc
variable {α β : Type} [DecidableEq α] [BEq α] [LawfulBEq α]
noncomputable def put (t : List (α × β)) (a : α) (b : β) : List (α × β) :=
  if t.any (fun p => p.1 == a) then t.map (fun p => if p.1 == a then (p.1, b) else p) else t ++ [(a, b)]

theorem lookup_none {t : List (α × β)} {a : α} : t.lookup a = none ↔ a ∉ t.map (·.1) := by
  induction t with
  | nil => simp
  | cons p t ih =>
    obtain ⟨k, v⟩ := p
    simp only [List.lookup_cons, List.map_cons, List.mem_cons, not_or]
    by_cases e : a = k
    · simp [e]
    · simp only [beq_eq_false_iff_ne.mpr e, ih, e, not_false_eq_true, true_and]
theorem lookup_mem {t : List (α × β)} {a : α} {b : β} (h : t.lookup a = some b) : (a, b) ∈ t := by
  induction t with
  | nil => simp at h
  | cons p t ih =>
    obtain ⟨k, v⟩ := p
    simp only [List.lookup_cons] at h
    by_cases e : a = k
    · simp only [e, BEq.rfl, Option.some.injEq] at h; simp [e, h]
    · simp only [beq_eq_false_iff_ne.mpr e] at h; exact List.mem_cons_of_mem _ (ih h)
theorem lookup_of_mem {t : List (α × β)} (nd : (t.map (·.1)).Nodup) {a : α} {b : β} (h : (a, b) ∈ t) : t.lookup a = some b := by
  induction t with
  | nil => simp at h
  | cons p t ih =>
    obtain ⟨k, v⟩ := p
    simp only [List.map_cons, List.nodup_cons] at nd
    simp only [List.lookup_cons]
    rcases List.mem_cons.mp h with e | e
    · injection e with e1 e2; subst e1; subst e2; simp
    · have : a ≠ k := by rintro rfl; exact nd.1 (List.mem_map.mpr ⟨_, e, rfl⟩)
      simp only [beq_eq_false_iff_ne.mpr this]; exact ih nd.2 e

theorem any_iff {t : List (α × β)} {a : α} : t.any (fun p => p.1 == a) = true ↔ a ∈ t.map (·.1) := by
  simp only [List.any_eq_true, beq_iff_eq, List.mem_map]
theorem put_keys {t : List (α × β)} {a : α} {b : β} : (put t a b).map (·.1) = if a ∈ t.map (·.1) then t.map (·.1) else t.map (·.1) ++ [a] := by
  unfold put
  by_cases h : a ∈ t.map (·.1)
  · rw [if_pos (any_iff.mpr h), if_pos h, List.map_map]
    apply List.map_congr_left
    intro p _
    simp only [Function.comp]; split <;> rfl
  · rw [if_neg (fun q => h (any_iff.mp q)), if_neg h]; simp
theorem put_nodup {t : List (α × β)} (nd : (t.map (·.1)).Nodup) {a : α} {b : β} : ((put t a b).map (·.1)).Nodup := by
  rw [put_keys]
  split
  · exact nd
  · rename_i h
    rw [List.nodup_append]
    refine ⟨nd, by simp, ?_⟩
    intro x hx y hy e
    simp at hy; subst hy; subst e; exact h hx
theorem put_length {t : List (α × β)} {a : α} {b : β} : (put t a b).length = if a ∈ t.map (·.1) then t.length else t.length + 1 := by
  have := congrArg List.length (put_keys (t := t) (a := a) (b := b))
  rw [List.length_map] at this
  rw [this]; split <;> simp
theorem put_lookup {t : List (α × β)} {a x : α} {b : β} : (put t a b).lookup x = if x = a then some b else t.lookup x := by
  unfold put
  split
  · rename_i h
    induction t with
    | nil => simp at h
    | cons p t ih =>
      obtain ⟨k, v⟩ := p
      by_cases e : k = a
      · subst e
        by_cases ex : x = k
        · subst ex; simp
        · simp only [List.map_cons, BEq.rfl, if_true, List.lookup_cons, beq_eq_false_iff_ne.mpr ex, if_neg ex]
          clear ih h
          induction t with
          | nil => rfl
          | cons q t ih =>
            obtain ⟨k2, v2⟩ := q
            by_cases e2 : k2 = k
            · subst e2; simp only [List.map_cons, BEq.rfl, if_true, List.lookup_cons, beq_eq_false_iff_ne.mpr ex]; exact ih
            · simp only [List.map_cons, beq_eq_false_iff_ne.mpr e2, List.lookup_cons]
              show (match x == k2 with | true => some v2 | false => _) = (match x == k2 with | true => some v2 | false => _)
              cases x == k2
              · exact ih
              · rfl
      · have h' : t.any (fun p => p.1 == a) = true := by simpa [e] using h
        simp only [List.map_cons, beq_eq_false_iff_ne.mpr e, List.lookup_cons, Bool.false_eq_true, if_false]
        by_cases ex : x = k
        · subst ex; simp [e]
        · simp only [beq_eq_false_iff_ne.mpr ex]; exact ih h'
  · rename_i h
    rw [any_iff] at h
    rw [← lookup_none] at h
    rw [List.lookup_append]
    by_cases e : x = a
    · subst e; simp [h]
    · simp [e, List.lookup_cons, beq_eq_false_iff_ne.mpr e]
end Assoc

theorem card_le {α : Type} [DecidableEq α] {l l' : List α} (nd : l.Nodup) (s : ∀ x ∈ l, x ∈ l') : l.length ≤ l'.length := by
  induction l generalizing l' with
  | nil => simp
  | cons a l ih =>
    rw [List.nodup_cons] at nd
    have ha := s a (by simp)
    have := ih (l' := l'.erase a) nd.2 (fun x hx => (List.mem_erase_of_ne (by rintro rfl; exact nd.1 hx)).mpr (s x (by simp [hx])))
    rw [List.length_erase_of_mem ha] at this
    have : 0 < l'.length := List.length_pos_of_mem ha
    simp; omega

abbrev Seat := Int × Int

section
variable {β : Type} {hm : β → Int → Seat}
structure Way (hm : β → Int → Seat) (t : List (Seat × β)) (s0 : Seat) (w : List Seat) : Prop where
  head : w[0]? = some s0
  nd : w.Nodup
  step : ∀ (i : Nat) s s', w[i]? = some s → w[i + 1]? = some s' → ∃ n, t.lookup s = some n ∧ s' = hm n (1 - s.1)

theorem Way.one (t : List (Seat × β)) (s0 : Seat) : Way hm t s0 [s0] := ⟨rfl, by simp, by intro i s s' _ h; simp at h⟩
theorem Way.pos {t : List (Seat × β)} {s0 : Seat} {w : List Seat} (W : Way hm t s0 w) : 0 < w.length := by
  have := W.head
  rcases w with _ | _ <;> simp at this ⊢
theorem Way.snoc {t : List (Seat × β)} {s0 : Seat} {w : List Seat} (W : Way hm t s0 w) {s : Seat} {n : β} (hl : w[w.length - 1]? = some s) (hn : t.lookup s = some n) (hx : hm n (1 - s.1) ∉ w) :
    Way hm t s0 (w ++ [hm n (1 - s.1)]) := by
  have hp := W.pos
  refine ⟨?_, ?_, ?_⟩
  · rw [List.getElem?_append_left hp]; exact W.head
  · rw [List.nodup_append]
    refine ⟨W.nd, by simp, ?_⟩
    intro x hx' y hy e
    simp at hy; subst hy; subst e; exact hx hx'
  · intro i a b ha hb
    by_cases h : i + 1 < w.length
    · rw [List.getElem?_append_left h] at hb
      rw [List.getElem?_append_left (by omega)] at ha
      exact W.step i a b ha hb
    · have hi : i + 1 = w.length := by
        have := (List.getElem?_eq_some_iff.mp hb).1
        simp at this; omega
      rw [List.getElem?_append_left (by omega)] at ha
      have : i = w.length - 1 := by omega
      subst this
      rw [hl] at ha; injection ha with ha; subst ha
      rw [List.getElem?_append_right (by omega)] at hb
      have e : w.length - 1 + 1 - w.length = 0 := by omega
      rw [e] at hb; simp at hb
      exact ⟨n, hn, hb.symm⟩
/-- a way is no longer than the table and one -/
theorem Way.short {t : List (Seat × β)} {s0 : Seat} {w : List Seat} (W : Way hm t s0 w) : w.length ≤ t.length + 1 := by
  have h : (w.take (w.length - 1)).length ≤ (t.map (·.1)).length := by
    apply card_le (W.nd.sublist (List.take_sublist _ _))
    intro x hx
    obtain ⟨i, hi, e⟩ := List.getElem_of_mem hx
    rw [List.length_take] at hi
    have h1 : w[i]? = some x := by rw [← e, List.getElem_take]; exact List.getElem?_eq_getElem _
    obtain ⟨n, hn, _⟩ := W.step i x _ h1 (List.getElem?_eq_getElem (by omega))
    exact List.mem_map.mpr ⟨_, lookup_mem hn, rfl⟩
  rw [List.length_take, List.length_map] at h
  omega


theorem Way.last {t : List (Seat × β)} {s0 : Seat} {w : List Seat} (W : Way hm t s0 w) : ∃ s, w[w.length - 1]? = some s := ⟨_, List.getElem?_eq_getElem (by have := W.pos; omega)⟩
/-- on from the last one, as long as a new one comes -/
noncomputable def wayGo (hm : β → Int → Seat) (t : List (Seat × β)) : Nat → List Seat → List Seat
  | 0, w => w
  | f + 1, w => match w[w.length - 1]? with
    | none => w
    | some s => match t.lookup s with
      | none => w
      | some n => if hm n (1 - s.1) ∈ w then w else wayGo hm t f (w ++ [hm n (1 - s.1)])
noncomputable def wayOf (hm : β → Int → Seat) (t : List (Seat × β)) (s : Seat) : List Seat := wayGo hm t (t.length + 1) [s]
theorem go_free {t : List (Seat × β)} {f : Nat} {w : List Seat} {s : Seat} (hs : w[w.length - 1]? = some s) (hn : t.lookup s = none) : wayGo hm t (f + 1) w = w := by
  unfold wayGo; rw [hs]; dsimp only; rw [hn]
theorem go_shut {t : List (Seat × β)} {f : Nat} {w : List Seat} {s : Seat} {n : β} (hs : w[w.length - 1]? = some s) (hn : t.lookup s = some n) (hi : hm n (1 - s.1) ∈ w) : wayGo hm t (f + 1) w = w := by
  unfold wayGo; rw [hs]; dsimp only; rw [hn]; exact if_pos hi
theorem go_on {t : List (Seat × β)} {f : Nat} {w : List Seat} {s : Seat} {n : β} (hs : w[w.length - 1]? = some s) (hn : t.lookup s = some n) (hi : hm n (1 - s.1) ∉ w) : wayGo hm t (f + 1) w = wayGo hm t f (w ++ [hm n (1 - s.1)]) := by
  rw [wayGo, hs]; dsimp only; rw [hn]; exact if_neg hi
theorem Way.go {t : List (Seat × β)} {s0 : Seat} : ∀ {f : Nat} {w : List Seat}, Way hm t s0 w → Way hm t s0 (wayGo hm t f w)
  | 0, _, W => W
  | f + 1, w, W => by
    obtain ⟨s, hs⟩ := W.last
    cases hn : t.lookup s with
    | none => rw [go_free hs hn]; exact W
    | some n =>
      by_cases hi : hm n (1 - s.1) ∈ w
      · rw [go_shut hs hn hi]; exact W
      · rw [go_on hs hn hi]; exact (W.snoc hs hn hi).go
theorem wayOf_way (t : List (Seat × β)) (s : Seat) : Way hm t s (wayOf hm t s) := (Way.one t s).go
end
end Cu
end Mine

namespace Mine
open PySem Cu

section
variable {h : AHeap} {l : Locs} {c : Ctx}
theorem tup2 {α : Type} {x y : AV} {a b : α} : (if ([x, y] : List AV).length ≤ sizeLim then a else b) = a := if_pos (by show 2 ≤ sizeLim; decide)
theorem tup3 {α : Type} {x y z : AV} {a b : α} : (if ([x, y, z] : List AV).length ≤ sizeLim then a else b) = a := if_pos (by show 3 ≤ sizeLim; decide)
theorem cmpAnd_t {k : Res AV} : cmpAnd (some true) h k = k := rfl
theorem cmpAnd_f {k : Res AV} : cmpAnd (some false) h k = .ok (.bool false) h := rfl
theorem len_str {x : List Nat} (hl : x.length ≤ sizeLim) : biAV .len [.str x] h = .ok (.int x.length) h := if_pos hl
theorem idx_str {x : List Nat} {k : Nat} {d : Nat} (hl : x.length ≤ sizeLim) (hd : x[k]? = some d) : subAV (.str x) (.int k) h = .ok (.str [d]) h :=
  subI_at (x := x.map fun c => .str [c]) (by rw [List.length_map]; exact hl) (by rw [idx_nat (by omega), List.getElem?_map, Int.toNat_natCast, hd]; rfl)
theorem b_adds {x y : List Nat} (hl : x.length + y.length ≤ sizeLim) : binAV .add (.str x) (.str y) h = .ok (.str (x ++ y)) h := if_pos hl
theorem c_notin1 {c : Nat} {y : List Nat} : cmpAV h .notin (.str [c]) (.str y) = some (!decide (c ∈ y)) := rfl
theorem bmOk_index {x : List Nat} : bmOk .index (.str x) h = true := rfl
theorem index_ok {x : List Nat} {c i : Nat} (hi : x.findIdx? (· == c) = some i) : bmAV .index (.str x) [.str [c]] h = .ok (.int i) h := by
  show okO ((x.findIdx? (· == c)).map _) h = _
  rw [hi]; rfl
theorem next_str {x : List Nat} {k : Nat} (hx : ∀ c ∈ x, c < 128) : nextAt (.str x) k h = some (x.map fun c => AV.str [c])[k]? :=
  next_of (if_pos (List.all_eq_true.mpr fun c hc => decide_eq_true (hx c hc)))
theorem str_item {t : List Nat} {k : Nat} {v : AV} (hv : (t.map fun c => AV.str [c])[k]? = some v) : ∃ hk : k < t.length, v = .str [t[k]] := by
  rw [List.getElem?_map] at hv
  obtain ⟨x, hx, rfl⟩ := Option.map_eq_some_iff.mp hv
  obtain ⟨hk, rfl⟩ := List.getElem?_eq_some_iff.mp hx
  exact ⟨hk, rfl⟩
end

noncomputable def signs : List Nat := [97, 98, 99, 100, 101, 102, 103, 104, 105, 106, 107, 108, 109, 110, 111, 112, 113, 114, 115, 116, 117, 118, 119, 120, 121, 122, 48, 49, 50, 51, 52, 53, 54, 55, 56, 57]
theorem signs_len : signs.length = 36 := rfl
theorem signs_fit : signs.length ≤ sizeLim := by rw [signs_len]; unfold sizeLim; omega
theorem signs_small : ∀ c ∈ signs, c < 128 := by decide
noncomputable def posOf (c : Nat) : Nat := (signs.findIdx? (· == c)).getD 0
theorem posOf_at {c : Nat} (hc : c ∈ signs) : signs.findIdx? (· == c) = some (posOf c) := by
  unfold posOf
  cases hq : signs.findIdx? (· == c) with
  | some i => rfl
  | none => exact absurd ((List.findIdx?_eq_none_iff.mp hq) c hc) (by rw [beq_self_eq_true]; exact Bool.noConfusion)

abbrev Nm := List Nat
structure Good (t : Nm) : Prop where
  pos : 1 ≤ t.length
  len : t.length ≤ 12
  all : ∀ x ∈ t, x ∈ signs
theorem Good.fit {t : Nm} (G : Good t) : t.length ≤ sizeLim := by have := G.len; unfold sizeLim; omega
theorem Good.small {t : Nm} (G : Good t) : ∀ c ∈ t, c < 128 := fun c hc => signs_small c (G.all c hc)

noncomputable def homeStep (times count : Int) (acc : Int) (c : Nat) : Int := (acc * times + posOf c + 1).fmod count
noncomputable def homeOf (t : List Nat) (times count : Int) : Int := t.foldl (homeStep times count) 0
theorem home_take {t : List Nat} {times count : Int} {k : Nat} (hk : k < t.length) : homeOf (t.take (k + 1)) times count = homeStep times count (homeOf (t.take k) times count) t[k] := by
  unfold homeOf
  rw [List.take_add_one, List.getElem?_eq_getElem hk, Option.toList_some, List.foldl_append, List.foldl_cons, List.foldl_nil]
theorem home_in {t : List Nat} {times count : Int} (hc : 0 < count) (hl : 1 ≤ t.length) : 0 ≤ homeOf t times count ∧ homeOf t times count < count := by
  have : homeOf (t.take (t.length - 1 + 1)) times count = _ := home_take (by omega)
  rw [show t.length - 1 + 1 = t.length by omega, List.take_length] at this
  rw [this]
  exact fmod_bound _ hc

/-! the compiled text -/
noncomputable def b_is_name_1 : Ss :=
  (.cons (.iff (.cmp .notin (.loc 1) (.str signs))
    (.cons (.ret (.bool false))
    .nil)
    .nil)
  .nil)
noncomputable def d_is_name : FDef := ⟨1, 2,
  (.cons (.iff (.or (.not (.isi (.loc 0) .str)) (.not (.cmp2 .le .le (.int 1) (.bi .len (.cons (.loc 0) .nil)) (.int 12))))
    (.cons (.ret (.bool false))
    .nil)
    .nil)
  (.cons (.forr 1 (.loc 0) b_is_name_1)
  (.cons (.ret (.bool true))
  .nil)))⟩
noncomputable def b_home_1 : Ss :=
  (.cons (.asg 3 (.bin .mod (.bin .add (.bin .add (.bin .mul (.loc 3) (.loc 1)) (.bm .index (.str signs) (.cons (.loc 4) .nil))) (.int 1)) (.loc 2)))
  .nil)
noncomputable def d_home : FDef := ⟨3, 5,
  (.cons (.asg 3 (.int 0))
  (.cons (.forr 4 (.loc 0) b_home_1)
  (.cons (.ret (.loc 3))
  .nil)))⟩
noncomputable def d_is_whole : FDef := ⟨3, 3,
  (.cons (.ret (.and (.isi (.loc 0) .int) (.and (.not (.isi (.loc 0) .bool)) (.cmp2 .le .le (.loc 1) (.loc 0) (.loc 2)))))
  .nil)⟩
noncomputable def d_need_name : FDef := ⟨1, 1,
  (.cons (.iff (.not (.call "is_name" (.cons (.loc 0) .nil)))
    (.cons .raise
    .nil)
    .nil)
  .nil)⟩
noncomputable def d_need_value : FDef := ⟨1, 1,
  (.cons (.iff (.not (.call "is_whole" (.cons (.loc 0) (.cons (.neg (.int 1000000000)) (.cons (.int 1000000000) .nil)))))
    (.cons .raise
    .nil)
    .nil)
  .nil)⟩
noncomputable def d__law_room : FDef := ⟨3, 3,
  (.cons (.iff (.cmp .gt (.bi .len (.cons (.loc 0) .nil)) (.int 63))
    (.cons (.ret (.loc 2))
    .nil)
    .nil)
  (.cons (.ret (.loc 1))
  .nil))⟩
noncomputable def b__law_home_1 : Ss :=
  (.cons (.asg 4 (.bin .mod (.bin .add (.bin .add (.bin .mul (.loc 4) (.loc 1)) (.bm .index (.loc 3) (.cons (.loc 5) .nil))) (.int 1)) (.loc 2)))
  .nil)
noncomputable def d__law_home : FDef := ⟨3, 6,
  (.cons (.asg 3 (.str signs))
  (.cons (.asg 4 (.int 0))
  (.cons (.forr 5 (.loc 0) b__law_home_1)
  (.cons (.ret (.loc 4))
  .nil))))⟩

section
variable {p : Prog} {n : Nat} {h : AHeap}

theorem run_is_name (hp : Prog.has p "is_name" d_is_name) {t : Nm} (G : Good t) : semF p (n + 1) "is_name" [.str t] h = .ok (.bool true) h := by
  obtain ⟨F, hF, e⟩ := run_at (n := n) (h := h) hp (as := [.str t]) rfl
  have hty : isTy h (.str t) .str = some true := rfl
  have h1 := G.pos
  have h2 := G.len
  obtain ⟨l', h', e2, rfl, _⟩ := forLoop_all (i := 1) (src := .str t) (items := t.map fun c => AV.str [c]) (body := fun l h => execSs ⟨semF p n, F⟩ b_is_name_1 l h)
    (fun k l h' => h' = h ∧ ∃ v, l = [some (.str t), v]) (fun k l h' _ => next_str G.small) (fun k v l h' hv ⟨eh, v', el⟩ => by
      subst eh; subst el
      obtain ⟨hk, rfl⟩ := str_item hv
      refine ⟨_, _, ?_, rfl, some (.str [t[k]]), rfl⟩
      simp only [b_is_name_1, ss_cons, ss_nil, s_expr, s_ret, s_asg, s_set, s_iff, s_whil, s_for, s_seta, x_none, x_bool, x_int, x_str, x_loc, x_bin, x_neg, x_not, x_and, x_or, x_cmp, x_cmp2, x_isn, x_call, x_bi, x_isi, x_new, x_im, x_bm, x_attr, x_slice, x_sub, x_tup, x_list, x_dict0, x_range, xs_nil, xs_cons, List.map_cons, List.map_nil, List.cons_append, List.nil_append, List.replicate, List.set, loc0, locS, okO_some, bok, sok, turn_next, turn_ret, boolO_some, heapO_some, notAV_bool, negAV_int, retR_ret, retR_next, cond_t, cond_f, condV_t, condV_f, cmpAnd_t, cmpAnd_f, b_add, b_sub, Bool.not_true, Bool.not_false, if_true, tup2, tup3, c_notin1, decide_eq_true (G.all _ (List.getElem_mem hk))]) (f := F) (l := [some (.str t), none]) (h := h) (by rw [List.length_map]; omega) ⟨rfl, none, rfl⟩
  rw [e]
  simp only [d_is_name, ss_cons, ss_nil, s_expr, s_ret, s_asg, s_set, s_iff, s_whil, s_for, s_seta, x_none, x_bool, x_int, x_str, x_loc, x_bin, x_neg, x_not, x_and, x_or, x_cmp, x_cmp2, x_isn, x_call, x_bi, x_isi, x_new, x_im, x_bm, x_attr, x_slice, x_sub, x_tup, x_list, x_dict0, x_range, xs_nil, xs_cons, List.map_cons, List.map_nil, List.cons_append, List.nil_append, List.replicate, List.set, loc0, locS, okO_some, bok, sok, turn_next, turn_ret, boolO_some, heapO_some, notAV_bool, negAV_int, retR_ret, retR_next, cond_t, cond_f, condV_t, condV_f, cmpAnd_t, cmpAnd_f, b_add, b_sub, Bool.not_true, Bool.not_false, if_true, tup2, tup3, hty, len_str G.fit, c_le, decide_eq_true (show (1 : Int) ≤ t.length by omega), decide_eq_true (show (t.length : Int) ≤ 12 by omega), e2]

theorem run_home (hp : Prog.has p "home" d_home) {t : Nm} (G : Good t) {times count : Int} (ht : times.natAbs < 2 ^ 64) (hc : 0 < count) :
    semF p (n + 1) "home" [.str t, .int times, .int count] h = .ok (.int (homeOf t times count)) h := by
  obtain ⟨F, hF, e⟩ := run_at (n := n) (h := h) hp (as := [.str t, .int times, .int count]) rfl
  have h2 := G.len
  obtain ⟨l', h', e2, rfl, v4, rfl⟩ := forLoop_all (i := 4) (src := .str t) (items := t.map fun c => AV.str [c]) (body := fun l h => execSs ⟨semF p n, F⟩ b_home_1 l h)
    (fun k l h' => h' = h ∧ ∃ v4, l = [some (.str t), some (.int times), some (.int count), some (.int (homeOf (t.take k) times count)), v4]) (fun k l h' _ => next_str G.small) (fun k v l h' hv ⟨eh, v4, el⟩ => by
      subst eh; subst el
      obtain ⟨hk, rfl⟩ := str_item hv
      refine ⟨_, _, ?_, rfl, some (.str [t[k]]), rfl⟩
      simp only [b_home_1, ss_cons, ss_nil, s_expr, s_ret, s_asg, s_set, s_iff, s_whil, s_for, s_seta, x_none, x_bool, x_int, x_str, x_loc, x_bin, x_neg, x_not, x_and, x_or, x_cmp, x_cmp2, x_isn, x_call, x_bi, x_isi, x_new, x_im, x_bm, x_attr, x_slice, x_sub, x_tup, x_list, x_dict0, x_range, xs_nil, xs_cons, List.map_cons, List.map_nil, List.cons_append, List.nil_append, List.replicate, List.set, loc0, locS, okO_some, bok, sok, turn_next, turn_ret, boolO_some, heapO_some, notAV_bool, negAV_int, retR_ret, retR_next, cond_t, cond_f, condV_t, condV_f, cmpAnd_t, cmpAnd_f, b_add, b_sub, Bool.not_true, Bool.not_false, if_true, tup2, tup3, b_mulR ht, bmOk_index, index_ok (posOf_at (G.all _ (List.getElem_mem hk))), b_mod (show count ≠ 0 by omega), home_take hk]
      rfl) (f := F) (l := [some (.str t), some (.int times), some (.int count), some (.int 0), none]) (h := h) (by rw [List.length_map]; omega) ⟨rfl, none, rfl⟩
  rw [List.length_map, List.take_length] at e2
  rw [e]
  simp only [d_home, ss_cons, ss_nil, s_expr, s_ret, s_asg, s_set, s_iff, s_whil, s_for, s_seta, x_none, x_bool, x_int, x_str, x_loc, x_bin, x_neg, x_not, x_and, x_or, x_cmp, x_cmp2, x_isn, x_call, x_bi, x_isi, x_new, x_im, x_bm, x_attr, x_slice, x_sub, x_tup, x_list, x_dict0, x_range, xs_nil, xs_cons, List.map_cons, List.map_nil, List.cons_append, List.nil_append, List.replicate, List.set, loc0, locS, okO_some, bok, sok, turn_next, turn_ret, boolO_some, heapO_some, notAV_bool, negAV_int, retR_ret, retR_next, cond_t, cond_f, condV_t, condV_f, cmpAnd_t, cmpAnd_f, b_add, b_sub, Bool.not_true, Bool.not_false, if_true, tup2, tup3, e2]
theorem run_law_home (hp : Prog.has p "_law_home" d__law_home) {t : Nm} (G : Good t) {times count : Int} (ht : times.natAbs < 2 ^ 64) (hc : 0 < count) :
    semF p (n + 1) "_law_home" [.str t, .int times, .int count] h = .ok (.int (homeOf t times count)) h := by
  obtain ⟨F, hF, e⟩ := run_at (n := n) (h := h) hp (as := [.str t, .int times, .int count]) rfl
  have h2 := G.len
  obtain ⟨l', h', e2, rfl, v4, rfl⟩ := forLoop_all (i := 5) (src := .str t) (items := t.map fun c => AV.str [c]) (body := fun l h => execSs ⟨semF p n, F⟩ b__law_home_1 l h)
    (fun k l h' => h' = h ∧ ∃ v4, l = [some (.str t), some (.int times), some (.int count), some (.str signs), some (.int (homeOf (t.take k) times count)), v4]) (fun k l h' _ => next_str G.small) (fun k v l h' hv ⟨eh, v4, el⟩ => by
      subst eh; subst el
      obtain ⟨hk, rfl⟩ := str_item hv
      refine ⟨_, _, ?_, rfl, some (.str [t[k]]), rfl⟩
      simp only [b__law_home_1, ss_cons, ss_nil, s_expr, s_ret, s_asg, s_set, s_iff, s_whil, s_for, s_seta, x_none, x_bool, x_int, x_str, x_loc, x_bin, x_neg, x_not, x_and, x_or, x_cmp, x_cmp2, x_isn, x_call, x_bi, x_isi, x_new, x_im, x_bm, x_attr, x_slice, x_sub, x_tup, x_list, x_dict0, x_range, xs_nil, xs_cons, List.map_cons, List.map_nil, List.cons_append, List.nil_append, List.replicate, List.set, loc0, locS, okO_some, bok, sok, turn_next, turn_ret, boolO_some, heapO_some, notAV_bool, negAV_int, retR_ret, retR_next, cond_t, cond_f, condV_t, condV_f, cmpAnd_t, cmpAnd_f, b_add, b_sub, Bool.not_true, Bool.not_false, if_true, tup2, tup3, b_mulR ht, bmOk_index, index_ok (posOf_at (G.all _ (List.getElem_mem hk))), b_mod (show count ≠ 0 by omega), home_take hk]
      rfl) (f := F) (l := [some (.str t), some (.int times), some (.int count), some (.str signs), some (.int 0), none]) (h := h) (by rw [List.length_map]; omega) ⟨rfl, none, rfl⟩
  rw [List.length_map, List.take_length] at e2
  rw [e]
  simp only [d__law_home, ss_cons, ss_nil, s_expr, s_ret, s_asg, s_set, s_iff, s_whil, s_for, s_seta, x_none, x_bool, x_int, x_str, x_loc, x_bin, x_neg, x_not, x_and, x_or, x_cmp, x_cmp2, x_isn, x_call, x_bi, x_isi, x_new, x_im, x_bm, x_attr, x_slice, x_sub, x_tup, x_list, x_dict0, x_range, xs_nil, xs_cons, List.map_cons, List.map_nil, List.cons_append, List.nil_append, List.replicate, List.set, loc0, locS, okO_some, bok, sok, turn_next, turn_ret, boolO_some, heapO_some, notAV_bool, negAV_int, retR_ret, retR_next, cond_t, cond_f, condV_t, condV_f, cmpAnd_t, cmpAnd_f, b_add, b_sub, Bool.not_true, Bool.not_false, if_true, tup2, tup3, e2]
theorem run_is_whole (hp : Prog.has p "is_whole" d_is_whole) {x a b : Int} (ha : a ≤ x) (hb : x ≤ b) : semF p (n + 1) "is_whole" [.int x, .int a, .int b] h = .ok (.bool true) h := by
  obtain ⟨F, hF, e⟩ := run_at (n := n) (h := h) hp (as := [.int x, .int a, .int b]) rfl
  have t1 : isTy h (.int x) .int = some true := rfl
  have t2 : isTy h (.int x) .bool = some false := rfl
  rw [e]
  simp only [d_is_whole, ss_cons, ss_nil, s_expr, s_ret, s_asg, s_set, s_iff, s_whil, s_for, s_seta, x_none, x_bool, x_int, x_str, x_loc, x_bin, x_neg, x_not, x_and, x_or, x_cmp, x_cmp2, x_isn, x_call, x_bi, x_isi, x_new, x_im, x_bm, x_attr, x_slice, x_sub, x_tup, x_list, x_dict0, x_range, xs_nil, xs_cons, List.map_cons, List.map_nil, List.cons_append, List.nil_append, List.replicate, List.set, loc0, locS, okO_some, bok, sok, turn_next, turn_ret, boolO_some, heapO_some, notAV_bool, negAV_int, retR_ret, retR_next, cond_t, cond_f, condV_t, condV_f, cmpAnd_t, cmpAnd_f, b_add, b_sub, Bool.not_true, Bool.not_false, if_true, tup2, tup3, t1, t2, c_le, decide_eq_true ha, decide_eq_true hb]
theorem run_need_name (hp : Prog.has p "is_name" d_is_name) (hp2 : Prog.has p "need_name" d_need_name) {t : Nm} (G : Good t) : semF p (n + 2) "need_name" [.str t] h = .ok .none h := by
  obtain ⟨F, hF, e⟩ := run_at (n := n + 1) (h := h) hp2 (as := [.str t]) rfl
  rw [e]
  simp only [d_need_name, ss_cons, ss_nil, s_expr, s_ret, s_asg, s_set, s_iff, s_whil, s_for, s_seta, x_none, x_bool, x_int, x_str, x_loc, x_bin, x_neg, x_not, x_and, x_or, x_cmp, x_cmp2, x_isn, x_call, x_bi, x_isi, x_new, x_im, x_bm, x_attr, x_slice, x_sub, x_tup, x_list, x_dict0, x_range, xs_nil, xs_cons, List.map_cons, List.map_nil, List.cons_append, List.nil_append, List.replicate, List.set, loc0, locS, okO_some, bok, sok, turn_next, turn_ret, boolO_some, heapO_some, notAV_bool, negAV_int, retR_ret, retR_next, cond_t, cond_f, condV_t, condV_f, cmpAnd_t, cmpAnd_f, b_add, b_sub, Bool.not_true, Bool.not_false, if_true, tup2, tup3, run_is_name (n := n) hp G]
theorem run_need_value (hp : Prog.has p "is_whole" d_is_whole) (hp2 : Prog.has p "need_value" d_need_value) {v : Int} (h1 : -1000000000 ≤ v) (h2 : v ≤ 1000000000) : semF p (n + 2) "need_value" [.int v] h = .ok .none h := by
  obtain ⟨F, hF, e⟩ := run_at (n := n + 1) (h := h) hp2 (as := [.int v]) rfl
  rw [e]
  simp only [d_need_value, ss_cons, ss_nil, s_expr, s_ret, s_asg, s_set, s_iff, s_whil, s_for, s_seta, x_none, x_bool, x_int, x_str, x_loc, x_bin, x_neg, x_not, x_and, x_or, x_cmp, x_cmp2, x_isn, x_call, x_bi, x_isi, x_new, x_im, x_bm, x_attr, x_slice, x_sub, x_tup, x_list, x_dict0, x_range, xs_nil, xs_cons, List.map_cons, List.map_nil, List.cons_append, List.nil_append, List.replicate, List.set, loc0, locS, okO_some, bok, sok, turn_next, turn_ret, boolO_some, heapO_some, notAV_bool, negAV_int, retR_ret, retR_next, cond_t, cond_f, condV_t, condV_f, cmpAnd_t, cmpAnd_f, b_add, b_sub, Bool.not_true, Bool.not_false, if_true, tup2, tup3, run_is_whole (n := n) hp h1 h2]
theorem run_room (hp : Prog.has p "_law_room" d__law_room) {xs : List Int} (hl : xs.length ≤ 63) {a b : Int} : semF p (n + 1) "_law_room" [.scr xs, .int a, .int b] h = .ok (.int a) h := by
  obtain ⟨F, hF, e⟩ := run_at (n := n) (h := h) hp (as := [.scr xs, .int a, .int b]) rfl
  rw [e]
  simp only [d__law_room, ss_cons, ss_nil, s_expr, s_ret, s_asg, s_set, s_iff, s_whil, s_for, s_seta, x_none, x_bool, x_int, x_str, x_loc, x_bin, x_neg, x_not, x_and, x_or, x_cmp, x_cmp2, x_isn, x_call, x_bi, x_isi, x_new, x_im, x_bm, x_attr, x_slice, x_sub, x_tup, x_list, x_dict0, x_range, xs_nil, xs_cons, List.map_cons, List.map_nil, List.cons_append, List.nil_append, List.replicate, List.set, loc0, locS, okO_some, bok, sok, turn_next, turn_ret, boolO_some, heapO_some, notAV_bool, negAV_int, retR_ret, retR_next, cond_t, cond_f, condV_t, condV_f, cmpAnd_t, cmpAnd_f, b_add, b_sub, Bool.not_true, Bool.not_false, if_true, tup2, tup3, len_scr (show xs.length ≤ sizeLim by unfold sizeLim; omega), c_gt, decide_eq_false (show ¬ (63 : Int) < xs.length by omega)]
end
end Mine

namespace Mine
open PySem Cu

/-! dictionaries of the plain law, as the small language holds them -/
noncomputable def mk {α β : Type} (kf : α → Key) (vf : β → AV) (t : List (α × β)) : List (Key × AV) := t.map fun p => (kf p.1, vf p.2)
section
variable {α β : Type} [DecidableEq α] [BEq α] [LawfulBEq α] {kf : α → Key} {vf : β → AV}
theorem mk_length {t : List (α × β)} : (mk kf vf t).length = t.length := by simp [mk]
theorem mk_lookup (inj : ∀ a b, kf a = kf b → a = b) (a : α) : ∀ t : List (α × β), (mk kf vf t).lookup (kf a) = (t.lookup a).map vf
  | [] => rfl
  | (k, v) :: t => by
    have ih := mk_lookup inj a t
    simp only [mk, List.map_cons, List.lookup_cons] at ih ⊢
    by_cases h : a = k
    · subst h; simp
    · rw [beq_eq_false_iff_ne.mpr h, beq_eq_false_iff_ne.mpr fun e => h (inj _ _ e)]; exact ih
theorem mk_put (inj : ∀ a b, kf a = kf b → a = b) {t : List (α × β)} {a : α} {b : β} : dictPut (mk kf vf t) (kf a) (vf b) = mk kf vf (put t a b) := by
  have hb : ∀ x : α, (kf x == kf a) = (x == a) := fun x => by
    by_cases h : x = a
    · subst h; simp
    · rw [beq_eq_false_iff_ne.mpr h, beq_eq_false_iff_ne.mpr fun e => h (inj _ _ e)]
  have hany : (mk kf vf t).any (fun p => p.1 == kf a) = t.any (fun p => p.1 == a) := by
    simp only [mk, List.any_map]; congr 1; funext p; exact hb p.1
  unfold dictPut put
  rw [hany]
  split
  · simp only [mk, List.map_map]
    apply List.map_congr_left
    intro p _
    simp only [Function.comp, hb]
    split <;> rfl
  · simp [mk]
theorem mk_sort (hs : ∀ a b, (kf a).sort = (kf b).sort) {t : List (α × β)} {a : α} : sortOk (mk kf vf t) (kf a) = true := by
  simp only [sortOk, mk, List.all_map, List.all_eq_true, Function.comp, beq_iff_eq]
  exact fun p _ => hs _ _
end
noncomputable def sv (s : Seat) : AV := .tup [.int s.1, .int s.2]
noncomputable def kp (s : Seat) : Key := .pair s.1 s.2
theorem kp_inj (a b : Seat) (h : kp a = kp b) : a = b := by
  cases a; cases b; simp only [kp, Key.pair.injEq] at h; rw [h.1, h.2]
theorem ks_inj (a b : Nm) (h : Key.str a = Key.str b) : a = b := Key.str.inj h
theorem sv_key (s : Seat) : (sv s).key? = some (kp s) := rfl
theorem kp_av (s : Seat) : (kp s).av = sv s := rfl
theorem str_key (t : Nm) : (AV.str t).key? = some (.str t) := rfl
abbrev St' := List (Seat × Nm)
abbrev Th := List (Nm × Int)
noncomputable def stK (t : St') : List (Key × AV) := mk kp .str t
noncomputable def thK (t : Th) : List (Key × AV) := mk .str .int t
theorem stK_sort {t : St'} {s : Seat} : sortOk (stK t) (kp s) = true := mk_sort fun _ _ => rfl
theorem thK_sort {t : Th} {s : Nm} : sortOk (thK t) (.str s) = true := mk_sort fun _ _ => rfl
theorem stK_at {t : St'} {s : Seat} : (stK t).lookup (kp s) = (t.lookup s).map .str := mk_lookup kp_inj s t
theorem thK_at {t : Th} {s : Nm} : (thK t).lookup (.str s) = (t.lookup s).map .int := mk_lookup ks_inj s t
theorem stK_put {t : St'} {s : Seat} {x : Nm} : dictPut (stK t) (kp s) (.str x) = stK (put t s x) := mk_put kp_inj
theorem thK_put {t : Th} {s : Nm} {x : Int} : dictPut (thK t) (.str s) (.int x) = thK (put t s x) := mk_put ks_inj
theorem put_new {α β : Type} [DecidableEq α] [BEq α] [LawfulBEq α] {t : List (α × β)} {a : α} {b : β} (h : t.lookup a = none) : put t a b = t ++ [(a, b)] := if_neg fun q => (lookup_none.mp h) (any_iff.mp q)

theorem eqv_pair' {h : AHeap} {n : Nat} (a b : Seat) : eqv h (n + 2) (sv a) (sv b) = some (decide (a = b)) := by
  rw [sv, sv, eqv_pair]
  cases a; cases b
  simp only [Prod.mk.injEq, Option.some.injEq]
  rw [Bool.decide_and]
theorem find_map {h : AHeap} {κ : Type} [BEq κ] [LawfulBEq κ] [DecidableEq κ] {g : κ → AV} (hf : ∀ a b, eqv h eqFuel (g a) (g b) = some (decide (a = b))) (a : κ) : ∀ w : List κ, findEq h (g a) (w.map g) = some (decide (a ∈ w))
  | [] => rfl
  | b :: w => by
    have e : findEq h (g a) ((b :: w).map g) = match eqv h eqFuel (g b) (g a), findEq h (g a) (w.map g) with | some b, some r => some (b || r) | _, _ => none := rfl
    rw [e, find_map hf a w, hf]
    simp only [Option.some.injEq, List.mem_cons, Bool.decide_or]
    congr 1
    by_cases h : a = b <;> simp [h, eq_comm]
theorem in_seats {h : AHeap} {n : Nat} {a : Seat} {w : List Seat} (hn : h[n]? = some (.list (w.map sv))) : cmpAV h .isin (sv a) (.loc n) = some (decide (a ∈ w)) := by
  have e : cmpAV h .isin (sv a) (.loc n) = isIn h (sv a) (.loc n) := rfl
  rw [e]; simp only [isIn, hn, find_map (fun a b => eqv_pair' (n := 4) a b)]
theorem notin_seats {h : AHeap} {n : Nat} {a : Seat} {w : List Seat} (hn : h[n]? = some (.list (w.map sv))) : cmpAV h .notin (sv a) (.loc n) = some (!decide (a ∈ w)) :=
  congrArg (Option.map not) (in_seats hn)
theorem notin_names {h : AHeap} {n : Nat} {a : Nm} {w : List Nm} (hn : h[n]? = some (.list (w.map .str))) : cmpAV h .notin (.str a) (.loc n) = some (!decide (a ∈ w)) := by
  have e : cmpAV h .notin (.str a) (.loc n) = (isIn h (.str a) (.loc n)).map not := rfl
  rw [e]; simp only [isIn, hn, find_map (g := AV.str) (fun a b => rfl)]; rfl
theorem notin_tup {h : AHeap} {a : Seat} {w : List Seat} : cmpAV h .notin (sv a) (.tup (w.map sv)) = some (!decide (a ∈ w)) :=
  congrArg (Option.map not) (find_map (fun a b => eqv_pair' (n := 4) a b) a w)

/-! the heap -/
section
variable {h g : AHeap} {o o' : AObj}
theorem get_new : (h ++ [o])[h.length]? = some o := List.getElem?_concat_length
theorem get_old {i : Nat} (e : h[i]? = some o) : (h ++ g)[i]? = some o := by
  rw [List.getElem?_append_left (List.getElem?_eq_some_iff.mp e).1]; exact e
theorem set_new : (h ++ [o]).set h.length o' = h ++ [o'] := by
  rw [List.set_append_right _ _ (Nat.le_refl _), Nat.sub_self]; rfl
theorem get_set {i : Nat} (e : h[i]? = some o) : (h.set i o')[i]? = some o' := by
  rw [List.getElem?_set_self (List.getElem?_eq_some_iff.mp e).1]
theorem get_other {i j : Nat} (e : h[i]? = some o) (hne : j ≠ i) : (h.set j o')[i]? = some o := by
  rw [List.getElem?_set_ne hne]; exact e
theorem get_lt {i : Nat} (e : h[i]? = some o) : i < h.length := (List.getElem?_eq_some_iff.mp e).1
end

/-! a table -/
structure Tb where
  c : Int
  f : Int
  s : Int
structure Tb.Ok (T : Tb) : Prop where
  c1 : 1 ≤ T.c
  c2 : T.c ≤ 1000
  f1 : 1 ≤ T.f
  f2 : T.f ≤ 1000000
  s1 : 1 ≤ T.s
  s2 : T.s ≤ 1000000
/-- a home of a name: which row -/
noncomputable def Tb.hm (T : Tb) (t : Nm) (r : Int) : Seat := (r, homeOf t (if r = 0 then T.f else T.s) T.c)
noncomputable def Tb.homes (T : Tb) (t : Nm) : AV := .tup [sv (T.hm t 0), sv (T.hm t 1)]
noncomputable def nsOf (T : Tb) (d e : Nat) : List (Str × AV) := [("things", .loc e), ("standing", .loc d), ("second", .int T.s), ("first", .int T.f), ("count", .int T.c)]
structure TabAt (h : AHeap) (t : Nat) (T : Tb) (d e : Nat) : Prop where
  inst : ∃ k, h[t]? = some (.inst k) ∧ h[k]? = some (.ns (nsOf T d e))
theorem TabAt.more {h g : AHeap} {t d e : Nat} {T : Tb} (x : TabAt h t T d e) : TabAt (h ++ g) t T d e := by
  obtain ⟨k, h1, h2⟩ := x.inst
  exact ⟨k, get_old h1, get_old h2⟩
theorem TabAt.at {h : AHeap} {t d e : Nat} {T : Tb} (x : TabAt h t T d e) : instAt h t = some (nsOf T d e) := by
  obtain ⟨k, h1, h2⟩ := x.inst
  delta instAt; rw [h1]; dsimp only; rw [h2]
theorem TabAt.attr {h : AHeap} {t d e : Nat} {T : Tb} (x : TabAt h t T d e) {a : Str} {v : AV} (hv : (nsOf T d e).lookup a = some v) : attrAV a (.loc t) h = .ok v h := by
  show okO ((instAt h t).bind fun fs => fs.lookup a) h = _
  rw [x.at, Option.bind_some, hv]; rfl
section
variable {h : AHeap} {t d e : Nat} {T : Tb}
theorem TabAt.cnt (x : TabAt h t T d e) : attrAV "count" (.loc t) h = .ok (.int T.c) h := x.attr rfl
theorem TabAt.fst (x : TabAt h t T d e) : attrAV "first" (.loc t) h = .ok (.int T.f) h := x.attr rfl
theorem TabAt.snd (x : TabAt h t T d e) : attrAV "second" (.loc t) h = .ok (.int T.s) h := x.attr rfl
theorem TabAt.std (x : TabAt h t T d e) : attrAV "standing" (.loc t) h = .ok (.loc d) h := x.attr rfl
theorem TabAt.thg (x : TabAt h t T d e) : attrAV "things" (.loc t) h = .ok (.loc e) h := x.attr rfl
theorem TabAt.meth (x : TabAt h t T d e) {m : Str} (hm : ((nsOf T d e).lookup m).isNone = true) : hasMeth m (.loc t) h = true := by
  delta hasMeth; dsimp only; rw [x.at]; exact hm
end
/-- a nest of the table -/
noncomputable def Tb.In (T : Tb) (s : Seat) : Prop := (s.1 = 0 ∨ s.1 = 1) ∧ 0 ≤ s.2 ∧ s.2 < T.c
theorem Tb.hm_in {T : Tb} (ok : T.Ok) {t : Nm} (G : Good t) {r : Int} (hr : r = 0 ∨ r = 1) : T.In (T.hm t r) := ⟨hr, home_in (by have := ok.c1; omega) G.pos⟩

noncomputable def d__init_ : FDef := ⟨4, 4,
  (.cons (.iff (.not (.call "is_whole" (.cons (.loc 1) (.cons (.int 1) (.cons (.int 1000) .nil)))))
    (.cons .raise
    .nil)
    .nil)
  (.cons (.iff (.or (.not (.call "is_whole" (.cons (.loc 2) (.cons (.int 1) (.cons (.int 1000000) .nil))))) (.not (.call "is_whole" (.cons (.loc 3) (.cons (.int 1) (.cons (.int 1000000) .nil))))))
    (.cons .raise
    .nil)
    .nil)
  (.cons (.setattr "count" (.loc 0) (.loc 1))
  (.cons (.setattr "first" (.loc 0) (.loc 2))
  (.cons (.setattr "second" (.loc 0) (.loc 3))
  (.cons (.setattr "standing" (.loc 0) .dict0)
  (.cons (.setattr "things" (.loc 0) .dict0)
  .nil)))))))⟩
noncomputable def d_homes : FDef := ⟨2, 2,
  (.cons (.expr (.call "need_name" (.cons (.loc 1) .nil)))
  (.cons (.ret (.tup (.cons (.tup (.cons (.int 0) (.cons (.call "home" (.cons (.loc 1) (.cons (.attr "first" (.loc 0)) (.cons (.attr "count" (.loc 0)) .nil)))) .nil))) (.cons (.tup (.cons (.int 1) (.cons (.call "home" (.cons (.loc 1) (.cons (.attr "second" (.loc 0)) (.cons (.attr "count" (.loc 0)) .nil)))) .nil))) .nil))))
  .nil))⟩
noncomputable def d_need_nest : FDef := ⟨2, 2,
  (.cons (.iff (.or (.not (.isi (.loc 1) .tuple)) (.cmp .ne (.bi .len (.cons (.loc 1) .nil)) (.int 2)))
    (.cons .raise
    .nil)
    .nil)
  (.cons (.iff (.or (.not (.call "is_whole" (.cons (.sub (.loc 1) (.int 0)) (.cons (.int 0) (.cons (.int 1) .nil))))) (.not (.call "is_whole" (.cons (.sub (.loc 1) (.int 1)) (.cons (.int 0) (.cons (.bin .sub (.attr "count" (.loc 0)) (.int 1)) .nil))))))
    (.cons .raise
    .nil)
    .nil)
  .nil))⟩
noncomputable def d_at : FDef := ⟨2, 2,
  (.cons (.expr (.im "need_nest" (.loc 0) (.cons (.loc 1) .nil)))
  (.cons (.ret (.bm .get (.attr "standing" (.loc 0)) (.cons (.loc 1) .nil)))
  .nil))⟩
noncomputable def d_many : FDef := ⟨1, 1,
  (.cons (.ret (.bi .len (.cons (.attr "things" (.loc 0)) .nil)))
  .nil)⟩

section
variable {p : Prog} {n : Nat} {h : AHeap} {t d e : Nat} {T : Tb}

theorem set_attr {a : Str} {v : AV} {k : Nat} {fs : List (Str × AV)} (h1 : h[t]? = some (.inst k)) (h2 : h[k]? = some (.ns fs)) : setAttrAV a (.loc t) v h = some (h.set k (.ns ((a, v) :: fs))) := by
  show (nsAt h t).map _ = _
  delta nsAt; rw [h1]; dsimp only; rw [h2]; rfl
theorem tail_set {fs fs' : List (Str × AV)} {g : AHeap} : (h ++ .ns fs :: g).set h.length (.ns fs') = h ++ .ns fs' :: g := by
  rw [List.set_append_right _ _ (Nat.le_refl _), Nat.sub_self]; rfl
theorem attr_new {a : Str} {v : AV} {fs : List (Str × AV)} {g : AHeap} : setAttrAV a (.loc (h.length + 1)) v (h ++ .ns fs :: .inst h.length :: g) = some (h ++ .ns ((a, v) :: fs) :: .inst h.length :: g) := by
  rw [set_attr (k := h.length) (fs := fs) (by rw [List.getElem?_append_right (by omega), Nat.add_sub_cancel_left]; rfl) (by rw [List.getElem?_append_right (Nat.le_refl _), Nat.sub_self]; rfl), tail_set]
/-- a table is made -/
theorem run_init (hp : Prog.has p "is_whole" d_is_whole) (hp2 : Prog.has p "__init__" d__init_) (ok : T.Ok) : semF p (n + 2) "__init__" [.loc (h.length + 1), .int T.c, .int T.f, .int T.s] (made h) =
    .ok .none (h ++ [.ns (nsOf T (h.length + 2) (h.length + 3)), .inst h.length, .dict [] 0, .dict [] 0]) := by
  obtain ⟨F, hF, e⟩ := run_at (n := n + 1) (h := made h) hp2 (as := [.loc (h.length + 1), .int T.c, .int T.f, .int T.s]) rfl
  have em : made h = h ++ .ns [] :: .inst h.length :: [] := rfl
  have l1 : ∀ a b : AObj, (h ++ a :: b :: []).length = h.length + 2 := fun a b => by rw [List.length_append]; rfl
  have l2 : ∀ a b c : AObj, (h ++ a :: b :: c :: []).length = h.length + 3 := fun a b c => by rw [List.length_append]; rfl
  rw [e, em]
  simp only [d__init_, ss_cons, ss_nil, s_expr, s_ret, s_asg, s_set, s_iff, s_whil, s_for, s_seta, x_none, x_bool, x_int, x_str, x_loc, x_bin, x_neg, x_not, x_and, x_or, x_cmp, x_cmp2, x_isn, x_call, x_bi, x_isi, x_new, x_im, x_bm, x_attr, x_slice, x_sub, x_tup, x_list, x_dict0, x_range, xs_nil, xs_cons, List.map_cons, List.map_nil, List.cons_append, List.nil_append, List.replicate, List.set, loc0, locS, okO_some, bok, sok, turn_next, turn_ret, boolO_some, heapO_some, notAV_bool, negAV_int, retR_ret, retR_next, cond_t, cond_f, condV_t, condV_f, cmpAnd_t, cmpAnd_f, b_add, b_sub, Bool.not_true, Bool.not_false, if_true, tup2, tup3, decide_true, decide_false, run_is_whole (n := n) hp ok.c1 ok.c2, run_is_whole (n := n) hp ok.f1 ok.f2, run_is_whole (n := n) hp ok.s1 ok.s2, attr_new, l1, l2, List.append_assoc]
  rfl

theorem run_homes (hp : Prog.has p "is_name" d_is_name) (hp2 : Prog.has p "need_name" d_need_name) (hp3 : Prog.has p "home" d_home) (hp4 : Prog.has p "homes" d_homes) (ok : T.Ok) (x : TabAt h t T d e) {nm : Nm} (G : Good nm) :
    semF p (n + 3) "homes" [.loc t, .str nm] h = .ok (T.homes nm) h := by
  obtain ⟨F, hF, e⟩ := run_at (n := n + 2) (h := h) hp4 (as := [.loc t, .str nm]) rfl
  rw [e]
  have := ok.c1
  have := ok.f1
  have := ok.f2
  have := ok.s1
  have := ok.s2
  simp only [d_homes, ss_cons, ss_nil, s_expr, s_ret, s_asg, s_set, s_iff, s_whil, s_for, s_seta, x_none, x_bool, x_int, x_str, x_loc, x_bin, x_neg, x_not, x_and, x_or, x_cmp, x_cmp2, x_isn, x_call, x_bi, x_isi, x_new, x_im, x_bm, x_attr, x_slice, x_sub, x_tup, x_list, x_dict0, x_range, xs_nil, xs_cons, List.map_cons, List.map_nil, List.cons_append, List.nil_append, List.replicate, List.set, loc0, locS, okO_some, bok, sok, turn_next, turn_ret, boolO_some, heapO_some, notAV_bool, negAV_int, retR_ret, retR_next, cond_t, cond_f, condV_t, condV_f, cmpAnd_t, cmpAnd_f, b_add, b_sub, Bool.not_true, Bool.not_false, if_true, tup2, tup3, decide_true, decide_false, run_need_name (n := n) hp hp2 G, x.cnt, x.fst, x.snd, run_home (n := n + 1) hp3 G (times := T.f) (count := T.c) (by omega) (by omega), run_home (n := n + 1) hp3 G (times := T.s) (count := T.c) (by omega) (by omega)]
  rfl

theorem run_need_nest (hp : Prog.has p "is_whole" d_is_whole) (hp2 : Prog.has p "need_nest" d_need_nest) (x : TabAt h t T d e) {s : Seat} (hs : T.In s) : semF p (n + 2) "need_nest" [.loc t, sv s] h = .ok .none h := by
  obtain ⟨F, hF, e⟩ := run_at (n := n + 1) (h := h) hp2 (as := [.loc t, sv s]) rfl
  rw [e]
  have t1 : isTy h (sv s) .tuple = some true := rfl
  have t2 : biAV .len [sv s] h = .ok (.int 2) h := rfl
  have t3 : cmpAV h .ne (.int 2) (.int 2) = some false := rfl
  have t4 : subAV (sv s) (.int 0) h = .ok (.int s.1) h := rfl
  have t5 : subAV (sv s) (.int 1) h = .ok (.int s.2) h := rfl
  obtain ⟨h1, h2, h3⟩ := hs
  simp only [d_need_nest, ss_cons, ss_nil, s_expr, s_ret, s_asg, s_set, s_iff, s_whil, s_for, s_seta, x_none, x_bool, x_int, x_str, x_loc, x_bin, x_neg, x_not, x_and, x_or, x_cmp, x_cmp2, x_isn, x_call, x_bi, x_isi, x_new, x_im, x_bm, x_attr, x_slice, x_sub, x_tup, x_list, x_dict0, x_range, xs_nil, xs_cons, List.map_cons, List.map_nil, List.cons_append, List.nil_append, List.replicate, List.set, loc0, locS, okO_some, bok, sok, turn_next, turn_ret, boolO_some, heapO_some, notAV_bool, negAV_int, retR_ret, retR_next, cond_t, cond_f, condV_t, condV_f, cmpAnd_t, cmpAnd_f, b_add, b_sub, Bool.not_true, Bool.not_false, if_true, tup2, tup3, decide_true, decide_false, t1, t2, t3, t4, t5, x.cnt, run_is_whole (n := n) hp (show 0 ≤ s.1 by omega) (show s.1 ≤ 1 by omega), run_is_whole (n := n) hp h2 (show s.2 ≤ T.c - 1 by omega)]

noncomputable def optS (o : Option Nm) : AV := match o with
  | some x => .str x
  | none => .none
theorem bmOk_get {i ep : Nat} {kvs : List (Key × AV)} (hd : h[i]? = some (.dict kvs ep)) : bmOk .get (.loc i) h = true := by
  show (dictAt h i).isSome = true
  rw [dictAt_of hd]; rfl
theorem get_st {i ep : Nat} {st : St'} {s : Seat} (hd : h[i]? = some (.dict (stK st) ep)) : bmAV .get (.loc i) [sv s] h = .ok (optS (st.lookup s)) h := by
  show getAV (.loc i) [sv s] h = _
  delta getAV; dsimp only
  rw [dictAt_of hd]
  show okO (if sortOk (stK st) (kp s) then some (((stK st).lookup (kp s)).getD .none) else none) h = _
  rw [if_pos stK_sort, stK_at]
  cases st.lookup s <;> rfl
theorem run_at' (hp : Prog.has p "is_whole" d_is_whole) (hp2 : Prog.has p "need_nest" d_need_nest) (hp3 : Prog.has p "at" d_at) (x : TabAt h t T d e) {st : St'} {ep : Nat} (hd : h[d]? = some (.dict (stK st) ep)) {s : Seat} (hs : T.In s) :
    semF p (n + 3) "at" [.loc t, sv s] h = .ok (optS (st.lookup s)) h := by
  obtain ⟨F, hF, e⟩ := run_at (n := n + 2) (h := h) hp3 (as := [.loc t, sv s]) rfl
  rw [e]
  simp only [d_at, ss_cons, ss_nil, s_expr, s_ret, s_asg, s_set, s_iff, s_whil, s_for, s_seta, x_none, x_bool, x_int, x_str, x_loc, x_bin, x_neg, x_not, x_and, x_or, x_cmp, x_cmp2, x_isn, x_call, x_bi, x_isi, x_new, x_im, x_bm, x_attr, x_slice, x_sub, x_tup, x_list, x_dict0, x_range, xs_nil, xs_cons, List.map_cons, List.map_nil, List.cons_append, List.nil_append, List.replicate, List.set, loc0, locS, okO_some, bok, sok, turn_next, turn_ret, boolO_some, heapO_some, notAV_bool, negAV_int, retR_ret, retR_next, cond_t, cond_f, condV_t, condV_f, cmpAnd_t, cmpAnd_f, b_add, b_sub, Bool.not_true, Bool.not_false, if_true, tup2, tup3, decide_true, decide_false, x.meth (m := "need_nest") rfl, run_need_nest (n := n) hp hp2 x hs, x.std, bmOk_get hd, get_st hd]
theorem run_many (hp : Prog.has p "many" d_many) (x : TabAt h t T d e) {th : Th} {ep : Nat} (he : h[e]? = some (.dict (thK th) ep)) : semF p (n + 1) "many" [.loc t] h = .ok (.int th.length) h := by
  obtain ⟨F, hF, e1⟩ := run_at (n := n) (h := h) hp (as := [.loc t]) rfl
  rw [e1]
  have hl : biAV .len [.loc e] h = .ok (.int th.length) h := by
    show lenAV (.loc e) h = _
    delta lenAV; dsimp only; rw [he]; dsimp only; rw [thK, mk_length]
  simp only [d_many, ss_cons, ss_nil, s_expr, s_ret, s_asg, s_set, s_iff, s_whil, s_for, s_seta, x_none, x_bool, x_int, x_str, x_loc, x_bin, x_neg, x_not, x_and, x_or, x_cmp, x_cmp2, x_isn, x_call, x_bi, x_isi, x_new, x_im, x_bm, x_attr, x_slice, x_sub, x_tup, x_list, x_dict0, x_range, xs_nil, xs_cons, List.map_cons, List.map_nil, List.cons_append, List.nil_append, List.replicate, List.set, loc0, locS, okO_some, bok, sok, turn_next, turn_ret, boolO_some, heapO_some, notAV_bool, negAV_int, retR_ret, retR_next, cond_t, cond_f, condV_t, condV_f, cmpAnd_t, cmpAnd_f, b_add, b_sub, Bool.not_true, Bool.not_false, if_true, tup2, tup3, decide_true, decide_false, x.thg, hl]
end
end Mine

namespace Mine
open PySem Cu

noncomputable def b_way_1 : Ss :=
  (.cons (.asg 3 (.sub (.im "homes" (.loc 0) (.cons (.sub (.attr "standing" (.loc 0)) (.sub (.loc 2) (.neg (.int 1)))) .nil)) (.bin .sub (.int 1) (.sub (.sub (.loc 2) (.neg (.int 1))) (.int 0)))))
  (.cons (.iff (.cmp .isin (.loc 3) (.loc 2))
    (.cons (.ret (.loc 2))
    .nil)
    .nil)
  (.cons (.expr (.bm .append (.loc 2) (.cons (.loc 3) .nil)))
  .nil)))
noncomputable def t_way_1 : X := (.cmp .isin (.sub (.loc 2) (.neg (.int 1))) (.attr "standing" (.loc 0)))
noncomputable def d_way : FDef := ⟨2, 4,
  (.cons (.expr (.im "need_nest" (.loc 0) (.cons (.loc 1) .nil)))
  (.cons (.asg 2 (.list (.cons (.loc 1) .nil)))
  (.cons (.whil t_way_1 b_way_1)
  (.cons (.ret (.loc 2))
  .nil))))⟩
noncomputable def d__law_other : FDef := ⟨3, 3,
  (.cons (.iff (.cmp .notin (.loc 2) (.loc 0))
    (.cons (.ret .none)
    .nil)
    .nil)
  (.cons (.ret (.sub (.sub (.loc 1) (.sub (.loc 0) (.loc 2))) (.bin .sub (.int 1) (.sub (.loc 2) (.int 0)))))
  .nil))⟩
noncomputable def b__law_way_1 : Ss :=
  (.cons (.expr (.bm .append (.loc 3) (.cons (.loc 4) .nil)))
  (.cons (.asg 4 (.call "_law_other" (.cons (.loc 0) (.cons (.loc 1) (.cons (.loc 4) .nil)))))
  .nil))
noncomputable def t__law_way_1 : X := (.and (.isn false (.loc 4)) (.cmp .notin (.loc 4) (.loc 3)))
noncomputable def d__law_way : FDef := ⟨3, 5,
  (.cons (.asg 3 (.list (.cons (.loc 2) .nil)))
  (.cons (.asg 4 (.call "_law_other" (.cons (.loc 0) (.cons (.loc 1) (.cons (.loc 2) .nil)))))
  (.cons (.whil t__law_way_1 b__law_way_1)
  (.cons (.ret (.loc 3))
  .nil))))⟩
noncomputable def d_put_at : FDef := ⟨4, 4,
  (.cons (.expr (.call "need_name" (.cons (.loc 1) .nil)))
  (.cons (.expr (.call "need_value" (.cons (.loc 2) .nil)))
  (.cons (.iff (.cmp .isin (.loc 1) (.attr "things" (.loc 0)))
    (.cons .raise
    .nil)
    .nil)
  (.cons (.expr (.im "need_nest" (.loc 0) (.cons (.loc 3) .nil)))
  (.cons (.iff (.cmp .notin (.loc 3) (.im "homes" (.loc 0) (.cons (.loc 1) .nil)))
    (.cons .raise
    .nil)
    .nil)
  (.cons (.iff (.cmp .isin (.loc 3) (.attr "standing" (.loc 0)))
    (.cons .raise
    .nil)
    .nil)
  (.cons (.setitem (.attr "standing" (.loc 0)) (.loc 3) (.loc 1))
  (.cons (.setitem (.attr "things" (.loc 0)) (.loc 1) (.loc 2))
  .nil))))))))⟩
/-- what stands: names that are such, in rows that are such -/
noncomputable def StOk (st : St') : Prop := ∀ s nm, st.lookup s = some nm → Good nm ∧ (s.1 = 0 ∨ s.1 = 1)

structure HasT (p : Prog) : Prop where
  a : Prog.has p "is_name" d_is_name
  b : Prog.has p "home" d_home
  c : Prog.has p "is_whole" d_is_whole
  d : Prog.has p "need_name" d_need_name
  f : Prog.has p "need_value" d_need_value
  g : Prog.has p "homes" d_homes
  i : Prog.has p "need_nest" d_need_nest

section
variable {p : Prog} {n : Nat} {h : AHeap} {t d e : Nat} {T : Tb}
theorem at_map {w : List Seat} {i : Nat} {s : Seat} (h : w[i]? = some s) : (w.map sv)[i]? = some (sv s) := by rw [List.getElem?_map, h]; rfl
theorem last_sub {a : Nat} {w : List Seat} {s : Seat} (hl : w.length ≤ 2000) (ha : h[a]? = some (.list (w.map sv))) (hs : w[w.length - 1]? = some s) : subAV (.loc a) (.int (-1)) h = .ok (sv s) h :=
  sub_last (by rw [List.length_map]; unfold sizeLim; omega) ha (by rw [List.length_map]; exact at_map hs)
theorem st_get {a : Nat} {st : St'} {ep : Nat} {s : Seat} {m : Nm} (ha : h[a]? = some (.dict (stK st) ep)) (hs : st.lookup s = some m) : subAV (.loc a) (sv s) h = .ok (.str m) h :=
  sub_dict ha (sv_key s) stK_sort (by rw [stK_at, hs]; rfl)
theorem st_in {a : Nat} {st : St'} {ep : Nat} {s : Seat} (ha : h[a]? = some (.dict (stK st) ep)) : cmpAV h .isin (sv s) (.loc a) = some (st.lookup s).isSome := by
  rw [in_dict' ha (sv_key s) stK_sort, stK_at, Option.isSome_map]
theorem st_notin {a : Nat} {st : St'} {ep : Nat} {s : Seat} (ha : h[a]? = some (.dict (stK st) ep)) : cmpAV h .notin (sv s) (.loc a) = some (!(st.lookup s).isSome) := by
  rw [notin_dict' ha (sv_key s) stK_sort, stK_at, Option.isSome_map]
theorem sv0 {s : Seat} : subAV (sv s) (.int 0) h = .ok (.int s.1) h := rfl
theorem homes_at {nm : Nm} {r : Int} (hr : r = 0 ∨ r = 1) : subAV (T.homes nm) (.int r) h = .ok (sv (T.hm nm r)) h := by
  rcases hr with rfl | rfl <;> rfl
theorem other_row {r : Int} (hr : r = 0 ∨ r = 1) : 1 - r = 0 ∨ 1 - r = 1 := by omega
theorem bmOk_append {i : Nat} {x : List AV} (hd : h[i]? = some (.list x)) : bmOk .append (.loc i) h = true := by
  show (listAt h i).isSome = true
  rw [listAt_of hd]; rfl
theorem add_seat {w : List Seat} {s : Seat} (hl : w.length ≤ 2000) : bmAV .append (.loc h.length) [sv s] (h ++ [.list (w.map sv)]) = .ok .none (h ++ [.list ((w ++ [s]).map sv)]) := by
  rw [show bmAV .append (.loc h.length) [sv s] (h ++ [.list (w.map sv)]) = _ from append_ok get_new (by rw [List.length_map]; unfold sizeLim; omega), set_new, List.map_append]; rfl
theorem list1 {v : AV} : newList [v] h = .ok (.loc h.length) (h ++ [.list [v]]) := newList_ok (by show 1 ≤ sizeLim; decide)

theorem way_loop (H : HasT p) (ok : T.Ok) {st : St'} {ep : Nat} (so : StOk st) (x : TabAt h t T d e) (hd : h[d]? = some (.dict (stK st) ep)) (hl : st.length ≤ 1000) {s0 : Seat} {F : Nat} :
    ∀ k f w v, Way T.hm st s0 w → k ≤ f → st.length + 1 < k + w.length →
      ∃ fl v', whileLoop (fun l h => evalX ⟨semF p (n + 3), F⟩ t_way_1 l h) (fun l h => execSs ⟨semF p (n + 3), F⟩ b_way_1 l h) f
          [some (.loc t), some (sv s0), some (.loc h.length), v] (h ++ [.list (w.map sv)]) = .ok fl [some (.loc t), some (sv s0), some (.loc h.length), v'] (h ++ [.list ((wayGo T.hm st k w).map sv)]) ∧
        (fl = .next ∨ fl = .ret (.loc h.length)) := by
  intro k
  induction k with
  | zero => intro f w v W _ hf; have := W.short; omega
  | succ k ih =>
    intro f w v W hkf hf
    obtain ⟨f, rfl⟩ : ∃ g, f = g + 1 := ⟨f - 1, by omega⟩
    have hws := W.short
    have hwl : w.length ≤ 2000 := by omega
    obtain ⟨s, hs⟩ := W.last
    have x' := x.more (g := [.list (w.map sv)])
    have hd' := get_old (g := [.list (w.map sv)]) hd
    have hL := last_sub hwl (get_new (h := h) (o := .list (w.map sv))) hs
    have e1 : ∀ (y : SR), whileLoop (fun l h => evalX ⟨semF p (n + 3), F⟩ t_way_1 l h) (fun l h => execSs ⟨semF p (n + 3), F⟩ b_way_1 l h) (f + 1)
          [some (.loc t), some (sv s0), some (.loc h.length), v] (h ++ [.list (w.map sv)]) = condS (.bool (st.lookup s).isSome) ((execSs ⟨semF p (n + 3), F⟩ b_way_1 [some (.loc t), some (sv s0), some (.loc h.length), v] (h ++ [.list (w.map sv)])).turn
            (whileLoop (fun l h => evalX ⟨semF p (n + 3), F⟩ t_way_1 l h) (fun l h => execSs ⟨semF p (n + 3), F⟩ b_way_1 l h) f)) (.ok .next [some (.loc t), some (sv s0), some (.loc h.length), v] (h ++ [.list (w.map sv)])) := by
      intro _
      show (Res.st (evalX _ _ _ _) _) = _
      simp only [t_way_1, x_cmp, x_sub, x_neg, x_int, x_loc, x_attr, loc0, locS, okO_some, bok, negAV_int, hL, x'.std, st_in hd', boolO_some, sok]
    rw [e1 .bad]
    cases hn : st.lookup s with
    | none =>
      rw [Option.isSome_none, cond_f, go_free hs hn]
      exact ⟨_, v, rfl, .inl rfl⟩
    | some nm =>
      obtain ⟨G, hrow⟩ := so s nm hn
      rw [Option.isSome_some, cond_t]
      have hh := run_homes (n := n) (h := h ++ [.list (w.map sv)]) H.a H.d H.b H.g ok x' G
      by_cases hin : T.hm nm (1 - s.1) ∈ w
      · rw [go_shut hs hn hin]
        refine ⟨_, some (sv (T.hm nm (1 - s.1))), ?_, .inr rfl⟩
        simp only [b_way_1, ss_cons, ss_nil, s_expr, s_ret, s_asg, s_set, s_iff, s_whil, s_for, s_seta, x_none, x_bool, x_int, x_str, x_loc, x_bin, x_neg, x_not, x_and, x_or, x_cmp, x_cmp2, x_isn, x_call, x_bi, x_isi, x_new, x_im, x_bm, x_attr, x_slice, x_sub, x_tup, x_list, x_dict0, x_range, xs_nil, xs_cons, List.map_cons, List.map_nil, List.cons_append, List.nil_append, List.replicate, List.set, loc0, locS, okO_some, bok, sok, turn_next, turn_ret, boolO_some, heapO_some, notAV_bool, negAV_int, retR_ret, retR_next, cond_t, cond_f, condV_t, condV_f, cmpAnd_t, cmpAnd_f, b_add, b_sub, Bool.not_true, Bool.not_false, if_true, tup2, tup3, decide_true, decide_false, hL, x'.std, x'.meth (m := "homes") rfl, st_get hd' hn, sv0, hh, homes_at (other_row hrow), in_seats get_new, decide_eq_true hin]
      · rw [go_on hs hn hin]
        obtain ⟨fl, v', e, r⟩ := ih f (w ++ [T.hm nm (1 - s.1)]) (some (sv (T.hm nm (1 - s.1)))) (W.snoc hs hn hin) (by omega) (by rw [List.length_append, List.length_singleton]; omega)
        refine ⟨fl, v', ?_, r⟩
        rw [← e]
        simp only [b_way_1, ss_cons, ss_nil, s_expr, s_ret, s_asg, s_set, s_iff, s_whil, s_for, s_seta, x_none, x_bool, x_int, x_str, x_loc, x_bin, x_neg, x_not, x_and, x_or, x_cmp, x_cmp2, x_isn, x_call, x_bi, x_isi, x_new, x_im, x_bm, x_attr, x_slice, x_sub, x_tup, x_list, x_dict0, x_range, xs_nil, xs_cons, List.map_cons, List.map_nil, List.cons_append, List.nil_append, List.replicate, List.set, loc0, locS, okO_some, bok, sok, turn_next, turn_ret, boolO_some, heapO_some, notAV_bool, negAV_int, retR_ret, retR_next, cond_t, cond_f, condV_t, condV_f, cmpAnd_t, cmpAnd_f, b_add, b_sub, Bool.not_true, Bool.not_false, if_true, tup2, tup3, decide_true, decide_false, hL, x'.std, x'.meth (m := "homes") rfl, st_get hd' hn, sv0, hh, homes_at (other_row hrow), in_seats get_new, decide_eq_false hin, bmOk_append get_new, add_seat hwl]

theorem run_way (H : HasT p) (hp : Prog.has p "way" d_way) (ok : T.Ok) {st : St'} {ep : Nat} (so : StOk st) (x : TabAt h t T d e) (hd : h[d]? = some (.dict (stK st) ep)) (hl : st.length ≤ 1000) {s : Seat} (hs : T.In s) :
    semF p (n + 4) "way" [.loc t, sv s] h = .ok (.loc h.length) (h ++ [.list ((wayOf T.hm st s).map sv)]) := by
  obtain ⟨F, hF, e⟩ := run_at (n := n + 3) (h := h) hp (as := [.loc t, sv s]) rfl
  obtain ⟨fl, v, e2, hfl⟩ := way_loop (n := n) (s0 := s) H ok so x hd hl (F := F) (st.length + 1) F [s] none (Way.one st s) (by omega) (by rw [List.length_singleton]; omega)
  rw [List.map_cons, List.map_nil] at e2
  rw [e]
  simp only [d_way, ss_cons, ss_nil, s_expr, s_ret, s_asg, s_set, s_iff, s_whil, s_for, s_seta, x_none, x_bool, x_int, x_str, x_loc, x_bin, x_neg, x_not, x_and, x_or, x_cmp, x_cmp2, x_isn, x_call, x_bi, x_isi, x_new, x_im, x_bm, x_attr, x_slice, x_sub, x_tup, x_list, x_dict0, x_range, xs_nil, xs_cons, List.map_cons, List.map_nil, List.cons_append, List.nil_append, List.replicate, List.set, loc0, locS, okO_some, bok, sok, turn_next, turn_ret, boolO_some, heapO_some, notAV_bool, negAV_int, retR_ret, retR_next, cond_t, cond_f, condV_t, condV_f, cmpAnd_t, cmpAnd_f, b_add, b_sub, Bool.not_true, Bool.not_false, if_true, tup2, tup3, decide_true, decide_false, x.meth (m := "need_nest") rfl, run_need_nest (n := n + 1) H.c H.i x hs, list1, e2]
  rcases hfl with rfl | rfl
  · simp only [ss_cons, ss_nil, s_expr, s_ret, s_asg, s_set, s_iff, s_whil, s_for, s_seta, x_none, x_bool, x_int, x_str, x_loc, x_bin, x_neg, x_not, x_and, x_or, x_cmp, x_cmp2, x_isn, x_call, x_bi, x_isi, x_new, x_im, x_bm, x_attr, x_slice, x_sub, x_tup, x_list, x_dict0, x_range, xs_nil, xs_cons, List.map_cons, List.map_nil, List.cons_append, List.nil_append, List.replicate, List.set, loc0, locS, okO_some, bok, sok, turn_next, turn_ret, boolO_some, heapO_some, notAV_bool, negAV_int, retR_ret, retR_next, cond_t, cond_f, condV_t, condV_f, cmpAnd_t, cmpAnd_f, b_add, b_sub, Bool.not_true, Bool.not_false, if_true, tup2, tup3, decide_true, decide_false]; rfl
  · simp only [ss_cons, ss_nil, s_expr, s_ret, s_asg, s_set, s_iff, s_whil, s_for, s_seta, x_none, x_bool, x_int, x_str, x_loc, x_bin, x_neg, x_not, x_and, x_or, x_cmp, x_cmp2, x_isn, x_call, x_bi, x_isi, x_new, x_im, x_bm, x_attr, x_slice, x_sub, x_tup, x_list, x_dict0, x_range, xs_nil, xs_cons, List.map_cons, List.map_nil, List.cons_append, List.nil_append, List.replicate, List.set, loc0, locS, okO_some, bok, sok, turn_next, turn_ret, boolO_some, heapO_some, notAV_bool, negAV_int, retR_ret, retR_next, cond_t, cond_f, condV_t, condV_f, cmpAnd_t, cmpAnd_f, b_add, b_sub, Bool.not_true, Bool.not_false, if_true, tup2, tup3, decide_true, decide_false]; rfl

/-- the homes that the law wrote down -/
noncomputable def HomesAt (h : AHeap) (i : Nat) (T : Tb) (ns : List Nm) : Prop := ∃ kvs ep, h[i]? = some (.dict kvs ep) ∧ (∀ nm, sortOk kvs (.str nm) = true) ∧ ∀ nm ∈ ns, kvs.lookup (.str nm) = some (T.homes nm)
theorem HomesAt.more {i : Nat} {ns : List Nm} {g : AHeap} (x : HomesAt h i T ns) : HomesAt (h ++ g) i T ns := let ⟨kvs, ep, h1, h2⟩ := x; ⟨kvs, ep, get_old h1, h2⟩
theorem HomesAt.get {i : Nat} {ns : List Nm} (x : HomesAt h i T ns) {nm : Nm} (hn : nm ∈ ns) : subAV (.loc i) (.str nm) h = .ok (T.homes nm) h := by
  obtain ⟨kvs, ep, h1, h2, h3⟩ := x
  exact sub_dict h1 (str_key nm) (h2 nm) (h3 nm hn)
noncomputable def optV (o : Option Seat) : AV := match o with
  | some s => sv s
  | none => .none
noncomputable def nextOf (T : Tb) (st : St') (s : Seat) : Option Seat := (st.lookup s).map fun nm => T.hm nm (1 - s.1)
theorem run_law_other (hp : Prog.has p "_law_other" d__law_other) {a i : Nat} {st : St'} {ep : Nat} {ns : List Nm} (so : StOk st) (hn : ∀ s nm, st.lookup s = some nm → nm ∈ ns) (ha : h[a]? = some (.dict (stK st) ep)) (x : HomesAt h i T ns) {s : Seat} :
    semF p (n + 1) "_law_other" [.loc a, .loc i, sv s] h = .ok (optV (nextOf T st s)) h := by
  obtain ⟨F, hF, e⟩ := run_at (n := n) (h := h) hp (as := [.loc a, .loc i, sv s]) rfl
  rw [e]
  unfold nextOf
  cases hl : st.lookup s with
  | none => simp only [d__law_other, ss_cons, ss_nil, s_expr, s_ret, s_asg, s_set, s_iff, s_whil, s_for, s_seta, x_none, x_bool, x_int, x_str, x_loc, x_bin, x_neg, x_not, x_and, x_or, x_cmp, x_cmp2, x_isn, x_call, x_bi, x_isi, x_new, x_im, x_bm, x_attr, x_slice, x_sub, x_tup, x_list, x_dict0, x_range, xs_nil, xs_cons, List.map_cons, List.map_nil, List.cons_append, List.nil_append, List.replicate, List.set, loc0, locS, okO_some, bok, sok, turn_next, turn_ret, boolO_some, heapO_some, notAV_bool, negAV_int, retR_ret, retR_next, cond_t, cond_f, condV_t, condV_f, cmpAnd_t, cmpAnd_f, b_add, b_sub, Bool.not_true, Bool.not_false, if_true, tup2, tup3, decide_true, decide_false, st_notin ha, hl, Option.isSome_none]; rfl
  | some nm =>
    obtain ⟨G, hrow⟩ := so s nm hl
    simp only [d__law_other, ss_cons, ss_nil, s_expr, s_ret, s_asg, s_set, s_iff, s_whil, s_for, s_seta, x_none, x_bool, x_int, x_str, x_loc, x_bin, x_neg, x_not, x_and, x_or, x_cmp, x_cmp2, x_isn, x_call, x_bi, x_isi, x_new, x_im, x_bm, x_attr, x_slice, x_sub, x_tup, x_list, x_dict0, x_range, xs_nil, xs_cons, List.map_cons, List.map_nil, List.cons_append, List.nil_append, List.replicate, List.set, loc0, locS, okO_some, bok, sok, turn_next, turn_ret, boolO_some, heapO_some, notAV_bool, negAV_int, retR_ret, retR_next, cond_t, cond_f, condV_t, condV_f, cmpAnd_t, cmpAnd_f, b_add, b_sub, Bool.not_true, Bool.not_false, if_true, tup2, tup3, decide_true, decide_false, st_notin ha, hl, Option.isSome_some, st_get ha hl, x.get (hn s nm hl), sv0, homes_at (other_row hrow)]; rfl

theorem law_way_loop (hp : Prog.has p "_law_other" d__law_other) {a i : Nat} {st : St'} {ep : Nat} {ns : List Nm} (so : StOk st) (hn : ∀ s nm, st.lookup s = some nm → nm ∈ ns) (ha : h[a]? = some (.dict (stK st) ep)) (x : HomesAt h i T ns) (hl : st.length ≤ 1000) {s0 : Seat} {F : Nat} :
    ∀ k f w s, Way T.hm st s0 w → w[w.length - 1]? = some s → k < f → st.length + 1 < k + w.length →
      ∃ v', whileLoop (fun l h => evalX ⟨semF p (n + 1), F⟩ t__law_way_1 l h) (fun l h => execSs ⟨semF p (n + 1), F⟩ b__law_way_1 l h) f
          [some (.loc a), some (.loc i), some (sv s0), some (.loc h.length), some (optV (nextOf T st s))] (h ++ [.list (w.map sv)]) = .ok .next [some (.loc a), some (.loc i), some (sv s0), some (.loc h.length), v'] (h ++ [.list ((wayGo T.hm st k w).map sv)]) := by
  intro k
  induction k with
  | zero => intro f w s W _ _ hf; have := W.short; omega
  | succ k ih =>
    intro f w s W hs hkf hf
    obtain ⟨f, rfl⟩ : ∃ g, f = g + 1 := ⟨f - 1, by omega⟩
    have hws := W.short
    have hwl : w.length ≤ 2000 := by omega
    cases hk : st.lookup s with
    | none =>
      rw [go_free hs hk, show nextOf T st s = none by rw [nextOf, hk]; rfl]
      refine ⟨some .none, ?_⟩
      show Res.st (evalX _ _ _ _) _ = _
      simp only [t__law_way_1, ss_cons, ss_nil, s_expr, s_ret, s_asg, s_set, s_iff, s_whil, s_for, s_seta, x_none, x_bool, x_int, x_str, x_loc, x_bin, x_neg, x_not, x_and, x_or, x_cmp, x_cmp2, x_isn, x_call, x_bi, x_isi, x_new, x_im, x_bm, x_attr, x_slice, x_sub, x_tup, x_list, x_dict0, x_range, xs_nil, xs_cons, List.map_cons, List.map_nil, List.cons_append, List.nil_append, List.replicate, List.set, loc0, locS, okO_some, bok, sok, turn_next, turn_ret, boolO_some, heapO_some, notAV_bool, negAV_int, retR_ret, retR_next, cond_t, cond_f, condV_t, condV_f, cmpAnd_t, cmpAnd_f, b_add, b_sub, Bool.not_true, Bool.not_false, if_true, tup2, tup3, decide_true, decide_false, optV, isNoneAV]
      rfl
    | some nm =>
      have en : nextOf T st s = some (T.hm nm (1 - s.1)) := by rw [nextOf, hk]; rfl
      rw [en]
      have e1 : ∀ (y : SR), whileLoop (fun l h => evalX ⟨semF p (n + 1), F⟩ t__law_way_1 l h) (fun l h => execSs ⟨semF p (n + 1), F⟩ b__law_way_1 l h) (f + 1)
          [some (.loc a), some (.loc i), some (sv s0), some (.loc h.length), some (sv (T.hm nm (1 - s.1)))] (h ++ [.list (w.map sv)]) = condS (.bool (!decide (T.hm nm (1 - s.1) ∈ w))) ((execSs ⟨semF p (n + 1), F⟩ b__law_way_1 [some (.loc a), some (.loc i), some (sv s0), some (.loc h.length), some (sv (T.hm nm (1 - s.1)))] (h ++ [.list (w.map sv)])).turn
            (whileLoop (fun l h => evalX ⟨semF p (n + 1), F⟩ t__law_way_1 l h) (fun l h => execSs ⟨semF p (n + 1), F⟩ b__law_way_1 l h) f)) (.ok .next [some (.loc a), some (.loc i), some (sv s0), some (.loc h.length), some (sv (T.hm nm (1 - s.1)))] (h ++ [.list (w.map sv)])) := by
        intro _
        show (Res.st (evalX _ _ _ _) _) = _
        have hN : (isNoneAV (sv (T.hm nm (1 - s.1))) == false) = true := rfl
        simp only [t__law_way_1, x_and, x_isn, x_cmp, x_loc, loc0, locS, okO_some, bok, hN, condV_t, notin_seats get_new, boolO_some, sok]
      show ∃ v', whileLoop _ _ (f + 1) [some (.loc a), some (.loc i), some (sv s0), some (.loc h.length), some (sv (T.hm nm (1 - s.1)))] _ = _
      rw [e1 .bad]
      by_cases hin : T.hm nm (1 - s.1) ∈ w
      · rw [go_shut hs hk hin, decide_eq_true hin]
        exact ⟨_, rfl⟩
      · rw [go_on hs hk hin, decide_eq_false hin, Bool.not_false, cond_t]
        obtain ⟨v', e⟩ := ih f (w ++ [T.hm nm (1 - s.1)]) (T.hm nm (1 - s.1)) (W.snoc hs hk hin) (by rw [List.length_append, List.length_singleton, Nat.add_sub_cancel]; exact List.getElem?_concat_length) (by omega) (by rw [List.length_append, List.length_singleton]; omega)
        refine ⟨v', ?_⟩
        rw [← e]
        simp only [b__law_way_1, ss_cons, ss_nil, s_expr, s_ret, s_asg, s_set, s_iff, s_whil, s_for, s_seta, x_none, x_bool, x_int, x_str, x_loc, x_bin, x_neg, x_not, x_and, x_or, x_cmp, x_cmp2, x_isn, x_call, x_bi, x_isi, x_new, x_im, x_bm, x_attr, x_slice, x_sub, x_tup, x_list, x_dict0, x_range, xs_nil, xs_cons, List.map_cons, List.map_nil, List.cons_append, List.nil_append, List.replicate, List.set, loc0, locS, okO_some, bok, sok, turn_next, turn_ret, boolO_some, heapO_some, notAV_bool, negAV_int, retR_ret, retR_next, cond_t, cond_f, condV_t, condV_f, cmpAnd_t, cmpAnd_f, b_add, b_sub, Bool.not_true, Bool.not_false, if_true, tup2, tup3, decide_true, decide_false, bmOk_append get_new, add_seat hwl, run_law_other (n := n) hp so hn (get_old ha) x.more]

theorem run_law_way (hp : Prog.has p "_law_other" d__law_other) (hp2 : Prog.has p "_law_way" d__law_way) {a i : Nat} {st : St'} {ep : Nat} {ns : List Nm} (so : StOk st) (hn : ∀ s nm, st.lookup s = some nm → nm ∈ ns) (ha : h[a]? = some (.dict (stK st) ep)) (x : HomesAt h i T ns) (hl : st.length ≤ 1000) {s : Seat} :
    semF p (n + 2) "_law_way" [.loc a, .loc i, sv s] h = .ok (.loc h.length) (h ++ [.list ((wayOf T.hm st s).map sv)]) := by
  obtain ⟨F, hF, e⟩ := run_at (n := n + 1) (h := h) hp2 (as := [.loc a, .loc i, sv s]) rfl
  obtain ⟨v, e2⟩ := law_way_loop (n := n) (s0 := s) hp so hn ha x hl (F := F) (st.length + 1) F [s] s (Way.one st s) rfl (by omega) (by rw [List.length_singleton]; omega)
  rw [List.map_cons, List.map_nil] at e2
  rw [e]
  simp only [d__law_way, ss_cons, ss_nil, s_expr, s_ret, s_asg, s_set, s_iff, s_whil, s_for, s_seta, x_none, x_bool, x_int, x_str, x_loc, x_bin, x_neg, x_not, x_and, x_or, x_cmp, x_cmp2, x_isn, x_call, x_bi, x_isi, x_new, x_im, x_bm, x_attr, x_slice, x_sub, x_tup, x_list, x_dict0, x_range, xs_nil, xs_cons, List.map_cons, List.map_nil, List.cons_append, List.nil_append, List.replicate, List.set, loc0, locS, okO_some, bok, sok, turn_next, turn_ret, boolO_some, heapO_some, notAV_bool, negAV_int, retR_ret, retR_next, cond_t, cond_f, condV_t, condV_f, cmpAnd_t, cmpAnd_f, b_add, b_sub, Bool.not_true, Bool.not_false, if_true, tup2, tup3, decide_true, decide_false, list1, run_law_other (n := n) hp so hn (get_old ha) x.more, e2]
  rfl
end
end Mine

namespace Mine
open PySem Cu

noncomputable def d_names : FDef := ⟨1, 1,
  (.cons (.ret (.comp (.sub (.attr "standing" (.loc 0)) (.loc 1)) 1 1 (.bi .sorted (.cons (.attr "standing" (.loc 0)) .nil)) .nil))
  .nil)⟩
noncomputable def d__law_table : FDef := ⟨1, 4,
  (.cons (.asg 1 (.bin .add (.int 1) (.bin .mod (.call "_law_cell_at" (.cons (.loc 0) (.cons (.int 0) .nil))) (.int 6))))
  (.cons (.iff (.cmp .eq (.bin .mod (.bin .div (.call "_law_cell_at" (.cons (.loc 0) (.cons (.int 0) .nil))) (.int 6)) (.int 8)) (.int 1))
    (.cons (.asg 1 (.bin .add (.int 1) (.bin .mod (.bin .div (.call "_law_cell_at" (.cons (.loc 0) (.cons (.int 0) .nil))) (.int 48)) (.int 1000))))
    .nil)
    .nil)
  (.cons (.asg 2 (.bin .add (.int 1) (.bin .mod (.call "_law_mixed" (.cons (.call "_law_cell_at" (.cons (.loc 0) (.cons (.int 1) .nil))) (.cons (.int 1) .nil))) (.sub (.list (.cons (.int 7) (.cons (.int 1000000) .nil))) (.bin .mod (.call "_law_cell_at" (.cons (.loc 0) (.cons (.int 1) .nil))) (.int 2))))))
  (.cons (.asg 3 (.bin .add (.int 1) (.bin .mod (.call "_law_mixed" (.cons (.call "_law_cell_at" (.cons (.loc 0) (.cons (.int 2) .nil))) (.cons (.int 2) .nil))) (.sub (.list (.cons (.int 9) (.cons (.int 1000000) .nil))) (.bin .mod (.call "_law_cell_at" (.cons (.loc 0) (.cons (.int 2) .nil))) (.int 2))))))
  (.cons (.ret (.tup (.cons (.loc 1) (.cons (.loc 2) (.cons (.loc 3) .nil)))))
  .nil)))))⟩
noncomputable def b__law_homes_1 : Ss :=
  (.cons (.setitem (.loc 2) (.loc 3) (.tup (.cons (.tup (.cons (.int 0) (.cons (.call "_law_home" (.cons (.loc 3) (.cons (.sub (.loc 1) (.int 1)) (.cons (.sub (.loc 1) (.int 0)) .nil)))) .nil))) (.cons (.tup (.cons (.int 1) (.cons (.call "_law_home" (.cons (.loc 3) (.cons (.sub (.loc 1) (.int 2)) (.cons (.sub (.loc 1) (.int 0)) .nil)))) .nil))) .nil))))
  .nil)
noncomputable def d__law_homes : FDef := ⟨2, 4,
  (.cons (.asg 2 .dict0)
  (.cons (.forr 3 (.loc 0) b__law_homes_1)
  (.cons (.ret (.loc 2))
  .nil)))⟩
noncomputable def d__law_tuple : FDef := ⟨1, 1,
  (.cons (.iff (.or (.not (.isi (.loc 0) .tuple)) (.or (.cmp .ne (.bi .len (.cons (.loc 0) .nil)) (.int 2)) (.or (.isi (.sub (.loc 0) (.int 0)) .bool) (.isi (.sub (.loc 0) (.int 1)) .bool))))
    (.cons (.ret (.bool false))
    .nil)
    .nil)
  (.cons (.ret (.and (.isi (.sub (.loc 0) (.int 0)) .int) (.isi (.sub (.loc 0) (.int 1)) .int)))
  .nil))⟩

section
variable {p : Prog} {n : Nat} {h : AHeap} {t d e : Nat} {T : Tb}
/-- a comprehension over a list, of what changes nothing -/
theorem compLoop_map {body : AV → AHeap → Res (Option AV)} {i : Nat} {items : List AV} {g : AV → AV} (hi : h[i]? = some (.list items)) (hl : items.length ≤ 1000) (hb : ∀ v ∈ items, body v h = .ok (some (g v)) h) {f : Nat} (hf : items.length < f) :
    compLoop body (.loc i) f 0 [] h = .ok (items.map g) h := by
  obtain ⟨a, h', e, ⟨rfl, rfl⟩, _⟩ := compLoop_all (body := body) (src := .loc i) (items := items) (fun k a h' => a = (items.take k).map g ∧ h' = h) (fun k a h' ⟨_, e⟩ => by rw [e]; exact next_list hi)
    (fun k v a h' hv ⟨ea, eh⟩ => by
      subst ea; subst eh
      refine ⟨some (g v), h', hb v (List.mem_of_getElem? hv), ?_, rfl⟩
      rw [List.take_add_one, hv, List.map_append]; rfl) hl f 0 [] h (by omega) (Nat.zero_le _) (Nat.le_refl _) ⟨rfl, rfl⟩
  rw [e, List.take_length]

noncomputable def sortK (ks : List Seat) : List Seat := if ks.length < 2 then ks else (orderOf ks).map (atP ks)
theorem sortK_is {ks : List Seat} (h : ks.length < 64) : sortP ks = some ((sortK ks).map sv) := by
  unfold sortP sortK
  split
  · rfl
  · rw [List.map_map]; rfl
theorem sortK_mem {ks : List Seat} {s : Seat} (h : s ∈ sortK ks) : s ∈ ks := by
  unfold sortK at h
  split at h
  · exact h
  · obtain ⟨i, hi, rfl⟩ := List.mem_map.mp h
    have hl := order_lt (by omega) hi
    show ks.getD i (0, 0) ∈ ks
    rw [List.getD_eq_getElem?_getD, List.getElem?_eq_getElem hl]
    exact List.getElem_mem hl
theorem sortK_len {ks : List Seat} (h : ks.length < 64) : (sortK ks).length ≤ 1000 := by
  unfold sortK
  split
  · omega
  · rw [List.length_map, order_len (by omega)]; omega
noncomputable def keysOf (st : St') : List Seat := st.map (·.1)
noncomputable def namesOf (st : St') : List Nm := (sortK (keysOf st)).map fun s => (st.lookup s).getD []
theorem walk_st {i ep : Nat} {st : St'} (hd : h[i]? = some (.dict (stK st) ep)) : walkOf h i = some ((keysOf st).map sv) := by
  rw [walk_dict hd, stK, mk, keysOf, List.map_map, List.map_map]; rfl
theorem pairs_sv : ∀ ks : List Seat, pairsOf (ks.map sv) = some ks
  | [] => rfl
  | s :: r => by
    show (match some s, pairsOf (r.map sv) with | some p, some ps => some (p :: ps) | _, _ => none) = _
    rw [pairs_sv r]
theorem keys_len {st : St'} : (keysOf st).length = st.length := List.length_map ..
theorem in_keys {st : St'} {s : Seat} (h : s ∈ keysOf st) : ∃ nm, st.lookup s = some nm := by
  cases hq : st.lookup s with
  | some nm => exact ⟨nm, rfl⟩
  | none => exact absurd h (lookup_none.mp hq)
theorem sorted_ok {i : Nat} {ks : List Seat} (hw : walkOf h i = some (ks.map sv)) (hl : ks.length < 64) : biAV .sorted [.loc i] h = .ok (.loc h.length) (h ++ [.list ((sortK ks).map sv)]) :=
  newListO_ok (o := ((walkOf h i).bind pairsOf).bind sortP) (by rw [hw, Option.bind_some, pairs_sv, Option.bind_some, sortK_is hl]) (by rw [List.length_map]; have := sortK_len hl; unfold sizeLim; omega)
/-- what stands, by the nests in order -/
theorem names_loop {i j ep : Nat} {st : St'} {body : AV → AHeap → Res (Option AV)} (hj : h[j]? = some (.list ((sortK (keysOf st)).map sv))) (hl : st.length < 64)
    (hb : ∀ s nm, st.lookup s = some nm → body (sv s) h = .ok (some (.str nm)) h) {f : Nat} (hf : 2000 < f) : compLoop body (.loc j) f 0 [] h = .ok ((namesOf st).map .str) h := by
  have hk := sortK_len (ks := keysOf st) (by rw [keys_len]; exact hl)
  obtain ⟨a, h', e, ⟨rfl, rfl⟩, _⟩ := compLoop_all (body := body) (src := .loc j) (items := (sortK (keysOf st)).map sv) (fun k a h' => a = (((sortK (keysOf st)).take k).map fun s => AV.str ((st.lookup s).getD [])) ∧ h' = h) (fun k a h' ⟨_, e⟩ => by rw [e]; exact next_list hj)
    (fun k v a h' hv ⟨ea, eh⟩ => by
      subst ea; subst eh
      rw [List.getElem?_map] at hv
      obtain ⟨s, hs, rfl⟩ := Option.map_eq_some_iff.mp hv
      obtain ⟨nm, hnm⟩ := in_keys (sortK_mem (List.mem_of_getElem? hs))
      refine ⟨some (.str nm), h', hb s nm hnm, ?_, rfl⟩
      rw [List.take_add_one, hs, List.map_append, Option.toList_some, Option.toList_some, List.map_cons, List.map_nil, hnm]; rfl) (by rw [List.length_map]; exact hk) f 0 [] h (by rw [List.length_map]; omega) (Nat.zero_le _) (Nat.le_refl _) ⟨rfl, rfl⟩
  rw [e, List.length_map, List.take_length, namesOf, List.map_map]; rfl
theorem inner_at {l : Locs} {v : AV} : inner l 1 l.length v = l ++ [some v] := by
  unfold inner
  rw [List.set_append_right _ _ (Nat.le_refl _), Nat.sub_self]; rfl
theorem x_comp0 {c : Ctx} {l : Locs} {x it : X} {k j : Nat} : evalX c (.comp x k j it .nil) l h = (evalX c it l h).bind fun src h =>
    (compLoop (fun v h => (evalX c x (inner l k j v) h).bind fun x h => .ok (some x) h) src c.fuel 0 [] h).bind fun vs h => newList vs h := rfl

theorem run_names (hp : Prog.has p "names" d_names) {st : St'} {ep : Nat} (x : TabAt h t T d e) (hd : h[d]? = some (.dict (stK st) ep)) (hl : st.length < 64) :
    semF p (n + 1) "names" [.loc t] h = .ok (.loc (h.length + 1)) (h ++ [.list ((sortK (keysOf st)).map sv), .list ((namesOf st).map .str)]) := by
  obtain ⟨F, hF, e⟩ := run_in (n := n) (h := h) hp (as := [.loc t]) [some (.loc t)] rfl rfl
  have hk : (keysOf st).length < 64 := by rw [keys_len]; exact hl
  have hs := sorted_ok (walk_st hd) hk
  have x' := x.more (g := [.list ((sortK (keysOf st)).map sv)])
  have e2 := names_loop (i := d) (ep := ep) (h := h ++ [.list ((sortK (keysOf st)).map sv)]) (body := fun v h => (evalX ⟨semF p n, F⟩ (.sub (.attr "standing" (.loc 0)) (.loc 1)) (inner [some (.loc t)] 1 1 v) h).bind fun x h => .ok (some x) h) get_new hl (fun s nm hnm => by
    show (evalX _ _ [some (.loc t), some (sv s)] _).bind _ = _
    simp only [ss_cons, ss_nil, s_expr, s_ret, s_asg, s_set, s_iff, s_whil, s_for, s_seta, x_none, x_bool, x_int, x_str, x_loc, x_bin, x_neg, x_not, x_and, x_or, x_cmp, x_cmp2, x_isn, x_call, x_bi, x_isi, x_new, x_im, x_bm, x_attr, x_slice, x_sub, x_tup, x_list, x_dict0, x_range, xs_nil, xs_cons, List.map_cons, List.map_nil, List.cons_append, List.nil_append, List.replicate, List.set, loc0, locS, okO_some, bok, sok, turn_next, turn_ret, boolO_some, heapO_some, notAV_bool, negAV_int, retR_ret, retR_next, cond_t, cond_f, condV_t, condV_f, cmpAnd_t, cmpAnd_f, b_add, b_sub, Bool.not_true, Bool.not_false, if_true, tup2, tup3, decide_true, decide_false, x'.std, st_get (get_old hd) hnm]) (f := F) (by omega)
  rw [e]
  simp only [d_names, ss_cons, s_ret, x_comp0, x_bi, xs_cons, xs_nil, x_attr, x_loc, List.map_cons, List.map_nil, List.cons_append, List.nil_append, List.replicate, loc0, okO_some, bok, x.std, hs]
  rw [e2, bok, newList_ok (by rw [List.length_map, namesOf, List.length_map]; have := sortK_len hk; unfold sizeLim; omega), sok, turn_ret, retR_ret, List.append_assoc, List.length_append]
  rfl

theorem run_law_tuple (hp : Prog.has p "_law_tuple" d__law_tuple) {s : Seat} : semF p (n + 1) "_law_tuple" [sv s] h = .ok (.bool true) h := by
  obtain ⟨F, hF, e⟩ := run_at (n := n) (h := h) hp (as := [sv s]) rfl
  rw [e]; rfl

theorem pick {a b i : Int} (hi : i = 0 ∨ i = 1) : ∃ m : Int, (m = a ∨ m = b) ∧ subAV (.loc h.length) (.int i) (h ++ [.list [.int a, .int b]]) = .ok (.int m) (h ++ [.list [.int a, .int b]]) := by
  have hL : (h ++ [.list [.int a, .int b]])[h.length]? = some (.list [.int a, .int b]) := get_new
  rcases hi with rfl | rfl
  · exact ⟨a, .inl rfl, sub_list (by show 2 ≤ sizeLim; decide) hL (by decide) rfl⟩
  · exact ⟨b, .inr rfl, sub_list (by show 2 ≤ sizeLim; decide) hL (by decide) rfl⟩
theorem two_list {a b : Int} : newList [.int a, .int b] h = .ok (.loc h.length) (h ++ [.list [.int a, .int b]]) := newList_ok (by show 2 ≤ sizeLim; decide)
theorem two_mod (x : Int) : x.fmod 2 = 0 ∨ x.fmod 2 = 1 := by have := fmod_bound x (m := 2) (by decide); omega
theorem run_law_table (hp : Prog.has p "_law_cell_at" d__law_cell_at) (hp2 : Prog.has p "_law_mixed" d__law_mixed) (hp3 : Prog.has p "_law_table" d__law_table) {xs : List Int} (hl : xs.length ≤ 63) :
    ∃ T : Tb, T.Ok ∧ ∃ a b, semF p (n + 2) "_law_table" [.scr xs] h = .ok (.tup [.int T.c, .int T.f, .int T.s]) (h ++ [a, b]) := by
  obtain ⟨F, hF, e⟩ := run_in (n := n + 1) (h := h) hp3 (as := [.scr xs]) [some (.scr xs), none, none, none] rfl rfl
  have c0 : ∀ h : AHeap, semF p (n + 1) "_law_cell_at" [.scr xs, .int 0] h = .ok (.int (cellAt xs 0)) h := fun h => run_cell_at (n := n) (h := h) hp hl 0
  have c1 : ∀ h : AHeap, semF p (n + 1) "_law_cell_at" [.scr xs, .int 1] h = .ok (.int (cellAt xs 1)) h := fun h => run_cell_at (n := n) (h := h) hp hl 1
  have c2 : ∀ h : AHeap, semF p (n + 1) "_law_cell_at" [.scr xs, .int 2] h = .ok (.int (cellAt xs 2)) h := fun h => run_cell_at (n := n) (h := h) hp hl 2
  obtain ⟨m1, hm1, p1⟩ := pick (h := h) (a := 7) (b := 1000000) (two_mod (cellAt xs 1))
  obtain ⟨m2, hm2, p2⟩ := pick (h := h ++ [.list [.int 7, .int 1000000]]) (a := 9) (b := 1000000) (two_mod (cellAt xs 2))
  have b0 := fmod_bound (cellAt xs 0) (m := 6) (by decide)
  have b3 := fmod_bound ((cellAt xs 0).fdiv 48) (m := 1000) (by decide)
  have b1 := fmod_bound (mixed (cellAt xs 1) 1) (m := m1) (by omega)
  have b2 := fmod_bound (mixed (cellAt xs 2) 2) (m := m2) (by omega)
  have hc : ∃ c : Int, 1 ≤ c ∧ c ≤ 1000 ∧ c = (if ((cellAt xs 0).fdiv 6).fmod 8 = 1 then 1 + ((cellAt xs 0).fdiv 48).fmod 1000 else 1 + (cellAt xs 0).fmod 6) := by
    refine ⟨_, ?_, ?_, rfl⟩ <;> split <;> omega
  obtain ⟨c, hc1, hc2, hc⟩ := hc
  refine ⟨⟨c, 1 + (mixed (cellAt xs 1) 1).fmod m1, 1 + (mixed (cellAt xs 2) 2).fmod m2⟩, ⟨hc1, hc2, ?_, ?_, ?_, ?_⟩, .list [.int 7, .int 1000000], .list [.int 9, .int 1000000], ?_⟩
  · show 1 ≤ 1 + _; omega
  · show 1 + _ ≤ 1000000; omega
  · show 1 ≤ 1 + _; omega
  · show 1 + _ ≤ 1000000; omega
  rw [e, d__law_table]
  refine (congrArg retR ((ss_step (l' := [some (.scr xs), some (.int (1 + (cellAt xs 0).fmod 6)), none, none]) (h' := h) ?_).trans ((ss_step (l' := [some (.scr xs), some (.int c), none, none]) (h' := h) ?_).trans
    ((ss_step (l' := [some (.scr xs), some (.int c), some (.int (1 + (mixed (cellAt xs 1) 1).fmod m1)), none]) (h' := h ++ [.list [.int 7, .int 1000000]]) ?_).trans
    ((ss_step (l' := [some (.scr xs), some (.int c), some (.int (1 + (mixed (cellAt xs 1) 1).fmod m1)), some (.int (1 + (mixed (cellAt xs 2) 2).fmod m2))]) (h' := h ++ [.list [.int 7, .int 1000000]] ++ [.list [.int 9, .int 1000000]]) ?_).trans rfl))))).trans ?_
  · simp only [ss_cons, ss_nil, s_expr, s_ret, s_asg, s_set, s_iff, s_whil, s_for, s_seta, x_none, x_bool, x_int, x_str, x_loc, x_bin, x_neg, x_not, x_and, x_or, x_cmp, x_cmp2, x_isn, x_call, x_bi, x_isi, x_new, x_im, x_bm, x_attr, x_slice, x_sub, x_tup, x_list, x_dict0, x_range, xs_nil, xs_cons, List.map_cons, List.map_nil, List.cons_append, List.nil_append, List.replicate, List.set, loc0, locS, okO_some, bok, sok, turn_next, turn_ret, boolO_some, heapO_some, notAV_bool, negAV_int, retR_ret, retR_next, cond_t, cond_f, condV_t, condV_f, cmpAnd_t, cmpAnd_f, b_add, b_sub, Bool.not_true, Bool.not_false, if_true, tup2, tup3, decide_true, decide_false, c0, b_mod (y := 6) (by decide)]
  · rw [s_iff, hc]
    simp only [ss_cons, ss_nil, s_expr, s_ret, s_asg, s_set, s_iff, s_whil, s_for, s_seta, x_none, x_bool, x_int, x_str, x_loc, x_bin, x_neg, x_not, x_and, x_or, x_cmp, x_cmp2, x_isn, x_call, x_bi, x_isi, x_new, x_im, x_bm, x_attr, x_slice, x_sub, x_tup, x_list, x_dict0, x_range, xs_nil, xs_cons, List.map_cons, List.map_nil, List.cons_append, List.nil_append, List.replicate, List.set, loc0, locS, okO_some, bok, sok, turn_next, turn_ret, boolO_some, heapO_some, notAV_bool, negAV_int, retR_ret, retR_next, cond_t, cond_f, condV_t, condV_f, cmpAnd_t, cmpAnd_f, b_add, b_sub, Bool.not_true, Bool.not_false, if_true, tup2, tup3, decide_true, decide_false, c0, b_mod (y := 8) (by decide), b_div (y := 6) (by decide), c_eqi, b_div (y := 48) (by decide), b_mod (y := 1000) (by decide), cond_if]
    split <;> rfl
  · simp only [ss_cons, ss_nil, s_expr, s_ret, s_asg, s_set, s_iff, s_whil, s_for, s_seta, x_none, x_bool, x_int, x_str, x_loc, x_bin, x_neg, x_not, x_and, x_or, x_cmp, x_cmp2, x_isn, x_call, x_bi, x_isi, x_new, x_im, x_bm, x_attr, x_slice, x_sub, x_tup, x_list, x_dict0, x_range, xs_nil, xs_cons, List.map_cons, List.map_nil, List.cons_append, List.nil_append, List.replicate, List.set, loc0, locS, okO_some, bok, sok, turn_next, turn_ret, boolO_some, heapO_some, notAV_bool, negAV_int, retR_ret, retR_next, cond_t, cond_f, condV_t, condV_f, cmpAnd_t, cmpAnd_f, b_add, b_sub, Bool.not_true, Bool.not_false, if_true, tup2, tup3, decide_true, decide_false, c1, run_mixed (n := n) hp2, two_list, b_mod (y := 2) (by decide), p1, b_mod (show m1 ≠ 0 by omega)]
  · simp only [ss_cons, ss_nil, s_expr, s_ret, s_asg, s_set, s_iff, s_whil, s_for, s_seta, x_none, x_bool, x_int, x_str, x_loc, x_bin, x_neg, x_not, x_and, x_or, x_cmp, x_cmp2, x_isn, x_call, x_bi, x_isi, x_new, x_im, x_bm, x_attr, x_slice, x_sub, x_tup, x_list, x_dict0, x_range, xs_nil, xs_cons, List.map_cons, List.map_nil, List.cons_append, List.nil_append, List.replicate, List.set, loc0, locS, okO_some, bok, sok, turn_next, turn_ret, boolO_some, heapO_some, notAV_bool, negAV_int, retR_ret, retR_next, cond_t, cond_f, condV_t, condV_f, cmpAnd_t, cmpAnd_f, b_add, b_sub, Bool.not_true, Bool.not_false, if_true, tup2, tup3, decide_true, decide_false, c2, run_mixed (n := n) hp2, two_list, b_mod (y := 2) (by decide), p2, b_mod (show m2 ≠ 0 by omega)]
  · simp only [ss_cons, ss_nil, s_expr, s_ret, s_asg, s_set, s_iff, s_whil, s_for, s_seta, x_none, x_bool, x_int, x_str, x_loc, x_bin, x_neg, x_not, x_and, x_or, x_cmp, x_cmp2, x_isn, x_call, x_bi, x_isi, x_new, x_im, x_bm, x_attr, x_slice, x_sub, x_tup, x_list, x_dict0, x_range, xs_nil, xs_cons, List.map_cons, List.map_nil, List.cons_append, List.nil_append, List.replicate, List.set, loc0, locS, okO_some, bok, sok, turn_next, turn_ret, boolO_some, heapO_some, notAV_bool, negAV_int, retR_ret, retR_next, cond_t, cond_f, condV_t, condV_f, cmpAnd_t, cmpAnd_f, b_add, b_sub, Bool.not_true, Bool.not_false, if_true, tup2, tup3, decide_true, decide_false, List.append_assoc]

theorem run_law_homes (hp : Prog.has p "_law_home" d__law_home) (hp2 : Prog.has p "_law_homes" d__law_homes) (ok : T.Ok) {a : Nat} {ns : List Nm} (hn : ∀ nm ∈ ns, Good nm) (hl : ns.length ≤ 100) (ha : h[a]? = some (.list (ns.map .str))) :
    ∃ kvs ep, semF p (n + 2) "_law_homes" [.loc a, .tup [.int T.c, .int T.f, .int T.s]] h = .ok (.loc h.length) (h ++ [.dict kvs ep]) ∧ (∀ nm, sortOk kvs (.str nm) = true) ∧ ∀ nm ∈ ns, kvs.lookup (.str nm) = some (T.homes nm) := by
  obtain ⟨F, hF, e⟩ := run_at (n := n + 1) (h := h) hp2 (as := [.loc a, .tup [.int T.c, .int T.f, .int T.s]]) rfl
  have := ok.c1
  have := ok.f1
  have := ok.f2
  have := ok.s1
  have := ok.s2
  obtain ⟨l', h', e2, v, ks, ep, hkl, rfl, rfl, hk⟩ := forLoop_all (i := 3) (src := .loc a) (items := ns.map AV.str) (body := fun l h => execSs ⟨semF p (n + 1), F⟩ b__law_homes_1 l h)
    (fun k l h' => ∃ v, ∃ ks : List (Nm × Nm), ∃ ep, ks.length ≤ k ∧ l = [some (.loc a), some (.tup [.int T.c, .int T.f, .int T.s]), some (.loc h.length), v] ∧ h' = h ++ [.dict (mk .str T.homes ks) ep] ∧ (∀ q ∈ ks, q.1 = q.2) ∧ ∀ nm ∈ ns.take k, (ks.lookup nm).isSome)
    (fun k l h' ⟨v, ks, ep, _, _, eh, _⟩ => by rw [eh]; exact next_list (get_old ha)) (fun k v l h' hv ⟨v', ks, ep, hkl, el, eh, hq, hk⟩ => by
      subst eh; subst el
      rw [List.getElem?_map] at hv
      obtain ⟨nm, hnm, rfl⟩ := Option.map_eq_some_iff.mp hv
      have G := hn nm (List.mem_of_getElem? hnm)
      have hkn := (List.getElem?_eq_some_iff.mp hnm).1
      have t0 : ∀ h : AHeap, subAV (.tup [.int T.c, .int T.f, .int T.s]) (.int 0) h = .ok (.int T.c) h := fun _ => rfl
      have t1 : ∀ h : AHeap, subAV (.tup [.int T.c, .int T.f, .int T.s]) (.int 1) h = .ok (.int T.f) h := fun _ => rfl
      have t2 : ∀ h : AHeap, subAV (.tup [.int T.c, .int T.f, .int T.s]) (.int 2) h = .ok (.int T.s) h := fun _ => rfl
      obtain ⟨ep', hset⟩ := set_dict (h := h ++ [.dict (mk .str T.homes ks) ep]) (v := T.homes nm) get_new (str_key nm) (mk_sort fun _ _ => rfl) (by rw [mk_length]; unfold sizeLim; omega)
      rw [mk_put ks_inj, set_new] at hset
      have hset : setItemAV (.loc h.length) (.str nm) (.tup [.tup [.int 0, .int (homeOf nm T.f T.c)], .tup [.int 1, .int (homeOf nm T.s T.c)]]) (h ++ [.dict (mk .str T.homes ks) ep]) = some (h ++ [.dict (mk .str T.homes (put ks nm nm)) ep']) := hset
      refine ⟨_, _, ?_, some (.str nm), put ks nm nm, ep', ?_, rfl, rfl, ?_, ?_⟩
      · simp only [b__law_homes_1, ss_cons, ss_nil, s_expr, s_ret, s_asg, s_set, s_iff, s_whil, s_for, s_seta, x_none, x_bool, x_int, x_str, x_loc, x_bin, x_neg, x_not, x_and, x_or, x_cmp, x_cmp2, x_isn, x_call, x_bi, x_isi, x_new, x_im, x_bm, x_attr, x_slice, x_sub, x_tup, x_list, x_dict0, x_range, xs_nil, xs_cons, List.map_cons, List.map_nil, List.cons_append, List.nil_append, List.replicate, List.set, loc0, locS, okO_some, bok, sok, turn_next, turn_ret, boolO_some, heapO_some, notAV_bool, negAV_int, retR_ret, retR_next, cond_t, cond_f, condV_t, condV_f, cmpAnd_t, cmpAnd_f, b_add, b_sub, Bool.not_true, Bool.not_false, if_true, tup2, tup3, decide_true, decide_false, t0, t1, t2, run_law_home (n := n) hp G (times := T.f) (count := T.c) (by omega) (by omega), run_law_home (n := n) hp G (times := T.s) (count := T.c) (by omega) (by omega), hset]
      · have := put_length (t := ks) (a := nm) (b := nm)
        split at this <;> omega
      · intro q hq'
        unfold put at hq'
        split at hq'
        · obtain ⟨r, hr, rfl⟩ := List.mem_map.mp hq'
          split
          · rename_i hb; exact eq_of_beq hb
          · exact hq r hr
        · rcases List.mem_append.mp hq' with h1 | h1
          · exact hq q h1
          · cases List.mem_singleton.mp h1; rfl
      · intro x hx
        rw [put_lookup]
        split
        · rfl
        · rename_i hne
          rw [List.take_add_one, hnm, Option.toList_some, List.mem_append, List.mem_singleton] at hx
          exact hk x (hx.resolve_right hne)) (f := F)
    (l := [some (.loc a), some (.tup [.int T.c, .int T.f, .int T.s]), some (.loc h.length), none]) (h := h ++ [.dict [] 0]) (by rw [List.length_map]; omega) ⟨none, [], 0, Nat.le_refl _, rfl, rfl, (fun q hq => nomatch hq), fun nm hnm => nomatch hnm⟩
  rw [List.length_map, List.take_length] at hk
  refine ⟨mk .str T.homes ks, ep, ?_, fun nm => mk_sort fun _ _ => rfl, fun nm hnm => ?_⟩
  · rw [e]
    simp only [d__law_homes, ss_cons, ss_nil, s_expr, s_ret, s_asg, s_set, s_iff, s_whil, s_for, s_seta, x_none, x_bool, x_int, x_str, x_loc, x_bin, x_neg, x_not, x_and, x_or, x_cmp, x_cmp2, x_isn, x_call, x_bi, x_isi, x_new, x_im, x_bm, x_attr, x_slice, x_sub, x_tup, x_list, x_dict0, x_range, xs_nil, xs_cons, List.map_cons, List.map_nil, List.cons_append, List.nil_append, List.replicate, List.set, loc0, locS, okO_some, bok, sok, turn_next, turn_ret, boolO_some, heapO_some, notAV_bool, negAV_int, retR_ret, retR_next, cond_t, cond_f, condV_t, condV_f, cmpAnd_t, cmpAnd_f, b_add, b_sub, Bool.not_true, Bool.not_false, if_true, tup2, tup3, decide_true, decide_false, e2]
  · obtain ⟨m, hm⟩ := Option.isSome_iff_exists.mp (hk.2 nm hnm)
    have hq : nm = m := hk.1 _ (lookup_mem hm)
    rw [mk_lookup ks_inj, hm, ← hq]; rfl
end
end Mine

namespace Mine
open PySem Cu

noncomputable def b__law_names_1 : Ss :=
  (.cons (.asg 3 (.bin .add (.loc 3) (.sub (.loc 2) (.bin .mod (.bin .div (.call "_law_mixed" (.cons (.loc 0) (.cons (.loc 4) .nil))) (.int 31)) (.int 36)))))
  .nil)
noncomputable def b__law_names_2 : Ss :=
  (.cons (.asg 7 (.call "_law_mixed" (.cons (.loc 0) (.cons (.bin .add (.int 50) (.loc 4)) .nil))))
  (.cons (.asg 8 (.sub (.loc 2) (.bin .mod (.bin .add (.bin .div (.loc 0) (.int 110)) (.loc 4)) (.int 36))))
  (.cons (.iff (.cmp .gt (.bin .mod (.bin .div (.loc 0) (.int 3960)) (.int 3)) (.int 0))
    (.cons (.asg 8 (.bin .add (.bin .add (.sub (.loc 2) (.bin .mod (.bin .div (.loc 7) (.int 7)) (.int 36))) (.sub (.loc 2) (.bin .mod (.bin .div (.loc 7) (.int 301)) (.int 36)))) (.loc 8)))
    .nil)
    .nil)
  (.cons (.expr (.bm .append (.loc 6) (.cons (.bin .add (.bin .add (.slice (.loc 3) .none (.loc 5)) (.loc 8)) (.slice (.loc 3) (.loc 5) .none)) .nil)))
  .nil))))
noncomputable def d__law_names : FDef := ⟨2, 9,
  (.cons (.asg 2 (.str signs))
  (.cons (.asg 3 (.str []))
  (.cons (.forr 4 (.range (.cons (.bin .mod (.loc 0) (.int 10)) .nil)) b__law_names_1)
  (.cons (.asg 5 (.bin .mod (.bin .div (.loc 0) (.int 10)) (.int 11)))
  (.cons (.asg 6 (.list .nil))
  (.cons (.forr 4 (.range (.cons (.loc 1) .nil)) b__law_names_2)
  (.cons (.ret (.loc 6))
  .nil)))))))⟩

section
variable {p : Prog} {n : Nat} {h : AHeap} {t d e : Nat} {T : Tb}
theorem pos_mod (x : Int) {m : Int} (hm : 0 < m) : ∃ k : Nat, x.fmod m = k ∧ (k : Int) < m := by
  have := fmod_bound x hm
  exact ⟨(x.fmod m).toNat, by omega, by omega⟩
/-- a sign that is drawn -/
theorem sign_at (x : Int) : ∃ c, c ∈ signs ∧ ∀ h : AHeap, subAV (.str signs) (.int (x.fmod 36)) h = .ok (.str [c]) h := by
  obtain ⟨k, hk, hl⟩ := pos_mod x (m := 36) (by decide)
  have hlt : k < signs.length := by rw [signs_len]; omega
  exact ⟨signs[k], List.getElem_mem hlt, fun h => by rw [hk]; exact idx_str signs_fit (List.getElem?_eq_getElem hlt)⟩
theorem slice_to {x : List Nat} {k : Nat} (hl : x.length ≤ 1000) : sliceAV (.str x) .none (.int k) h = .ok (.str (x.take k)) h := by
  have hc : cutO x .none (.int k) = some (x.take k) := by
    delta cutO
    rw [if_pos (show x.length ≤ sizeLim by unfold sizeLim; omega)]
    show some (cutList x 0 k) = _
    unfold cutList clampIdx
    rw [if_neg (by omega), if_neg (by omega), Int.toNat_natCast]
    show some ((x.take (min k x.length)).drop (min 0 x.length)) = _
    rw [Nat.zero_min, List.drop_zero, List.take_eq_take_min (l := x) (i := k)]
  show okO ((cutO x .none (.int k)).map .str) h = _
  rw [hc]; rfl
theorem slice_from {x : List Nat} {k : Nat} (hl : x.length ≤ 1000) : sliceAV (.str x) (.int k) .none h = .ok (.str (x.drop k)) h := by
  have hc : cutO x (.int k) .none = some (x.drop k) := by
    delta cutO
    rw [if_pos (show x.length ≤ sizeLim by unfold sizeLim; omega)]
    show some (cutList x k x.length) = _
    unfold cutList clampIdx
    rw [if_neg (by omega), if_neg (by omega), Int.toNat_natCast, Int.toNat_natCast, Nat.min_self, List.take_length]
    by_cases hk : k ≤ x.length
    · rw [Nat.min_eq_left hk]
    · rw [Nat.min_eq_right (by omega), List.drop_length, List.drop_eq_nil_of_le (by omega)]
  show okO ((cutO x (.int k) .none).map .str) h = _
  rw [hc]; rfl
noncomputable def AllIn (t : Nm) : Prop := ∀ x ∈ t, x ∈ signs
theorem AllIn.app {a b : Nm} (x : AllIn a) (y : AllIn b) : AllIn (a ++ b) := fun c hc => (List.mem_append.mp hc).elim (x c) (y c)
theorem AllIn.one {c : Nat} (h : c ∈ signs) : AllIn [c] := fun x hx => by cases List.mem_singleton.mp hx; exact h
theorem fits {x : List Nat} {k : Nat} (hl : x.length ≤ k) (hk : k ≤ 1000) : x.length ≤ sizeLim := by unfold sizeLim; omega
theorem len2 {x y : List Nat} (h1 : x.length ≤ 100) (h2 : y.length ≤ 100) : x.length + y.length ≤ sizeLim := by unfold sizeLim; omega

theorem names_one (hp : Prog.has p "_law_mixed" d__law_mixed) {c : Int} {m : Nat} {F : Nat} {base : Nm} (hb : base.length ≤ 9) (ab : AllIn base) {at' : Nat} {j : Nat} {many k : Nat} {v7 v8 : Option AV} {ns : List Nm} (hj : h[j]? = some (.list (ns.map .str))) (hl : ns.length ≤ 900) :
    ∃ nm, Good nm ∧ ∃ v7' v8', execSs ⟨semF p (n + 1), F⟩ b__law_names_2 [some (.int c), some (.int many), some (.str signs), some (.str base), some (.int k), some (.int at'), some (.loc j), v7, v8] h =
      .ok .next [some (.int c), some (.int many), some (.str signs), some (.str base), some (.int k), some (.int at'), some (.loc j), v7', v8'] (h.set j (.list ((ns ++ [nm]).map .str))) := by
  have em := run_mixed (n := n) (h := h) hp c (50 + k)
  generalize mixed c (50 + k) = mx at em
  obtain ⟨c1, hc1, e1⟩ := sign_at (c.fdiv 110 + k)
  obtain ⟨c2, hc2, e2⟩ := sign_at (mx.fdiv 7)
  obtain ⟨c3, hc3, e3⟩ := sign_at (mx.fdiv 301)
  have tl : (base.take at').length ≤ 9 := by rw [List.length_take]; omega
  have fin : ∀ sg : Nm, AllIn sg → 1 ≤ sg.length → sg.length ≤ 3 → ∃ nm, Good nm ∧ ∀ v7 : Option AV, execS ⟨semF p (n + 1), F⟩ (.expr (.bm .append (.loc 6) (.cons (.bin .add (.bin .add (.slice (.loc 3) .none (.loc 5)) (.loc 8)) (.slice (.loc 3) (.loc 5) .none)) .nil))) [some (.int c), some (.int many), some (.str signs), some (.str base), some (.int k), some (.int at'), some (.loc j), v7, some (.str sg)] h =
      .ok .next [some (.int c), some (.int many), some (.str signs), some (.str base), some (.int k), some (.int at'), some (.loc j), v7, some (.str sg)] (h.set j (.list ((ns ++ [nm]).map .str))) := by
    intro sg ag h1 h3
    have l1 : (base.take at' ++ sg).length ≤ 12 := by rw [List.length_append]; omega
    have l2 : (base.take at' ++ sg ++ base.drop at').length = base.length + sg.length := by
      rw [List.length_append, List.length_append, List.length_take, List.length_drop]; omega
    refine ⟨base.take at' ++ sg ++ base.drop at', ⟨by omega, by omega, AllIn.app (AllIn.app (fun x hx => ab x (List.mem_of_mem_take hx)) ag) fun x hx => ab x (List.mem_of_mem_drop hx)⟩, fun v7 => ?_⟩
    have hap : bmAV .append (.loc j) [.str (base.take at' ++ sg ++ base.drop at')] h = .ok .none (h.set j (.list ((ns ++ [base.take at' ++ sg ++ base.drop at']).map .str))) := by
      rw [show bmAV .append (.loc j) [.str (base.take at' ++ sg ++ base.drop at')] h = _ from append_ok hj (by rw [List.length_map]; unfold sizeLim; omega), List.map_append]; rfl
    simp only [ss_cons, ss_nil, s_expr, s_ret, s_asg, s_set, s_iff, s_whil, s_for, s_seta, x_none, x_bool, x_int, x_str, x_loc, x_bin, x_neg, x_not, x_and, x_or, x_cmp, x_cmp2, x_isn, x_call, x_bi, x_isi, x_new, x_im, x_bm, x_attr, x_slice, x_sub, x_tup, x_list, x_dict0, x_range, xs_nil, xs_cons, List.map_cons, List.map_nil, List.cons_append, List.nil_append, List.replicate, List.set, loc0, locS, okO_some, bok, sok, turn_next, turn_ret, boolO_some, heapO_some, notAV_bool, negAV_int, retR_ret, retR_next, cond_t, cond_f, condV_t, condV_f, cmpAnd_t, cmpAnd_f, b_add, b_sub, Bool.not_true, Bool.not_false, if_true, tup2, tup3, decide_true, decide_false, bmOk_append hj, slice_to (show base.length ≤ 1000 by omega), slice_from (show base.length ≤ 1000 by omega), b_adds (x := base.take at') (y := sg) (len2 (by omega) (by omega)), b_adds (x := base.take at' ++ sg) (y := base.drop at') (len2 (by omega) (by rw [List.length_drop]; omega)), hap]
  by_cases hq : 0 < (c.fdiv 3960).fmod 3
  · obtain ⟨nm, G, ef⟩ := fin [c2, c3, c1] (AllIn.app (a := [c2, c3]) (AllIn.app (a := [c2]) (.one hc2) (.one hc3)) (.one hc1)) (by show 1 ≤ 3; decide) (by show 3 ≤ 3; decide)
    refine ⟨nm, G, some (.int mx), some (.str [c2, c3, c1]), ?_⟩
    rw [b__law_names_2]
    refine (ss_step (l' := [some (.int c), some (.int many), some (.str signs), some (.str base), some (.int k), some (.int at'), some (.loc j), some (.int mx), v8]) (h' := h) ?_).trans
      ((ss_step (l' := [some (.int c), some (.int many), some (.str signs), some (.str base), some (.int k), some (.int at'), some (.loc j), some (.int mx), some (.str [c1])]) (h' := h) ?_).trans
      ((ss_step (l' := [some (.int c), some (.int many), some (.str signs), some (.str base), some (.int k), some (.int at'), some (.loc j), some (.int mx), some (.str [c2, c3, c1])]) (h' := h) ?_).trans (ss_one (ef _))))
    · simp only [ss_cons, ss_nil, s_expr, s_ret, s_asg, s_set, s_iff, s_whil, s_for, s_seta, x_none, x_bool, x_int, x_str, x_loc, x_bin, x_neg, x_not, x_and, x_or, x_cmp, x_cmp2, x_isn, x_call, x_bi, x_isi, x_new, x_im, x_bm, x_attr, x_slice, x_sub, x_tup, x_list, x_dict0, x_range, xs_nil, xs_cons, List.map_cons, List.map_nil, List.cons_append, List.nil_append, List.replicate, List.set, loc0, locS, okO_some, bok, sok, turn_next, turn_ret, boolO_some, heapO_some, notAV_bool, negAV_int, retR_ret, retR_next, cond_t, cond_f, condV_t, condV_f, cmpAnd_t, cmpAnd_f, b_add, b_sub, Bool.not_true, Bool.not_false, if_true, tup2, tup3, decide_true, decide_false, em]
    · simp only [ss_cons, ss_nil, s_expr, s_ret, s_asg, s_set, s_iff, s_whil, s_for, s_seta, x_none, x_bool, x_int, x_str, x_loc, x_bin, x_neg, x_not, x_and, x_or, x_cmp, x_cmp2, x_isn, x_call, x_bi, x_isi, x_new, x_im, x_bm, x_attr, x_slice, x_sub, x_tup, x_list, x_dict0, x_range, xs_nil, xs_cons, List.map_cons, List.map_nil, List.cons_append, List.nil_append, List.replicate, List.set, loc0, locS, okO_some, bok, sok, turn_next, turn_ret, boolO_some, heapO_some, notAV_bool, negAV_int, retR_ret, retR_next, cond_t, cond_f, condV_t, condV_f, cmpAnd_t, cmpAnd_f, b_add, b_sub, Bool.not_true, Bool.not_false, if_true, tup2, tup3, decide_true, decide_false, b_div (y := 110) (by decide), b_mod (y := 36) (by decide), e1]
    · rw [s_iff]
      simp only [ss_cons, ss_nil, s_expr, s_ret, s_asg, s_set, s_iff, s_whil, s_for, s_seta, x_none, x_bool, x_int, x_str, x_loc, x_bin, x_neg, x_not, x_and, x_or, x_cmp, x_cmp2, x_isn, x_call, x_bi, x_isi, x_new, x_im, x_bm, x_attr, x_slice, x_sub, x_tup, x_list, x_dict0, x_range, xs_nil, xs_cons, List.map_cons, List.map_nil, List.cons_append, List.nil_append, List.replicate, List.set, loc0, locS, okO_some, bok, sok, turn_next, turn_ret, boolO_some, heapO_some, notAV_bool, negAV_int, retR_ret, retR_next, cond_t, cond_f, condV_t, condV_f, cmpAnd_t, cmpAnd_f, b_add, b_sub, Bool.not_true, Bool.not_false, if_true, tup2, tup3, decide_true, decide_false, b_div (y := 3960) (by decide), b_div (y := 7) (by decide), b_div (y := 301) (by decide), b_mod (y := 3) (by decide), b_mod (y := 36) (by decide), c_gt, decide_eq_true hq, e2, e3, b_adds (x := [c2]) (y := [c3]) (by show 2 ≤ sizeLim; decide), b_adds (x := [c2, c3]) (y := [c1]) (by show 3 ≤ sizeLim; decide)]
  · obtain ⟨nm, G, ef⟩ := fin [c1] (.one hc1) (by show 1 ≤ 1; decide) (by show 1 ≤ 3; decide)
    refine ⟨nm, G, some (.int mx), some (.str [c1]), ?_⟩
    rw [b__law_names_2]
    refine (ss_step (l' := [some (.int c), some (.int many), some (.str signs), some (.str base), some (.int k), some (.int at'), some (.loc j), some (.int mx), v8]) (h' := h) ?_).trans
      ((ss_step (l' := [some (.int c), some (.int many), some (.str signs), some (.str base), some (.int k), some (.int at'), some (.loc j), some (.int mx), some (.str [c1])]) (h' := h) ?_).trans
      ((ss_step (l' := [some (.int c), some (.int many), some (.str signs), some (.str base), some (.int k), some (.int at'), some (.loc j), some (.int mx), some (.str [c1])]) (h' := h) ?_).trans (ss_one (ef _))))
    · simp only [ss_cons, ss_nil, s_expr, s_ret, s_asg, s_set, s_iff, s_whil, s_for, s_seta, x_none, x_bool, x_int, x_str, x_loc, x_bin, x_neg, x_not, x_and, x_or, x_cmp, x_cmp2, x_isn, x_call, x_bi, x_isi, x_new, x_im, x_bm, x_attr, x_slice, x_sub, x_tup, x_list, x_dict0, x_range, xs_nil, xs_cons, List.map_cons, List.map_nil, List.cons_append, List.nil_append, List.replicate, List.set, loc0, locS, okO_some, bok, sok, turn_next, turn_ret, boolO_some, heapO_some, notAV_bool, negAV_int, retR_ret, retR_next, cond_t, cond_f, condV_t, condV_f, cmpAnd_t, cmpAnd_f, b_add, b_sub, Bool.not_true, Bool.not_false, if_true, tup2, tup3, decide_true, decide_false, em]
    · simp only [ss_cons, ss_nil, s_expr, s_ret, s_asg, s_set, s_iff, s_whil, s_for, s_seta, x_none, x_bool, x_int, x_str, x_loc, x_bin, x_neg, x_not, x_and, x_or, x_cmp, x_cmp2, x_isn, x_call, x_bi, x_isi, x_new, x_im, x_bm, x_attr, x_slice, x_sub, x_tup, x_list, x_dict0, x_range, xs_nil, xs_cons, List.map_cons, List.map_nil, List.cons_append, List.nil_append, List.replicate, List.set, loc0, locS, okO_some, bok, sok, turn_next, turn_ret, boolO_some, heapO_some, notAV_bool, negAV_int, retR_ret, retR_next, cond_t, cond_f, condV_t, condV_f, cmpAnd_t, cmpAnd_f, b_add, b_sub, Bool.not_true, Bool.not_false, if_true, tup2, tup3, decide_true, decide_false, b_div (y := 110) (by decide), b_mod (y := 36) (by decide), e1]
    · rw [s_iff]
      simp only [ss_cons, ss_nil, s_expr, s_ret, s_asg, s_set, s_iff, s_whil, s_for, s_seta, x_none, x_bool, x_int, x_str, x_loc, x_bin, x_neg, x_not, x_and, x_or, x_cmp, x_cmp2, x_isn, x_call, x_bi, x_isi, x_new, x_im, x_bm, x_attr, x_slice, x_sub, x_tup, x_list, x_dict0, x_range, xs_nil, xs_cons, List.map_cons, List.map_nil, List.cons_append, List.nil_append, List.replicate, List.set, loc0, locS, okO_some, bok, sok, turn_next, turn_ret, boolO_some, heapO_some, notAV_bool, negAV_int, retR_ret, retR_next, cond_t, cond_f, condV_t, condV_f, cmpAnd_t, cmpAnd_f, b_add, b_sub, Bool.not_true, Bool.not_false, if_true, tup2, tup3, decide_true, decide_false, b_div (y := 3960) (by decide), b_mod (y := 3) (by decide), c_gt, decide_eq_false hq]

theorem run_law_names (hp : Prog.has p "_law_mixed" d__law_mixed) (hp2 : Prog.has p "_law_names" d__law_names) (c : Int) {many : Nat} (hm : many ≤ 100) :
    ∃ ns : List Nm, ns.length = many ∧ (∀ nm ∈ ns, Good nm) ∧ semF p (n + 2) "_law_names" [.int c, .int many] h = .ok (.loc h.length) (h ++ [.list (ns.map .str)]) := by
  obtain ⟨F, hF, e⟩ := run_in (n := n + 1) (h := h) hp2 (as := [.int c, .int many]) [some (.int c), some (.int many), none, none, none, none, none, none, none] rfl rfl
  obtain ⟨k0, hk0, hk0'⟩ := pos_mod c (m := 10) (by decide)
  obtain ⟨at', hat, _⟩ := pos_mod (c.fdiv 10) (m := 11) (by decide)
  obtain ⟨l1, h1, e1, base, v4, rfl, rfl, hbl, hba⟩ := forLoop_all (i := 4) (src := .rng 0 k0 1) (items := rngItems 0 k0 1) (body := fun l h => execSs ⟨semF p (n + 1), F⟩ b__law_names_1 l h)
    (fun k l h' => ∃ base v4, h' = h ∧ l = [some (.int c), some (.int many), some (.str signs), some (.str base), v4, none, none, none, none] ∧ base.length = k ∧ AllIn base) (fun k l h' _ => next_rng (by unfold sizeLim; omega)) (fun k v l h' hv ⟨base, v4, eh, el, hbl, hba⟩ => by
      obtain ⟨hk, rfl⟩ := up_item hv
      subst eh; subst el
      obtain ⟨c1, hc1, e1⟩ := sign_at ((mixed c k).fdiv 31)
      refine ⟨_, _, ?_, base ++ [c1], some (.int k), rfl, rfl, by rw [List.length_append, hbl]; rfl, hba.app (.one hc1)⟩
      simp only [b__law_names_1, ss_cons, ss_nil, s_expr, s_ret, s_asg, s_set, s_iff, s_whil, s_for, s_seta, x_none, x_bool, x_int, x_str, x_loc, x_bin, x_neg, x_not, x_and, x_or, x_cmp, x_cmp2, x_isn, x_call, x_bi, x_isi, x_new, x_im, x_bm, x_attr, x_slice, x_sub, x_tup, x_list, x_dict0, x_range, xs_nil, xs_cons, List.map_cons, List.map_nil, List.cons_append, List.nil_append, List.replicate, List.set, loc0, locS, okO_some, bok, sok, turn_next, turn_ret, boolO_some, heapO_some, notAV_bool, negAV_int, retR_ret, retR_next, cond_t, cond_f, condV_t, condV_f, cmpAnd_t, cmpAnd_f, b_add, b_sub, Bool.not_true, Bool.not_false, if_true, tup2, tup3, decide_true, decide_false, run_mixed (n := n) hp c k, b_div (y := 31) (by decide), b_mod (y := 36) (by decide), e1, b_adds (x := base) (y := [c1]) (len2 (by omega) (by show 1 ≤ 100; decide))]) (f := F)
    (l := [some (.int c), some (.int many), some (.str signs), some (.str []), none, none, none, none, none]) (h := h) (by rw [up_length]; omega) ⟨[], none, rfl, rfl, rfl, fun x hx => nomatch hx⟩
  rw [up_length] at hbl
  obtain ⟨l2, h2, e2, ns, v4', v7, v8, rfl, rfl, hnl, hng⟩ := forLoop_all (i := 4) (src := .rng 0 many 1) (items := rngItems 0 many 1) (body := fun l h => execSs ⟨semF p (n + 1), F⟩ b__law_names_2 l h)
    (fun k l h' => ∃ ns : List Nm, ∃ v4 v7 v8, h' = h1 ++ [.list (ns.map .str)] ∧ l = [some (.int c), some (.int many), some (.str signs), some (.str base), v4, some (.int at'), some (.loc h1.length), v7, v8] ∧ ns.length = k ∧ ∀ nm ∈ ns, Good nm) (fun k l h' _ => next_rng (by unfold sizeLim; omega)) (fun k v l h' hv ⟨ns, v4, v7, v8, eh, el, hnl, hng⟩ => by
      obtain ⟨hk, rfl⟩ := up_item hv
      subst eh; subst el
      obtain ⟨nm, G, v7', v8', e3⟩ := names_one (n := n) (F := F) (c := c) (m := 0) (base := base) (at' := at') (j := h1.length) (many := many) (k := k) (v7 := v7) (v8 := v8) (ns := ns) hp (by omega) hba get_new (by omega)
      rw [set_new] at e3
      exact ⟨_, _, e3, ns ++ [nm], some (.int k), v7', v8', rfl, rfl, by rw [List.length_append, hnl]; rfl, fun x hx => (List.mem_append.mp hx).elim (hng x) fun q => by cases List.mem_singleton.mp q; exact G⟩) (f := F)
    (l := [some (.int c), some (.int many), some (.str signs), some (.str base), v4, some (.int at'), some (.loc h1.length), none, none]) (h := h1 ++ [.list []]) (by rw [up_length]; omega) ⟨[], v4, none, none, rfl, rfl, rfl, fun nm hnm => nomatch hnm⟩
  rw [up_length] at hnl
  refine ⟨ns, hnl, hng, ?_⟩
  rw [e, d__law_names]
  simp only [ss_cons, ss_nil, s_expr, s_ret, s_asg, s_set, s_iff, s_whil, s_for, s_seta, x_none, x_bool, x_int, x_str, x_loc, x_bin, x_neg, x_not, x_and, x_or, x_cmp, x_cmp2, x_isn, x_call, x_bi, x_isi, x_new, x_im, x_bm, x_attr, x_slice, x_sub, x_tup, x_list, x_dict0, x_range, xs_nil, xs_cons, List.map_cons, List.map_nil, List.cons_append, List.nil_append, List.replicate, List.set, loc0, locS, okO_some, bok, sok, turn_next, turn_ret, boolO_some, heapO_some, notAV_bool, negAV_int, retR_ret, retR_next, cond_t, cond_f, condV_t, condV_f, cmpAnd_t, cmpAnd_f, b_add, b_sub, Bool.not_true, Bool.not_false, if_true, tup2, tup3, decide_true, decide_false, b_mod (y := 10) (by decide), b_div (y := 10) (by decide), b_mod (y := 11) (by decide), hk0, hat, range_up (show k0 ≤ 1000 by omega), range_up (show many ≤ 1000 by omega), e1, newList_ok (vs := []) (by show 0 ≤ _; exact Nat.zero_le _), e2]
end
end Mine

namespace Mine
open PySem Cu

noncomputable def d__law_asked : FDef := ⟨6, 9,
  (.cons (.iff (.cmp .eq (.bin .mod (.loc 5) (.int 4)) (.int 0))
    (.cons (.ret (.and (.cmp .eq (.im "homes" (.loc 0) (.cons (.loc 3) .nil)) (.sub (.loc 2) (.loc 3))) (.call "_law_tuple" (.cons (.sub (.im "homes" (.loc 0) (.cons (.loc 3) .nil)) (.int 1)) .nil))))
    .nil)
    .nil)
  (.cons (.iff (.cmp .eq (.bin .mod (.loc 5) (.int 4)) (.int 1))
    (.cons (.ret (.and (.cmp .eq (.im "at" (.loc 0) (.cons (.sub (.sub (.loc 2) (.loc 3)) (.int 0)) .nil)) (.bm .get (.loc 1) (.cons (.sub (.sub (.loc 2) (.loc 3)) (.int 0)) .nil))) (.cmp .eq (.im "at" (.loc 0) (.cons (.loc 4) .nil)) (.bm .get (.loc 1) (.cons (.loc 4) .nil)))))
    .nil)
    .nil)
  (.cons (.iff (.cmp .eq (.bin .mod (.loc 5) (.int 4)) (.int 2))
    (.cons (.asg 6 (.im "way" (.loc 0) (.cons (.loc 4) .nil)))
    (.cons (.ret (.and (.isi (.loc 6) .list) (.and (.call "_law_tuple" (.cons (.sub (.loc 6) (.neg (.int 1))) .nil)) (.cmp .eq (.loc 6) (.call "_law_way" (.cons (.loc 1) (.cons (.loc 2) (.cons (.loc 4) .nil))))))))
    .nil))
    .nil)
  (.cons (.asg 7 (.im "names" (.loc 0) .nil))
  (.cons (.asg 8 (.comp (.sub (.loc 1) (.loc 9)) 1 9 (.bi .sorted (.cons (.bi .list (.cons (.loc 1) .nil)) .nil)) .nil))
  (.cons (.ret (.and (.isi (.loc 7) .list) (.and (.cmp .eq (.loc 7) (.loc 8)) (.cmp .eq (.im "many" (.loc 0) .nil) (.bi .len (.cons (.loc 1) .nil))))))
  .nil))))))⟩

structure Has4 (p : Prog) : Prop extends HasT p where
  at' : Prog.has p "at" d_at
  way : Prog.has p "way" d_way
  put_at : Prog.has p "put_at" d_put_at
  names : Prog.has p "names" d_names
  many : Prog.has p "many" d_many
  init : Prog.has p "__init__" d__init_
  cell : Prog.has p "_law_cell_at" d__law_cell_at
  mixed : Prog.has p "_law_mixed" d__law_mixed
  room : Prog.has p "_law_room" d__law_room
  lnames : Prog.has p "_law_names" d__law_names
  home : Prog.has p "_law_home" d__law_home
  other : Prog.has p "_law_other" d__law_other
  lway : Prog.has p "_law_way" d__law_way
  table : Prog.has p "_law_table" d__law_table
  homes : Prog.has p "_law_homes" d__law_homes
  tuple : Prog.has p "_law_tuple" d__law_tuple

/-- a table, what the law holds beside it, and the homes -/
structure Sit (h : AHeap) (t d e a i : Nat) (T : Tb) (st : St') (th : Th) (ns : List Nm) : Prop where
  ok : T.Ok
  tab : TabAt h t T d e
  fd : ∃ ep, h[d]? = some (.dict (stK st) ep)
  fe : ∃ ep, h[e]? = some (.dict (thK th) ep)
  fa : ∃ ep, h[a]? = some (.dict (stK st) ep)
  hi : HomesAt h i T ns
  so : StOk st
  hns : ∀ s nm, st.lookup s = some nm → nm ∈ ns
  good : ∀ nm ∈ ns, Good nm
  len : st.length < 64
  hth : th.length = st.length
section
variable {p : Prog} {n : Nat} {h : AHeap} {t d e a i : Nat} {T : Tb} {st : St'} {th : Th} {ns : List Nm}
theorem Sit.more {g : AHeap} (S : Sit h t d e a i T st th ns) : Sit (h ++ g) t d e a i T st th ns :=
  ⟨S.ok, S.tab.more, S.fd.imp fun _ => get_old, S.fe.imp fun _ => get_old, S.fa.imp fun _ => get_old, S.hi.more, S.so, S.hns, S.good, S.len, S.hth⟩
theorem Sit.run_homes (S : Sit h t d e a i T st th ns) (H : Has4 p) {nm : Nm} (hn : nm ∈ ns) : semF p (n + 4) "homes" [.loc t, .str nm] h = .ok (T.homes nm) h := Mine.run_homes (n := n + 1) H.a H.d H.b H.g S.ok S.tab (S.good nm hn)
theorem Sit.run_at (S : Sit h t d e a i T st th ns) (H : Has4 p) {s : Seat} (hs : T.In s) : semF p (n + 4) "at" [.loc t, sv s] h = .ok (optS (st.lookup s)) h := let ⟨_, hd⟩ := S.fd; run_at' (n := n + 1) H.c H.i H.at' S.tab hd hs
theorem Sit.run_way (S : Sit h t d e a i T st th ns) (H : Has4 p) {s : Seat} (hs : T.In s) : semF p (n + 4) "way" [.loc t, sv s] h = .ok (.loc h.length) (h ++ [.list ((wayOf T.hm st s).map sv)]) :=
  let ⟨_, hd⟩ := S.fd; Mine.run_way (n := n) H.toHasT H.way S.ok S.so S.tab hd (by have := S.len; omega) hs
theorem Sit.law_way (S : Sit h t d e a i T st th ns) (H : Has4 p) {s : Seat} : semF p (n + 4) "_law_way" [.loc a, .loc i, sv s] h = .ok (.loc h.length) (h ++ [.list ((wayOf T.hm st s).map sv)]) :=
  let ⟨_, ha⟩ := S.fa; run_law_way (n := n + 2) H.other H.lway S.so S.hns ha S.hi (by have := S.len; omega)
theorem Sit.names (S : Sit h t d e a i T st th ns) (H : Has4 p) : semF p (n + 4) "names" [.loc t] h = .ok (.loc (h.length + 1)) (h ++ [.list ((sortK (keysOf st)).map sv), .list ((namesOf st).map .str)]) :=
  let ⟨_, hd⟩ := S.fd; run_names (n := n + 3) H.names S.tab hd S.len
theorem Sit.many (S : Sit h t d e a i T st th ns) (H : Has4 p) : semF p (n + 4) "many" [.loc t] h = .ok (.int st.length) h := by
  obtain ⟨_, he⟩ := S.fe
  rw [run_many (n := n + 3) H.many S.tab he, S.hth]
theorem Sit.got1 (S : Sit h t d e a i T st th ns) : bmOk .get (.loc a) h = true := let ⟨_, ha⟩ := S.fa; bmOk_get ha
theorem Sit.got2 (S : Sit h t d e a i T st th ns) (s : Seat) : bmAV .get (.loc a) [sv s] h = .ok (optS (st.lookup s)) h := let ⟨_, ha⟩ := S.fa; get_st ha
theorem get_2a {x y : AObj} : (h ++ [x, y])[h.length]? = some x := by rw [List.getElem?_append_right (Nat.le_refl _), Nat.sub_self]; rfl
theorem get_2b {x y : AObj} : (h ++ [x, y])[h.length + 1]? = some y := by rw [List.getElem?_append_right (by omega), Nat.add_sub_cancel_left]; rfl
theorem set_2b {x y z : AObj} : (h ++ [x, y]).set (h.length + 1) z = h ++ [x, z] := by rw [List.set_append_right _ _ (by omega), Nat.add_sub_cancel_left]; rfl
/-- the names of what the law holds, by the nests in order -/
theorem Sit.due (S : Sit h t d e a i T st th ns) {c : Ctx} {l : Locs} {k m : Nat} (hk : locAt l k = some (.loc a)) (hm : m = l.length) (hkl : k < l.length) (hF : 2000 < c.fuel) :
    evalX c (.comp (.sub (.loc k) (.loc m)) 1 m (.bi .sorted (.cons (.bi .list (.cons (.loc k) .nil)) .nil)) .nil) l h =
      .ok (.loc (h.length + 2)) (h ++ [.list ((keysOf st).map sv), .list ((sortK (keysOf st)).map sv), .list ((namesOf st).map .str)]) := by
  subst hm
  obtain ⟨ep, ha⟩ := S.fa
  have hlen := S.len
  have hk' : (keysOf st).length < 64 := by rw [keys_len]; exact hlen
  have n1 : biAV .list [.loc a] h = .ok (.loc h.length) (h ++ [.list ((keysOf st).map sv)]) := list_ok (walk_st ha) (by rw [List.length_map]; unfold sizeLim; omega)
  have n2 : biAV .sorted [.loc h.length] (h ++ [.list ((keysOf st).map sv)]) = .ok (.loc (h.length + 1)) (h ++ [.list ((keysOf st).map sv), .list ((sortK (keysOf st)).map sv)]) := by
    rw [sorted_ok (walk_list get_new) hk', List.append_assoc, List.length_append]; rfl
  have hin : ∀ v, locAt (inner l 1 l.length v) k = some (.loc a) := fun v => by
    rw [inner_at]
    delta locAt at hk ⊢
    rw [List.getElem?_append_left hkl]; exact hk
  have hin2 : ∀ v, locAt (inner l 1 l.length v) l.length = some v := fun v => by
    rw [inner_at]
    delta locAt
    rw [List.getElem?_concat_length]
  have e2 := names_loop (i := a) (ep := ep) (h := h ++ [.list ((keysOf st).map sv), .list ((sortK (keysOf st)).map sv)]) (j := h.length + 1) (body := fun v h => (evalX c (.sub (.loc k) (.loc l.length)) (inner l 1 l.length v) h).bind fun x h => .ok (some x) h) get_2b hlen (fun s nm hnm => by
    simp only [x_sub, x_loc, hin, hin2, okO_some, bok, st_get (get_old ha) hnm]) (f := c.fuel) hF
  simp only [x_comp0, x_bi, xs_cons, xs_nil, x_loc, hk, okO_some, bok, n1, n2]
  rw [e2, bok, newList_ok (by rw [List.length_map, namesOf, List.length_map]; have := sortK_len hk'; unfold sizeLim; omega), List.append_assoc, List.length_append]
  rfl

theorem eq_opt {o : Option Nm} : cmpAV h .eq (optS o) (optS o) = some true := by
  cases o with
  | none => rfl
  | some x => show some (decide (x = x)) = _; rw [decide_eq_true rfl]
theorem eq_homes {nm : Nm} : cmpAV h .eq (T.homes nm) (T.homes nm) = some true := by
  show eqAll (eqv h 5) [sv _, sv _] [sv _, sv _] = _
  simp only [eqAll, eqv_pair' (n := 3), decide_true, Bool.and_true]
theorem ty_list {j : Nat} {x : List AV} (hj : h[j]? = some (.list x)) : isTy h (.loc j) .list = some true := by
  show (listAt h j).map _ = _
  rw [listAt_of hj]; rfl
theorem len_dict {j ep : Nat} (hj : h[j]? = some (.dict (stK st) ep)) : biAV .len [.loc j] h = .ok (.int st.length) h := by
  show lenAV (.loc j) h = _
  delta lenAV; dsimp only; rw [hj]; dsimp only; rw [stK, mk_length]

theorem Sit.asked (S : Sit h t d e a i T st th ns) (H : Has4 p) (hp : Prog.has p "_law_asked" d__law_asked) {nm : Nm} (hn : nm ∈ ns) {s : Seat} (hs : T.In s) (turn : Int) : ∃ g, semF p (n + 5) "_law_asked" [.loc t, .loc a, .loc i, .str nm, sv s, .int turn] h = .ok (.bool true) (h ++ g) := by
  obtain ⟨F, hF, e1⟩ := run_in (n := n + 4) (h := h) hp (as := [.loc t, .loc a, .loc i, .str nm, sv s, .int turn]) [some (.loc t), some (.loc a), some (.loc i), some (.str nm), some (sv s), some (.int turn), none, none, none] rfl rfl
  have hb := fmod_bound turn (m := 4) (by decide)
  have hh0 := Tb.hm_in S.ok (S.good nm hn) (r := 0) (.inl rfl)
  have ho0 : ∀ h : AHeap, subAV (T.homes nm) (.int 0) h = .ok (sv (T.hm nm 0)) h := fun _ => rfl
  have ho1 : ∀ h : AHeap, subAV (T.homes nm) (.int 1) h = .ok (sv (T.hm nm 1)) h := fun _ => rfl
  have hcase : turn.fmod 4 = 0 ∨ turn.fmod 4 = 1 ∨ turn.fmod 4 = 2 ∨ turn.fmod 4 = 3 := by omega
  rw [e1, d__law_asked]
  rcases hcase with q | q | q | q
  · refine ⟨[], ?_⟩
    simp only [ss_cons, ss_nil, s_expr, s_ret, s_asg, s_set, s_iff, s_whil, s_for, s_seta, x_none, x_bool, x_int, x_str, x_loc, x_bin, x_neg, x_not, x_and, x_or, x_cmp, x_cmp2, x_isn, x_call, x_bi, x_isi, x_new, x_im, x_bm, x_attr, x_slice, x_sub, x_tup, x_list, x_dict0, x_range, xs_nil, xs_cons, List.map_cons, List.map_nil, List.cons_append, List.nil_append, List.replicate, List.set, loc0, locS, okO_some, bok, sok, turn_next, turn_ret, boolO_some, heapO_some, notAV_bool, negAV_int, retR_ret, retR_next, cond_t, cond_f, condV_t, condV_f, cmpAnd_t, cmpAnd_f, b_add, b_sub, Bool.not_true, Bool.not_false, if_true, tup2, tup3, decide_true, decide_false, b_mod (y := 4) (by decide), q, c_eqi, decide_eq_true (rfl : (0 : Int) = 0), S.tab.meth (m := "homes") rfl, S.run_homes H hn, S.hi.get hn, eq_homes, ho1, run_law_tuple (n := n + 3) H.tuple, List.append_nil]
  · refine ⟨[], ?_⟩
    have d0 : decide ((1 : Int) = 0) = false := rfl
    have d1 : decide ((1 : Int) = 1) = true := rfl
    simp only [ss_cons, ss_nil, s_expr, s_ret, s_asg, s_set, s_iff, s_whil, s_for, s_seta, x_none, x_bool, x_int, x_str, x_loc, x_bin, x_neg, x_not, x_and, x_or, x_cmp, x_cmp2, x_isn, x_call, x_bi, x_isi, x_new, x_im, x_bm, x_attr, x_slice, x_sub, x_tup, x_list, x_dict0, x_range, xs_nil, xs_cons, List.map_cons, List.map_nil, List.cons_append, List.nil_append, List.replicate, List.set, loc0, locS, okO_some, bok, sok, turn_next, turn_ret, boolO_some, heapO_some, notAV_bool, negAV_int, retR_ret, retR_next, cond_t, cond_f, condV_t, condV_f, cmpAnd_t, cmpAnd_f, b_add, b_sub, Bool.not_true, Bool.not_false, if_true, tup2, tup3, decide_true, decide_false, b_mod (y := 4) (by decide), q, c_eqi, d0, d1, S.tab.meth (m := "at") rfl, S.hi.get hn, ho0, S.run_at H hh0, S.got1, S.got2, eq_opt, S.run_at H hs, List.append_nil]
  · refine ⟨[.list ((wayOf T.hm st s).map sv)] ++ [.list ((wayOf T.hm st s).map sv)], ?_⟩
    rw [← List.append_assoc]
    have d0 : decide ((2 : Int) = 0) = false := rfl
    have d1 : decide ((2 : Int) = 1) = false := rfl
    have d2 : decide ((2 : Int) = 2) = true := rfl
    have W := wayOf_way (hm := T.hm) st s
    obtain ⟨sl, hsl⟩ := W.last
    have hws := W.short
    have hlen := S.len
    have g1 : (h ++ [.list ((wayOf T.hm st s).map sv)])[h.length]? = some (.list ((wayOf T.hm st s).map sv)) := get_new
    have eqL := eq_lists (g := sv) (h := h ++ [.list ((wayOf T.hm st s).map sv)] ++ [.list ((wayOf T.hm st s).map sv)]) (get_old g1) get_new (fun a b => eqv_pair' (n := 3) a b)
    rw [decide_eq_true rfl] at eqL
    simp only [ss_cons, ss_nil, s_expr, s_ret, s_asg, s_set, s_iff, s_whil, s_for, s_seta, x_none, x_bool, x_int, x_str, x_loc, x_bin, x_neg, x_not, x_and, x_or, x_cmp, x_cmp2, x_isn, x_call, x_bi, x_isi, x_new, x_im, x_bm, x_attr, x_slice, x_sub, x_tup, x_list, x_dict0, x_range, xs_nil, xs_cons, List.map_cons, List.map_nil, List.cons_append, List.nil_append, List.replicate, List.set, loc0, locS, okO_some, bok, sok, turn_next, turn_ret, boolO_some, heapO_some, notAV_bool, negAV_int, retR_ret, retR_next, cond_t, cond_f, condV_t, condV_f, cmpAnd_t, cmpAnd_f, b_add, b_sub, Bool.not_true, Bool.not_false, if_true, tup2, tup3, decide_true, decide_false, b_mod (y := 4) (by decide), q, c_eqi, d0, d1, d2, S.tab.meth (m := "way") rfl, S.run_way H hs, ty_list g1, last_sub (by omega) g1 hsl, run_law_tuple (n := n + 3) H.tuple, S.more.law_way H, eqL]
  · have d0 : decide ((3 : Int) = 0) = false := rfl
    have d1 : decide ((3 : Int) = 1) = false := rfl
    have d2 : decide ((3 : Int) = 2) = false := rfl
    have S2 := S.more (g := [.list ((sortK (keysOf st)).map sv), .list ((namesOf st).map .str)])
    have due := S2.due (c := ⟨semF p (n + 4), F⟩) (l := [some (.loc t), some (.loc a), some (.loc i), some (.str nm), some (sv s), some (.int turn), none, some (.loc (h.length + 1)), none]) (k := 1) (m := 9) rfl rfl (by show 1 < 9; decide) (by show 2000 < F; omega)
    have g1 : (h ++ [.list ((sortK (keysOf st)).map sv), .list ((namesOf st).map .str)])[h.length + 1]? = some (.list ((namesOf st).map .str)) := get_2b
    generalize hh2 : h ++ [.list ((sortK (keysOf st)).map sv), .list ((namesOf st).map .str)] = h2 at S2 due g1
    have g2 : (h2 ++ [.list ((keysOf st).map sv), .list ((sortK (keysOf st)).map sv), .list ((namesOf st).map .str)])[h2.length + 2]? = some (.list ((namesOf st).map .str)) := by
      rw [List.getElem?_append_right (by omega), Nat.add_sub_cancel_left]; rfl
    have S3 := S2.more (g := [.list ((keysOf st).map sv), .list ((sortK (keysOf st)).map sv), .list ((namesOf st).map .str)])
    have g1' := get_old (g := [.list ((keysOf st).map sv), .list ((sortK (keysOf st)).map sv), .list ((namesOf st).map .str)]) g1
    have eqL := eq_lists (g := AV.str) g1' g2 (fun a b => rfl)
    rw [decide_eq_true rfl] at eqL
    obtain ⟨ep, ha3⟩ := S3.fa
    refine ⟨[.list ((sortK (keysOf st)).map sv), .list ((namesOf st).map .str)] ++ [.list ((keysOf st).map sv), .list ((sortK (keysOf st)).map sv), .list ((namesOf st).map .str)], ?_⟩
    rw [← List.append_assoc, hh2]
    simp only [ss_cons, ss_nil, s_expr, s_ret, s_asg, s_set, s_iff, s_whil, s_for, s_seta, x_none, x_bool, x_int, x_str, x_loc, x_bin, x_neg, x_not, x_and, x_or, x_cmp, x_cmp2, x_isn, x_call, x_bi, x_isi, x_new, x_im, x_bm, x_attr, x_slice, x_sub, x_tup, x_list, x_dict0, x_range, xs_nil, xs_cons, List.map_cons, List.map_nil, List.cons_append, List.nil_append, List.replicate, List.set, loc0, locS, okO_some, bok, sok, turn_next, turn_ret, boolO_some, heapO_some, notAV_bool, negAV_int, retR_ret, retR_next, cond_t, cond_f, condV_t, condV_f, cmpAnd_t, cmpAnd_f, b_add, b_sub, Bool.not_true, Bool.not_false, if_true, tup2, tup3, decide_true, decide_false, b_mod (y := 4) (by decide), q, c_eqi, d0, d1, d2, S.tab.meth (m := "names") rfl, S.names H, hh2, due, ty_list g1', eqL, S3.tab.meth (m := "many") rfl, S3.many H, len_dict ha3, decide_eq_true (rfl : (st.length : Int) = st.length)]
end
end Mine

namespace Mine
open PySem Cu

section
variable {p : Prog} {n : Nat} {h : AHeap} {t d e a i : Nat} {T : Tb} {st : St'} {th : Th} {ns : List Nm}
theorem TabAt.set {j : Nat} {kvs kvs' : List (Key × AV)} {ep ep' : Nat} (x : TabAt h t T d e) (hj : h[j]? = some (.dict kvs ep)) : TabAt (h.set j (.dict kvs' ep')) t T d e := by
  obtain ⟨k, h1, h2⟩ := x.inst
  refine ⟨k, get_other h1 ?_, get_other h2 ?_⟩
  · rintro rfl; rw [hj] at h1; cases h1
  · rintro rfl; rw [hj] at h2; cases h2
theorem th_in {j ep : Nat} {nm : Nm} (hj : h[j]? = some (.dict (thK th) ep)) : cmpAV h .isin (.str nm) (.loc j) = some (th.lookup nm).isSome := by
  rw [in_dict' hj (str_key nm) thK_sort, thK_at, Option.isSome_map]
theorem st_set {j ep : Nat} {s : Seat} {nm : Nm} (hj : h[j]? = some (.dict (stK st) ep)) (hl : st.length < sizeLim) (hs : st.lookup s = none) : ∃ ep', setItemAV (.loc j) (sv s) (.str nm) h = some (h.set j (.dict (stK (st ++ [(s, nm)])) ep')) := by
  obtain ⟨ep', e⟩ := set_dict (v := .str nm) hj (sv_key s) stK_sort (by rw [stK, mk_length]; exact hl)
  rw [stK_put, put_new hs] at e
  exact ⟨ep', e⟩
theorem th_set {j ep : Nat} {nm : Nm} {v : Int} (hj : h[j]? = some (.dict (thK th) ep)) (hl : th.length < sizeLim) (hs : th.lookup nm = none) : ∃ ep', setItemAV (.loc j) (.str nm) (.int v) h = some (h.set j (.dict (thK (th ++ [(nm, v)])) ep')) := by
  obtain ⟨ep', e⟩ := set_dict (v := .int v) hj (str_key nm) thK_sort (by rw [thK, mk_length]; exact hl)
  rw [thK_put, put_new hs] at e
  exact ⟨ep', e⟩
theorem in_homes {nm : Nm} {r : Int} (hr : r = 0 ∨ r = 1) : cmpAV h .notin (sv (T.hm nm r)) (T.homes nm) = some false := by
  rw [show T.homes nm = .tup ([T.hm nm 0, T.hm nm 1].map sv) from rfl, notin_tup]
  rcases hr with rfl | rfl <;> simp

theorem run_put_at (H : HasT p) (hp : Prog.has p "put_at" d_put_at) (ok : T.Ok) (x : TabAt h t T d e) {ep1 ep2 : Nat} (hd : h[d]? = some (.dict (stK st) ep1)) (he : h[e]? = some (.dict (thK th) ep2)) (hde : d ≠ e) (hl1 : st.length < sizeLim) (hl2 : th.length < sizeLim)
    {nm : Nm} (G : Good nm) {v : Int} (v1 : -1000000000 ≤ v) (v2 : v ≤ 1000000000) {r : Int} (hr : r = 0 ∨ r = 1) (hs : st.lookup (T.hm nm r) = none) (hn : th.lookup nm = none) :
    ∃ ep3 ep4, semF p (n + 4) "put_at" [.loc t, .str nm, .int v, sv (T.hm nm r)] h = .ok .none ((h.set d (.dict (stK (st ++ [(T.hm nm r, nm)])) ep3)).set e (.dict (thK (th ++ [(nm, v)])) ep4)) := by
  obtain ⟨F, hF, e1⟩ := run_in (n := n + 3) (h := h) hp (as := [.loc t, .str nm, .int v, sv (T.hm nm r)]) [some (.loc t), some (.str nm), some (.int v), some (sv (T.hm nm r))] rfl rfl
  obtain ⟨ep3, s1⟩ := st_set (nm := nm) hd hl1 hs
  have x' := x.set (kvs' := stK (st ++ [(T.hm nm r, nm)])) (ep' := ep3) hd
  obtain ⟨ep4, s2⟩ := th_set (h := h.set d (.dict (stK (st ++ [(T.hm nm r, nm)])) ep3)) (v := v) (get_other he hde) hl2 hn
  refine ⟨ep3, ep4, ?_⟩
  rw [e1, d_put_at]
  refine (congrArg retR ((ss_step (l' := [some (.loc t), some (.str nm), some (.int v), some (sv (T.hm nm r))]) (h' := h) ?_).trans ((ss_step (l' := [some (.loc t), some (.str nm), some (.int v), some (sv (T.hm nm r))]) (h' := h) ?_).trans ((ss_step (l' := [some (.loc t), some (.str nm), some (.int v), some (sv (T.hm nm r))]) (h' := h) ?_).trans
    ((ss_step (l' := [some (.loc t), some (.str nm), some (.int v), some (sv (T.hm nm r))]) (h' := h) ?_).trans ((ss_step (l' := [some (.loc t), some (.str nm), some (.int v), some (sv (T.hm nm r))]) (h' := h) ?_).trans ((ss_step (l' := [some (.loc t), some (.str nm), some (.int v), some (sv (T.hm nm r))]) (h' := h) ?_).trans
    ((ss_step (l' := [some (.loc t), some (.str nm), some (.int v), some (sv (T.hm nm r))]) (h' := h.set d (.dict (stK (st ++ [(T.hm nm r, nm)])) ep3)) ?_).trans rfl)))))))).trans ?_
  · simp only [ss_cons, ss_nil, s_expr, s_ret, s_asg, s_set, s_iff, s_whil, s_for, s_seta, x_none, x_bool, x_int, x_str, x_loc, x_bin, x_neg, x_not, x_and, x_or, x_cmp, x_cmp2, x_isn, x_call, x_bi, x_isi, x_new, x_im, x_bm, x_attr, x_slice, x_sub, x_tup, x_list, x_dict0, x_range, xs_nil, xs_cons, List.map_cons, List.map_nil, List.cons_append, List.nil_append, List.replicate, List.set, loc0, locS, okO_some, bok, sok, turn_next, turn_ret, boolO_some, heapO_some, notAV_bool, negAV_int, retR_ret, retR_next, cond_t, cond_f, condV_t, condV_f, cmpAnd_t, cmpAnd_f, b_add, b_sub, Bool.not_true, Bool.not_false, if_true, tup2, tup3, decide_true, decide_false, run_need_name (n := n + 1) H.a H.d G]
  · simp only [ss_cons, ss_nil, s_expr, s_ret, s_asg, s_set, s_iff, s_whil, s_for, s_seta, x_none, x_bool, x_int, x_str, x_loc, x_bin, x_neg, x_not, x_and, x_or, x_cmp, x_cmp2, x_isn, x_call, x_bi, x_isi, x_new, x_im, x_bm, x_attr, x_slice, x_sub, x_tup, x_list, x_dict0, x_range, xs_nil, xs_cons, List.map_cons, List.map_nil, List.cons_append, List.nil_append, List.replicate, List.set, loc0, locS, okO_some, bok, sok, turn_next, turn_ret, boolO_some, heapO_some, notAV_bool, negAV_int, retR_ret, retR_next, cond_t, cond_f, condV_t, condV_f, cmpAnd_t, cmpAnd_f, b_add, b_sub, Bool.not_true, Bool.not_false, if_true, tup2, tup3, decide_true, decide_false, run_need_value (n := n + 1) H.c H.f v1 v2]
  · simp only [ss_cons, ss_nil, s_expr, s_ret, s_asg, s_set, s_iff, s_whil, s_for, s_seta, x_none, x_bool, x_int, x_str, x_loc, x_bin, x_neg, x_not, x_and, x_or, x_cmp, x_cmp2, x_isn, x_call, x_bi, x_isi, x_new, x_im, x_bm, x_attr, x_slice, x_sub, x_tup, x_list, x_dict0, x_range, xs_nil, xs_cons, List.map_cons, List.map_nil, List.cons_append, List.nil_append, List.replicate, List.set, loc0, locS, okO_some, bok, sok, turn_next, turn_ret, boolO_some, heapO_some, notAV_bool, negAV_int, retR_ret, retR_next, cond_t, cond_f, condV_t, condV_f, cmpAnd_t, cmpAnd_f, b_add, b_sub, Bool.not_true, Bool.not_false, if_true, tup2, tup3, decide_true, decide_false, x.thg, th_in he, hn, Option.isSome_none]
  · simp only [ss_cons, ss_nil, s_expr, s_ret, s_asg, s_set, s_iff, s_whil, s_for, s_seta, x_none, x_bool, x_int, x_str, x_loc, x_bin, x_neg, x_not, x_and, x_or, x_cmp, x_cmp2, x_isn, x_call, x_bi, x_isi, x_new, x_im, x_bm, x_attr, x_slice, x_sub, x_tup, x_list, x_dict0, x_range, xs_nil, xs_cons, List.map_cons, List.map_nil, List.cons_append, List.nil_append, List.replicate, List.set, loc0, locS, okO_some, bok, sok, turn_next, turn_ret, boolO_some, heapO_some, notAV_bool, negAV_int, retR_ret, retR_next, cond_t, cond_f, condV_t, condV_f, cmpAnd_t, cmpAnd_f, b_add, b_sub, Bool.not_true, Bool.not_false, if_true, tup2, tup3, decide_true, decide_false, x.meth (m := "need_nest") rfl, run_need_nest (n := n + 1) H.c H.i x (Tb.hm_in ok G hr)]
  · simp only [ss_cons, ss_nil, s_expr, s_ret, s_asg, s_set, s_iff, s_whil, s_for, s_seta, x_none, x_bool, x_int, x_str, x_loc, x_bin, x_neg, x_not, x_and, x_or, x_cmp, x_cmp2, x_isn, x_call, x_bi, x_isi, x_new, x_im, x_bm, x_attr, x_slice, x_sub, x_tup, x_list, x_dict0, x_range, xs_nil, xs_cons, List.map_cons, List.map_nil, List.cons_append, List.nil_append, List.replicate, List.set, loc0, locS, okO_some, bok, sok, turn_next, turn_ret, boolO_some, heapO_some, notAV_bool, negAV_int, retR_ret, retR_next, cond_t, cond_f, condV_t, condV_f, cmpAnd_t, cmpAnd_f, b_add, b_sub, Bool.not_true, Bool.not_false, if_true, tup2, tup3, decide_true, decide_false, x.meth (m := "homes") rfl, run_homes (n := n) H.a H.d H.b H.g ok x G, in_homes hr]
  · simp only [ss_cons, ss_nil, s_expr, s_ret, s_asg, s_set, s_iff, s_whil, s_for, s_seta, x_none, x_bool, x_int, x_str, x_loc, x_bin, x_neg, x_not, x_and, x_or, x_cmp, x_cmp2, x_isn, x_call, x_bi, x_isi, x_new, x_im, x_bm, x_attr, x_slice, x_sub, x_tup, x_list, x_dict0, x_range, xs_nil, xs_cons, List.map_cons, List.map_nil, List.cons_append, List.nil_append, List.replicate, List.set, loc0, locS, okO_some, bok, sok, turn_next, turn_ret, boolO_some, heapO_some, notAV_bool, negAV_int, retR_ret, retR_next, cond_t, cond_f, condV_t, condV_f, cmpAnd_t, cmpAnd_f, b_add, b_sub, Bool.not_true, Bool.not_false, if_true, tup2, tup3, decide_true, decide_false, x.std, st_in hd, hs, Option.isSome_none]
  · simp only [ss_cons, ss_nil, s_expr, s_ret, s_asg, s_set, s_iff, s_whil, s_for, s_seta, x_none, x_bool, x_int, x_str, x_loc, x_bin, x_neg, x_not, x_and, x_or, x_cmp, x_cmp2, x_isn, x_call, x_bi, x_isi, x_new, x_im, x_bm, x_attr, x_slice, x_sub, x_tup, x_list, x_dict0, x_range, xs_nil, xs_cons, List.map_cons, List.map_nil, List.cons_append, List.nil_append, List.replicate, List.set, loc0, locS, okO_some, bok, sok, turn_next, turn_ret, boolO_some, heapO_some, notAV_bool, negAV_int, retR_ret, retR_next, cond_t, cond_f, condV_t, condV_f, cmpAnd_t, cmpAnd_f, b_add, b_sub, Bool.not_true, Bool.not_false, if_true, tup2, tup3, decide_true, decide_false, x.std, s1]
  · simp only [ss_cons, ss_nil, s_expr, s_ret, s_asg, s_set, s_iff, s_whil, s_for, s_seta, x_none, x_bool, x_int, x_str, x_loc, x_bin, x_neg, x_not, x_and, x_or, x_cmp, x_cmp2, x_isn, x_call, x_bi, x_isi, x_new, x_im, x_bm, x_attr, x_slice, x_sub, x_tup, x_list, x_dict0, x_range, xs_nil, xs_cons, List.map_cons, List.map_nil, List.cons_append, List.nil_append, List.replicate, List.set, loc0, locS, okO_some, bok, sok, turn_next, turn_ret, boolO_some, heapO_some, notAV_bool, negAV_int, retR_ret, retR_next, cond_t, cond_f, condV_t, condV_f, cmpAnd_t, cmpAnd_f, b_add, b_sub, Bool.not_true, Bool.not_false, if_true, tup2, tup3, decide_true, decide_false, x'.thg, s2]
end
noncomputable def b_law_1 : Ss :=
  (.cons (.iff (.not (.call "_law_asked" (.cons (.loc 2) (.cons (.loc 5) (.cons (.loc 4) (.cons (.loc 10) (.cons (.loc 12) (.cons (.bin .add (.loc 13) (.bin .mod (.bin .div (.loc 9) (.int 48)) (.int 4))) .nil))))))))
    (.cons (.ret (.bool false))
    .nil)
    .nil)
  .nil)
noncomputable def q1 : S := (.asg 9 (.call "_law_mixed" (.cons (.loc 8) (.cons (.bi .len (.cons (.loc 6) .nil)) .nil))))
noncomputable def q2 : S := (.asg 10 (.sub (.loc 3) (.bin .mod (.loc 9) (.int 24))))
noncomputable def q3 : S := (.asg 11 (.sub (.sub (.loc 4) (.loc 10)) (.bin .mod (.bin .div (.loc 9) (.int 24)) (.int 2))))
noncomputable def q4 : S := (.iff (.and (.cmp .notin (.loc 11) (.loc 5)) (.cmp .notin (.loc 10) (.comp (.sub (.loc 5) (.loc 14)) 1 14 (.bi .list (.cons (.loc 5) .nil)) .nil)))
    (.cons (.expr (.im "put_at" (.loc 2) (.cons (.loc 10) (.cons (.bin .mod (.bin .div (.loc 9) (.int 48)) (.int 9)) (.cons (.loc 11) .nil)))))
    (.cons (.setitem (.loc 5) (.loc 11) (.loc 10))
    .nil))
    .nil)
noncomputable def q5 : S := (.asg 12 (.tup (.cons (.bin .mod (.bin .div (.loc 9) (.int 500)) (.int 2)) (.cons (.bin .mod (.bin .div (.loc 9) (.int 1000)) (.sub (.loc 1) (.int 0))) .nil))))
noncomputable def q6 : S := (.iff (.cmp .gt (.bin .mod (.bin .div (.loc 9) (.int 96)) (.int 3)) (.int 0))
    (.cons (.asg 12 (.loc 11))
    .nil)
    .nil)
noncomputable def q7 : S := (.forr 13 (.range (.cons (.int 4) .nil)) b_law_1)
noncomputable def q8 : S := (.expr (.bm .append (.im "way" (.loc 2) (.cons (.loc 12) .nil)) (.cons (.tup (.cons (.int 9) (.cons (.int 9) .nil))) .nil)))
noncomputable def q9 : S := (.expr (.bm .append (.im "names" (.loc 2) .nil) (.cons (.str []) .nil)))
noncomputable def q10 : S := (.expr (.bm .append (.loc 6) (.cons (.im "way" (.loc 2) (.cons (.loc 12) .nil)) .nil)))
noncomputable def q11 : S := (.iff (.or (.cmp .ne (.sub (.loc 6) (.neg (.int 1))) (.call "_law_way" (.cons (.loc 5) (.cons (.loc 4) (.cons (.loc 12) .nil))))) (.cmp .ne (.im "names" (.loc 2) .nil) (.comp (.sub (.loc 5) (.loc 14)) 1 14 (.bi .sorted (.cons (.bi .list (.cons (.loc 5) .nil)) .nil)) .nil)))
    (.cons (.ret (.bool false))
    .nil)
    .nil)
noncomputable def q12 : S := (.expr (.bm .append (.loc 7) (.cons (.bi .list (.cons (.sub (.loc 6) (.neg (.int 1))) .nil)) .nil)))
noncomputable def b_law_2 : Ss := (.cons q1 (.cons q2 (.cons q3 (.cons q4 (.cons q5 (.cons q6 (.cons q7 (.cons q8 (.cons q9 (.cons q10 (.cons q11 (.cons q12 .nil))))))))))))
noncomputable def r1 : S := (.asg 1 (.call "_law_table" (.cons (.loc 0) .nil)))
noncomputable def r2 : S := (.asg 2 (.new (.cons (.sub (.loc 1) (.int 0)) (.cons (.sub (.loc 1) (.int 1)) (.cons (.sub (.loc 1) (.int 2)) .nil)))))
noncomputable def r3 : S := (.asg 3 (.call "_law_names" (.cons (.call "_law_cell_at" (.cons (.loc 0) (.cons (.int 3) .nil))) (.cons (.int 24) .nil))))
noncomputable def r4 : S := (.asg 4 (.call "_law_homes" (.cons (.loc 3) (.cons (.loc 1) .nil))))
noncomputable def r5 : S := (.asg 5 .dict0)
noncomputable def r6 : S := (.asg 6 (.list .nil))
noncomputable def r7 : S := (.asg 7 (.list .nil))
noncomputable def r8 : S := (.forr 8 (.slice (.loc 0) (.int 4) (.bin .add (.int 4) (.call "_law_room" (.cons (.loc 0) (.cons (.int 20) (.cons (.int 60) .nil)))))) b_law_2)
noncomputable def r9 : S := (.ret (.and (.cmp .eq (.loc 6) (.loc 7)) (.cmp .eq (.tup (.cons (.attr "count" (.loc 2)) (.cons (.attr "first" (.loc 2)) (.cons (.attr "second" (.loc 2)) .nil)))) (.loc 1))))
noncomputable def d_law : FDef := ⟨1, 14,(.cons r1 (.cons r2 (.cons r3 (.cons r4 (.cons r5 (.cons r6 (.cons r7 (.cons r8 (.cons r9 .nil)))))))))⟩

end Mine

namespace Mine
open PySem Cu

noncomputable def told (T : Tb) : AV := .tup [.int T.c, .int T.f, .int T.s]
/-- the law's names -/
noncomputable def L04 (xs : List Int) (T : Tb) (v8 v9 v10 v11 v12 v13 : Option AV) : Locs := [some (.scr xs), some (told T), some (.loc 3), some (.loc 6), some (.loc 7), some (.loc 8), some (.loc 9), some (.loc 10), v8, v9, v10, v11, v12, v13]
/-- what lies where -/
structure K4 (h : AHeap) (T : Tb) (st : St') (th : Th) (ns : List Nm) (ls cs cells : List AV) : Prop where
  S : Sit h 3 4 5 8 7 T st th ns
  n6 : h[6]? = some (.list (ns.map .str))
  l9 : h[9]? = some (.list ls)
  c10 : h[10]? = some (.list cs)
  s11 : h[11]? = some (.list cells)
  hv : ∀ nm, th.lookup nm ≠ none → ∃ s, st.lookup s = some nm
section
variable {p : Prog} {n F : Nat} {h : AHeap} {T : Tb} {st : St'} {th : Th} {ns : List Nm} {ls cs cells : List AV} {xs : List Int}
theorem K4.more {g : AHeap} (K : K4 h T st th ns ls cs cells) : K4 (h ++ g) T st th ns ls cs cells := ⟨K.S.more, get_old K.n6, get_old K.l9, get_old K.c10, get_old K.s11, K.hv⟩
theorem TabAt.setL {j : Nat} {x y : List AV} {t d e : Nat} (X : TabAt h t T d e) (hj : h[j]? = some (.list x)) : TabAt (h.set j (.list y)) t T d e := by
  obtain ⟨k, h1, h2⟩ := X.inst
  refine ⟨k, get_other h1 ?_, get_other h2 ?_⟩
  · rintro rfl; rw [hj] at h1; cases h1
  · rintro rfl; rw [hj] at h2; cases h2
theorem Sit.setL {j : Nat} {x y : List AV} {t d e a i : Nat} (S : Sit h t d e a i T st th ns) (hj : h[j]? = some (.list x)) : Sit (h.set j (.list y)) t d e a i T st th ns := by
  have ne : ∀ {k : Nat} {kvs : List (Key × AV)} {ep : Nat}, h[k]? = some (.dict kvs ep) → (h.set j (.list y))[k]? = some (.dict kvs ep) := fun hk => get_other hk (by rintro rfl; rw [hj] at hk; cases hk)
  obtain ⟨kvs, ep, h1, h2⟩ := S.hi
  exact ⟨S.ok, S.tab.setL hj, S.fd.imp fun _ => ne, S.fe.imp fun _ => ne, S.fa.imp fun _ => ne, ⟨kvs, ep, ne h1, h2⟩, S.so, S.hns, S.good, S.len, S.hth⟩
theorem K4.set9 (K : K4 h T st th ns ls cs cells) (ls' : List AV) : K4 (h.set 9 (.list ls')) T st th ns ls' cs cells :=
  ⟨K.S.setL K.l9, get_other K.n6 (by decide), get_set K.l9, get_other K.c10 (by decide), get_other K.s11 (by decide), K.hv⟩
theorem K4.set10 (K : K4 h T st th ns ls cs cells) (cs' : List AV) : K4 (h.set 10 (.list cs')) T st th ns ls cs' cells :=
  ⟨K.S.setL K.c10, get_other K.n6 (by decide), get_other K.l9 (by decide), get_set K.c10, get_other K.s11 (by decide), K.hv⟩
theorem lookup_snoc {α β : Type} [BEq α] [LawfulBEq α] [DecidableEq α] {t : List (α × β)} {a x : α} {b : β} (h : t.lookup a = none) : (t ++ [(a, b)]).lookup x = if x = a then some b else t.lookup x := by
  rw [List.lookup_append]
  by_cases e : x = a
  · subst e; rw [h, if_pos rfl, List.lookup_cons, beq_self_eq_true]; rfl
  · rw [if_neg e, List.lookup_cons, beq_eq_false_iff_ne.mpr e]; exact Option.or_none
/-- a thing is put -/
theorem K4.put (K : K4 h T st th ns ls cs cells) {nm : Nm} {r v : Int} {e1 e2 e3 : Nat} (hn : nm ∈ ns) (hr : r = 0 ∨ r = 1) (hs : st.lookup (T.hm nm r) = none) (ht : th.lookup nm = none) (hl : st.length < 63) :
    K4 (((h.set 4 (.dict (stK (st ++ [(T.hm nm r, nm)])) e1)).set 5 (.dict (thK (th ++ [(nm, v)])) e2)).set 8 (.dict (stK (st ++ [(T.hm nm r, nm)])) e3)) T (st ++ [(T.hm nm r, nm)]) (th ++ [(nm, v)]) ns ls cs cells := by
  obtain ⟨_, hd⟩ := K.S.fd
  obtain ⟨_, he⟩ := K.S.fe
  obtain ⟨_, ha⟩ := K.S.fa
  have g5 := get_other (o' := .dict (stK (st ++ [(T.hm nm r, nm)])) e1) he (show 4 ≠ 5 by decide)
  have g8 := get_other (o' := .dict (thK (th ++ [(nm, v)])) e2) (get_other (o' := .dict (stK (st ++ [(T.hm nm r, nm)])) e1) ha (show 4 ≠ 8 by decide)) (show 5 ≠ 8 by decide)
  have far : ∀ {i : Nat} {o : AObj}, 4 ≠ i → 5 ≠ i → 8 ≠ i → h[i]? = some o → (((h.set 4 (.dict (stK (st ++ [(T.hm nm r, nm)])) e1)).set 5 (.dict (thK (th ++ [(nm, v)])) e2)).set 8 (.dict (stK (st ++ [(T.hm nm r, nm)])) e3))[i]? = some o :=
    fun a b c e => get_other (get_other (get_other e a) b) c
  obtain ⟨kvs, ep, h1, h2⟩ := K.S.hi
  have hk := fun s => lookup_snoc (x := s) (b := nm) hs
  refine ⟨⟨K.S.ok, ((K.S.tab.set hd).set g5).set g8, ⟨e1, get_other (get_other (get_set hd) (by decide)) (by decide)⟩, ⟨e2, get_other (get_set g5) (by decide)⟩, ⟨e3, get_set g8⟩, ⟨kvs, ep, far (by decide) (by decide) (by decide) h1, h2⟩, fun s m q => ?_, fun s m q => ?_, K.S.good, by rw [List.length_append]; show st.length + 1 < 64; omega, by rw [List.length_append, List.length_append, K.S.hth]; rfl⟩,
    far (by decide) (by decide) (by decide) K.n6, far (by decide) (by decide) (by decide) K.l9, far (by decide) (by decide) (by decide) K.c10, far (by decide) (by decide) (by decide) K.s11, fun m q => ?_⟩
  · rw [hk] at q
    split at q
    · rename_i e; cases q; subst e; exact ⟨K.S.good nm hn, hr⟩
    · exact K.S.so s m q
  · rw [hk] at q
    split at q
    · cases q; exact hn
    · exact K.S.hns s m q
  · rw [lookup_snoc ht] at q
    split at q
    · rename_i e; subst e; exact ⟨T.hm m r, by rw [hk, if_pos rfl]⟩
    · obtain ⟨s, q⟩ := K.hv m q
      exact ⟨s, by rw [hk, if_neg (by rintro rfl; rw [hs] at q; cases q)]; exact q⟩

/-- the names that the law holds, in the order in which they came -/
noncomputable def valsOf (st : St') : List Nm := (keysOf st).map fun s => (st.lookup s).getD []
theorem vals_mem {nm : Nm} : nm ∈ valsOf st ↔ ∃ s, st.lookup s = some nm := by
  unfold valsOf
  rw [List.mem_map]
  constructor
  · rintro ⟨s, hs, rfl⟩
    obtain ⟨m, hm⟩ := in_keys hs
    exact ⟨s, by rw [hm]; rfl⟩
  · rintro ⟨s, hs⟩
    exact ⟨s, by unfold keysOf; exact List.mem_map.mpr ⟨_, lookup_mem hs, rfl⟩, by rw [hs]; rfl⟩
theorem vals_comp {c : Ctx} {l : Locs} {k m a ep : Nat} (ha : h[a]? = some (.dict (stK st) ep)) (hlen : st.length < 64) (hk : locAt l k = some (.loc a)) (hm : m = l.length) (hkl : k < l.length) (hF : 2000 < c.fuel) :
    evalX c (.comp (.sub (.loc k) (.loc m)) 1 m (.bi .list (.cons (.loc k) .nil)) .nil) l h = .ok (.loc (h.length + 1)) (h ++ [.list ((keysOf st).map sv), .list ((valsOf st).map .str)]) := by
  subst hm
  have hk' : (keysOf st).length < 64 := by rw [keys_len]; exact hlen
  have n1 : biAV .list [.loc a] h = .ok (.loc h.length) (h ++ [.list ((keysOf st).map sv)]) := list_ok (walk_st ha) (by rw [List.length_map]; unfold sizeLim; omega)
  have hin : ∀ v, locAt (inner l 1 l.length v) k = some (.loc a) := fun v => by
    rw [inner_at]
    delta locAt at hk ⊢
    rw [List.getElem?_append_left hkl]; exact hk
  have hin2 : ∀ v, locAt (inner l 1 l.length v) l.length = some v := fun v => by
    rw [inner_at]
    delta locAt
    rw [List.getElem?_concat_length]
  obtain ⟨b, h', e, ⟨rfl, rfl⟩, _⟩ := compLoop_all (h := h ++ [.list ((keysOf st).map sv)]) (body := fun v h => (evalX c (.sub (.loc k) (.loc l.length)) (inner l 1 l.length v) h).bind fun x h => .ok (some x) h) (src := .loc h.length) (items := (keysOf st).map sv)
    (fun k a h' => a = (((keysOf st).take k).map fun s => AV.str ((st.lookup s).getD [])) ∧ h' = h ++ [.list ((keysOf st).map sv)]) (fun k a h' ⟨_, e⟩ => by rw [e]; exact next_list get_new)
    (fun j v a h' hv ⟨ea, eh⟩ => by
      subst ea; subst eh
      rw [List.getElem?_map] at hv
      obtain ⟨s, hs, rfl⟩ := Option.map_eq_some_iff.mp hv
      obtain ⟨nm, hnm⟩ := in_keys (List.mem_of_getElem? hs)
      refine ⟨some (.str nm), h ++ [.list ((keysOf st).map sv)], ?_, ?_, rfl⟩
      · simp only [x_sub, x_loc, hin, hin2, okO_some, bok, st_get (get_old ha) hnm]
      · rw [List.take_add_one, hs, List.map_append, Option.toList_some, Option.toList_some, List.map_cons, List.map_nil, hnm]; rfl) (by rw [List.length_map]; omega) c.fuel 0 [] (by rw [List.length_map]; omega) (Nat.zero_le _) (Nat.le_refl _) ⟨rfl, rfl⟩
  simp only [x_comp0, x_bi, xs_cons, xs_nil, x_loc, hk, okO_some, bok, n1]
  rw [e, bok, newList_ok (by rw [List.length_map, List.length_take, List.length_map]; unfold sizeLim; omega), List.append_assoc, List.length_append, List.length_map, List.take_length, valsOf, List.map_map]
  rfl

theorem step_put (H : Has4 p) (K : K4 h T st th ns ls cs cells) {c8 v12 v13 : Option AV} {mx : Int} {nm : Nm} {r : Int} (hn : nm ∈ ns) (hr : r = 0 ∨ r = 1) (hl : st.length < 63) (hF : 2000 < F) :
    ∃ st' th' h', execS ⟨semF p (n + 5), F⟩ q4 (L04 xs T c8 (some (.int mx)) (some (.str nm)) (some (sv (T.hm nm r))) v12 v13) h = .ok .next (L04 xs T c8 (some (.int mx)) (some (.str nm)) (some (sv (T.hm nm r))) v12 v13) h' ∧
      K4 h' T st' th' ns ls cs cells ∧ st'.length ≤ st.length + 1 ∧ ∀ (i : Nat) o, 12 ≤ i → h[i]? = some o → h'[i]? = some o := by
  obtain ⟨ep, ha⟩ := K.S.fa
  cases hs : st.lookup (T.hm nm r) with
  | some m =>
    refine ⟨st, th, h, ?_, K, by omega, fun _ _ _ e => e⟩
    simp only [q4, L04, ss_cons, ss_nil, s_expr, s_ret, s_asg, s_set, s_iff, s_whil, s_for, s_seta, x_none, x_bool, x_int, x_str, x_loc, x_bin, x_neg, x_not, x_and, x_or, x_cmp, x_cmp2, x_isn, x_call, x_bi, x_isi, x_new, x_im, x_bm, x_attr, x_slice, x_sub, x_tup, x_list, x_dict0, x_range, xs_nil, xs_cons, List.map_cons, List.map_nil, List.cons_append, List.nil_append, List.replicate, List.set, loc0, locS, okO_some, bok, sok, turn_next, turn_ret, boolO_some, heapO_some, notAV_bool, negAV_int, retR_ret, retR_next, cond_t, cond_f, condV_t, condV_f, cmpAnd_t, cmpAnd_f, b_add, b_sub, Bool.not_true, Bool.not_false, if_true, tup2, tup3, decide_true, decide_false, st_notin ha, hs, Option.isSome_some]
  | none =>
    have vc := vals_comp (c := ⟨semF p (n + 5), F⟩) (l := L04 xs T c8 (some (.int mx)) (some (.str nm)) (some (sv (T.hm nm r))) v12 v13) (k := 5) (m := 14) ha K.S.len rfl rfl (by show 5 < 14; decide) hF
    have K' := K.more (g := [.list ((keysOf st).map sv), .list ((valsOf st).map .str)])
    have g1 : (h ++ [.list ((keysOf st).map sv), .list ((valsOf st).map .str)])[h.length + 1]? = some (.list ((valsOf st).map .str)) := get_2b
    generalize hh : h ++ [.list ((keysOf st).map sv), .list ((valsOf st).map .str)] = h2 at vc K' g1
    have old : ∀ (i : Nat) o, 12 ≤ i → h[i]? = some o → h2[i]? = some o := fun i o _ e => by rw [← hh]; exact get_old e
    by_cases hin : nm ∈ valsOf st
    · refine ⟨st, th, h2, ?_, K', by omega, old⟩
      rw [q4, s_iff, x_and]
      rw [L04] at vc ⊢
      simp only [x_cmp, x_loc, loc0, locS, okO_some, bok, st_notin ha, hs, Option.isSome_none, Bool.not_false, boolO_some, condV_t, vc, notin_names g1, decide_eq_true hin, Bool.not_true, sok, cond_f, ss_nil]
    · obtain ⟨ep1, hd⟩ := K'.S.fd
      obtain ⟨ep2, he⟩ := K'.S.fe
      obtain ⟨ep3, ha2⟩ := K'.S.fa
      have ht : th.lookup nm = none := by
        cases q : th.lookup nm with
        | none => rfl
        | some _ => exact absurd (vals_mem.mpr (K.hv nm (by rw [q]; exact fun e => nomatch e))) hin
      have hb := fmod_bound (mx.fdiv 48) (m := 9) (by decide)
      have hsl : st.length < sizeLim := by unfold sizeLim; omega
      obtain ⟨e1, e2, ep⟩ := run_put_at (n := n + 1) H.toHasT H.put_at K'.S.ok K'.S.tab hd he (by decide) hsl (by rw [K.S.hth]; exact hsl) (K.S.good nm hn) (v := (mx.fdiv 48).fmod 9) (by omega) (by omega) hr hs ht
      have g8 := get_other (o' := .dict (thK (th ++ [(nm, (mx.fdiv 48).fmod 9)])) e2) (get_other (o' := .dict (stK (st ++ [(T.hm nm r, nm)])) e1) ha2 (show 4 ≠ 8 by decide)) (show 5 ≠ 8 by decide)
      obtain ⟨e3, s8⟩ := st_set (nm := nm) g8 hsl hs
      refine ⟨_, _, _, ?_, K'.put (v := (mx.fdiv 48).fmod 9) (e1 := e1) (e2 := e2) (e3 := e3) hn hr hs ht hl, by rw [List.length_append]; exact Nat.le_refl _, fun i o hi e => get_other (get_other (get_other (old i o hi e) (by omega)) (by omega)) (by omega)⟩
      rw [q4, s_iff, x_and]
      rw [L04] at vc ⊢
      simp only [ss_cons, ss_nil, s_expr, s_ret, s_asg, s_set, s_iff, s_whil, s_for, s_seta, x_none, x_bool, x_int, x_str, x_loc, x_bin, x_neg, x_not, x_and, x_or, x_cmp, x_cmp2, x_isn, x_call, x_bi, x_isi, x_new, x_im, x_bm, x_attr, x_slice, x_sub, x_tup, x_list, x_dict0, x_range, xs_nil, xs_cons, List.map_cons, List.map_nil, List.cons_append, List.nil_append, List.replicate, List.set, loc0, locS, okO_some, bok, sok, turn_next, turn_ret, boolO_some, heapO_some, notAV_bool, negAV_int, retR_ret, retR_next, cond_t, cond_f, condV_t, condV_f, cmpAnd_t, cmpAnd_f, b_add, b_sub, Bool.not_true, Bool.not_false, if_true, tup2, tup3, decide_true, decide_false, st_notin ha, hs, Option.isSome_none, vc, notin_names g1, decide_eq_false hin, K'.S.tab.meth (m := "put_at") rfl, b_div (y := 48) (by decide), b_mod (y := 9) (by decide), ep, s8]
end
end Mine

namespace Mine
open PySem Cu

section
variable {p : Prog} {n F : Nat} {h : AHeap} {T : Tb} {st : St'} {th : Th} {ns : List Nm} {ls cs cells : List AV} {xs : List Int}
theorem step_ask (H : Has4 p) (hp : Prog.has p "_law_asked" d__law_asked) (K : K4 h T st th ns ls cs cells) {c8 v13 : Option AV} {mx : Int} {nm : Nm} {s0 s : Seat} (hn : nm ∈ ns) (hs : T.In s) (hF : 2000 < F) :
    ∃ v g, execS ⟨semF p (n + 5), F⟩ q7 (L04 xs T c8 (some (.int mx)) (some (.str nm)) (some (sv s0)) (some (sv s)) v13) h = .ok .next (L04 xs T c8 (some (.int mx)) (some (.str nm)) (some (sv s0)) (some (sv s)) v) (h ++ g) := by
  obtain ⟨l', h', e1, g, v, rfl, rfl⟩ := forLoop_all (i := 13) (src := .rng 0 ((4 : Nat) : Int) 1) (items := rngItems 0 ((4 : Nat) : Int) 1) (body := fun l h => execSs ⟨semF p (n + 5), F⟩ b_law_1 l h)
    (fun k l h' => ∃ g v, h' = h ++ g ∧ l = L04 xs T c8 (some (.int mx)) (some (.str nm)) (some (sv s0)) (some (sv s)) v) (fun k l h' _ => next_rng (by decide)) (fun k v l h' hv ⟨g, v', eh, el⟩ => by
      obtain ⟨hk, rfl⟩ := up_item hv
      subst eh; subst el
      obtain ⟨g2, ea⟩ := (K.S.more (g := g)).asked (n := n) H hp hn hs (k + (mx.fdiv 48).fmod 4)
      refine ⟨_, _, ?_, g ++ g2, some (.int k), rfl, rfl⟩
      simp only [b_law_1, L04, ss_cons, ss_nil, s_expr, s_ret, s_asg, s_set, s_iff, s_whil, s_for, s_seta, x_none, x_bool, x_int, x_str, x_loc, x_bin, x_neg, x_not, x_and, x_or, x_cmp, x_cmp2, x_isn, x_call, x_bi, x_isi, x_new, x_im, x_bm, x_attr, x_slice, x_sub, x_tup, x_list, x_dict0, x_range, xs_nil, xs_cons, List.map_cons, List.map_nil, List.cons_append, List.nil_append, List.replicate, List.set, loc0, locS, okO_some, bok, sok, turn_next, turn_ret, boolO_some, heapO_some, notAV_bool, negAV_int, retR_ret, retR_next, cond_t, cond_f, condV_t, condV_f, cmpAnd_t, cmpAnd_f, b_add, b_sub, Bool.not_true, Bool.not_false, if_true, tup2, tup3, decide_true, decide_false, b_div (y := 48) (by decide), b_mod (y := 4) (by decide), ea, List.append_assoc]) (f := F) (l := L04 xs T c8 (some (.int mx)) (some (.str nm)) (some (sv s0)) (some (sv s)) v13) (h := h) (by rw [up_length]; omega) ⟨[], v13, (List.append_nil _).symm, rfl⟩
  refine ⟨v, g, ?_⟩
  simp only [q7, s_for, x_range, xs_cons, xs_nil, x_int, bok, range_up (m := 4) (by decide), okO_some, sok]
  exact e1

/-- the lists that were kept, and what was written down of each -/
noncomputable def Twins (h : AHeap) (ps : List (Nat × Nat)) : Prop := ∀ q ∈ ps, 12 ≤ q.1 ∧ 12 ≤ q.2 ∧ ∃ w : List Seat, h[q.1]? = some (.list (w.map sv)) ∧ h[q.2]? = some (.list (w.map sv))
noncomputable def locs1 (ps : List (Nat × Nat)) : List AV := ps.map fun q => .loc q.1
noncomputable def locs2 (ps : List (Nat × Nat)) : List AV := ps.map fun q => .loc q.2
theorem snoc_last {α : Type} {l : List α} {a : α} : (l ++ [a])[(l ++ [a]).length - 1]? = some a := by rw [List.length_append, List.length_singleton, Nat.add_sub_cancel]; exact List.getElem?_concat_length
theorem K4.long (K : K4 h T st th ns ls cs cells) : 12 ≤ h.length := get_lt K.s11

theorem step_tail (H : Has4 p) (K : K4 h T st th ns ls cs cells) {v8 v9 v10 v11 v13 : Option AV} {s : Seat} (hs : T.In s) (hF : 2000 < F) (hll : ls.length ≤ 100) (hcl : cs.length ≤ 100) :
    ∃ h' a b, execSs ⟨semF p (n + 5), F⟩ (.cons q8 (.cons q9 (.cons q10 (.cons q11 (.cons q12 .nil))))) (L04 xs T v8 v9 v10 v11 (some (sv s)) v13) h = .ok .next (L04 xs T v8 v9 v10 v11 (some (sv s)) v13) h' ∧
      K4 h' T st th ns (ls ++ [.loc a]) (cs ++ [.loc b]) cells ∧ (∀ (i : Nat) o, 12 ≤ i → h[i]? = some o → h'[i]? = some o) ∧ 12 ≤ a ∧ 12 ≤ b ∧ h'[a]? = some (.list ((wayOf T.hm st s).map sv)) ∧ h'[b]? = some (.list ((wayOf T.hm st s).map sv)) := by
  have W := wayOf_way (hm := T.hm) st s
  have hws := W.short
  have hlen := K.S.len
  generalize hw : wayOf T.hm st s = w at W hws
  have hwl : w.length ≤ 2000 := by omega
  have way : ∀ {h : AHeap}, K4 h T st th ns ls cs cells → semF p (n + 5) "way" [.loc 3, sv s] h = .ok (.loc h.length) (h ++ [.list (w.map sv)]) := fun K => hw ▸ K.S.run_way (n := n + 1) H hs
  have lway : ∀ {h : AHeap} {ls : List AV}, K4 h T st th ns ls cs cells → semF p (n + 5) "_law_way" [.loc 8, .loc 7, sv s] h = .ok (.loc h.length) (h ++ [.list (w.map sv)]) := fun K => hw ▸ K.S.law_way (n := n + 1) H
  have names : ∀ {h : AHeap} {ls : List AV}, K4 h T st th ns ls cs cells → semF p (n + 5) "names" [.loc 3] h = .ok (.loc (h.length + 1)) (h ++ [.list ((sortK (keysOf st)).map sv), .list ((namesOf st).map .str)]) := fun K => K.S.names (n := n + 1) H
  have tp : (AV.tup [.int 9, .int 9]) = sv (9, 9) := rfl
  -- 8, 9
  have K1 := K.more (g := [.list ((w ++ [(9, 9)]).map sv)])
  have s8 : execS ⟨semF p (n + 5), F⟩ q8 (L04 xs T v8 v9 v10 v11 (some (sv s)) v13) h = .ok .next (L04 xs T v8 v9 v10 v11 (some (sv s)) v13) (h ++ [.list ((w ++ [(9, 9)]).map sv)]) := by
    simp only [q8, L04, ss_cons, ss_nil, s_expr, s_ret, s_asg, s_set, s_iff, s_whil, s_for, s_seta, x_none, x_bool, x_int, x_str, x_loc, x_bin, x_neg, x_not, x_and, x_or, x_cmp, x_cmp2, x_isn, x_call, x_bi, x_isi, x_new, x_im, x_bm, x_attr, x_slice, x_sub, x_tup, x_list, x_dict0, x_range, xs_nil, xs_cons, List.map_cons, List.map_nil, List.cons_append, List.nil_append, List.replicate, List.set, loc0, locS, okO_some, bok, sok, turn_next, turn_ret, boolO_some, heapO_some, notAV_bool, negAV_int, retR_ret, retR_next, cond_t, cond_f, condV_t, condV_f, cmpAnd_t, cmpAnd_f, b_add, b_sub, Bool.not_true, Bool.not_false, if_true, tup2, tup3, decide_true, decide_false, K.S.tab.meth (m := "way") rfl, way K, bmOk_append get_new, tp, add_seat hwl]
  generalize hh1 : h ++ [.list ((w ++ [(9, 9)]).map sv)] = h1 at K1 s8
  have o1 : ∀ (i : Nat) o, 12 ≤ i → h[i]? = some o → h1[i]? = some o := fun i o _ e => by rw [← hh1]; exact get_old e
  have hnl : (namesOf st).length ≤ 1000 := by rw [namesOf, List.length_map]; exact sortK_len (by rw [keys_len]; exact hlen)
  have s9 : execS ⟨semF p (n + 5), F⟩ q9 (L04 xs T v8 v9 v10 v11 (some (sv s)) v13) h1 = .ok .next (L04 xs T v8 v9 v10 v11 (some (sv s)) v13) (h1 ++ [.list ((sortK (keysOf st)).map sv), .list ((namesOf st).map .str ++ [.str []])]) := by
    have hap : bmAV .append (.loc (h1.length + 1)) [.str []] (h1 ++ [.list ((sortK (keysOf st)).map sv), .list ((namesOf st).map .str)]) = .ok .none (h1 ++ [.list ((sortK (keysOf st)).map sv), .list ((namesOf st).map .str ++ [.str []])]) := by
      rw [show bmAV .append (.loc (h1.length + 1)) [.str []] (h1 ++ [.list ((sortK (keysOf st)).map sv), .list ((namesOf st).map .str)]) = _ from append_ok get_2b (by rw [List.length_map]; unfold sizeLim; omega), set_2b]
    simp only [q9, L04, ss_cons, ss_nil, s_expr, s_ret, s_asg, s_set, s_iff, s_whil, s_for, s_seta, x_none, x_bool, x_int, x_str, x_loc, x_bin, x_neg, x_not, x_and, x_or, x_cmp, x_cmp2, x_isn, x_call, x_bi, x_isi, x_new, x_im, x_bm, x_attr, x_slice, x_sub, x_tup, x_list, x_dict0, x_range, xs_nil, xs_cons, List.map_cons, List.map_nil, List.cons_append, List.nil_append, List.replicate, List.set, loc0, locS, okO_some, bok, sok, turn_next, turn_ret, boolO_some, heapO_some, notAV_bool, negAV_int, retR_ret, retR_next, cond_t, cond_f, condV_t, condV_f, cmpAnd_t, cmpAnd_f, b_add, b_sub, Bool.not_true, Bool.not_false, if_true, tup2, tup3, decide_true, decide_false, K1.S.tab.meth (m := "names") rfl, names K1, bmOk_append get_2b, hap]
  have K2 := K1.more (g := [.list ((sortK (keysOf st)).map sv), .list ((namesOf st).map .str ++ [.str []])])
  have o2 : ∀ (i : Nat) o, 12 ≤ i → h[i]? = some o → (h1 ++ [.list ((sortK (keysOf st)).map sv), .list ((namesOf st).map .str ++ [.str []])])[i]? = some o := fun i o hi e => get_old (o1 i o hi e)
  generalize hh2 : h1 ++ [.list ((sortK (keysOf st)).map sv), .list ((namesOf st).map .str ++ [.str []])] = h2 at K2 s9 o2
  -- 10
  have K3 := (K2.more (g := [.list (w.map sv)])).set9 (ls ++ [.loc h2.length])
  have s10 : execS ⟨semF p (n + 5), F⟩ q10 (L04 xs T v8 v9 v10 v11 (some (sv s)) v13) h2 = .ok .next (L04 xs T v8 v9 v10 v11 (some (sv s)) v13) (List.set (h2 ++ [AObj.list (w.map sv)]) 9 (AObj.list (ls ++ [AV.loc h2.length]))) := by
    have hap : bmAV .append (.loc 9) [.loc h2.length] (h2 ++ [.list (w.map sv)]) = .ok .none (List.set (h2 ++ [AObj.list (w.map sv)]) 9 (AObj.list (ls ++ [AV.loc h2.length]))) := append_ok (get_old K2.l9) (by unfold sizeLim; omega)
    simp only [q10, L04, ss_cons, ss_nil, s_expr, s_ret, s_asg, s_set, s_iff, s_whil, s_for, s_seta, x_none, x_bool, x_int, x_str, x_loc, x_bin, x_neg, x_not, x_and, x_or, x_cmp, x_cmp2, x_isn, x_call, x_bi, x_isi, x_new, x_im, x_bm, x_attr, x_slice, x_sub, x_tup, x_list, x_dict0, x_range, xs_nil, xs_cons, List.map_cons, List.map_nil, List.cons_append, List.nil_append, List.replicate, List.set, loc0, locS, okO_some, bok, sok, turn_next, turn_ret, boolO_some, heapO_some, notAV_bool, negAV_int, retR_ret, retR_next, cond_t, cond_f, condV_t, condV_f, cmpAnd_t, cmpAnd_f, b_add, b_sub, Bool.not_true, Bool.not_false, if_true, tup2, tup3, decide_true, decide_false, bmOk_append K2.l9, K2.S.tab.meth (m := "way") rfl, way K2, hap]
  have hl2 := K2.long
  have o3 : ∀ (i : Nat) o, 12 ≤ i → h[i]? = some o → (List.set (h2 ++ [AObj.list (w.map sv)]) 9 (AObj.list (ls ++ [AV.loc h2.length])))[i]? = some o := fun i o hi e => get_other (get_old (o2 i o hi e)) (by omega)
  have a3 : (List.set (h2 ++ [AObj.list (w.map sv)]) 9 (AObj.list (ls ++ [AV.loc h2.length])))[h2.length]? = some (.list (w.map sv)) := get_other get_new (by omega)
  generalize hh3 : List.set (h2 ++ [AObj.list (w.map sv)]) 9 (AObj.list (ls ++ [AV.loc h2.length])) = h3 at K3 s10 o3 a3
  generalize ha : h2.length = a at K3 s10 a3 hl2
  -- 11
  have last : ∀ {h : AHeap}, K4 h T st th ns (ls ++ [.loc a]) cs cells → subAV (.loc 9) (.int (-1)) h = .ok (.loc a) h := fun K => sub_last (by rw [List.length_append]; show ls.length + 1 ≤ _; unfold sizeLim; omega) K.l9 snoc_last
  have K4' := K3.more (g := [.list (w.map sv)])
  have n1 := ne_lists (g := sv) (h := h3 ++ [.list (w.map sv)]) (get_old a3) get_new (fun a b => eqv_pair' (n := 3) a b)
  rw [decide_eq_true rfl, Bool.not_true] at n1
  generalize hh4 : h3 ++ [.list (w.map sv)] = h4 at K4' n1
  have K5 := K4'.more (g := [.list ((sortK (keysOf st)).map sv), .list ((namesOf st).map .str)])
  have g5 : (h4 ++ [.list ((sortK (keysOf st)).map sv), .list ((namesOf st).map .str)])[h4.length + 1]? = some (.list ((namesOf st).map .str)) := get_2b
  have nm5 := names K4'
  generalize hh5 : h4 ++ [.list ((sortK (keysOf st)).map sv), .list ((namesOf st).map .str)] = h5 at K5 g5 nm5
  have due := K5.S.due (c := ⟨semF p (n + 5), F⟩) (l := L04 xs T v8 v9 v10 v11 (some (sv s)) v13) (k := 5) (m := 14) rfl rfl (by show 5 < 14; decide) hF
  have g6 : (h5 ++ [.list ((keysOf st).map sv), .list ((sortK (keysOf st)).map sv), .list ((namesOf st).map .str)])[h5.length + 2]? = some (.list ((namesOf st).map .str)) := by
    rw [List.getElem?_append_right (by omega), Nat.add_sub_cancel_left]; rfl
  have K6 := K5.more (g := [.list ((keysOf st).map sv), .list ((sortK (keysOf st)).map sv), .list ((namesOf st).map .str)])
  have n2 := ne_lists (g := AV.str) (get_old g5) g6 (fun a b => rfl)
  rw [decide_eq_true rfl, Bool.not_true] at n2
  have o6 : ∀ (i : Nat) o, h3[i]? = some o → (h5 ++ [.list ((keysOf st).map sv), .list ((sortK (keysOf st)).map sv), .list ((namesOf st).map .str)])[i]? = some o := fun i o e => get_old (by rw [← hh5]; exact get_old (by rw [← hh4]; exact get_old e))
  generalize hh6 : h5 ++ [.list ((keysOf st).map sv), .list ((sortK (keysOf st)).map sv), .list ((namesOf st).map .str)] = h6 at due K6 n2 o6
  have s11 : execS ⟨semF p (n + 5), F⟩ q11 (L04 xs T v8 v9 v10 v11 (some (sv s)) v13) h3 = .ok .next (L04 xs T v8 v9 v10 v11 (some (sv s)) v13) h6 := by
    rw [q11, s_iff]
    rw [L04] at due ⊢
    simp only [x_or, x_cmp, x_sub, x_neg, x_int, x_loc, x_call, x_im, xs_cons, xs_nil, loc0, locS, okO_some, bok, negAV_int, last K3, lway K3, hh4, n1, boolO_some, condV_f, K4'.S.tab.meth (m := "names") rfl, if_true, nm5, due, n2, sok, cond_f, ss_nil]
  -- 12
  have a6 := o6 a _ a3
  have hl6 := K6.long
  have s12 : execS ⟨semF p (n + 5), F⟩ q12 (L04 xs T v8 v9 v10 v11 (some (sv s)) v13) h6 = .ok .next (L04 xs T v8 v9 v10 v11 (some (sv s)) v13) (List.set (h6 ++ [AObj.list (w.map sv)]) 10 (AObj.list (cs ++ [AV.loc h6.length]))) := by
    have hap : bmAV .append (.loc 10) [.loc h6.length] (h6 ++ [.list (w.map sv)]) = .ok .none (List.set (h6 ++ [AObj.list (w.map sv)]) 10 (AObj.list (cs ++ [AV.loc h6.length]))) := append_ok (get_old K6.c10) (by unfold sizeLim; omega)
    simp only [q12, L04, ss_cons, ss_nil, s_expr, s_ret, s_asg, s_set, s_iff, s_whil, s_for, s_seta, x_none, x_bool, x_int, x_str, x_loc, x_bin, x_neg, x_not, x_and, x_or, x_cmp, x_cmp2, x_isn, x_call, x_bi, x_isi, x_new, x_im, x_bm, x_attr, x_slice, x_sub, x_tup, x_list, x_dict0, x_range, xs_nil, xs_cons, List.map_cons, List.map_nil, List.cons_append, List.nil_append, List.replicate, List.set, loc0, locS, okO_some, bok, sok, turn_next, turn_ret, boolO_some, heapO_some, notAV_bool, negAV_int, retR_ret, retR_next, cond_t, cond_f, condV_t, condV_f, cmpAnd_t, cmpAnd_f, b_add, b_sub, Bool.not_true, Bool.not_false, if_true, tup2, tup3, decide_true, decide_false, bmOk_append K6.c10, last K6, list_ok (walk_list a6) (by rw [List.length_map]; unfold sizeLim; omega), hap]
  refine ⟨List.set (h6 ++ [AObj.list (w.map sv)]) 10 (AObj.list (cs ++ [AV.loc h6.length])), a, h6.length, ?_, (K6.more).set10 _, fun i o hi e => get_other (get_old (o6 i o (o3 i o hi e))) (by omega), hl2, hl6, get_other (get_old a6) (by omega), get_other get_new (by omega)⟩
  exact (ss_step s8).trans ((ss_step s9).trans ((ss_step s10).trans ((ss_step s11).trans (ss_one s12))))

theorem nat_mod {m : Int} (x : Int) (hm : 0 < m) : x.fmod m = ((x.fmod m).toNat : Int) := by have := fmod_bound x hm; omega
/-- a turn of the law -/
theorem turn04 (H : Has4 p) (hp : Prog.has p "_law_asked" d__law_asked) {ps : List (Nat × Nat)} (K : K4 h T st th ns (locs1 ps) (locs2 ps) cells) (tw : Twins h ps) (hn : ns.length = 24) (hpl : ps.length ≤ 60) (hsl : st.length < 63) {c : Int} {v9 v10 v11 v12 v13 : Option AV} (hF : 2000 < F) :
    ∃ h' st' th' ps' w9 w10 w11 w12 w13, execSs ⟨semF p (n + 5), F⟩ b_law_2 (L04 xs T (some (.int c)) v9 v10 v11 v12 v13) h = .ok .next (L04 xs T (some (.int c)) w9 w10 w11 w12 w13) h' ∧
      K4 h' T st' th' ns (locs1 ps') (locs2 ps') cells ∧ Twins h' ps' ∧ ps'.length = ps.length + 1 ∧ st'.length ≤ st.length + 1 := by
  have e1 := run_mixed (n := n + 4) (h := h) H.mixed c ps.length
  generalize mixed c ps.length = mx at e1
  have l9 : biAV .len [.loc 9] h = .ok (.int ps.length) h := by rw [len_list K.l9, locs1, List.length_map]
  have b24 := fmod_bound mx (m := 24) (by decide)
  have hi : (mx.fmod 24).toNat < ns.length := by omega
  obtain ⟨nm, hnm⟩ : ∃ nm, ns[(mx.fmod 24).toNat]? = some nm := ⟨_, List.getElem?_eq_getElem hi⟩
  have hmem := List.mem_of_getElem? hnm
  have e2 : subAV (.loc 6) (.int (mx.fmod 24)) h = .ok (.str nm) h := sub_list (by rw [List.length_map]; unfold sizeLim; omega) K.n6 (by omega) (by rw [List.getElem?_map, hnm]; rfl)
  have hr := two_mod (mx.fdiv 24)
  generalize hrr : (mx.fdiv 24).fmod 2 = r at hr
  obtain ⟨st', th', h1, e4, K1, hl1, o1⟩ := step_put (n := n) (F := F) (xs := xs) (c8 := some (.int c)) (v12 := v12) (v13 := v13) (mx := mx) H K hmem hr hsl hF
  have hc := K.S.ok.c1
  have hrow := two_mod (mx.fdiv 500)
  have hpl2 := fmod_bound (mx.fdiv 1000) (m := T.c) (by omega)
  have hin2 : T.In ((mx.fdiv 500).fmod 2, (mx.fdiv 1000).fmod T.c) := ⟨hrow, hpl2⟩
  have hin1 : T.In (T.hm nm r) := Tb.hm_in K.S.ok (K.S.good nm hmem) hr
  obtain ⟨s, hs, e6⟩ : ∃ s, T.In s ∧ ∀ v13 : Option AV, execS ⟨semF p (n + 5), F⟩ q6 (L04 xs T (some (.int c)) (some (.int mx)) (some (.str nm)) (some (sv (T.hm nm r))) (some (sv ((mx.fdiv 500).fmod 2, (mx.fdiv 1000).fmod T.c))) v13) h1 = .ok .next (L04 xs T (some (.int c)) (some (.int mx)) (some (.str nm)) (some (sv (T.hm nm r))) (some (sv s)) v13) h1 := by
    by_cases hq : 0 < (mx.fdiv 96).fmod 3
    · exact ⟨_, hin1, fun v13 => by simp only [q6, L04, ss_cons, ss_nil, s_expr, s_ret, s_asg, s_set, s_iff, s_whil, s_for, s_seta, x_none, x_bool, x_int, x_str, x_loc, x_bin, x_neg, x_not, x_and, x_or, x_cmp, x_cmp2, x_isn, x_call, x_bi, x_isi, x_new, x_im, x_bm, x_attr, x_slice, x_sub, x_tup, x_list, x_dict0, x_range, xs_nil, xs_cons, List.map_cons, List.map_nil, List.cons_append, List.nil_append, List.replicate, List.set, loc0, locS, okO_some, bok, sok, turn_next, turn_ret, boolO_some, heapO_some, notAV_bool, negAV_int, retR_ret, retR_next, cond_t, cond_f, condV_t, condV_f, cmpAnd_t, cmpAnd_f, b_add, b_sub, Bool.not_true, Bool.not_false, if_true, tup2, tup3, decide_true, decide_false, b_div (y := 96) (by decide), b_mod (y := 3) (by decide), c_gt, decide_eq_true hq]⟩
    · exact ⟨_, hin2, fun v13 => by simp only [q6, L04, ss_cons, ss_nil, s_expr, s_ret, s_asg, s_set, s_iff, s_whil, s_for, s_seta, x_none, x_bool, x_int, x_str, x_loc, x_bin, x_neg, x_not, x_and, x_or, x_cmp, x_cmp2, x_isn, x_call, x_bi, x_isi, x_new, x_im, x_bm, x_attr, x_slice, x_sub, x_tup, x_list, x_dict0, x_range, xs_nil, xs_cons, List.map_cons, List.map_nil, List.cons_append, List.nil_append, List.replicate, List.set, loc0, locS, okO_some, bok, sok, turn_next, turn_ret, boolO_some, heapO_some, notAV_bool, negAV_int, retR_ret, retR_next, cond_t, cond_f, condV_t, condV_f, cmpAnd_t, cmpAnd_f, b_add, b_sub, Bool.not_true, Bool.not_false, if_true, tup2, tup3, decide_true, decide_false, b_div (y := 96) (by decide), b_mod (y := 3) (by decide), c_gt, decide_eq_false hq]⟩
  obtain ⟨v, g, e7⟩ := step_ask (n := n) (F := F) (xs := xs) (c8 := some (.int c)) (v13 := v13) (mx := mx) (s0 := T.hm nm r) H hp K1 hmem hs hF
  obtain ⟨h3, a, b, e8, K3, o3, ha, hb, ga, gb⟩ := step_tail (n := n) (F := F) (xs := xs) (v8 := some (.int c)) (v9 := some (.int mx)) (v10 := some (.str nm)) (v11 := some (sv (T.hm nm r))) (v13 := v) H (K1.more (g := g)) hs hF (by rw [locs1, List.length_map]; omega) (by rw [locs2, List.length_map]; omega)
  refine ⟨h3, st', th', ps ++ [(a, b)], some (.int mx), some (.str nm), some (sv (T.hm nm r)), some (sv s), v, ?_, ?_, ?_, by rw [List.length_append]; rfl, hl1⟩
  · rw [b_law_2]
    refine (ss_step (l' := L04 xs T (some (.int c)) (some (.int mx)) v10 v11 v12 v13) (h' := h) ?_).trans ((ss_step (l' := L04 xs T (some (.int c)) (some (.int mx)) (some (.str nm)) v11 v12 v13) (h' := h) ?_).trans
      ((ss_step (l' := L04 xs T (some (.int c)) (some (.int mx)) (some (.str nm)) (some (sv (T.hm nm r))) v12 v13) (h' := h) ?_).trans ((ss_step e4).trans
      ((ss_step (l' := L04 xs T (some (.int c)) (some (.int mx)) (some (.str nm)) (some (sv (T.hm nm r))) (some (sv ((mx.fdiv 500).fmod 2, (mx.fdiv 1000).fmod T.c))) v13) (h' := h1) ?_).trans ((ss_step (e6 v13)).trans ((ss_step e7).trans e8))))))
    · simp only [q1, L04, ss_cons, ss_nil, s_expr, s_ret, s_asg, s_set, s_iff, s_whil, s_for, s_seta, x_none, x_bool, x_int, x_str, x_loc, x_bin, x_neg, x_not, x_and, x_or, x_cmp, x_cmp2, x_isn, x_call, x_bi, x_isi, x_new, x_im, x_bm, x_attr, x_slice, x_sub, x_tup, x_list, x_dict0, x_range, xs_nil, xs_cons, List.map_cons, List.map_nil, List.cons_append, List.nil_append, List.replicate, List.set, loc0, locS, okO_some, bok, sok, turn_next, turn_ret, boolO_some, heapO_some, notAV_bool, negAV_int, retR_ret, retR_next, cond_t, cond_f, condV_t, condV_f, cmpAnd_t, cmpAnd_f, b_add, b_sub, Bool.not_true, Bool.not_false, if_true, tup2, tup3, decide_true, decide_false, l9, e1]
    · simp only [q2, L04, ss_cons, ss_nil, s_expr, s_ret, s_asg, s_set, s_iff, s_whil, s_for, s_seta, x_none, x_bool, x_int, x_str, x_loc, x_bin, x_neg, x_not, x_and, x_or, x_cmp, x_cmp2, x_isn, x_call, x_bi, x_isi, x_new, x_im, x_bm, x_attr, x_slice, x_sub, x_tup, x_list, x_dict0, x_range, xs_nil, xs_cons, List.map_cons, List.map_nil, List.cons_append, List.nil_append, List.replicate, List.set, loc0, locS, okO_some, bok, sok, turn_next, turn_ret, boolO_some, heapO_some, notAV_bool, negAV_int, retR_ret, retR_next, cond_t, cond_f, condV_t, condV_f, cmpAnd_t, cmpAnd_f, b_add, b_sub, Bool.not_true, Bool.not_false, if_true, tup2, tup3, decide_true, decide_false, b_mod (y := 24) (by decide), e2]
    · simp only [q3, L04, ss_cons, ss_nil, s_expr, s_ret, s_asg, s_set, s_iff, s_whil, s_for, s_seta, x_none, x_bool, x_int, x_str, x_loc, x_bin, x_neg, x_not, x_and, x_or, x_cmp, x_cmp2, x_isn, x_call, x_bi, x_isi, x_new, x_im, x_bm, x_attr, x_slice, x_sub, x_tup, x_list, x_dict0, x_range, xs_nil, xs_cons, List.map_cons, List.map_nil, List.cons_append, List.nil_append, List.replicate, List.set, loc0, locS, okO_some, bok, sok, turn_next, turn_ret, boolO_some, heapO_some, notAV_bool, negAV_int, retR_ret, retR_next, cond_t, cond_f, condV_t, condV_f, cmpAnd_t, cmpAnd_f, b_add, b_sub, Bool.not_true, Bool.not_false, if_true, tup2, tup3, decide_true, decide_false, K.S.hi.get hmem, b_div (y := 24) (by decide), b_mod (y := 2) (by decide), hrr, homes_at hr]
    · have t0 : ∀ h : AHeap, subAV (told T) (.int 0) h = .ok (.int T.c) h := fun _ => rfl
      simp only [q5, L04, ss_cons, ss_nil, s_expr, s_ret, s_asg, s_set, s_iff, s_whil, s_for, s_seta, x_none, x_bool, x_int, x_str, x_loc, x_bin, x_neg, x_not, x_and, x_or, x_cmp, x_cmp2, x_isn, x_call, x_bi, x_isi, x_new, x_im, x_bm, x_attr, x_slice, x_sub, x_tup, x_list, x_dict0, x_range, xs_nil, xs_cons, List.map_cons, List.map_nil, List.cons_append, List.nil_append, List.replicate, List.set, loc0, locS, okO_some, bok, sok, turn_next, turn_ret, boolO_some, heapO_some, notAV_bool, negAV_int, retR_ret, retR_next, cond_t, cond_f, condV_t, condV_f, cmpAnd_t, cmpAnd_f, b_add, b_sub, Bool.not_true, Bool.not_false, if_true, tup2, tup3, decide_true, decide_false, b_div (y := 500) (by decide), b_div (y := 1000) (by decide), b_mod (y := 2) (by decide), t0, b_mod (show T.c ≠ 0 by omega)]; rfl
  · rw [locs1, locs2, List.map_append, List.map_append]; exact K3
  · intro q hq
    rcases List.mem_append.mp hq with hq | hq
    · obtain ⟨h1, h2, w, h3, h4⟩ := tw q hq
      exact ⟨h1, h2, w, o3 _ _ h1 (get_old (o1 _ _ h1 h3)), o3 _ _ h2 (get_old (o1 _ _ h2 h4))⟩
    · cases List.mem_singleton.mp hq
      exact ⟨ha, hb, _, ga, gb⟩
end
end Mine

namespace Mine
open PySem Cu

noncomputable def prog04 : Prog := [("is_name", d_is_name), ("home", d_home), ("is_whole", d_is_whole), ("need_name", d_need_name), ("need_value", d_need_value), ("_law_cell_at", d__law_cell_at), ("_law_mixed", d__law_mixed), ("_law_room", d__law_room), ("_law_names", d__law_names), ("_law_home", d__law_home), ("_law_other", d__law_other), ("_law_way", d__law_way), ("_law_table", d__law_table), ("_law_homes", d__law_homes), ("_law_tuple", d__law_tuple), ("_law_asked", d__law_asked), ("law", d_law), ("__init__", d__init_), ("homes", d_homes), ("need_nest", d_need_nest), ("at", d_at), ("way", d_way), ("put_at", d_put_at), ("names", d_names), ("many", d_many)]
structure Has04 (p : Prog) : Prop extends Has4 p where
  asked : Prog.has p "_law_asked" d__law_asked
  law : Prog.has p "law" d_law
section
variable {p : Prog} {n F : Nat} {h : AHeap} {T : Tb}
theorem run_new (H : Has4 p) (ok : T.Ok) {c : Ctx} (hc : c.F = semF p (n + 5)) {l : Locs} (hl : locAt l 1 = some (told T)) :
    evalX c (.new (.cons (.sub (.loc 1) (.int 0)) (.cons (.sub (.loc 1) (.int 1)) (.cons (.sub (.loc 1) (.int 2)) .nil)))) l h = .ok (.loc (h.length + 1)) (h ++ [.ns (nsOf T (h.length + 2) (h.length + 3)), .inst h.length, .dict [] 0, .dict [] 0]) := by
  have t0 : ∀ h : AHeap, subAV (told T) (.int 0) h = .ok (.int T.c) h := fun _ => rfl
  have t1 : ∀ h : AHeap, subAV (told T) (.int 1) h = .ok (.int T.f) h := fun _ => rfl
  have t2 : ∀ h : AHeap, subAV (told T) (.int 2) h = .ok (.int T.s) h := fun _ => rfl
  have e := run_init (n := n + 3) (h := h) H.c H.init ok
  simp only [x_new, xs_cons, xs_nil, x_sub, x_loc, x_int, hl, okO_some, bok, t0, t1, t2, hc]
  rw [show semF p (n + 5) "__init__" [.loc (h.length + 1), .int T.c, .int T.f, .int T.s] (made h) = _ from e, bok]
  rfl
theorem cut_scr {xs : List Int} (hl : xs.length ≤ 63) : sliceAV (.scr xs) (.int 4) (.int 24) h = .ok (.loc h.length) (h ++ [.list (((xs.take 24).drop 4).map .int)]) := by
  have hc : cutO xs (.int 4) (.int 24) = some ((xs.take 24).drop 4) := by
    delta cutO
    rw [if_pos (show xs.length ≤ sizeLim by unfold sizeLim; omega)]
    show some ((xs.take (min 24 xs.length)).drop (min 4 xs.length)) = _
    congr 1
    rw [← List.take_eq_take_min]
    by_cases h4 : 4 ≤ xs.length
    · rw [Nat.min_eq_left h4]
    · rw [Nat.min_eq_right (by omega), List.drop_eq_nil_of_le (by rw [List.length_take]; omega), List.drop_eq_nil_of_le (by rw [List.length_take]; omega)]
  exact newListO_ok (o := (cutO xs (.int 4) (.int 24)).map fun ys => ys.map .int) (by rw [hc]; rfl) (by rw [List.length_map, List.length_drop, List.length_take]; unfold sizeLim; omega)
theorem twins_eq {ps : List (Nat × Nat)} (tw : Twins h ps) : eqAll (eqv h 5) (locs1 ps) (locs2 ps) = some true := by
  induction ps with
  | nil => rfl
  | cons q r ih =>
    obtain ⟨_, _, w, h1, h2⟩ := tw q (List.mem_cons_self ..)
    have e : eqv h 5 (.loc q.1) (.loc q.2) = some true := by
      show eqL (eqv h 4) (listAt h q.1) (listAt h q.2) = _
      rw [listAt_of h1, listAt_of h2]
      exact (if_pos rfl).trans ((eqAll_int (fun a b => eqv_pair' (n := 2) a b) w w rfl).trans (by rw [decide_eq_true rfl]))
    show (match eqv h 5 (.loc q.1) (.loc q.2), eqAll (eqv h 5) (locs1 r) (locs2 r) with | some b, some r => some (b && r) | _, _ => none) = _
    rw [e, ih fun x hx => tw x (List.mem_cons_of_mem _ hx)]; rfl
theorem lists_eq {ps : List (Nat × Nat)} (h9 : h[9]? = some (.list (locs1 ps))) (h10 : h[10]? = some (.list (locs2 ps))) (tw : Twins h ps) : cmpAV h .eq (.loc 9) (.loc 10) = some true := by
  show eqL (eqv h 5) (listAt h 9) (listAt h 10) = _
  rw [listAt_of h9, listAt_of h10]
  exact (if_pos (by rw [locs1, locs2, List.length_map, List.length_map])).trans (twins_eq tw)
theorem told_eq : cmpAV h .eq (.tup [.int T.c, .int T.f, .int T.s]) (told T) = some true := by
  show some (decide (T.c = T.c) && (decide (T.f = T.f) && (decide (T.s = T.s) && true))) = _
  rw [decide_eq_true rfl, decide_eq_true rfl, decide_eq_true rfl]; rfl

theorem run_law (H : Has04 p) {xs : List Int} (hl : xs.length ≤ 63) : ∃ hp, semF p (n + 6) "law" [.scr xs] [] = .ok (.bool true) hp := by
  obtain ⟨F, hF, e⟩ := run_in (n := n + 5) (h := []) H.law (as := [.scr xs]) [some (.scr xs), none, none, none, none, none, none, none, none, none, none, none, none, none] rfl rfl
  obtain ⟨T, ok, a, b, e1⟩ := run_law_table (n := n + 3) (h := []) H.cell H.mixed H.table hl
  have e2 := run_new (n := n) (h := [a, b]) H.toHas4 ok (c := ⟨semF p (n + 5), F⟩) rfl (l := [some (.scr xs), some (told T), none, none, none, none, none, none, none, none, none, none, none, none]) rfl
  have e3c := run_cell_at (n := n + 4) (h := [a, b, .ns (nsOf T 4 5), .inst 2, .dict [] 0, .dict [] 0]) H.cell hl 3
  obtain ⟨ns, hnl, hng, e3⟩ := run_law_names (n := n + 3) (h := [a, b, .ns (nsOf T 4 5), .inst 2, .dict [] 0, .dict [] 0]) H.mixed H.lnames (cellAt xs 3) (many := 24) (by decide)
  obtain ⟨kvs, ep, e4, hk1, hk2⟩ := run_law_homes (n := n + 3) (h := [a, b, .ns (nsOf T 4 5), .inst 2, .dict [] 0, .dict [] 0, .list (ns.map .str)]) (T := T) H.home H.homes ok (a := 6) hng (by omega) rfl
  have K0 : K4 [a, b, .ns (nsOf T 4 5), .inst 2, .dict [] 0, .dict [] 0, .list (ns.map .str), .dict kvs ep, .dict [] 0, .list [], .list [], .list (((xs.take 24).drop 4).map .int)] T [] [] ns [] [] (((xs.take 24).drop 4).map .int) :=
    ⟨⟨ok, ⟨2, rfl, rfl⟩, ⟨0, rfl⟩, ⟨0, rfl⟩, ⟨0, rfl⟩, ⟨kvs, ep, rfl, hk1, hk2⟩, (fun s nm q => nomatch q), (fun s nm q => nomatch q), hng, by decide, rfl⟩, rfl, rfl, rfl, rfl, fun nm q => absurd rfl q⟩
  obtain ⟨l', h', e8, st, th, ps, v8, v9, v10, v11, v12, v13, rfl, K, tw, _⟩ := forLoop_all (i := 8) (src := .loc 11) (items := ((xs.take 24).drop 4).map AV.int) (body := fun l h => execSs ⟨semF p (n + 5), F⟩ b_law_2 l h)
    (fun k l h => ∃ st th ps v8 v9 v10 v11 v12 v13, l = L04 xs T v8 v9 v10 v11 v12 v13 ∧ K4 h T st th ns (locs1 ps) (locs2 ps) (((xs.take 24).drop 4).map .int) ∧ Twins h ps ∧ ps.length = k ∧ st.length ≤ k)
    (fun k l h ⟨st, th, ps, v8, v9, v10, v11, v12, v13, _, K, _⟩ => next_list K.s11) (fun k v l h hv ⟨st, th, ps, v8, v9, v10, v11, v12, v13, el, K, tw, hpl, hsl⟩ => by
      subst el
      have hk := (List.getElem?_eq_some_iff.mp hv).1
      rw [List.length_map, List.length_drop, List.length_take] at hk
      rw [List.getElem?_map] at hv
      obtain ⟨c, _, rfl⟩ := Option.map_eq_some_iff.mp hv
      obtain ⟨h', st', th', ps', w9, w10, w11, w12, w13, eb, K', tw', hpl', hsl'⟩ := turn04 (n := n) (F := F) (xs := xs) (c := c) (v9 := v9) (v10 := v10) (v11 := v11) (v12 := v12) (v13 := v13) H.toHas4 H.asked K tw hnl (by omega) (by omega) (by omega)
      exact ⟨_, _, eb, st', th', ps', _, w9, w10, w11, w12, w13, rfl, K', tw', by omega, by omega⟩) (f := F)
    (l := L04 xs T none none none none none none) (h := [a, b, .ns (nsOf T 4 5), .inst 2, .dict [] 0, .dict [] 0, .list (ns.map .str), .dict kvs ep, .dict [] 0, .list [], .list [], .list (((xs.take 24).drop 4).map .int)])
    (by rw [List.length_map, List.length_drop, List.length_take]; omega) ⟨[], [], [], none, none, none, none, none, none, rfl, K0, (fun q hq => nomatch hq), rfl, Nat.le_refl _⟩
  refine ⟨h', ?_⟩
  rw [e, d_law]
  refine (congrArg retR ((ss_step (l' := [some (.scr xs), some (told T), none, none, none, none, none, none, none, none, none, none, none, none]) (h' := [a, b]) ?_).trans
    ((ss_step (l' := [some (.scr xs), some (told T), some (.loc 3), none, none, none, none, none, none, none, none, none, none, none]) (h' := [a, b, .ns (nsOf T 4 5), .inst 2, .dict [] 0, .dict [] 0]) ?_).trans
    ((ss_step (l' := [some (.scr xs), some (told T), some (.loc 3), some (.loc 6), none, none, none, none, none, none, none, none, none, none]) (h' := [a, b, .ns (nsOf T 4 5), .inst 2, .dict [] 0, .dict [] 0, .list (ns.map .str)]) ?_).trans
    ((ss_step (l' := [some (.scr xs), some (told T), some (.loc 3), some (.loc 6), some (.loc 7), none, none, none, none, none, none, none, none, none]) (h' := [a, b, .ns (nsOf T 4 5), .inst 2, .dict [] 0, .dict [] 0, .list (ns.map .str), .dict kvs ep]) ?_).trans
    ((ss_step (l' := [some (.scr xs), some (told T), some (.loc 3), some (.loc 6), some (.loc 7), some (.loc 8), none, none, none, none, none, none, none, none]) (h' := [a, b, .ns (nsOf T 4 5), .inst 2, .dict [] 0, .dict [] 0, .list (ns.map .str), .dict kvs ep, .dict [] 0]) rfl).trans
    ((ss_step (l' := [some (.scr xs), some (told T), some (.loc 3), some (.loc 6), some (.loc 7), some (.loc 8), some (.loc 9), none, none, none, none, none, none, none]) (h' := [a, b, .ns (nsOf T 4 5), .inst 2, .dict [] 0, .dict [] 0, .list (ns.map .str), .dict kvs ep, .dict [] 0, .list []]) rfl).trans
    ((ss_step (l' := L04 xs T none none none none none none) (h' := [a, b, .ns (nsOf T 4 5), .inst 2, .dict [] 0, .dict [] 0, .list (ns.map .str), .dict kvs ep, .dict [] 0, .list [], .list []]) rfl).trans
    ((ss_step (l' := L04 xs T v8 v9 v10 v11 v12 v13) (h' := h') ?_).trans (ss_one (f := .ret (.bool true)) (l' := L04 xs T v8 v9 v10 v11 v12 v13) (h' := h') ?_)))))))))).trans rfl
  · simp only [r1, ss_cons, ss_nil, s_expr, s_ret, s_asg, s_set, s_iff, s_whil, s_for, s_seta, x_none, x_bool, x_int, x_str, x_loc, x_bin, x_neg, x_not, x_and, x_or, x_cmp, x_cmp2, x_isn, x_call, x_bi, x_isi, x_new, x_im, x_bm, x_attr, x_slice, x_sub, x_tup, x_list, x_dict0, x_range, xs_nil, xs_cons, List.map_cons, List.map_nil, List.cons_append, List.nil_append, List.replicate, List.set, loc0, locS, okO_some, bok, sok, turn_next, turn_ret, boolO_some, heapO_some, notAV_bool, negAV_int, retR_ret, retR_next, cond_t, cond_f, condV_t, condV_f, cmpAnd_t, cmpAnd_f, b_add, b_sub, Bool.not_true, Bool.not_false, if_true, tup2, tup3, decide_true, decide_false, e1]; rfl
  · rw [r2, s_asg, e2]; rfl
  · simp only [r3, ss_cons, ss_nil, s_expr, s_ret, s_asg, s_set, s_iff, s_whil, s_for, s_seta, x_none, x_bool, x_int, x_str, x_loc, x_bin, x_neg, x_not, x_and, x_or, x_cmp, x_cmp2, x_isn, x_call, x_bi, x_isi, x_new, x_im, x_bm, x_attr, x_slice, x_sub, x_tup, x_list, x_dict0, x_range, xs_nil, xs_cons, List.map_cons, List.map_nil, List.cons_append, List.nil_append, List.replicate, List.set, loc0, locS, okO_some, bok, sok, turn_next, turn_ret, boolO_some, heapO_some, notAV_bool, negAV_int, retR_ret, retR_next, cond_t, cond_f, condV_t, condV_f, cmpAnd_t, cmpAnd_f, b_add, b_sub, Bool.not_true, Bool.not_false, if_true, tup2, tup3, decide_true, decide_false]
    rw [show (3 : Int) = ((3 : Nat) : Int) from rfl, e3c, bok, bok, show (24 : Int) = ((24 : Nat) : Int) from rfl, e3]
    rfl
  · simp only [r4, ss_cons, ss_nil, s_expr, s_ret, s_asg, s_set, s_iff, s_whil, s_for, s_seta, x_none, x_bool, x_int, x_str, x_loc, x_bin, x_neg, x_not, x_and, x_or, x_cmp, x_cmp2, x_isn, x_call, x_bi, x_isi, x_new, x_im, x_bm, x_attr, x_slice, x_sub, x_tup, x_list, x_dict0, x_range, xs_nil, xs_cons, List.map_cons, List.map_nil, List.cons_append, List.nil_append, List.replicate, List.set, loc0, locS, okO_some, bok, sok, turn_next, turn_ret, boolO_some, heapO_some, notAV_bool, negAV_int, retR_ret, retR_next, cond_t, cond_f, condV_t, condV_f, cmpAnd_t, cmpAnd_f, b_add, b_sub, Bool.not_true, Bool.not_false, if_true, tup2, tup3, decide_true, decide_false]
    rw [show semF p (n + 5) "_law_homes" [.loc 6, told T] _ = _ from e4]
    rfl
  · rw [r8, s_for, L04]
    simp only [x_slice, x_bin, x_call, xs_cons, xs_nil, x_int, x_loc, loc0, okO_some, bok, run_room (n := n + 4) H.room hl, b_add]
    rw [show (4 : Int) + 20 = 24 from rfl, cut_scr hl, sok]
    exact e8
  · rw [r9, s_ret, L04]
    simp only [ss_cons, ss_nil, s_expr, s_ret, s_asg, s_set, s_iff, s_whil, s_for, s_seta, x_none, x_bool, x_int, x_str, x_loc, x_bin, x_neg, x_not, x_and, x_or, x_cmp, x_cmp2, x_isn, x_call, x_bi, x_isi, x_new, x_im, x_bm, x_attr, x_slice, x_sub, x_tup, x_list, x_dict0, x_range, xs_nil, xs_cons, List.map_cons, List.map_nil, List.cons_append, List.nil_append, List.replicate, List.set, loc0, locS, okO_some, bok, sok, turn_next, turn_ret, boolO_some, heapO_some, notAV_bool, negAV_int, retR_ret, retR_next, cond_t, cond_f, condV_t, condV_f, cmpAnd_t, cmpAnd_f, b_add, b_sub, Bool.not_true, Bool.not_false, if_true, tup2, tup3, decide_true, decide_false, lists_eq K.l9 K.c10 tw, K.S.tab.cnt, K.S.tab.fst, K.S.tab.snd, told_eq]
end
theorem has04 : Has04 prog04 := ⟨⟨⟨rfl, rfl, rfl, rfl, rfl, rfl, rfl⟩, rfl, rfl, rfl, rfl, rfl, rfl, rfl, rfl, rfl, rfl, rfl, rfl, rfl, rfl, rfl, rfl⟩, rfl, rfl⟩
theorem run04 (xs : List Int) (hl : xs.length ≤ 63) : ∃ hp, semF prog04 16 "law" [.scr xs] [] = .ok (.bool true) hp := run_law (n := 10) has04 hl
end Mine

open PySem PySem.W PyProof.Rows Mine
namespace Mine
noncomputable def ms04 : List Str := ["__init__", "homes", "need_nest", "at", "way", "put_at", "names", "many"]
noncomputable def as04 : List Str := ["count", "first", "second", "standing", "things"]
noncomputable def cs04 : List (Str × Const) := [("SIGNS", .str "abcdefghijklmnopqrstuvwxyz0123456789"), ("MOST_SIGNS", .int 12), ("MOST_COUNT", .int 1000), ("MOST_TIMES", .int 1000000), ("MOST_VALUE", .int 1000000000)]
noncomputable def sh04 : Sh := ⟨["is_name", "home", "is_whole", "need_name", "need_value", "_law_cell_at", "_law_mixed", "_law_room", "_law_names", "_law_home", "_law_other", "_law_way", "_law_table", "_law_homes", "_law_tuple", "_law_asked", "law", "__init__", "homes", "need_nest", "at", "way", "put_at", "names", "many"], ms04, as04, "Nests", cs04⟩
theorem attrs04 : ∀ a ∈ sh04.attrs, typeLookup (.type "object") a = pure none := by
  intro a h
  simp only [sh04, as04, List.mem_cons, List.not_mem_nil, or_false] at h
  rcases h with rfl | rfl | rfl | rfl | rfl <;> kernel_rfl
theorem meths04 : ∀ m ∈ sh04.meths, ∃ y, typeLookup (.type "object") m = pure y := by
  intro a h
  simp only [sh04, ms04, List.mem_cons, List.not_mem_nil, or_false] at h
  rcases h with rfl | rfl | rfl | rfl | rfl | rfl | rfl | rfl
  · exact ⟨some (.builtin "object.__init__"), by kernel_rfl⟩
  all_goals exact ⟨none, by kernel_rfl⟩
theorem consts04 : constsOk q04 sh04 := by
  intro x k h
  simp only [sh04, cs04, List.mem_cons, Prod.mk.injEq, List.not_mem_nil, or_false] at h
  rcases h with ⟨rfl, rfl⟩ | ⟨rfl, rfl⟩ | ⟨rfl, rfl⟩ | ⟨rfl, rfl⟩ | ⟨rfl, rfl⟩ <;> exact ⟨_, rfl, by kernel_rfl⟩
noncomputable def c04 : ClsRec := (theCls q04 sh04).getD ⟨"", none, [], [], 0, []⟩
end Mine
set_option maxRecDepth 100000 in
set_option maxHeartbeats 8000000 in
theorem PySem.Challenge.cw_uf040007_04_holds : PySem.Challenge.rw_uf040007_04.Holds := by
  w_on
  refine PySem.W.holds_law (by decide +kernel) fun said => ?_
  refine holds_open (q := Mine.q04) (loose := []) (Xt := fun s => xlAt Mine.q04 [] s && recOk (RowW.records (OpenRow.toRowW PySem.Challenge.rw_uf040007_04.row)) s) (XP := XL Mine.q04 []) (Yf := Hook.obs Hook.none) (Ya := Hook.val Hook.none) (YP := Hook.says Hook.none) (N := 7028) Mine.left04 (Hook.of Hook.none) (Hook.keeps Hook.none) (fun s e => xl_of s (Bool.and_eq_true_iff.mp e).1) XL.keeps (by rfl) (by rfl) (by rfl) (fun s e => recFacts_of (Bool.and_eq_true_iff.mp e).2) (by rfl) (by first | assumption | decide +kernel) (by decide +kernel) ⟨rfl, rfl, rfl, rfl, rfl, by decide +kernel⟩ ?hw ?hc
  case hw => w_witness2
  intro w s₀ s₁ mg mb G Y fa o pm cd doc dV kV ho hd hcd hD hmg hg args vals as hpre hlay hrd hwl hlo
  refine Ground.open G ?_
  intro T B D TE TW
  clear hd hD hcd G Y
  wrow_args hpre hlay hrd hwl hlo
  rename_i xs _ _ _ _ _ _ _ a vs _ hL _ _ _ hI _ hlen _
  obtain ⟨hp, hrun⟩ := Mine.run04 xs (by omega)
  refine Mine.law_call (sh := Mine.sh04) (c := Mine.c04) T TE rfl (by decide +kernel) rfl (by decide +kernel) (by kernel_rfl) (by decide +kernel) Mine.attrs04 Mine.meths04 Mine.consts04 (pr := Mine.prog04) (by kernel_rfl) (by decide +kernel) (by decide +kernel) hmg hL hI hrun ?_
  intro s' hk ho hgen
  exact GoodW.toG ⟨.inl ⟨_, .bool true, [], rfl, raisesW_false (by wrow_none_raised), .bool true, by wrow_post, by simp⟩, hk, ho, hgen.trans hg⟩

